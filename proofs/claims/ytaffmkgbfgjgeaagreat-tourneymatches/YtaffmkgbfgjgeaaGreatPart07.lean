/- ARef05 RefGL ARef05B AvFull ARef05C ARef05D ARef05E RefCL ARef12 AvIns RefIL -/
import Derived.Test.YtaffmkgbfgjgeaaGreatPart06
import Derived.Test.YtaffmkgbfgjgeaaGreatPart05
import Derived.Test.YtaffmkgbfgjgeaaGreatPart00
import Derived.Test.YtaffmkgbfgjgeaaGreatPart02
import Derived.Test.YtaffmkgbfgjgeaaGreatPart04
set_option linter.all false

namespace Orr
open Go Go.Proofs
def Zp (p:List Rat):LV:=.row (p.map rr)
theorem Q6 (p:List Rat):Vq (Zp p)=some p.length:=by simp [Zp,Vq]
theorem G8  : Za Tryz.prog 186 [] (.agg [dl ((dig (((0:Rat)).num).natAbs)),sg (((0:Rat)).num),dl ((dig ((((0:Rat)).den:Int)).natAbs)),sg ((((0:Rat)).den:Int))]):=by
 refine X4 tt 0 [] qGo Tryz.ntmps186 rfl rfl rfl ?_
 refine Zn (Qn Tz rfl rfl fun g1=>ko ?_)
 refine Qq tt rfl ?_
 refine kl tt 1 [0] qGa rfl rfl rfl (Pg (n:=0) (d:=1) (by decide) (by decide)) rfl rfl ?_
 exact Xp tt [0] rfl (by rw [show Qz 0 1=0 by decide])
theorem Wd {p:List Rat} (hp:Rb 100000000 p) (hl:p.length≤1099511627776):Za Tryz.prog 140 [.one (Zp p)] (.one (Zp ((Uz p)))):=by
 refine X4 tt 2 [] qFf Tryz.ntmps140 rfl rfl rfl ?_
 refine Qf tt 1 [] (Qh (m:=p.length) Jy rfl (Q6 _) rfl) rfl ?_
 refine Qj [0,3] rfl rfl ?_
 refine Zl (fun m L B=>∃ n,n≤p.length∧(∀ j x,n≤j→p[j]? = some x→x=0)∧m=n∧L=[(0,.one (Zp p)),(3,.one (.int .i64 (((n:Nat):Int))))]∧B=[]) (m:=_) ⟨p.length,X2 _,fun j x hj hx=>absurd (Uy.1 hx).1 (by omega),rfl,rfl,rfl⟩ ?_
 rintro m L B ⟨n,hp0,hp1,hm,rfl,rfl⟩
 refine Qq tt rfl ?_
 by_cases hn0:0<n
 ·obtain ⟨y,hy⟩:∃ y,p[n-1]? = some y:=⟨_,Xx (by omega)⟩
  by_cases hy0:y=0
  refine Qq tt rfl ?_
  ·skip
   refine Qr tt 3 rfl ?_
   refine Qf tt 0 [] ((Qc rfl rfl (decide_eq_true (by omega)) (Qw tt rfl rfl))) rfl ?_
   refine Qf tt 0 [] ((Qc rfl rfl (decide_eq_true (by omega)) (Qw tt rfl rfl))) rfl ?_
   refine Qf tt 0 [] ((Qc rfl rfl (decide_eq_true (by omega)) (Z9 (r:=((n-1:Nat):Int)) rfl rfl (Qm (by omega) (by omega)) rfl))) rfl ?_
   refine Qf tt 0 [] ((Qc rfl rfl (decide_eq_true (by omega)) (Qi (n-1) Jy Ua rfl rfl (rfl) (Qg hy) rfl rfl))) rfl ?_
   refine Qf tt 0 [] ((Qc rfl rfl (decide_eq_true (by omega)) (Qw tt rfl rfl))) rfl ?_
   refine Qf tt 0 [] ((Qc rfl rfl (decide_eq_true (by omega)) (Qw tt rfl rfl))) rfl ?_
   refine Qf tt 0 [] ((Qc rfl rfl (decide_eq_true (by omega)) (Zu qUx rfl rfl rfl rfl (Vy (Xd (hp.get hy).1 (by omega))) rfl))) rfl ?_
   refine Qf tt 0 [] (Zs rfl (decide_eq_true (by omega)) rfl rfl) rfl ?_
   refine Xh tt 1 [] (decide_eq_true (Rat.num_eq_zero.2 hy0)) rfl rfl ?_
   refine Qf tt 1 [] (Z9 (r:=((n-1:Nat):Int)) rfl rfl (Qm (by omega) (by omega)) rfl) rfl ?_
   refine Qj [0,3] rfl rfl ?_
   refine Q8 ?_
   refine ⟨_,?_,n-1,by omega,fun j x hj hx=>by
     rcases Mq j n with h1 | h1
     ·have:j=n-1:=by omega
      subst this; rw [hy] at hx; injection hx with hx; rw [←hx]; exact hy0
     ·exact hp1 j x h1 hx,rfl,rfl,rfl⟩
   omega
  skip
  refine Qr tt 3 rfl ?_
  refine Qf tt 0 [] ((Qc rfl rfl (decide_eq_true (by omega)) (Qw tt rfl rfl))) rfl ?_
  refine Qf tt 0 [] ((Qc rfl rfl (decide_eq_true (by omega)) (Qw tt rfl rfl))) rfl ?_
  refine Qf tt 0 [] ((Qc rfl rfl (decide_eq_true (by omega)) (Z9 (r:=((n-1:Nat):Int)) rfl rfl (Qm (by omega) (by omega)) rfl))) rfl ?_
  refine Qf tt 0 [] ((Qc rfl rfl (decide_eq_true (by omega)) (Qi (n-1) Jy Ua rfl rfl (rfl) (Qg hy) rfl rfl))) rfl ?_
  refine Qf tt 0 [] ((Qc rfl rfl (decide_eq_true (by omega)) (Qw tt rfl rfl))) rfl ?_
  refine Qf tt 0 [] ((Qc rfl rfl (decide_eq_true (by omega)) (Qw tt rfl rfl))) rfl ?_
  refine Qf tt 0 [] ((Qc rfl rfl (decide_eq_true (by omega)) (Zu qUx rfl rfl rfl rfl (Vy (Xd (hp.get hy).1 (by omega))) rfl))) rfl ?_
  refine Qf tt 0 [] (Zs rfl (decide_eq_true (by omega)) rfl rfl) rfl ?_
  refine Z8 tt 2 [] (decide_eq_false fun e=>hy0 (Rat.num_eq_zero.1 e)) rfl rfl ?_
  have hcut:=Da (l:=p) (m:=n) hp0 hp1 (fun _=>⟨y,hy,hy0⟩)
  refine Qf tt 1 [] (Yc n Jy Ua rfl rfl rfl (by rw [Zr]; omega) (Jj p (sz:=4) (fun _=>rfl)) (l':=(Uz p).map rr) (by rw [hcut,Ix]) rfl) rfl ?_
  exact Xp tt [] rfl (rfl)
 skip
 refine Qr tt 3 rfl ?_
 refine Qf tt 0 [] (Qk rfl rfl (decide_eq_false (by omega)) rfl) rfl ?_
 refine Qf tt 0 [] (Qk rfl rfl (decide_eq_false (by omega)) rfl) rfl ?_
 refine Qf tt 0 [] (Qk rfl rfl (decide_eq_false (by omega)) rfl) rfl ?_
 refine Qf tt 0 [] (Qk rfl rfl (decide_eq_false (by omega)) rfl) rfl ?_
 refine Qf tt 0 [] (Qk rfl rfl (decide_eq_false (by omega)) rfl) rfl ?_
 refine Qf tt 0 [] (Qk rfl rfl (decide_eq_false (by omega)) rfl) rfl ?_
 refine Qf tt 0 [] (Qk rfl rfl (decide_eq_false (by omega)) rfl) rfl ?_
 refine Qf tt 0 [] (Zw rfl (decide_eq_false (by omega)) rfl rfl) rfl ?_
 refine Z8 tt 2 [] (rfl) rfl rfl ?_
 have hcut:=Da (l:=p) (m:=n) hp0 hp1 (fun h=>absurd h hn0)
 refine Qf tt 1 [] (Yc n Jy Ua rfl rfl rfl (by rw [Zr]; omega) (Jj p (sz:=4) (fun _=>rfl)) (l':=(Uz p).map rr) (by rw [hcut,Ix]) rfl) rfl ?_
 exact Xp tt [] rfl (rfl)
theorem Qai {p:List Rat} {i:Nat} (hi:i<1099511627776):Za Tryz.prog 207 [.one (Zp p),.one (.int .i64 (((i:Nat):Int)))] (.agg [dl ((dig (((p.getD i 0)).num).natAbs)),sg (((p.getD i 0)).num),dl ((dig ((((p.getD i 0)).den:Int)).natAbs)),sg ((((p.getD i 0)).den:Int))]):=by
 refine X4 tt 0 [] Tryz.func207 Tryz.ntmps207 rfl rfl rfl ?_
 by_cases h1:i<p.length
 ·obtain ⟨x,hx⟩:∃ x,p[i]? = some x:=⟨_,Xx h1⟩
  refine Qq tt rfl ?_
  refine Zn (Qn Tz rfl rfl fun g1=>ko ?_)
  refine Qr tt 3 rfl ?_
  refine Qf tt 0 [] ((Qc rfl rfl (decide_eq_false (by omega)) (Qw tt rfl rfl))) rfl ?_
  refine Qf tt 0 [] ((Qc rfl rfl (decide_eq_false (by omega)) (Qw tt rfl rfl))) rfl ?_
  refine Qf tt 0 [] ((Qc rfl rfl (decide_eq_false (by omega)) (Qh (m:=p.length) Jy rfl (Q6 _) rfl))) rfl ?_
  refine Qf tt 0 [] ((Qc rfl rfl (decide_eq_false (by omega)) (Qw tt rfl rfl))) rfl ?_
  refine Qf tt 0 [] (Zw rfl (decide_eq_false (by omega)) rfl rfl) rfl ?_
  refine Z8 tt 2 [] (decide_eq_false (by omega)) rfl rfl ?_
  refine Qf tt 2 [0] (Qi (i) Jy Ua rfl rfl (rfl) (Qg hx) rfl rfl) rfl ?_
  exact Xp tt [0] rfl (by rw [V6,hx]; rfl)
 skip
 refine Qq tt rfl ?_
 refine Zn (Qn Tz rfl rfl fun g2=>ko ?_)
 refine Qr tt 3 rfl ?_
 refine Qf tt 0 [] ((Qc rfl rfl (decide_eq_false (by omega)) (Qw tt rfl rfl))) rfl ?_
 refine Qf tt 0 [] ((Qc rfl rfl (decide_eq_false (by omega)) (Qw tt rfl rfl))) rfl ?_
 refine Qf tt 0 [] ((Qc rfl rfl (decide_eq_false (by omega)) (Qh (m:=p.length) Jy rfl (Q6 _) rfl))) rfl ?_
 refine Qf tt 0 [] ((Qc rfl rfl (decide_eq_false (by omega)) (Qw tt rfl rfl))) rfl ?_
 refine Qf tt 0 [] (Zw rfl (decide_eq_false (by omega)) rfl rfl) rfl ?_
 refine Xh tt 0 [] (decide_eq_true (by omega)) rfl rfl ?_
 refine kl tt 1 [0] qGo rfl rfl rfl (G8) rfl rfl ?_
 exact Xp tt [0] rfl (by rw [V6,Eh (by omega)]; rfl)
theorem Qml {p q:List Rat} (hp:Rb 20000000 p) (hq:Rb 20000000 q) (n:Nat):Rb 100000000 (W2 (fun i=>p.getD i 0+q.getD i 0) n):=Pw fun i _=>(Qvn (hp.getD (by omega) i) (hq.getD (by omega) i)).mono (by omega)
theorem Qvp {s t:Nat} {a b:Rat} (ha:Qs s a) (hb:Qs t b):Qs (s+t+1) (a*b):=by
 rw [←Qa7]
 unfold Qz
 rw [if_neg (qYw (Uk a) (Uk b))]
 exact Qs.divInt (Xd (Xl _ _) (by have:=ha.1; have:=hb.1; omega)) (Xd (Xl _ _) (by have:=ha.2; have:=hb.2; omega)) (by omega)
theorem Qhq {p q:List Rat} (hp:Rb 20000000 p) (hq:Rb 20000000 q) (hlp:p.length≤1000000) (hlq:q.length≤1000000):Za Tryz.prog 126 [.one (Zp p),.one (Zp q)] (.one (Zp ((Qsi p q)))):=by
 refine X4 tt 3 [] Tryz.func126 Tryz.ntmps126 rfl rfl rfl ?_
 refine X5 (fun _ k_=>Xy [5] 34 4 rfl (Zc rfl) rfl (Qo k_)) rfl ?_
 refine Qj [0,1,5,6] rfl rfl ?_
 refine Zl (fun m L B=>∃ i r,i≤(max p.length q.length)∧m=(max p.length q.length)-i∧L=[(0,.one (Zp p)),(1,.one (Zp q)),(5,.one (.orow r 4 0 i)),(6,.one (.int .i64 (((i:Nat):Int))))]∧B=[.row r 34 4 ((W2 (fun i=>p.getD i 0+q.getD i 0) i).map rr)]) (m:=_) ⟨0,none,K6 _,rfl,rfl,rfl⟩ ?_
 rintro m L B ⟨i,r,hp0,hm,rfl,rfl⟩
 refine Qq tt rfl ?_
 by_cases hlt:i<(max p.length q.length)
 ·skip
  refine Qr tt 2 rfl ?_
  refine Qf tt 1 [] (Qh (m:=p.length) Jy rfl (Q6 _) rfl) rfl ?_
  refine Qf tt 0 [] (Qh (m:=q.length) Jy rfl (Q6 _) rfl) rfl ?_
  refine Qf tt 1 [] (Io (r:=(((max p.length q.length):Nat):Int)) rfl rfl (by omega) rfl) rfl ?_
  refine Xh tt 3 [] (decide_eq_true (by omega)) rfl rfl ?_
  refine kl tt 2 [] Tryz.func207 rfl rfl rfl (Qai (p:=p) (i:=i) (by omega)) rfl rfl ?_
  refine kl tt 0 [] Tryz.func207 rfl rfl rfl (Qai (p:=q) (i:=i) (by omega)) rfl rfl ?_
  refine kl tt 1 [] Tryz.func187 rfl rfl rfl (Ac (a:=((List.getD p i 0))) (b:=((List.getD q i 0))) (hp.getD (by omega) i) (hq.getD (by omega) i)) rfl rfl ?_
  refine Zn (Zg (ls2:=(W2 (fun i=>p.getD i 0+q.getD i 0) (i+1)).map rr) (m2:=i+1) 0 Jy Jy qUc rfl rfl Ua Tz rfl rfl rfl rfl rfl rfl rfl (by rw [Zr,Xo]; omega) (Js rfl) (Jx rfl) (by show _+1<_; omega) (by rw [Y0 (by rw [Zr,Xo]; exact X2 _),G2,F6]; rfl) (rfl) fun r1=>ko ?_)
  refine Qr tt 2 rfl ?_
  refine Qf tt 1 [] (Zb (r:=((i+1:Nat):Int)) rfl rfl (Qm (by omega) (by omega)) rfl) rfl ?_
  refine Qj [0,1,5,6] rfl rfl ?_
  refine Q8 ?_
  refine ⟨_,?_,i+1,r1,by omega,rfl,rfl,rfl⟩
  omega
 have hin:i=(max p.length q.length):=by omega
 refine Qr tt 2 rfl ?_
 refine Qf tt 1 [] (Qh (m:=p.length) Jy rfl (Q6 _) rfl) rfl ?_
 refine Qf tt 0 [] (Qh (m:=q.length) Jy rfl (Q6 _) rfl) rfl ?_
 refine Qf tt 1 [] (Io (r:=(((max p.length q.length):Nat):Int)) rfl rfl (by omega) rfl) rfl ?_
 refine Z8 tt 1 [] (decide_eq_false (by omega)) rfl rfl ?_
 refine X5 (fun _ k_=>Xe 0 [26] rfl (Zc rfl) (by rw [Zr,Xo]) (by rw [Zr,Xo]; omega) rfl (Qo k_)) rfl ?_
 refine Qq tt rfl ?_
 refine kl tt 1 [] qFf rfl rfl rfl (Wd (p:=(W2 (fun i=>p.getD i 0+q.getD i 0) i)) (Qml hp hq _) (by rw [Xo]; omega)) rfl rfl ?_
 exact Xp tt [] rfl (by rw [hin]; rfl)
theorem Ia {l:List Rat} {i:Nat} (h:i<l.length):l[i]? = some (l.getD i 0):=by
 rw [V6,Xx h]; rfl
set_option maxRecDepth 20000 in
theorem Wn {p:List Rat} {c:Rat} (hp:Rb 40000000 p) (hc:Qs 40000000 c) (hl:p.length≤1000000):Za Tryz.prog 215 [.one (Zp p),.agg [dl ((dig ((c).num).natAbs)),sg ((c).num),dl ((dig (((c).den:Int)).natAbs)),sg (((c).den:Int))]] (.one (Zp ((Fz p c)))):=by
 refine X4 tt 4 [] qFo Tryz.ntmps215 rfl rfl rfl ?_
 refine Qf tt 1 [] (Qh (m:=p.length) Jy rfl (Q6 _) rfl) rfl ?_
 refine X5 (fun _ k_=>Xy [5] 34 4 rfl (Zc rfl) rfl (Qo k_)) rfl ?_
 refine Qj [0,3,8,5,9] rfl rfl ?_
 refine Zl (fun m L B=>∃ i r,i≤p.length∧m=p.length-i∧L=[(0,.one (Zp p)),(3,.one (.sh [dl ((dig ((c).num).natAbs)),sg ((c).num),dl ((dig (((c).den:Int)).natAbs)),sg (((c).den:Int))])),(8,.one (.int .i64 (((p.length:Nat):Int)))),(5,.one (.orow r 4 0 i)),(9,.one (.int .i64 (((i:Nat):Int))))]∧B=[.row r 34 4 ((W2 (fun i=>p.getD i 0*c) i).map rr)]) (m:=_) ⟨0,none,K6 _,rfl,rfl,rfl⟩ ?_
 rintro m L B ⟨i,r,hp0,hm,rfl,rfl⟩
 refine Qq tt rfl ?_
 by_cases hlt:i<p.length
 ·obtain ⟨x,hx⟩:∃ x,p[i]? = some x:=⟨_,Xx hlt⟩
  have hxd:p.getD i 0=x:=by rw [V6,hx]; rfl
  refine Qr tt 1 rfl ?_
  refine Xh tt 2 [] (decide_eq_true (by omega)) rfl rfl ?_
  refine Qy 8 Qp rfl rfl rfl ?_
  refine Qr tt 3 rfl ?_
  refine kd (Qi (i) Jy Ua rfl rfl (rfl) (Qg (Ia hlt)) rfl rfl) rfl ?_
  refine Qr tt 2 rfl ?_
  refine Yv tt 1 [] Tryz.func154 rfl rfl rfl (Ae (a:=((p.getD i 0))) (b:=c) (hp.getD (by omega) i) (hc)) rfl rfl ?_
  refine Qq tt rfl ?_
  refine Zn (Zg (ls2:=(W2 (fun i=>p.getD i 0*c) (i+1)).map rr) (m2:=i+1) 0 Jy Jy qUc rfl rfl Ua Tz rfl rfl rfl rfl rfl rfl rfl (by rw [Zr,Xo]; omega) (Js rfl) (Jx rfl) (by show _+1<_; omega) (by rw [Y0 (by rw [Zr,Xo]; exact X2 _),G2,F6]; rfl) (rfl) fun r1=>ko ?_)
  refine Qr tt 1 rfl ?_
  refine Qf tt 1 [] (Zb (r:=((i+1:Nat):Int)) rfl rfl (Qm (by omega) (by omega)) rfl) rfl ?_
  refine Qj [0,3,8,5,9] rfl rfl ?_
  refine Q8 ?_
  refine ⟨_,?_,i+1,r1,by omega,rfl,rfl,rfl⟩
  omega
 have hin:i=p.length:=by omega
 refine Qr tt 1 rfl ?_
 refine Z8 tt 1 [] (decide_eq_false (by omega)) rfl rfl ?_
 refine X5 (fun _ k_=>Xe 0 [22] rfl (Zc rfl) (by rw [Zr,Xo]) (by rw [Zr,Xo]; omega) rfl (Qo k_)) rfl ?_
 refine Qq tt rfl ?_
 refine kl tt 1 [] qFf rfl rfl rfl (Wd (p:=(W2 (fun i=>p.getD i 0*c) i)) (Pw fun i _=>(Qvp (hp.getD (by omega) i) hc).mono (by omega)) (by rw [Xo]; omega)) rfl rfl ?_
 exact Xp tt [] rfl (by rw [hin]; rfl)
theorem Ao {p:List Rat} (hp:Rb 40000000 p) (hl:p.length≤1000000):Za Tryz.prog 182 [.one (Zp p)] (.one (Zp ((Qmp p)))):=by
 refine X4 tt 2 [] Tryz.func182 Tryz.ntmps182 rfl rfl rfl ?_
 refine kl tt 0 [] qGa rfl rfl rfl (Pg (n:=(-1)) (d:=1) (by decide) (by decide)) rfl rfl ?_
 refine kl tt 1 [] qFo rfl rfl rfl (Wn (p:=p) (c:=((Qz (-1) 1))) (hp) (⟨by decide,by decide⟩) (hl)) rfl rfl ?_
 exact Xp tt [] rfl (by rw [show Qz (-1) 1=-1 by decide]; rfl)
theorem Qsl {s:Nat} {p:List Rat} (h:Rb s p) (h1:1≤s):Rb s (Qmp p):=by
 refine Rb.trim (Pw fun i _=>?_)
 have:=h.getD h1 i
 rw [show p.getD i 0*-1=-(p.getD i 0) by grind]
 exact ⟨by rw [Rat.neg_num,Xg]; exact this.1,by rw [Rat.neg_den]; exact this.2⟩
theorem Qoa (p:List Rat):(Qmp p).length≤p.length:=Xd (Qbr _) (by rw [Xo]; exact X2 _)
theorem Qhr {p q:List Rat} (hp:Rb 20000000 p) (hq:Rb 20000000 q) (hlp:p.length≤1000000) (hlq:q.length≤1000000):Za Tryz.prog 108 [.one (Zp p),.one (Zp q)] (.one (Zp ((Qvs p q)))):=by
 refine X4 tt 3 [] Tryz.func108 Tryz.ntmps108 rfl rfl rfl ?_
 refine kl tt 0 [] Tryz.func182 rfl rfl rfl (Ao (p:=q) (hq.mono (by omega)) (hlq)) rfl rfl ?_
 refine kl tt 1 [] Tryz.func126 rfl rfl rfl (Qhq (p:=p) (q:=(Qmp q)) (hp) (Qsl hq (by omega)) (hlp) (Xd (Qoa q) hlq)) rfl rfl ?_
 exact Xp tt [] rfl (rfl)
theorem Qbm (z:Int):Qz z 1=(z:Rat):=by
 unfold Qz
 rw [if_neg (by decide)]
 show Rat.divInt z 1=_
 have:=qXv (z:Rat)
 simpa using this
theorem Q0g (p:List Int):W2 (fun i=>((p.getD i 0:Int):Rat)) p.length=zp p:=by
 rw [Px (g:=fun i=>p.getD i 0) _ fun i _=>rfl,Gd]
def Qd3 (f:Nat→Int) (n:Nat):List Int:=(List.range n).map f
theorem Ce (f:Nat→Int) (n:Nat):(Qd3 f n).length=n:=by simp [Qd3]
theorem Qmv (f:Nat→Int) (n:Nat):Qd3 f (n+1)=Qd3 f n++[f n]:=by simp [Qd3,qVw]
theorem Qp4 (p:List Int):Qd3 (fun i=>((zp p).getD i 0).num) p.length=p:=by
 have:(fun i=>((zp p).getD i 0).num)=fun i=>p.getD i 0:=by funext i; rw [P2]; rfl
 rw [this]; exact Gd p
theorem Ke {z:Int} (hz:Xj z≤90000000):Za Tryz.prog 103 [.agg (ri z),.agg (ri 1)] (.agg (rr (z:Rat))):=by
 have h:=Fo (a:=z) (b:=1) hz (by decide)
 rwa [Qbm] at h
theorem Hr {p:List Int} (hp:Bd 90000000 p) (hl:p.length≤1000000):Za Tryz.prog 185 [.one (pl p)] (.one (Zp ((zp (trim p))))):=by
 refine X4 tt 3 [] Tryz.func185 Tryz.ntmps185 rfl rfl rfl ?_
 refine Qf tt 1 [] (Qh (m:=p.length) Wr rfl (Y6 _) rfl) rfl ?_
 refine X5 (fun _ k_=>Xy [3] 34 4 rfl (Zc rfl) rfl (Qo k_)) rfl ?_
 refine Qj [0,6,3,7] rfl rfl ?_
 refine Zl (fun m L B=>∃ i r,i≤p.length∧m=p.length-i∧L=[(0,.one (pl p)),(6,.one (.int .i64 (((p.length:Nat):Int)))),(3,.one (.orow r 4 0 i)),(7,.one (.int .i64 (((i:Nat):Int))))]∧B=[.row r 34 4 ((W2 (fun i=>((p.getD i 0:Int):Rat)) i).map rr)]) (m:=_) ⟨0,none,K6 _,rfl,rfl,rfl⟩ ?_
 rintro m L B ⟨i,r,hp0,hm,rfl,rfl⟩
 refine Qq tt rfl ?_
 by_cases hlt:i<p.length
 ·skip
  refine Qr tt 1 rfl ?_
  refine Xh tt 5 [] (decide_eq_true (by omega)) rfl rfl ?_
  refine Qf tt 1 [] (Qi (i) Wr Yf rfl rfl (rfl) (Qg (getD_some hlt)) rfl rfl) rfl ?_
  refine kl tt 0 [] Tryz.func184 rfl rfl rfl (M2 (z:=((p.getD i 0))) (Xd (Zy hp i) (by omega))) rfl rfl ?_
  refine kl tt 0 [] qWv rfl rfl rfl (Yq (n:=1) (by omega)) rfl rfl ?_
  refine kl tt 1 [] qUk rfl rfl rfl (Ke (z:=p.getD i 0) (Zy hp i)) rfl rfl ?_
  refine Zn (Zg (ls2:=(W2 (fun i=>((p.getD i 0:Int):Rat)) (i+1)).map rr) (m2:=i+1) 0 Jy Jy qUc rfl rfl Ua Tz rfl rfl rfl rfl rfl rfl rfl (by rw [Zr,Xo]; omega) (Js rfl) (Jx rfl) (by show _+1<_; omega) (by rw [Y0 (by rw [Zr,Xo]; exact X2 _),G2,F6]; rfl) (rfl) fun r1=>ko ?_)
  refine Qr tt 1 rfl ?_
  refine Qf tt 1 [] (Zb (r:=((i+1:Nat):Int)) rfl rfl (Qm (by omega) (by omega)) rfl) rfl ?_
  refine Qj [0,6,3,7] rfl rfl ?_
  refine Q8 ?_
  refine ⟨_,?_,i+1,r1,by omega,rfl,rfl,rfl⟩
  omega
 have hin:i=p.length:=by omega
 refine Qr tt 1 rfl ?_
 refine Z8 tt 1 [] (decide_eq_false (by omega)) rfl rfl ?_
 refine X5 (fun _ k_=>Xe 0 [21] rfl (Zc rfl) (by rw [Zr,Xo]) (by rw [Zr,Xo]; omega) rfl (Qo k_)) rfl ?_
 refine Qq tt rfl ?_
 refine kl tt 1 [] qFf rfl rfl rfl (Wd (p:=(W2 (fun i=>((p.getD i 0:Int):Rat)) i)) (Pw fun i _=>W0 (Xd (Zy hp i) (by omega)) (by omega)) (by rw [Xo]; omega)) rfl rfl ?_
 exact Xp tt [] rfl (by rw [hin,Q0g,Fi])
theorem Qaj {p:List Int} (hp:Bd 100000000 p) (hl:p.length≤1000000):Za Tryz.prog 81 [.one (Zp ((zp p)))] (.one (pl p)):=by
 refine X4 tt 3 [] Tryz.func81 Tryz.ntmps81 rfl rfl rfl ?_
 refine Qf tt 1 [] (Qh (m:=p.length) Jy rfl (by rw [Q6,Ze]) rfl) rfl ?_
 refine X5 (fun _ k_=>Xy [3] 55 2 rfl (Zc rfl) rfl (Qo k_)) rfl ?_
 refine Qj [0,6,3,7] rfl rfl ?_
 refine Zl (fun m L B=>∃ i r,i≤p.length∧m=p.length-i∧L=[(0,.one (Zp ((zp p)))),(6,.one (.int .i64 (((p.length:Nat):Int)))),(3,.one (.orow r 2 0 i)),(7,.one (.int .i64 (((i:Nat):Int))))]∧B=[.row r 55 2 ((Qd3 (fun i=>((zp p).getD i 0).num) i).map W9)]) (m:=_) ⟨0,none,K6 _,rfl,rfl,rfl⟩ ?_
 rintro m L B ⟨i,r,hp0,hm,rfl,rfl⟩
 refine Qq tt rfl ?_
 by_cases hlt:i<p.length
 ·skip
  refine Qr tt 1 rfl ?_
  refine Xh tt 5 [] (decide_eq_true (by omega)) rfl rfl ?_
  refine Qf tt 2 [] (Qi (i) Jy Ua rfl rfl (rfl) (Qg (Ia (by rw [Ze]; exact hlt))) rfl rfl) rfl ?_
  refine kl tt 1 [] qGb rfl rfl rfl (Rg (Xd ((S2 hp (by omega)).getD (by omega) i).1 (by omega))) rfl rfl ?_
  refine Zn (Zg (ls2:=(Qd3 (fun i=>((zp p).getD i 0).num) (i+1)).map W9) (m2:=i+1) 0 Wr Wr qWq rfl rfl Yf Ko rfl rfl rfl rfl rfl rfl rfl (by rw [Zr,Ce]; omega) (Js rfl) (Jx rfl) (by show _+1<_; omega) (by rw [Y0 (by rw [Zr,Ce]; exact X2 _),Qmv,F6]; rfl) (rfl) fun r1=>ko ?_)
  refine Qr tt 1 rfl ?_
  refine Qf tt 1 [] (Zb (r:=((i+1:Nat):Int)) rfl rfl (Qm (by omega) (by omega)) rfl) rfl ?_
  refine Qj [0,6,3,7] rfl rfl ?_
  refine Q8 ?_
  refine ⟨_,?_,i+1,r1,by omega,rfl,rfl,rfl⟩
  omega
 have hin:i=p.length:=by omega
 refine Qr tt 1 rfl ?_
 refine Z8 tt 2 [] (decide_eq_false (by omega)) rfl rfl ?_
 refine X5 (fun _ k_=>Xe 0 [2] rfl (Zc rfl) (by rw [Zr,Ce]) (by rw [Zr,Ce]; omega) rfl (Qo k_)) rfl ?_
 exact Xp tt [] rfl (by rw [hin,Qp4]; rfl)
theorem M5 {p q:List Int} (hp:Bd 20000000 p) (hq:Bd 20000000 q) (hlp:p.length≤1000000) (hlq:q.length≤1000000):Za Tryz.prog 108 [.one (Zp (zp p)),.one (Zp (zp q))] (.one (Zp (zp (Lk p q)))):=by
 have h:=Qhr (S2 hp (by omega)) (S2 hq (by omega)) (by rw [Ze]; exact hlp) (by rw [Ze]; exact hlq)
 rwa [Qsq] at h
theorem Am {p:List Int} (hp:Bd 40000000 p) (hl:p.length≤1000000):Za Tryz.prog 182 [.one (Zp (zp p))] (.one (Zp (zp (Lj p)))):=by
 have h:=Ao (S2 hp (by omega)) (by rw [Ze]; exact hl)
 rwa [Qko] at h
theorem Af {a b:Int} (ha:Xj a≤40000000) (hb:Xj b≤40000000):Za Tryz.prog 154 [.agg (rr (a:Rat)),.agg (rr (b:Rat))] (.agg (rr ((a*b:Int):Rat))):=by
 have h:=Ae (W0 ha (by omega)) (W0 hb (by omega))
 rwa [←qJq] at h
theorem Qhk {a b:Int} (ha:Xj a≤20000000) (hb:Xj b≤20000000):Za Tryz.prog 187 [.agg (rr (a:Rat)),.agg (rr (b:Rat))] (.agg (rr ((a+b:Int):Rat))):=by
 have h:=Ac (W0 ha (by omega)) (W0 hb (by omega))
 rwa [←Rat.intCast_add] at h
theorem Cq {n:Int} (hn:-1000000000≤n∧n≤1000000000):Za Tryz.prog 139 [.one (.int .i64 n),.one (.int .i64 1)] (.agg (rr (n:Rat))):=by
 have h:=Pg (n:=n) (d:=1) hn (by decide)
 rwa [Qbm] at h
theorem Ya {p:List Int} {i:Nat} (h:i<p.length):(zp p)[i]? = some ((p.getD i 0:Int):Rat):=Qv3 (getD_some h)
theorem Qp6 (f:Nat→Int) (n:Nat):W2 (fun i=>((f i:Int):Rat)) n=zp (Qd3 f n):=Px n fun _ _=>rfl
set_option maxRecDepth 20000 in
theorem M4 {p:List Int} (hp:Bd 40000000 p) (hl:p.length≤1000000):Za Tryz.prog 80 [.one (Zp ((zp p)))] (.one (Zp ((zp (Wz p))))):=by
 refine X4 tt 3 [] Tryz.func80 Tryz.ntmps80 rfl rfl rfl ?_
 refine X5 (fun _ k_=>Xy [3] 34 4 rfl (Zc rfl) rfl (Qo k_)) rfl ?_
 refine Qj [0,3,4] rfl rfl ?_
 refine Zl (fun m L B=>∃ i r,i≤(p.length-1)∧m=(p.length-1)-i∧L=[(0,.one (Zp ((zp p)))),(3,.one (.orow r 4 0 i)),(4,.one (.int .i64 ((((i+1):Nat):Int))))]∧B=[.row r 34 4 ((W2 (fun i=>((p.getD (i+1) 0*((i+1:Nat):Int):Int):Rat)) i).map rr)]) (m:=_) ⟨0,none,K6 _,rfl,rfl,rfl⟩ ?_
 rintro m L B ⟨i,r,hp0,hm,rfl,rfl⟩
 refine Qq tt rfl ?_
 by_cases hlt:i<(p.length-1)
 ·skip
  refine Qr tt 2 rfl ?_
  refine Qf tt 1 [] (Qh (m:=p.length) Jy rfl (by rw [Q6,Ze]) rfl) rfl ?_
  refine Xh tt 0 [] (decide_eq_true (by omega)) rfl rfl ?_
  refine Qy 9 Qp rfl rfl rfl ?_
  refine Qr tt 3 rfl ?_
  refine kd (Qi (i+1) Jy Ua rfl rfl (by omega) (Qg (Ya (by omega))) rfl rfl) rfl ?_
  refine Qr tt 2 rfl ?_
  refine Yv tt 0 [] qGa rfl rfl rfl (Cq (n:=((i+1:Nat):Int)) (by omega)) rfl rfl ?_
  refine Yv tt 1 [] Tryz.func154 rfl rfl rfl (Af (a:=p.getD (i+1) 0) (b:=((i+1:Nat):Int)) (Zy hp _) (Xd (L8 (t:=30) (by omega)) (by omega))) rfl rfl ?_
  refine Qq tt rfl ?_
  refine Zn (Zg (ls2:=(W2 (fun i=>((p.getD (i+1) 0*((i+1:Nat):Int):Int):Rat)) (i+1)).map rr) (m2:=i+1) 0 Jy Jy qUc rfl rfl Ua Tz rfl rfl rfl rfl rfl rfl rfl (by rw [Zr,Xo]; omega) (Js rfl) (Jx rfl) (by show _+1<_; omega) (by rw [Y0 (by rw [Zr,Xo]; exact X2 _),G2,F6]; rfl) (rfl) fun r1=>ko ?_)
  refine Qr tt 2 rfl ?_
  refine Qf tt 1 [] (Zb (r:=((((i+1))+1:Nat):Int)) rfl rfl (Qm (by omega) (by omega)) rfl) rfl ?_
  refine Qj [0,3,4] rfl rfl ?_
  refine Q8 ?_
  refine ⟨_,?_,i+1,r1,by omega,rfl,rfl,rfl⟩
  omega
 have hin:i=(p.length-1):=by omega
 refine Qr tt 2 rfl ?_
 refine Qf tt 1 [] (Qh (m:=p.length) Jy rfl (by rw [Q6,Ze]) rfl) rfl ?_
 refine Z8 tt 1 [] (decide_eq_false (by omega)) rfl rfl ?_
 refine X5 (fun _ k_=>Xe 0 [21] rfl (Zc rfl) (by rw [Zr,Xo]) (by rw [Zr,Xo]; omega) rfl (Qo k_)) rfl ?_
 refine Qq tt rfl ?_
 refine kl tt 1 [] qFf rfl rfl rfl (Wd (p:=(W2 (fun i=>((p.getD (i+1) 0*((i+1:Nat):Int):Int):Rat)) i)) (Pw fun i hi=>W0 (Xd (Xl _ _) (Xd (Nat.add_le_add (Zy hp _) (L8 (t:=30) (by omega))) (by omega))) (by omega)) (by rw [Xo]; omega)) rfl rfl ?_
 exact Xp tt [] rfl (by rw [hin,Qp6,Fi]; rfl)
theorem Qe5 {p:List Int} (hl:p.length≤1000000):Za Tryz.prog 224 [.one (Zp ((zp p)))] (.one (.bool true)):=by
 refine X4 tt 2 [] Tryz.func224 Tryz.ntmps224 rfl rfl rfl ?_
 refine Qf tt 1 [] (Qh (m:=p.length) Jy rfl (by rw [Q6,Ze]) rfl) rfl ?_
 refine Qj [0,5,6] rfl rfl ?_
 refine Zl (fun m L B=>∃ i,i≤p.length∧m=p.length-i∧L=[(0,.one (Zp ((zp p)))),(5,.one (.int .i64 (((p.length:Nat):Int)))),(6,.one (.int .i64 (((i:Nat):Int))))]∧B=[]) (m:=_) ⟨0,K6 _,rfl,rfl,rfl⟩ ?_
 rintro m L B ⟨i,hp0,hm,rfl,rfl⟩
 refine Qq tt rfl ?_
 by_cases hlt:i<p.length
 ·skip
  refine Qr tt 1 rfl ?_
  refine Xh tt 4 [] (decide_eq_true (by omega)) rfl rfl ?_
  refine Qf tt 3 [] (Qi (i) Jy Ua rfl rfl (rfl) (Qg (Ya hlt)) rfl rfl) rfl ?_
  refine Qf tt 2 [] (Qh (m:=((dig (((((p.getD i 0:Int):Rat)).den:Int)).natAbs)).length) Ji rfl (Zd _) rfl) rfl ?_
  refine Qf tt 0 [] ((Qc rfl rfl (decide_eq_false (by rw [show (dig (((((p.getD i 0:Int):Rat)).den:Int)).natAbs).length=1 by rw [show (dig (((((p.getD i 0:Int):Rat)).den:Int)).natAbs)=dig 1 from rfl,Vj]; rfl]; decide)) (Qw tt rfl rfl))) rfl ?_
  refine Qf tt 0 [] ((Qc rfl rfl (decide_eq_false (by rw [show (dig (((((p.getD i 0:Int):Rat)).den:Int)).natAbs).length=1 by rw [show (dig (((((p.getD i 0:Int):Rat)).den:Int)).natAbs)=dig 1 from rfl,Vj]; rfl]; decide)) (Qw tt rfl rfl))) rfl ?_
  refine Qf tt 0 [] ((Qc rfl rfl (decide_eq_false (by rw [show (dig (((((p.getD i 0:Int):Rat)).den:Int)).natAbs).length=1 by rw [show (dig (((((p.getD i 0:Int):Rat)).den:Int)).natAbs)=dig 1 from rfl,Vj]; rfl]; decide)) (Qi (i) Jy Ua rfl rfl (rfl) (Qg (Ya hlt)) rfl rfl))) rfl ?_
  refine Qf tt 0 [] ((Qc rfl rfl (decide_eq_false (by rw [show (dig (((((p.getD i 0:Int):Rat)).den:Int)).natAbs).length=1 by rw [show (dig (((((p.getD i 0:Int):Rat)).den:Int)).natAbs)=dig 1 from rfl,Vj]; rfl]; decide)) (Qw tt rfl rfl))) rfl ?_
  refine Qf tt 0 [] ((Qc rfl rfl (decide_eq_false (by rw [show (dig (((((p.getD i 0:Int):Rat)).den:Int)).natAbs).length=1 by rw [show (dig (((((p.getD i 0:Int):Rat)).den:Int)).natAbs)=dig 1 from rfl,Vj]; rfl]; decide)) (Qw tt rfl rfl))) rfl ?_
  refine Qf tt 0 [] ((Qc rfl rfl (decide_eq_false (by rw [show (dig (((((p.getD i 0:Int):Rat)).den:Int)).natAbs).length=1 by rw [show (dig (((((p.getD i 0:Int):Rat)).den:Int)).natAbs)=dig 1 from rfl,Vj]; rfl]; decide)) (Qw tt rfl rfl))) rfl ?_
  refine Qf tt 0 [] ((Qc rfl rfl (decide_eq_false (by rw [show (dig (((((p.getD i 0:Int):Rat)).den:Int)).natAbs).length=1 by rw [show (dig (((((p.getD i 0:Int):Rat)).den:Int)).natAbs)=dig 1 from rfl,Vj]; rfl]; decide)) (Qi (0) Ji Xw rfl rfl (rfl) (Qg (by rw [show (dig (((((p.getD i 0:Int):Rat)).den:Int)).natAbs)=dig 1 from rfl,Vj]; rfl)) rfl rfl))) rfl ?_
  refine Qf tt 0 [] ((Qc rfl rfl (decide_eq_false (by rw [show (dig (((((p.getD i 0:Int):Rat)).den:Int)).natAbs).length=1 by rw [show (dig (((((p.getD i 0:Int):Rat)).den:Int)).natAbs)=dig 1 from rfl,Vj]; rfl]; decide)) (Qw tt rfl rfl))) rfl ?_
  refine Qf tt 0 [] ((Qc rfl rfl (decide_eq_false (by rw [show (dig (((((p.getD i 0:Int):Rat)).den:Int)).natAbs).length=1 by rw [show (dig (((((p.getD i 0:Int):Rat)).den:Int)).natAbs)=dig 1 from rfl,Vj]; rfl]; decide)) (Qw tt rfl rfl))) rfl ?_
  refine Qf tt 0 [] (Zw rfl (decide_eq_false (by rw [show (dig (((((p.getD i 0:Int):Rat)).den:Int)).natAbs).length=1 by rw [show (dig (((((p.getD i 0:Int):Rat)).den:Int)).natAbs)=dig 1 from rfl,Vj]; rfl]; decide)) rfl rfl) rfl ?_
  refine Z8 tt 0 [] (rfl) rfl rfl ?_
  refine Qf tt 1 [] (Zb (r:=((i+1:Nat):Int)) rfl rfl (Qm (by omega) (by omega)) rfl) rfl ?_
  refine Qj [0,5,6] rfl rfl ?_
  refine Q8 ?_
  refine ⟨_,?_,i+1,by omega,rfl,rfl,rfl⟩
  omega
 skip
 refine Qr tt 1 rfl ?_
 refine Z8 tt 1 [] (decide_eq_false (by omega)) rfl rfl ?_
 exact Xp tt [] rfl (rfl)
theorem ri_zero:ri 0=[.row [],.bool false]:=by simp [ri,dl,J4,sg]
theorem Qih (p:List Int) (q:Rat):Int.sign (Kv p q.num q.den p.length).1=Ff p q:=by
 unfold Ff Qr1 Mx
 generalize (Kv p q.num q.den p.length).1=z
 rcases qYa z 0 with h | h | h
 ·rw [if_pos h,qJh h]
 ·subst h; rfl
 rw [if_neg (by omega),if_pos h,qJt h]
set_option maxRecDepth 20000 in
theorem Dr {p:List Int} {q:Rat} (hp:Bd 30000000 p) (hl:p.length≤64) (hq:Qs 1000000 q):Za Tryz.prog 151 [.one (Zp ((zp p))),.agg [dl ((dig ((q).num).natAbs)),sg ((q).num),dl ((dig (((q).den:Int)).natAbs)),sg (((q).den:Int))]] (.one (.int .i64 ((Ff p q)))):=by
 refine X4 tt 3 [] Tryz.func151 Tryz.ntmps151 rfl rfl rfl ?_
 refine kl tt 1 [] Tryz.func224 rfl rfl rfl (Qe5 (p:=p) (by omega)) rfl rfl ?_
 refine Z8 tt 0 [] (rfl) rfl rfl ?_
 refine Zn (Qn B5 rfl rfl fun g1=>ko ?_)
 refine Qq tt rfl ?_
 refine kw (Zu qWv rfl rfl rfl rfl (Yq (n:=1) (by omega)) rfl) ?_
 refine Zn (Qn B5 rfl rfl fun g2=>ko ?_)
 refine Xu tt 1 [0] rfl ?_
 refine X5 (fun _ k_=>Vn (ys:=ri 0) 1 rfl rfl ri_zero.symm (Qo k_)) rfl ?_
 refine Qr tt 1 rfl ?_
 refine Qf tt 0 [] (Qh (m:=p.length) Jy rfl (by rw [Q6,Ze]) rfl) rfl ?_
 refine Qf tt 1 [] (Z9 (r:=((p.length:Int)-1-((0:Nat):Int))) rfl rfl (Qm (by omega) (by omega)) rfl) rfl ?_
 refine Qj [0,3,5,6,7] rfl rfl ?_
 refine Yi 0 rfl rfl ?_
 refine Yi 1 rfl rfl ?_
 refine Zl (fun m L B=>∃ j,j≤p.length∧m=p.length-j∧L=[(0,.one (Zp ((zp p)))),(3,.one (.sh [dl ((dig ((q).num).natAbs)),sg ((q).num),dl ((dig (((q).den:Int)).natAbs)),sg (((q).den:Int))])),(5,.one (.ow g1 0)),(6,.one (.ow g2 0)),(7,.one (.int .i64 (((p.length:Int)-1-(j:Int)))))]∧B=[.blk g2 32 [dl ((dig ((Kv p q.num q.den j).2).natAbs)),sg ((Kv p q.num q.den j).2)],.blk g1 32 [dl ((dig ((Kv p q.num q.den j).1).natAbs)),sg ((Kv p q.num q.den j).1)]]) (m:=_) ⟨0,K6 _,rfl,rfl,rfl⟩ ?_
 rintro m L B ⟨j,hp0,hm,rfl,rfl⟩
 refine Qq tt rfl ?_
 by_cases hlt:j<p.length
 ·have hv:=Eq (k:=j) hp hq.1 hq.2
  have hjl:j*(1000000+1)≤p.length*(1000000+1):=O8 _ (by omega)
  have hc:=Zy hp (p.length-1-j)
  have hq1:=hq.1
  have hq2:=hq.2
  have hm1:Xj ((Kv p q.num q.den j).1*q.num)≤200000000:=Xd (Xl _ _) (by omega)
  have hm2:Xj (p.getD (p.length-1-j) 0*(Kv p q.num q.den j).2)≤200000000:=Xd (Xl _ _) (by omega)
  refine Qr tt 2 rfl ?_
  refine Xh tt 0 [] (decide_eq_true (by omega)) rfl rfl ?_
  refine Qy 10 Qp rfl rfl rfl ?_
  refine Xu tt 3 [1] rfl ?_
  refine Yv tt 2 [] qWs rfl rfl rfl (Jo (a:=((Kv p q.num q.den j).1)) (b:=((q).num)) (by omega) (by omega)) rfl rfl ?_
  refine kd (Qi (p.length-1-j) Jy Ua rfl rfl (by omega) (Qg (Ya (by omega))) rfl rfl) rfl ?_
  refine Xu tt 3 [0] rfl ?_
  refine Qq tt rfl ?_
  refine kl tt 0 [] qWs rfl rfl rfl (Jo (a:=p.getD (p.length-1-j) 0) (b:=(Kv p q.num q.den j).2) (by omega) (by omega)) rfl rfl ?_
  refine kl tt 4 [1,0] Tryz.func227 rfl rfl rfl (Cp (a:=((((Kv p q.num q.den j).1)*((q).num)))) (b:=((p.getD (p.length-1-j) 0*(Kv p q.num q.den j).2))) (hm1) (hm2)) rfl rfl ?_
  refine kl tt 2 [0] qWs rfl rfl rfl (Jo (a:=((Kv p q.num q.den j).2)) (b:=(((q).den:Int))) (by omega) (by omega)) rfl rfl ?_
  refine Qf tt 1 [] (Z9 (r:=((p.length:Int)-1-((j+1:Nat):Int))) rfl rfl (Qm (by omega) (by omega)) rfl) rfl ?_
  refine Qj [0,3,5,6,7] rfl rfl ?_
  refine Q8 ?_
  refine ⟨_,?_,j+1,by omega,rfl,rfl,rfl⟩
  omega
 have hjp:j=p.length:=by omega
 have hv:=Eq (k:=j) hp hq.1 hq.2
 have hjl:j*(1000000+1)≤p.length*(1000000+1):=O8 _ (by omega)
 refine Qr tt 2 rfl ?_
 refine Z8 tt 1 [1] (decide_eq_false (by omega)) rfl rfl ?_
 refine kl tt 1 [] Tryz.func225 rfl rfl rfl (Ak (by omega)) rfl rfl ?_
 exact Xp tt [] rfl (by rw [hjp,Qih])
abbrev zR:List LV:=[.row [],.bool false,.row [],.bool false]
theorem Qcy {n i:Nat} (h:i<n):(List.replicate i (rr 0)++List.replicate (n-i) zR).set (0+i) (rr 0)=List.replicate (i+1) (rr 0)++List.replicate (n-(i+1)) zR:=by
 rw [Vl,qVi _ _ (by simp),qZn,qJz,show n-i=n-(i+1)+1 by omega,qJs (n:=n-(i+1)),List.set_cons_zero,List.replicate_succ' (n:=i),P6]; rfl
theorem Az {n i:Nat} (h:i<n):(List.replicate i (rr 0)++List.replicate (n-i) zR)[0+i]? = some zR:=by
 rw [Vl,qXh (by simp),qZn,qJz,show n-i=n-(i+1)+1 by omega,qJs]; rfl
theorem Qqh (n:Nat):List.replicate n (rr 0)++List.replicate (n-n) zR=(zp (List.replicate n 0)).map rr:=by simp [zp]
theorem Qpn (l:List Int) (i:Nat) (z:Int):((zp l).map rr).set i (rr (z:Rat))=(zp (l.set i z)).map rr:=by simp [zp,List.map_set]
theorem Qui (l:List Int) {i:Nat} (h:i<l.length):((zp l).map rr)[0+i]? = some (rr ((l.getD i 0:Int):Rat)):=by rw [Vl]; exact Qg (Ya h)
set_option maxRecDepth 20000 in
theorem Al {p q:List Int} {s t:Nat} (hlp:p.length≤1000000) (hlq:q.length≤1000000) (hp:Bd s p) (hq:Bd t q) (hst:s+t≤19000000):Za Tryz.prog 107 [.one (Zp ((zp p))),.one (Zp ((zp q)))] (.one (Zp ((zp (Li p q))))):=by
 refine X4 tt 0 [] qGm Tryz.ntmps107 rfl rfl rfl ?_
 rcases Hl p.length with h0 | h0
 ·skip
  refine Qr tt 2 rfl ?_
  refine Qf tt 2 [] (Qh (m:=p.length) Jy rfl (by rw [Q6,Ze]) rfl) rfl ?_
  refine Qf tt 0 [] (Qk rfl rfl (decide_eq_true (by omega)) rfl) rfl ?_
  refine Qf tt 0 [] (Qk rfl rfl (decide_eq_true (by omega)) rfl) rfl ?_
  refine Qf tt 0 [] (Qk rfl rfl (decide_eq_true (by omega)) rfl) rfl ?_
  refine Qf tt 0 [] (Zs rfl (decide_eq_true (by omega)) rfl rfl) rfl ?_
  refine Xh tt 1 [] (rfl) rfl rfl ?_
  exact Xp tt [] rfl (by unfold Li; rw [if_pos (.inl h0)]; rfl)
 rcases Hl q.length with h1 | h1
 refine Qq tt rfl ?_
 ·skip
  refine Qr tt 2 rfl ?_
  refine Qf tt 2 [] (Qh (m:=p.length) Jy rfl (by rw [Q6,Ze]) rfl) rfl ?_
  refine kw ((Qc rfl rfl (decide_eq_false (by omega)) (Qw tt rfl rfl))) ?_
  refine Zn (Nq rfl rfl (decide_eq_false (by omega)) (ko ?_))
  refine Qq tt rfl ?_
  refine Qf tt 0 [] (Qh (m:=q.length) Jy rfl (by rw [Q6,Ze]) rfl) rfl ?_
  refine Qf tt 0 [] ((Qc rfl rfl (decide_eq_false (by omega)) (Qw tt rfl rfl))) rfl ?_
  refine Qf tt 0 [] (Zw rfl (decide_eq_false (by omega)) rfl rfl) rfl ?_
  refine Xh tt 1 [] (decide_eq_true (by omega)) rfl rfl ?_
  exact Xp tt [] rfl (by unfold Li; rw [if_pos (.inr h1)]; rfl)
 skip
 refine Qr tt 2 rfl ?_
 refine Qf tt 2 [] (Qh (m:=p.length) Jy rfl (by rw [Q6,Ze]) rfl) rfl ?_
 refine kw ((Qc rfl rfl (decide_eq_false (by omega)) (Qw tt rfl rfl))) ?_
 refine Zn (Nq rfl rfl (decide_eq_false (by omega)) (ko ?_))
 refine Qq tt rfl ?_
 refine Qf tt 0 [] (Qh (m:=q.length) Jy rfl (by rw [Q6,Ze]) rfl) rfl ?_
 refine Qf tt 0 [] ((Qc rfl rfl (decide_eq_false (by omega)) (Qw tt rfl rfl))) rfl ?_
 refine Qf tt 0 [] (Zw rfl (decide_eq_false (by omega)) rfl rfl) rfl ?_
 refine Z8 tt 1 [] (decide_eq_false (by omega)) rfl rfl ?_
 refine Qf tt 1 [] (Qh (m:=p.length) Jy rfl (by rw [Q6,Ze]) rfl) rfl ?_
 refine Qf tt 0 [] (Qh (m:=q.length) Jy rfl (by rw [Q6,Ze]) rfl) rfl ?_
 refine Qf tt 0 [] (Zb (r:=((p.length+q.length:Nat):Int)) rfl rfl (Qm (by omega) (by omega)) rfl) rfl ?_
 refine kw (Z9 (r:=((p.length+q.length-1:Nat):Int)) rfl rfl (Qm (by omega) (by omega)) rfl) ?_
 refine Zn (G4 ((p.length+q.length-1)) Jy qUc rfl Ua Tz rfl rfl rfl rfl rfl rfl (rfl) (rfl) (by omega) rfl fun r1=>ko ?_)
 refine X5 (fun _ k_=>G6 (ls':=List.replicate 0 (rr 0)++List.replicate ((p.length+q.length-1)-0) zR) 0 rfl rfl (by simp) (Qo k_)) rfl ?_
 refine Qr tt 2 rfl ?_
 refine Qf tt 1 [] (Qh (m:=(p.length+q.length-1)) Jy rfl (rfl) rfl) rfl ?_
 refine Qj [0,1,5,25,26] rfl rfl ?_
 refine Zl (fun m L B=>∃ i,i≤(p.length+q.length-1)∧m=(p.length+q.length-1)-i∧L=[(0,.one (Zp ((zp p)))),(1,.one (Zp ((zp q)))),(5,.one (.orow r1 4 0 ((p.length+q.length-1)))),(25,.one (.int .i64 ((((p.length+q.length-1):Nat):Int)))),(26,.one (.int .i64 (((i:Nat):Int))))]∧B=[.row r1 34 4 (List.replicate i (rr 0)++List.replicate ((p.length+q.length-1)-i) zR)]) (m:=_) ⟨0,K6 _,rfl,rfl,rfl⟩ ?_
 rintro m L B ⟨i,hp0,hm,rfl,rfl⟩
 refine Qq tt rfl ?_
 by_cases hlt0:i<(p.length+q.length-1)
 ·skip
  refine Qr tt 1 rfl ?_
  refine Xh tt 4 [] (decide_eq_true (by omega)) rfl rfl ?_
  refine kl tt 0 [] qGo rfl rfl rfl (G8) rfl rfl ?_
  refine kw (Zi (i) Jy Ua rfl rfl (rfl) (by omega) rfl) ?_
  refine Zn (Jp (ls2:=List.replicate (i+1) (rr 0)++List.replicate ((p.length+q.length-1)-(i+1)) zR) 0 Ua rfl rfl rfl rfl rfl rfl (Az hlt0) rfl (Qcy hlt0) (ko ?_))
  refine Qq tt rfl ?_
  refine Qf tt 1 [] (Zb (r:=((i+1:Nat):Int)) rfl rfl (Qm (by omega) (by omega)) rfl) rfl ?_
  refine Qj [0,1,5,25,26] rfl rfl ?_
  refine Q8 ?_
  refine ⟨_,?_,i+1,by omega,rfl,rfl,rfl⟩
  omega
 skip
 refine Qr tt 1 rfl ?_
 refine Z8 tt 1 [] (decide_eq_false (by omega)) rfl rfl ?_
 refine Qf tt 1 [] (Qh (m:=p.length) Jy rfl (by rw [Q6,Ze]) rfl) rfl ?_
 refine X5 (fun _ k_=>Jq (ls':=(zp (Hm p q (List.replicate (p.length+q.length-1) 0) 0)).map rr) 0 rfl (by rw [show i=(p.length+q.length-1) by omega]; exact Qqh _) (Qo k_)) rfl ?_
 refine Qj [0,1,5,35,36] rfl rfl ?_
 refine Zl (fun m L B=>∃ i,i≤p.length∧m=p.length-i∧L=[(0,.one (Zp ((zp p)))),(1,.one (Zp ((zp q)))),(5,.one (.orow r1 4 0 ((p.length+q.length-1)))),(35,.one (.int .i64 (((p.length:Nat):Int)))),(36,.one (.int .i64 (((i:Nat):Int))))]∧B=[.row r1 34 4 ((zp (Hm p q (List.replicate (p.length+q.length-1) 0) i)).map rr)]) (m:=_) ⟨0,K6 _,rfl,rfl,rfl⟩ ?_
 rintro m L B ⟨i,hp0,hm,rfl,rfl⟩
 refine Qq tt rfl ?_
 by_cases hlt:i<p.length
 ·skip
  refine Qr tt 1 rfl ?_
  refine Xh tt 3 [] (decide_eq_true (by omega)) rfl rfl ?_
  refine Qf tt 1 [] (Qh (m:=q.length) Jy rfl (by rw [Q6,Ze]) rfl) rfl ?_
  refine Qj [0,1,5,7,35,36,40,41] rfl rfl ?_
  refine Zl (fun m L B=>∃ k,k≤q.length∧m=q.length-k∧L=[(0,.one (Zp ((zp p)))),(1,.one (Zp ((zp q)))),(5,.one (.orow r1 4 0 ((p.length+q.length-1)))),(7,.one (.int .i64 (((i:Nat):Int)))),(35,.one (.int .i64 (((p.length:Nat):Int)))),(36,.one (.int .i64 (((i:Nat):Int)))),(40,.one (.int .i64 (((q.length:Nat):Int)))),(41,.one (.int .i64 (((k:Nat):Int))))]∧B=[.row r1 34 4 ((zp (Bt (p.getD i 0) q i (Hm p q (List.replicate (p.length+q.length-1) 0) i) k)).map rr)]) (m:=_) ⟨0,K6 _,rfl,rfl,rfl⟩ ?_
  rintro m L B ⟨k,hq0,hm,rfl,rfl⟩
  refine Qq tt rfl ?_
  by_cases hlt2:k<q.length
  ·have hm1:Xj ((Bt (p.getD i 0) q i (Hm p q (List.replicate (p.length+q.length-1) 0) i) k).getD (i+k) 0)≤20000000:=Xd (Mk (t:=21) (Qj6 (by rw [Hd,qZn]; omega) (Qj5 (fun j hj=>by rw [qZn]; omega) (Fc _) (fun i j=>H4 (Zy hp i) (Zy hq j))) (fun j=>H4 (Zy hp i) (Zy hq j)) (i+k)) (qJw (show i+1<2097152 by omega) (by decide))) (by omega)
   have hm2:Xj (p.getD i 0*q.getD k 0)≤20000000:=Xd (Xl _ _) (by have:=Zy hp i; have:=Zy hq k; omega)
   have hmk:((Bt (p.getD i 0) q i (Hm p q (List.replicate (p.length+q.length-1) 0) i) k)).length=(p.length+q.length-1):=by rw [Im,Hd,qZn]
   refine Qr tt 1 rfl ?_
   refine Xh tt 2 [] (decide_eq_true (by omega)) rfl rfl ?_
   refine Qy 20 Qp rfl rfl rfl ?_
   refine Qr tt 3 rfl ?_
   refine kd (Zb (r:=((i+k:Nat):Int)) rfl rfl (Qm (by omega) (by omega)) rfl) rfl ?_
   refine Qr tt 3 rfl ?_
   refine kd (Zb (r:=((i+k:Nat):Int)) rfl rfl (Qm (by omega) (by omega)) rfl) rfl ?_
   refine Qq tt rfl ?_
   refine kd (Zi (i+k) Jy Ua rfl rfl (by omega) (by omega) rfl) rfl ?_
   refine Qq tt rfl ?_
   refine kd (X7 0 qUt Ua rfl rfl (Qui _ (by rw [hmk]; omega)) rfl rfl rfl) rfl ?_
   refine Qr tt 2 rfl ?_
   refine kd (Qi (i) Jy Ua rfl rfl (rfl) (Qg (Ya hlt)) rfl rfl) rfl ?_
   refine Qr tt 3 rfl ?_
   refine kd (Qi (k) Jy Ua rfl rfl (rfl) (Qg (Ya hlt2)) rfl rfl) rfl ?_
   refine Qr tt 1 rfl ?_
   refine Yv tt 0 [] Tryz.func154 rfl rfl rfl (Af (a:=p.getD i 0) (b:=q.getD k 0) (Xd (Zy hp i) (by omega)) (Xd (Zy hq k) (by omega))) rfl rfl ?_
   refine Yv tt 0 [] Tryz.func187 rfl rfl rfl (Qhk (a:=(Bt (p.getD i 0) q i (Hm p q (List.replicate (p.length+q.length-1) 0) i) k).getD (i+k) 0) (b:=p.getD i 0*q.getD k 0) hm1 hm2) rfl rfl ?_
   refine kw (Zi (i+k) Jy Ua rfl rfl (by omega) (by omega) rfl) ?_
   refine Zn (Jp (ls2:=(zp (Bt (p.getD i 0) q i (Hm p q (List.replicate (p.length+q.length-1) 0) i) (k+1))).map rr) 0 Ua rfl rfl rfl rfl rfl rfl (Qui _ (by rw [hmk]; omega)) rfl (by rw [Vl]; exact Qpn _ _ _) (ko ?_))
   refine Qq tt rfl ?_
   refine Qf tt 1 [] (Zb (r:=((k+1:Nat):Int)) rfl rfl (Qm (by omega) (by omega)) rfl) rfl ?_
   refine Qj [0,1,5,7,35,36,40,41] rfl rfl ?_
   refine Q8 ?_
   refine ⟨_,?_,k+1,by omega,rfl,rfl,rfl⟩
   omega
  skip
  refine Qr tt 1 rfl ?_
  refine Z8 tt 0 [] (decide_eq_false (by omega)) rfl rfl ?_
  refine Qf tt 1 [] (Zb (r:=((i+1:Nat):Int)) rfl rfl (Qm (by omega) (by omega)) rfl) rfl ?_
  refine X5 (fun _ k_=>Jq (ls':=(zp (Hm p q (List.replicate (p.length+q.length-1) 0) (i+1))).map rr) 0 rfl (by rw [show k=q.length from by omega]; rfl) (Qo k_)) rfl ?_
  refine Qj [0,1,5,35,36] rfl rfl ?_
  refine Q8 ?_
  refine ⟨_,?_,i+1,by omega,rfl,rfl,rfl⟩
  omega
 skip
 refine Qr tt 1 rfl ?_
 refine Z8 tt 1 [] (decide_eq_false (by omega)) rfl rfl ?_
 refine X5 (fun _ k_=>Xe 0 [67] rfl (Zc rfl) (by rw [Zr,Ze,Hd,qZn]) (by rw [Zr,Ze,Hd,qZn]; omega) rfl (Qo k_)) rfl ?_
 refine Qq tt rfl ?_
 refine kl tt 1 [] qFf rfl rfl rfl (Wd (p:=(zp (Hm p q (List.replicate (p.length+q.length-1) 0) i))) (S2 (Qhb fun m=>Xd (Mk (t:=21) (Qj5 (fun j hj=>by rw [qZn]; omega) (Fc _) (fun i j=>H4 (Zy hp i) (Zy hq j)) m) (qJw (show i<2097152 by omega) (by decide))) (by omega)) (by omega)) (by rw [Ze,Hd,qZn]; omega)) rfl rfl ?_
 exact Xp tt [] rfl (by rw [Fi]; unfold Li; rw [if_neg (by omega),show i=p.length from by omega])
end Orr

namespace Orr
def Q0 (p:List Int):Int:=p.getD (p.length-1) 0
def B9 (a b:List Int):Int:=if Q0 b<0 then -(Q0 a) else Q0 a
def W1 (a b:List Int) (i:Nat):Int:=a.getD i 0*((Q0 b).natAbs:Int)-(if a.length-b.length≤i then B9 a b*b.getD (i-(a.length-b.length)) 0 else 0)
def Qgg (a b:List Int):List Int:=W6 a.length (W1 a b)
inductive RRun (b:List Int):Nat→List Int→List Int→Prop
  | stop {a:List Int}:a.length<b.length→RRun b 0 a a
  | step {k:Nat} {a r:List Int}:b.length≤a.length→a.length≤1000→Bd 9000000 a→Bd 9000000 b→RRun b k (Qgg a b) r→RRun b (k+1) a r
def U6 (p:List Int):Nat→Nat
  | 0=>0
  | i+1=>Int.gcd (U6 p i:Nat) (p.getD i 0)
def Qeo (p:List Int):Nat:=U6 p p.length
theorem Cm (p:List Int):∀ {i j:Nat},j<i→((U6 p i:Nat):Int)∣p.getD j 0
  | 0,_,h=>absurd h (qVx _)
  |
   i+1,j,h=>by
   simp only [U6]
   rcases Mq j i with h1 | h1
   · exact Int.dvd_trans (Int.gcd_dvd_left ..) (Cm p h1)
   · rw [show j=i by omega]; exact qVc ..
theorem Qep (p:List Int) (j:Nat):((Qeo p:Nat):Int)∣p.getD j 0:=by
  rcases Mq j p.length with h | h
  · exact Cm p h
  · rw [V6,Eh h]; exact Int.dvd_zero _
theorem Rf {s:Nat} {p:List Int} (h:Bd s p):∀ i,Xj ((U6 p i:Nat):Int)≤s
  | 0=>by simp [U6,Sp]
  |
   i+1=>by
   simp only [U6]
   by_cases h0:p.getD i 0=0
   · rw [h0,Int.gcd_zero_right]; exact Rf h i
   · have h1:=qVc (U6 p i:Nat) (p.getD i 0)
     have h2:(Int.gcd (U6 p i:Nat) (p.getD i 0))≤(p.getD i 0).natAbs:=Nat.le_of_dvd (by omega) (by simpa using qVf.2 h1)
     have h3:=Zy h i
     rw [Gg] at h3 ⊢
     simp only [qVz]
     omega
theorem Qle {p:List Int} {j i:Nat} (hj:j<i) (h:p.getD j 0≠0):0<U6 p i:=by
  have:=Cm p hj
  rcases Hl (U6 p i) with h0 | h0
  · rw [h0] at this
    exact absurd (Int.zero_dvd.1 this) h
  · exact h0
theorem Qeq {p:List Int} (ht:Yw p) (h:0<p.length):0<Qeo p:=Qle (j:=p.length-1) (by omega) (Pz ht h)
def Ux (p:List Int):Int:=if Q0 p<0 then -((Qeo p:Nat):Int) else ((Qeo p:Nat):Int)
def Vm (p:List Int):List Int:=W6 p.length fun i=>p.getD i 0 / Ux p
def Fw (p:List Int):List Int:=if Q0 p<0 then Lj (Vm p) else Vm p
theorem Ql7 (p:List Int) (j:Nat):Ux p∣p.getD j 0:=by
  unfold Ux
  split
  · exact Int.neg_dvd.2 (Qep p j)
  · exact Qep p j
theorem Qos {p:List Int} (ht:Yw p) (h:0<p.length):Ux p≠0:=by
  have:=Qeq ht h
  unfold Ux
  split <;> omega
theorem Ql8 {s:Nat} {p:List Int} (h:Bd s p):Xj (Ux p)≤s:=by
  unfold Ux
  split
  · rw [Xg]; exact Rf h _
  · exact Rf h _
theorem Qit {p:List Int} {c:Int} (hc:c≠0) (hd:∀ j,c∣p.getD j 0):Fz (zp p) (1 / (c:Rat))=zp (W6 p.length fun i=>p.getD i 0 / c):=by
  unfold Fz W6
  rw [Px (g:=fun i=>p.getD i 0 / c) _ fun i _=>?_,Fi,Ze]
  obtain ⟨k,hk⟩:=hd i
  have hc':(c:Rat)≠0:=fun e=>hc (by exact_mod_cast e)
  rw [P2,hk,qXw _ hc,qJq]
  grind
theorem E0 {s:Nat} {p:List Int} (h:Bd s p):Bd s (Vm p):=Nr fun i _=>Xd (So _ _) (Zy h i)
theorem C0 (p:List Int):(Vm p).length≤p.length:=Si _ _
theorem Qla {s:Nat} {p:List Int} (h:Bd s p):Bd s (Fw p):=by
  unfold Fw
  split
  · exact Qq4 (E0 h)
  · exact E0 h
theorem Qh0 (p:List Int):(Fw p).length≤p.length:=by
  unfold Fw
  split
  · exact Xd (Qfo _) (C0 p)
  · exact C0 p
inductive GRun:Nat→List Int→List Int→List Int→Prop
  | stop (a:List Int):GRun 0 a [] a
  | step {k m:Nat} {a b r g:List Int}:0<b.length→b.length≤1000→Bd 9000000 b→RRun b m a r→r.length≤1000→Bd 9000000 r→Yw r→GRun k b (Vm r) g→GRun (k+1) a b g
theorem GRun.inv {k:Nat} {a b g:List Int} (h:GRun k a b g):(k=0∧b.length=0∧a=g)∨∃ j m r,k=j+1∧0<b.length∧b.length≤1000∧Bd 9000000 b∧RRun b m a r∧r.length≤1000∧Bd 9000000 r∧Yw r∧GRun j b (Vm r) g:=by
  cases h with
  | stop=>exact .inl ⟨rfl,rfl,rfl⟩
  | step h1 h2 h3 h4 h5 h6 h7 h8=>exact .inr ⟨_,_,_,rfl,h1,h2,h3,h4,h5,h6,h7,h8⟩
def Gn (k:Nat) (p:List Int):List Int:=List.replicate k 0++p
theorem Nd (k:Nat) (p:List Int):(Gn k p).length=k+p.length:=by simp [Gn]
theorem Qlb {s k:Nat} {p:List Int} (h:Bd s p):Bd s (Gn k p):=fun z hz=>by
  rcases Y7.1 hz with h1 | h1
  · rw [qZx h1,Sp]; exact K6 _
  · exact h z h1
inductive DRun (b:List Int):Nat→List Int→List Int→List Int→List Int→Prop
  | stop {a q:List Int}:a.length<b.length→DRun b 0 a q q a
  | step {k:Nat} {a q qf r:List Int}:b.length≤a.length→a.length≤1000→Bd 9000000 a→Q0 b≠0→Q0 b∣Q0 a→a.length-b.length<q.length →
      DRun b k (Lk a (Gn (a.length-b.length) (J8 b (Q0 a / Q0 b)))) (q.set (a.length-b.length) (Q0 a / Q0 b)) qf r→DRun b (k+1) a q qf r
theorem DRun.inv {b a q qf r:List Int} {k:Nat} (h:DRun b k a q qf r):(k=0∧q=qf∧a=r∧a.length<b.length)∨∃ j,k=j+1∧b.length≤a.length∧a.length≤1000∧Bd 9000000 a∧Q0 b≠0∧Q0 b∣Q0 a∧a.length-b.length<q.length ∧
    DRun b j (Lk a (Gn (a.length-b.length) (J8 b (Q0 a / Q0 b)))) (q.set (a.length-b.length) (Q0 a / Q0 b)) qf r:=by
  cases h with
  | stop h=>exact .inl ⟨rfl,rfl,rfl,h⟩
  | step h1 h2 h3 h4 h5 h6 h7=>exact .inr ⟨_,rfl,h1,h2,h3,h4,h5,h6,h7⟩
def K8 (l:List (List Int)):List Int:=l.getD (l.length-1) []
inductive LRun:Nat→List (List Int)→List (List Int)→Prop
  | stop {l:List (List Int)}:(K8 l).length≤1→LRun 0 l l
  | step {k m:Nat} {l f:List (List Int)} {g:List Int}:1<(K8 l).length→(K8 l).length≤1000→Yw (K8 l)→Bd 9000000 (K8 l)→Bd 9000000 (Wz (K8 l))→GRun m (Vm (K8 l)) (Vm (Wz (K8 l))) g→l.length≤1000→LRun k (l++[g]) f→LRun (k+1) l f
theorem LRun.inv {k:Nat} {l f:List (List Int)} (h:LRun k l f):(k=0∧l=f∧(K8 l).length≤1)∨∃ j m g,k=j+1∧1<(K8 l).length∧(K8 l).length≤1000∧Yw (K8 l)∧Bd 9000000 (K8 l)∧Bd 9000000 (Wz (K8 l))∧GRun m (Vm (K8 l)) (Vm (Wz (K8 l))) g∧l.length≤1000∧LRun j (l++[g]) f:=by
  cases h with
  | stop h=>exact .inl ⟨rfl,rfl,h⟩
  | step h1 h2 h3 h4 h5 h6 h7 h8=>exact .inr ⟨_,_,_,rfl,h1,h2,h3,h4,h5,h6,h7,h8⟩
def DOk (a b q:List Int):Prop:=0<b.length∧b.length≤1000∧a.length≤1000∧Bd 9000000 b∧∃ qf r n,Bd 9000000 qf∧qf.length≤1000∧DRun b n a (List.replicate (a.length+1-b.length) 0) qf r∧q=trim qf
theorem DOk.bd {a b q:List Int} (h:DOk a b q):Bd 9000000 q:=by
  obtain ⟨_,_,_,_,qf,r,n,h1,_,_,rfl⟩:=h
  exact Jm h1
theorem DOk.len {a b q:List Int} (h:DOk a b q):q.length≤1000:=by
  obtain ⟨_,_,_,_,qf,r,n,_,h1,_,rfl⟩:=h
  exact Xd (Kt _) h1
theorem DOk.trim {a b q:List Int} (h:DOk a b q):Yw q:=by
  obtain ⟨_,_,_,_,qf,r,n,_,_,_,rfl⟩:=h
  exact K0 _
def Qw4 (a b c f:List Int):Prop:=∃ x y z,DOk a b x∧DOk b c y∧DOk (Vm x) (Vm y) z∧f=Vm z
structure FRun (a:List Int) (m:Nat) (f:Nat→List Int):Prop where
  run:∃ n l,LRun n [Vm a] l∧l.length=m+1∧∀ k,k<m→Qw4 ((l++[[1]]).getD k []) ((l++[[1]]).getD (k+1) []) ((l++[[1]]).getD (k+2) []) (f k)
  small:m≤1000
def Og (f:Nat→List Int) (n:Nat):List (List Int):=(List.range n).map f
theorem S9 (f:Nat→List Int) (n:Nat):(Og f n).length=n:=by simp [Og]
theorem Qmw (f:Nat→List Int) (n:Nat):Og f (n+1)=Og f n++[f n]:=by simp [Og,qVw]
theorem Qp5 {f:Nat→List Int} {n i:Nat} (h:i<n):(Og f n)[i]? = some (f i):=by simp [Og,qJj h]
theorem Fp {l:List (List Int)} {i:Nat} (h:i<l.length):l[i]? = some (l.getD i []):=by
  rw [V6,Xx h]; rfl
def B4 (f:Nat→List Int):Nat→List Int
  | 0=>[1]
  | i+1=>Li (B4 f i) (f i)
def Qw3 (m:Nat) (f:Nat→List Int):Prop:=∀ i,i<m→Bd 9000000 (B4 f i)∧(B4 f i).length≤1000∧Bd 9000000 (f i)∧(f i).length≤1000
inductive CRun:Nat→List (List Int)→List Int→List (List Int)→Prop
  | stop {l:List (List Int)} {g:List Int}:g.length=0→CRun 0 l g l
  | step {k m:Nat} {l f:List (List Int)} {g r:List Int}:0<g.length→g.length≤1000→Bd 9000000 g→RRun g m (K8 l) r→Yw r→Bd 9000000 r→r.length≤1000→0<l.length→l.length≤1000→CRun k (l++[g]) (Lj (Fw r)) f→CRun (k+1) l g f
theorem CRun.inv {k:Nat} {l f:List (List Int)} {g:List Int} (h:CRun k l g f):(k=0∧l=f∧g.length=0)∨∃ j m r,k=j+1∧0<g.length∧g.length≤1000∧Bd 9000000 g∧RRun g m (K8 l) r∧Yw r∧Bd 9000000 r∧r.length≤1000∧0<l.length∧l.length≤1000∧CRun j (l++[g]) (Lj (Fw r)) f:=by
  cases h with
  | stop h=>exact .inl ⟨rfl,rfl,h⟩
  | step h1 h2 h3 h4 h5 h6 h7 h8 h9 h10=>exact .inr ⟨_,_,_,rfl,h1,h2,h3,h4,h5,h6,h7,h8,h9,h10⟩
structure ChRun (a:List Int) (sq:List Int) (c:List (List Int)):Prop where
  fac:∃ m f,FRun a m f∧Qw3 m f∧sq=B4 f m
  chain:∃ n,CRun n [sq] (Fw (Wz sq)) c
  bd:Bd 8000000 sq
  len:sq.length≤1000
  small:c.length≤1000
end Orr

namespace Orr
open Go Go.Proofs
theorem RRun.inv {b a r:List Int} {k:Nat} (h:RRun b k a r):(k=0∧a=r∧a.length<b.length)∨(∃ j,k=j+1∧b.length≤a.length∧a.length≤1000∧Bd 9000000 a∧Bd 9000000 b∧RRun b j (Qgg a b) r):=by
 cases h with
 | stop h=>exact .inl ⟨rfl,rfl,h⟩
 | step h1 h2 h3 h4 h5=>exact .inr ⟨_,rfl,h1,h2,h3,h4,h5⟩
theorem Qkr {a b:List Int} (ha:Bd 9000000 a):Xj (B9 a b)≤9000000:=by
 unfold B9; split
 ·rw [Xg]; exact Zy ha _
 exact Zy ha _
theorem Qpk {a b:List Int} (ha:Bd 9000000 a) (hb:Bd 9000000 b) (i:Nat):Xj (W1 a b i)≤90000000:=by
 unfold W1
 have h1:=Zy ha i
 have h2:Xj (((Q0 b).natAbs:Nat):Int)≤9000000:=Zy hb _
 have h3:=Xl (a.getD i 0) (((Q0 b).natAbs:Nat):Int)
 have h4:=Zy hb (i-(a.length-b.length))
 have ht:Xj (B9 a b)≤9000000:=Qkr ha
 have h5:=Xl (B9 a b) (b.getD (i-(a.length-b.length)) 0)
 split
 ·exact Xd (L9 _ _) (by omega)
 rw [Int.sub_zero]; omega
set_option maxRecDepth 20000 in
theorem An {a0 b res:List Int} {n:Nat} (hb0:0<b.length) (hb1:b.length≤1000) (hbb0:Bd 9000000 b) (hrun:RRun b n a0 res):Za Tryz.prog 183 [.one (Zp ((zp a0))),.one (Zp ((zp b)))] (.one (Zp ((zp res)))):=by
 refine X4 tt 3 [] Tryz.func183 Tryz.ntmps183 rfl rfl rfl ?_
 refine Qf tt 0 [] (Qh (m:=b.length) Jy rfl (by rw [Q6,Ze]) rfl) rfl ?_
 refine Qf tt 0 [] (Z9 (r:=((b.length-1:Nat):Int)) rfl rfl (Qm (by omega) (by omega)) rfl) rfl ?_
 refine Qf tt 2 [] (Qi (b.length-1) Jy Ua rfl rfl (rfl) (Qg (Ya (by omega))) rfl rfl) rfl ?_
 refine Zn (Qn B5 rfl rfl fun g1=>ko ?_)
 refine Xu tt 2 [0,0] rfl ?_
 refine Zn (Qn B5 rfl rfl fun g2=>ko ?_)
 refine Xu tt 3 [0,0] rfl ?_
 refine X5 (fun _ k_=>Vn (ys:=ri (((Q0 b).natAbs:Nat):Int)) 0 rfl rfl (Qpd _).symm (Qo k_)) rfl ?_
 refine Qq tt rfl ?_
 refine Qj [0,1,5,6] rfl rfl ?_
 refine Zl (fun m L B=>∃ k a,RRun b k a res∧m=k∧L=[(0,.one (Zp ((zp a)))),(1,.one (Zp ((zp b)))),(5,.one (.ow g1 0)),(6,.one (.ow g2 0))]∧B=[.blk g2 32 [dl ((dig ((((Q0 b).natAbs:Nat):Int)).natAbs)),sg ((((Q0 b).natAbs:Nat):Int))],.blk g1 32 [dl ((dig (Q0 b).natAbs)),sg (Q0 b)]]) (m:=_) ⟨n,a0,hrun,rfl,rfl,rfl⟩ ?_
 rintro m L B ⟨k,a,hp0,hm,rfl,rfl⟩
 refine Qq tt rfl ?_
 rcases hp0.inv with ⟨hk,hr,hlt0⟩ | ⟨j,hk,hba,hal,hab,hbb,hrj⟩
 ·skip
  refine Qr tt 1 rfl ?_
  refine Qf tt 1 [] (Qh (m:=a.length) Jy rfl (by rw [Q6,Ze]) rfl) rfl ?_
  refine Qf tt 1 [] (Qh (m:=b.length) Jy rfl (by rw [Q6,Ze]) rfl) rfl ?_
  refine Z8 tt 2 [] (decide_eq_false (by omega)) rfl rfl ?_
  exact Xp tt [] rfl (by rw [hr])
 have hb1:=hb0
 refine Qr tt 1 rfl ?_
 refine Qf tt 1 [] (Qh (m:=a.length) Jy rfl (by rw [Q6,Ze]) rfl) rfl ?_
 refine Qf tt 1 [] (Qh (m:=b.length) Jy rfl (by rw [Q6,Ze]) rfl) rfl ?_
 refine Xh tt 1 [] (decide_eq_true (by omega)) rfl rfl ?_
 refine Qf tt 1 [] (Qh (m:=a.length) Jy rfl (by rw [Q6,Ze]) rfl) rfl ?_
 refine Qf tt 0 [] (Qh (m:=b.length) Jy rfl (by rw [Q6,Ze]) rfl) rfl ?_
 refine Qf tt 3 [] (Z9 (r:=((a.length-b.length:Nat):Int)) rfl rfl (Qm (by omega) (by omega)) rfl) rfl ?_
 refine Qf tt 0 [] (Qh (m:=a.length) Jy rfl (by rw [Q6,Ze]) rfl) rfl ?_
 refine Qf tt 0 [] (Z9 (r:=((a.length-1:Nat):Int)) rfl rfl (Qm (by omega) (by omega)) rfl) rfl ?_
 refine Qf tt 2 [] (Qi (a.length-1) Jy Ua rfl rfl (rfl) (Qg (Ya (by omega))) rfl rfl) rfl ?_
 refine Zn (Qn B5 rfl rfl fun g3=>ko ?_)
 refine Xu tt 3 [0,2] rfl ?_
 refine Ml 1 (fun L B=>∃ top,top=B9 a b∧L=[(0,.one (Zp ((zp a)))),(1,.one (Zp ((zp b)))),(5,.one (.ow g1 0)),(6,.one (.ow g2 0)),(7,.one (.int .i64 (((a.length-b.length:Nat):Int)))),(8,.one (.ow g3 0))]∧B=[.blk g3 32 [dl ((dig (top).natAbs)),sg top],.blk g2 32 [dl ((dig ((((Q0 b).natAbs:Nat):Int)).natAbs)),sg ((((Q0 b).natAbs:Nat):Int))],.blk g1 32 [dl ((dig (Q0 b).natAbs)),sg (Q0 b)]]) ?_ rfl ?_
 ·skip
  refine Qq tt rfl ?_
  refine kif rfl (fun hb_if2=>?_) (fun hb_if2=>?_)
  ·try simp only [decide_eq_true_eq,decide_eq_false_iff_not,Vc,Vb] at hb_if2
   refine Xu tt 1 [0] rfl ?_
   refine kl tt 1 [0] qUz rfl rfl rfl (Wm (z:=Q0 a) (Xd (Zy hab _) (by omega))) rfl rfl ?_
   refine Qj [0,1,5,6,7,8] rfl rfl ?_
   refine Q8 ?_
   exact ⟨(-(Q0 a)),by unfold B9; rw [if_pos hb_if2],rfl,rfl⟩
  try simp only [decide_eq_true_eq,decide_eq_false_iff_not,Vc,Vb] at hb_if2
  refine Qq tt rfl ?_
  refine Qj [0,1,5,6,7,8] rfl rfl ?_
  refine Q8 ?_
  exact ⟨Q0 a,by unfold B9; rw [if_neg hb_if2],rfl,rfl⟩
 rintro L B ⟨top,htp0,rfl,rfl⟩
 refine Qq tt rfl ?_
 have htop:=htp0
 skip
 refine Qr tt 2 rfl ?_
 refine Qf tt 1 [] (Qh (m:=a.length) Jy rfl (by rw [Q6,Ze]) rfl) rfl ?_
 refine X5 (fun _ k_=>Xy [9] 34 4 rfl (Zc rfl) rfl (Qo k_)) rfl ?_
 refine Qj [0,1,5,6,7,8,43,9,44] rfl rfl ?_
 refine Zl (fun m L B=>∃ i r,i≤a.length∧m=a.length-i∧L=[(0,.one (Zp ((zp a)))),(1,.one (Zp ((zp b)))),(5,.one (.ow g1 0)),(6,.one (.ow g2 0)),(7,.one (.int .i64 (((a.length-b.length:Nat):Int)))),(8,.one (.ow g3 0)),(43,.one (.int .i64 (((a.length:Nat):Int)))),(9,.one (.orow r 4 0 i)),(44,.one (.int .i64 (((i:Nat):Int))))]∧B=[.row r 34 4 ((W2 (fun i=>((W1 a b i:Int):Rat)) i).map rr),.blk g3 32 [dl ((dig (top).natAbs)),sg top],.blk g2 32 [dl ((dig ((((Q0 b).natAbs:Nat):Int)).natAbs)),sg ((((Q0 b).natAbs:Nat):Int))],.blk g1 32 [dl ((dig (Q0 b).natAbs)),sg (Q0 b)]]) (m:=_) ⟨0,none,K6 _,rfl,rfl,rfl⟩ ?_
 rintro m L B ⟨i,r,hp0,hm,rfl,rfl⟩
 refine Qq tt rfl ?_
 by_cases hlt:i<a.length
 ·have ha_:=Zy hab i
  have hb_:=Zy hbb (i-(a.length-b.length))
  have hl_:Xj (((Q0 b).natAbs:Nat):Int)≤9000000:=Zy hbb _
  have ht_:Xj top≤9000000:=by rw [htop]; exact Qkr hab
  have hm_:=Xl (a.getD i 0) (((Q0 b).natAbs:Nat):Int)
  have hn_:=Xl top (b.getD (i-(a.length-b.length)) 0)
  have hd_:=L9 (a.getD i 0*(((Q0 b).natAbs:Nat):Int)) (top*b.getD (i-(a.length-b.length)) 0)
  by_cases hki:(a.length-b.length)≤i
  refine Qq tt rfl ?_
  ·have hF:W1 a b i=a.getD i 0*(((Q0 b).natAbs:Nat):Int)-top*b.getD (i-(a.length-b.length)) 0:=by unfold W1; rw [if_pos hki,htop]
   refine Qr tt 1 rfl ?_
   refine Xh tt 2 [] (decide_eq_true (by omega)) rfl rfl ?_
   refine kc (U3 Qp 8 [47,48,49,50,51,52,53,11] [[],[],[0,1],[2],[3],[],[4,5],[]] [.one (Zp ((zp a))),.one (.int .i64 (((i:Nat):Int))),.one (.sh [dl ((dig (List.getD a i 0).natAbs)),sg (List.getD a i 0),dl ((dig (((((List.getD a i 0:Int):Rat)).den:Int)).natAbs)),sg (((((List.getD a i 0:Int):Rat)).den:Int))]),.one (.sh [dl ((dig (List.getD a i 0).natAbs)),sg (List.getD a i 0),dl ((dig (((((List.getD a i 0:Int):Rat)).den:Int)).natAbs)),sg (((((List.getD a i 0:Int):Rat)).den:Int))]),.agg [dl ((dig (List.getD a i 0).natAbs)),sg (List.getD a i 0)],.agg [dl ((dig ((((Q0 b).natAbs:Nat):Int)).natAbs)),sg ((((Q0 b).natAbs:Nat):Int))],.agg [dl ((dig (((List.getD a i 0)*((((Q0 b).natAbs:Nat):Int)))).natAbs)),sg (((List.getD a i 0)*((((Q0 b).natAbs:Nat):Int))))],.un] [(7,32,[.slice none 0 0,.bool false])] [[.nils,.bool false]] rfl rfl rfl (by decide) ⟨rfl,trivial⟩ rfl ⟨Qv rfl rfl,Qv rfl rfl,Qi (i) Jy Ua rfl rfl (rfl) (Qg (Ya (hlt))) rfl rfl,J0 Qjv rfl rfl rfl,Zq qFr qFj rfl rfl rfl rfl,Xb 2 qFr qFj rfl rfl rfl rfl rfl,Zu qWs rfl rfl rfl rfl (Jo (a:=(List.getD a i 0)) (b:=((((Q0 b).natAbs:Nat):Int))) (Xd (Zy hab i) (by omega)) (by rw [show Xj (((Q0 b).natAbs:Nat):Int)=Xj (Q0 b) from rfl]; exact Xd (Zy hbb _) (by omega))) rfl,Vr B5 rfl,trivial⟩ fun g4=>⟨_,_,rfl,rfl,kn ?_⟩)
   refine Xu tt 4 [0] rfl ?_
   refine Xh tt 0 [] (decide_eq_true (by omega)) rfl rfl ?_
   refine Qy 10 Qp rfl rfl rfl ?_
   refine Xu tt 5 [0,2] rfl ?_
   refine kd (Z9 (r:=((i-(a.length-b.length):Nat):Int)) rfl rfl (Qm (by omega) (by omega)) rfl) rfl ?_
   refine Qq tt rfl ?_
   refine kd (Qi (i-(a.length-b.length)) Jy Ua rfl rfl (rfl) (Qg (Ya (by omega))) rfl rfl) rfl ?_
   refine Qr tt 2 rfl ?_
   refine Yv tt 0 [] qWs rfl rfl rfl (Jo (a:=top) (b:=b.getD (i-(a.length-b.length)) 0) (by omega) (by omega)) rfl rfl ?_
   refine kl tt 1 [0] Tryz.func262 rfl rfl rfl (Qah (a:=a.getD i 0*(((Q0 b).natAbs:Nat):Int)) (b:=top*b.getD (i-(a.length-b.length)) 0) (by omega) (by omega)) rfl rfl ?_
   refine Qy 5 Qp rfl rfl rfl ?_
   refine Xu tt 2 [0] rfl ?_
   refine Yv tt 0 [] qWv rfl rfl rfl (Yq (n:=1) (by omega)) rfl rfl ?_
   refine Yv tt 1 [] qUk rfl rfl rfl (Ke (z:=a.getD i 0*(((Q0 b).natAbs:Nat):Int)-top*b.getD (i-(a.length-b.length)) 0) (by omega)) rfl rfl ?_
   refine Qq tt rfl ?_
   refine Zn (Zg (ls2:=(W2 (fun i=>((W1 a b i:Int):Rat)) (i+1)).map rr) (m2:=i+1) 1 Jy Jy qUc rfl rfl Ua Tz rfl rfl rfl rfl rfl rfl rfl (by rw [Zr,Xo]; omega) (Js rfl) (Jx rfl) (by show _+1<_; omega) (by rw [Y0 (by rw [Zr,Xo]; exact X2 _),G2,F6]; exact congrArg (fun (z:Int)=>List.map rr (W2 (fun i=>((W1 a b i:Int):Rat)) i)++[rr (z:Rat)]) hF.symm) (rfl) fun r5=>ko ?_)
   refine Qr tt 1 rfl ?_
   refine Qf tt 1 [] (Zb (r:=((i+1:Nat):Int)) rfl rfl (Qm (by omega) (by omega)) rfl) rfl ?_
   refine Qj [0,1,5,6,7,8,43,9,44] rfl rfl ?_
   refine Yt 1 rfl rfl ?_
   refine Q8 ?_
   refine ⟨_,?_,i+1,r5,by omega,rfl,rfl,rfl⟩
   omega
  have hF:W1 a b i=a.getD i 0*(((Q0 b).natAbs:Nat):Int):=by unfold W1; rw [if_neg hki]; omega
  refine Qr tt 1 rfl ?_
  refine Xh tt 2 [] (decide_eq_true (by omega)) rfl rfl ?_
  refine kc (U3 Qp 8 [47,48,49,50,51,52,53,11] [[],[],[0,1],[2],[3],[],[4,5],[]] [.one (Zp ((zp a))),.one (.int .i64 (((i:Nat):Int))),.one (.sh [dl ((dig (List.getD a i 0).natAbs)),sg (List.getD a i 0),dl ((dig (((((List.getD a i 0:Int):Rat)).den:Int)).natAbs)),sg (((((List.getD a i 0:Int):Rat)).den:Int))]),.one (.sh [dl ((dig (List.getD a i 0).natAbs)),sg (List.getD a i 0),dl ((dig (((((List.getD a i 0:Int):Rat)).den:Int)).natAbs)),sg (((((List.getD a i 0:Int):Rat)).den:Int))]),.agg [dl ((dig (List.getD a i 0).natAbs)),sg (List.getD a i 0)],.agg [dl ((dig ((((Q0 b).natAbs:Nat):Int)).natAbs)),sg ((((Q0 b).natAbs:Nat):Int))],.agg [dl ((dig (((List.getD a i 0)*((((Q0 b).natAbs:Nat):Int)))).natAbs)),sg (((List.getD a i 0)*((((Q0 b).natAbs:Nat):Int))))],.un] [(7,32,[.slice none 0 0,.bool false])] [[.nils,.bool false]] rfl rfl rfl (by decide) ⟨rfl,trivial⟩ rfl ⟨Qv rfl rfl,Qv rfl rfl,Qi (i) Jy Ua rfl rfl (rfl) (Qg (Ya (hlt))) rfl rfl,J0 Qjv rfl rfl rfl,Zq qFr qFj rfl rfl rfl rfl,Xb 2 qFr qFj rfl rfl rfl rfl rfl,Zu qWs rfl rfl rfl rfl (Jo (a:=(List.getD a i 0)) (b:=((((Q0 b).natAbs:Nat):Int))) (Xd (Zy hab i) (by omega)) (by rw [show Xj (((Q0 b).natAbs:Nat):Int)=Xj (Q0 b) from rfl]; exact Xd (Zy hbb _) (by omega))) rfl,Vr B5 rfl,trivial⟩ fun g6=>⟨_,_,rfl,rfl,kn ?_⟩)
  refine Xu tt 4 [0] rfl ?_
  refine Z8 tt 0 [] (decide_eq_false (by omega)) rfl rfl ?_
  refine Qy 5 Qp rfl rfl rfl ?_
  refine Xu tt 2 [0] rfl ?_
  refine Yv tt 0 [] qWv rfl rfl rfl (Yq (n:=1) (by omega)) rfl rfl ?_
  refine Yv tt 1 [] qUk rfl rfl rfl (Ke (z:=a.getD i 0*(((Q0 b).natAbs:Nat):Int)) (by omega)) rfl rfl ?_
  refine Qq tt rfl ?_
  refine Zn (Zg (ls2:=(W2 (fun i=>((W1 a b i:Int):Rat)) (i+1)).map rr) (m2:=i+1) 1 Jy Jy qUc rfl rfl Ua Tz rfl rfl rfl rfl rfl rfl rfl (by rw [Zr,Xo]; omega) (Js rfl) (Jx rfl) (by show _+1<_; omega) (by rw [Y0 (by rw [Zr,Xo]; exact X2 _),G2,F6]; exact congrArg (fun (z:Int)=>List.map rr (W2 (fun i=>((W1 a b i:Int):Rat)) i)++[rr (z:Rat)]) hF.symm) (rfl) fun r7=>ko ?_)
  refine Qr tt 1 rfl ?_
  refine Qf tt 1 [] (Zb (r:=((i+1:Nat):Int)) rfl rfl (Qm (by omega) (by omega)) rfl) rfl ?_
  refine Qj [0,1,5,6,7,8,43,9,44] rfl rfl ?_
  refine Yt 1 rfl rfl ?_
  refine Q8 ?_
  refine ⟨_,?_,i+1,r7,by omega,rfl,rfl,rfl⟩
  omega
 have hin:i=a.length:=by omega
 refine Qr tt 1 rfl ?_
 refine Z8 tt 1 [] (decide_eq_false (by omega)) rfl rfl ?_
 refine X5 (fun _ k_=>Xe 0 [75] rfl (Zc rfl) (by rw [Zr,Xo]) (by rw [Zr,Xo]; omega) rfl (Qo k_)) rfl ?_
 refine Qq tt rfl ?_
 refine kl tt 1 [] qFf rfl rfl rfl ((by have h:=Wd (p:=W2 (fun i=>((W1 a b i:Int):Rat)) i) (Pw fun i _=>W0 (Xd (Qpk hab hbb i) (by omega)) (by omega)) (by rw [Xo]; omega); rw [Qp6,Fi,hin] at h; rw [hin,Qp6]; exact h)) rfl rfl ?_
 refine Qj [0,1,5,6] rfl rfl ?_
 refine Yt 0 rfl rfl ?_
 refine Q8 ?_
 refine ⟨_,?_,j,(Qgg a b),hrj,rfl,rfl,rfl⟩
 omega
theorem Qho:Za Tryz.prog 228 [.agg (ri 1),.agg (ri 1)] (.agg (ri 1)):=Jo (a:=1) (b:=1) (by decide) (by decide)
theorem Qe3 {z:Int} (hz:Xj z≤90000000):Za Tryz.prog 228 [.agg (ri z),.agg (ri 1)] (.agg (ri z)):=by
 have h:=Jo (a:=z) (b:=1) (by omega) (by decide)
 rwa [Int.mul_one] at h
theorem Dp {z:Int} (hz:Xj z≤90000000):Za Tryz.prog 178 [.agg (ri z),.agg (ri 1)] (.agg (ri z)):=by
 have h:=Kx (a:=z) (b:=1) hz (by decide) (by decide) (Int.emod_one z)
 rwa [Int.ediv_one] at h
theorem Do {z:Int} (hz:Xj z≤90000000):Za Tryz.prog 102 [.agg (rr (z:Rat))] (.agg (rr ((-z:Int):Rat))):=by
 have h:=Qhn (W0 (s:=100000000) (z:=z) (by omega) (by omega))
 rwa [←Rat.intCast_neg] at h
theorem Qvo {c:Int} (hc:c≠0) (hs:Xj c≤9000000):Qs 40000000 (((1:Int):Rat) / (c:Rat)):=by
 have h0:(c:Rat)≠0:=fun e=>hc (by exact_mod_cast e)
 rw [←Qbl h0]
 unfold Qz
 rw [if_neg (qYw (Uk _) (fun e=>hc (by simpa using e)))]
 refine Qs.divInt (by show Xj (1*1)≤_; decide) ?_ (by decide)
 show Xj (1*c)≤_
 rw [Int.one_mul]; omega
theorem Aj {p:List Int} {c:Int} (hc:c≠0) (hs:Xj c≤9000000) (hd:∀ j,c∣p.getD j 0) (hp:Bd 9000000 p) (hl:p.length≤1000):Za Tryz.prog 215 [.one (Zp (zp p)),.agg (rr (((1:Int):Rat) / (c:Rat)))] (.one (Zp (zp (W6 p.length fun i=>p.getD i 0 / c)))):=by
 have h:=Wn ((S2 hp (by omega)).mono (by omega)) (Qvo hc hs) (by rw [Ze]; omega)
 rwa [show ((1:Int):Rat)=1 from rfl,Qit hc hd] at h
set_option maxRecDepth 20000 in
theorem Tq {p:List Int} (tp:Yw p) (hp:Bd 9000000 p) (hl:p.length≤1000):Za Tryz.prog 261 [.one (Zp ((zp p)))] (.tup [.agg [dl ((dig (Ux p).natAbs)),sg (Ux p),dl ((dig (((((Ux p:Int):Rat)).den:Int)).natAbs)),sg (((((Ux p:Int):Rat)).den:Int))],.one (Zp ((zp ((Vm p)))))]):=by
 refine X4 tt 0 [] Tryz.func261 Tryz.ntmps261 rfl rfl rfl ?_
 rcases Hl p.length with h0 | h0
 ·have hpn:=P5 h0
  refine Qq tt rfl ?_
  refine Zn (Qn Tz rfl rfl fun g1=>ko ?_)
  refine Qr tt 2 rfl ?_
  refine Qf tt 1 [] (Qh (m:=p.length) Jy rfl (by rw [Q6,Ze]) rfl) rfl ?_
  refine Xh tt 0 [] (decide_eq_true (by omega)) rfl rfl ?_
  refine kl tt 2 [0] qGo rfl rfl rfl (G8) rfl rfl ?_
  exact kr2 tt [0] rfl (by rw [hpn]; rfl)
 skip
 refine Qq tt rfl ?_
 refine Zn (Qn Tz rfl rfl fun g2=>ko ?_)
 refine Qr tt 2 rfl ?_
 refine Qf tt 1 [] (Qh (m:=p.length) Jy rfl (by rw [Q6,Ze]) rfl) rfl ?_
 refine Z8 tt 0 [] (decide_eq_false (by omega)) rfl rfl ?_
 refine kw (Zu qWv rfl rfl rfl rfl (Yq (n:=1) (by omega)) rfl) ?_
 refine Zn (Qn B5 rfl rfl fun g3=>ko ?_)
 refine Xu tt 2 [0] rfl ?_
 refine Qf tt 1 [] (Qh (m:=p.length) Jy rfl (by rw [Q6,Ze]) rfl) rfl ?_
 refine Qj [0,2,4,15,16] rfl rfl ?_
 refine Zl (fun m L B=>∃ i,i≤p.length∧m=p.length-i∧L=[(0,.one (Zp ((zp p)))),(2,.one (.ow g2 0)),(4,.one (.ow g3 0)),(15,.one (.int .i64 (((p.length:Nat):Int)))),(16,.one (.int .i64 (((i:Nat):Int))))]∧B=[.blk g3 32 [dl ((dig ((1:Int)).natAbs)),sg ((1:Int))],.blk g2 34 [.nils,.bool false,.nils,.bool false]]) (m:=_) ⟨0,K6 _,rfl,rfl,rfl⟩ ?_
 rintro m L B ⟨i,hp0,hm,rfl,rfl⟩
 refine Qq tt rfl ?_
 by_cases hlt:i<p.length
 ·skip
  refine Qr tt 1 rfl ?_
  refine Xh tt 2 [] (decide_eq_true (by omega)) rfl rfl ?_
  refine Qy 13 Qp rfl rfl rfl ?_
  refine Xu tt 3 [0] rfl ?_
  refine kd (Qi (i) Jy Ua rfl rfl (rfl) (Qg (Ya (hlt))) rfl rfl) rfl ?_
  refine Qr tt 2 rfl ?_
  refine Yv tt 3 [0] qWs rfl rfl rfl (Qho) rfl rfl ?_
  refine kd (Qi (i) Jy Ua rfl rfl (rfl) (Qg (Ya (hlt))) rfl rfl) rfl ?_
  refine Qr tt 2 rfl ?_
  refine Qq tt rfl ?_
  refine kl tt 0 [] qFm rfl rfl rfl (Fn (a:=1) (b:=1) (by decide) (by decide)) rfl rfl ?_
  refine kl tt 1 [0] qUs rfl rfl rfl (Dp (z:=1) (by decide)) rfl rfl ?_
  refine Qf tt 1 [] (Zb (r:=((i+1:Nat):Int)) rfl rfl (Qm (by omega) (by omega)) rfl) rfl ?_
  refine Qj [0,2,4,15,16] rfl rfl ?_
  refine Q8 ?_
  refine ⟨_,?_,i+1,by omega,rfl,rfl,rfl⟩
  omega
 skip
 refine Qr tt 1 rfl ?_
 refine Z8 tt 0 [] (decide_eq_false (by omega)) rfl rfl ?_
 refine Zn (Qn B5 rfl rfl fun g4=>ko ?_)
 refine Qr tt 1 rfl ?_
 refine Qf tt 1 [] (Qh (m:=p.length) Jy rfl (by rw [Q6,Ze]) rfl) rfl ?_
 refine X5 (fun _ k_=>Vn (ys:=ri ((U6 p 0:Nat):Int)) 0 rfl rfl ri_zero.symm (Qo k_)) rfl ?_
 refine Qj [0,2,4,6,36,37] rfl rfl ?_
 refine Zl (fun m L B=>∃ i,i≤p.length∧m=p.length-i∧L=[(0,.one (Zp ((zp p)))),(2,.one (.ow g2 0)),(4,.one (.ow g3 0)),(6,.one (.ow g4 0)),(36,.one (.int .i64 (((p.length:Nat):Int)))),(37,.one (.int .i64 (((i:Nat):Int))))]∧B=[.blk g4 32 [dl ((dig (((U6 p i:Nat):Int)).natAbs)),sg (((U6 p i:Nat):Int))],.blk g3 32 [dl ((dig ((1:Int)).natAbs)),sg ((1:Int))],.blk g2 34 [.nils,.bool false,.nils,.bool false]]) (m:=_) ⟨0,K6 _,rfl,rfl,rfl⟩ ?_
 rintro m L B ⟨i,hp0,hm,rfl,rfl⟩
 refine Qq tt rfl ?_
 by_cases hlt:i<p.length
 ·skip
  refine Qr tt 1 rfl ?_
  refine Xh tt 2 [] (decide_eq_true (by omega)) rfl rfl ?_
  refine Qy 14 Qp rfl rfl rfl ?_
  refine Xu tt 3 [0] rfl ?_
  refine kd (Qi (i) Jy Ua rfl rfl (rfl) (Qg (Ya (hlt))) rfl rfl) rfl ?_
  refine Xu tt 3 [1] rfl ?_
  refine Yv tt 2 [] qWs rfl rfl rfl (Qe3 (z:=p.getD i 0) (Xd (Zy hp i) (by omega))) rfl rfl ?_
  refine kd (Qi (i) Jy Ua rfl rfl (rfl) (Qg (Ya (hlt))) rfl rfl) rfl ?_
  refine Qr tt 2 rfl ?_
  refine Yv tt 0 [] qUs rfl rfl rfl (Dp (z:=p.getD i 0) (Xd (Zy hp i) (by omega))) rfl rfl ?_
  refine kl tt 1 [0] qFm rfl rfl rfl (Fn (a:=((U6 p i:Nat):Int)) (b:=p.getD i 0) (Xd (Rf hp i) (by omega)) (Xd (Zy hp i) (by omega))) rfl rfl ?_
  refine Qf tt 1 [] (Zb (r:=((i+1:Nat):Int)) rfl rfl (Qm (by omega) (by omega)) rfl) rfl ?_
  refine Qj [0,2,4,6,36,37] rfl rfl ?_
  refine Q8 ?_
  refine ⟨_,?_,i+1,by omega,rfl,rfl,rfl⟩
  omega
 have hin:i=p.length:=by omega
 refine Qr tt 1 rfl ?_
 refine Z8 tt 2 [0,1] (decide_eq_false (by omega)) rfl rfl ?_
 refine kw (Zu qUk rfl rfl rfl rfl (Ke (z:=((U6 p i:Nat):Int)) (Xd (Rf hp i) (by omega))) rfl) ?_
 refine Zn (Qn Tz rfl rfl fun g5=>ko ?_)
 refine Xu tt 3 [0] rfl ?_
 refine Qf tt 0 [] (Qh (m:=p.length) Jy rfl (by rw [Q6,Ze]) rfl) rfl ?_
 refine Qf tt 0 [] (Z9 (r:=((p.length-1:Nat):Int)) rfl rfl (Qm (by omega) (by omega)) rfl) rfl ?_
 refine Qf tt 3 [] (Qi (p.length-1) Jy Ua rfl rfl (rfl) (Qg (Ya (by omega))) rfl rfl) rfl ?_
 refine Ml 1 (fun L B=>∃ c,c=Ux p∧L=[(0,.one (Zp ((zp p)))),(2,.one (.ow g2 0)),(8,.one (.ow g5 0))]∧B=[.blk g5 34 [dl ((dig (c).natAbs)),sg c,dl ((dig (((((c:Int):Rat)).den:Int)).natAbs)),sg (((((c:Int):Rat)).den:Int))],.blk g2 34 [.nils,.bool false,.nils,.bool false]]) ?_ rfl ?_
 ·skip
  refine Qq tt rfl ?_
  refine kif rfl (fun hb_if4=>?_) (fun hb_if4=>?_)
  ·try simp only [decide_eq_true_eq,decide_eq_false_iff_not,Vc,Vb] at hb_if4
   replace hb_if4:Q0 p<0:=hb_if4
   refine Xu tt 1 [0] rfl ?_
   refine kl tt 1 [0] Tryz.func102 rfl rfl rfl (Do (z:=((U6 p i:Nat):Int)) (Xd (Rf hp i) (by omega))) rfl rfl ?_
   refine Qj [0,2,8] rfl rfl ?_
   refine Yt 1 rfl rfl ?_
   refine Yt 1 rfl rfl ?_
   refine Q8 ?_
   exact ⟨-((U6 p i:Nat):Int),by unfold Ux Qeo; rw [if_pos hb_if4,←hin],rfl,rfl⟩
  try simp only [decide_eq_true_eq,decide_eq_false_iff_not,Vc,Vb] at hb_if4
  replace hb_if4:¬Q0 p<0:=hb_if4
  refine Qq tt rfl ?_
  refine Qj [0,2,8] rfl rfl ?_
  refine Yt 1 rfl rfl ?_
  refine Yt 1 rfl rfl ?_
  refine Q8 ?_
  exact ⟨((U6 p i:Nat):Int),by unfold Ux Qeo; rw [if_neg hb_if4,←hin],rfl,rfl⟩
 rintro L B ⟨c,hcp0,rfl,rfl⟩
 refine Qq tt rfl ?_
 have hci:=Ql8 hp
 rw [←hcp0] at hci
 have hcn:=Qos tp h0
 rw [←hcp0] at hcn
 have hcd:=Ql7 p
 rw [←hcp0] at hcd
 skip
 refine Qq tt rfl ?_
 refine Qy 6 Qp rfl rfl rfl ?_
 refine Xu tt 2 [0] rfl ?_
 refine Yv tt 1 [0] qGa rfl rfl rfl (Cq (n:=1) (by omega)) rfl rfl ?_
 refine Yv tt 0 [] Tryz.func218 rfl rfl rfl (Ah (a:=((1:Int):Rat)) (b:=((c:Int):Rat)) (W0 (by decide) (by decide)) (W0 (Xd hci (by omega)) (by omega)) (fun e=>hcn (by exact_mod_cast e))) rfl rfl ?_
 refine Yv tt 2 [1] qFo rfl rfl rfl (Aj (p:=p) (c:=c) hcn hci hcd hp hl) rfl rfl ?_
 exact kr2 tt [1] rfl (by rw [hcp0]; rfl)
theorem Wc {p:List Int} (tp:Yw p) (hp:Bd 9000000 p) (hl:p.length≤1000):Za Tryz.prog 279 [.one (Zp ((zp p)))] (.one (Zp ((zp ((Vm p)))))):=by
 refine X4 tt 2 [] qFq Tryz.ntmps279 rfl rfl rfl ?_
 refine kl tt 3 [] Tryz.func261 rfl rfl rfl (Tq tp hp hl) rfl rfl ?_
 refine Zn (Qn Tz rfl rfl fun g1=>ko ?_)
 refine Xu tt 4 [0] rfl ?_
 exact Xp tt [] rfl (rfl)
theorem Qbd {p:List Int} (tp:Yw p):Ux p<0↔Q0 p<0:=by
 unfold Ux
 rcases Hl p.length with h0 | h0
 ·have:=P5 h0; subst this; decide
 have:=Qeq tp h0
 split <;> omega
theorem N5 {p:List Int} (tp:Yw p) (hp:Bd 9000000 p) (hl:p.length≤1000):Za Tryz.prog 181 [.one (Zp ((zp p)))] (.one (Zp ((zp ((Fw p)))))):=by
 refine X4 tt 2 [] Tryz.func181 Tryz.ntmps181 rfl rfl rfl ?_
 refine kl tt 3 [] Tryz.func261 rfl rfl rfl (Tq tp hp hl) rfl rfl ?_
 refine Zn (Qn Tz rfl rfl fun g1=>ko ?_)
 refine Xu tt 5 [0,0] rfl ?_
 refine kif rfl (fun hb_if1=>?_) (fun hb_if1=>?_)
 ·try simp only [decide_eq_true_eq,decide_eq_false_iff_not,Vc,Vb] at hb_if1
  refine Qr tt 1 rfl ?_
  refine kl tt 1 [] Tryz.func182 rfl rfl rfl (Am (p:=(Vm p)) (Q7 (E0 hp) (by omega)) (Xd (C0 p) (by omega))) rfl rfl ?_
  exact Xp tt [] rfl (by unfold Fw; rw [if_pos ((Qbd tp).1 hb_if1)])
 try simp only [decide_eq_true_eq,decide_eq_false_iff_not,Vc,Vb] at hb_if1
 refine Qr tt 2 rfl ?_
 exact Xp tt [] rfl (by unfold Fw; rw [if_neg fun h=>hb_if1 ((Qbd tp).2 h)])
end Orr

namespace Orr
open Go
variable {P:Program} {ops:Array Oper} {n d:Nat} {rest:List Oper} {N:Sg→List OB→Prop} {L:Sg} {B:List OB} {ty:TypeId} {pos:String} {after:Array Edge}
theorem Qbc (i:Nat) {T E sz:Nat} {x y z:Operand} {kd kd':IntKind} {p q:Int} {l l':List (List LV)} (hu:∀ w,(underlying T).run P w=.ok (.slice E) w) (hs:∀ w,(Go.sizeOf E).run P w=.ok sz w) (hx:J3 L x=some (.one (.row l))) (hy:J3 L y=some (.one (.int kd p))) (hz:J3 L z=some (.one (.int kd' q))) (hp:p=(i:Int)) (hq:q=(i:Int)) (hi:i≤l.length) (hsz:∀ z∈l,z.length=sz) (hl':l.take i=l') (hd:Nat.blt d n=true) :
    AP P ops n { dst:=some d,op:=.slice T x none (some y) (some z),type:=ty,pos:=pos,after:=after,guard:=none } d (.one (.row l')) L B:=by
  refine Rn hd fun K Ob w0 w a Bs L' Fs h hL hB=>?_
  subst hp hq
  obtain ⟨v,hv,hr⟩:=Zt hL hx
  obtain ⟨u,hu',hr2⟩:=Zt hL hy
  obtain ⟨u3,hu3,hr3⟩:=Zt hL hz
  obtain rfl:=Xn hr2
  obtain rfl:=Xn hr3
  obtain ⟨A,c,rfl,hc,hr'⟩:=C9 hr
  have key:=Iz (lo:=0) (hi:=i) (c':=i) hr' (K6 _) hi (.inr rfl) hsz (l':=l') (by rw [qXf,qYg]; exact hl')
  refine ⟨.slice (if i=0 then A else A.map (·.add (0*sz))) i i,?_,show LRep w (Q3 Ob Bs) (.slice _ (i-0) (i-0)) _ from key⟩
  simp [execOp,h.ev hv,h.ev hu',h.ev hu3,Instr.sliceAt,Instr.slice,Instr.sliceBounds,hu,hs,Jd _ (show i≤c by omega),Jd _ (X2 i)]
end Orr

namespace Orr
open Go Go.Proofs
theorem Qe4 {x y:Int} (hx:Xj x≤9000000) (hy:Xj y≤9000000) (h0:y≠0) (hd:y∣x):Za Tryz.prog 218 [.agg (rr (x:Rat)),.agg (rr (y:Rat))] (.agg (rr ((x / y:Int):Rat))):=by
 have hy0:(y:Rat)≠0:=fun e=>h0 (by exact_mod_cast e)
 have h:=Ah (W0 (s:=40000000) (z:=x) (by omega) (by omega)) (W0 (s:=40000000) (z:=y) (by omega) (by omega)) hy0
 obtain ⟨k,rfl⟩:=hd
 rw [qXw _ h0]
 rwa [show (((y*k:Int):Rat)) / (y:Rat)=(k:Rat) by rw [qJq]; grind] at h
theorem N4 {p:List Int} {c:Int} (hp:Bd 40000000 p) (hc:Xj c≤40000000) (hl:p.length≤1000000):Za Tryz.prog 215 [.one (Zp (zp p)),.agg (rr (c:Rat))] (.one (Zp (zp (J8 p c)))):=by
 have h:=Wn (S2 hp (by omega)) (W0 hc (by omega)) (by rw [Ze]; exact hl)
 rwa [Qbq] at h
theorem Qs1 (k:Nat) (p:List Int):List.replicate k (rr 0)++(zp p).map rr=(zp (Gn k p)).map rr:=by simp [zp,Gn]
set_option maxRecDepth 20000 in
theorem Qcq {a0 b qf rem:List Int} {n:Nat} (hb0:0<b.length) (hb1:b.length≤1000) (hl0:a0.length≤1000) (hbb:Bd 9000000 b) (hqb:Bd 9000000 qf) (hrun:DRun b n a0 (List.replicate (a0.length+1-b.length) 0) qf rem):Za Tryz.prog 280 [.one (Zp ((zp a0))),.one (Zp ((zp b)))] (.tup [.one (Zp ((zp ((trim qf))))),.one (Zp ((zp rem)))]):=by
 refine X4 tt 3 [] Tryz.func280 Tryz.ntmps280 rfl rfl rfl ?_
 refine Qf tt 1 [] (Qh (m:=a0.length) Jy rfl (by rw [Q6,Ze]) rfl) rfl ?_
 refine Qf tt 0 [] (Qh (m:=b.length) Jy rfl (by rw [Q6,Ze]) rfl) rfl ?_
 refine Qf tt 0 [] (Z9 (r:=(((a0.length:Nat):Int)-((b.length:Nat):Int))) rfl rfl (Qm (by omega) (by omega)) rfl) rfl ?_
 refine Qf tt 0 [] (Zb (r:=(((a0.length:Nat):Int)-((b.length:Nat):Int)+1)) rfl rfl (Qm (by omega) (by omega)) rfl) rfl ?_
 refine kw (Io (r:=(((a0.length+1-b.length):Nat):Int)) rfl rfl (by omega) rfl) ?_
 refine Zn (G4 ((a0.length+1-b.length)) Jy qUc rfl Ua Tz rfl rfl rfl rfl rfl rfl (rfl) (rfl) (by omega) rfl fun r1=>ko ?_)
 refine X5 (fun _ k_=>G6 (ls':=List.replicate 0 (rr 0)++List.replicate ((a0.length+1-b.length)-0) zR) 0 rfl rfl (by simp) (Qo k_)) rfl ?_
 refine Qr tt 2 rfl ?_
 refine Qf tt 1 [] (Qh (m:=(a0.length+1-b.length)) Jy rfl (rfl) rfl) rfl ?_
 refine Qj [0,1,6,21,22] rfl rfl ?_
 refine Zl (fun m L B=>∃ i,i≤(a0.length+1-b.length)∧m=(a0.length+1-b.length)-i∧L=[(0,.one (Zp ((zp a0)))),(1,.one (Zp ((zp b)))),(6,.one (.orow r1 4 0 ((a0.length+1-b.length)))),(21,.one (.int .i64 ((((a0.length+1-b.length):Nat):Int)))),(22,.one (.int .i64 (((i:Nat):Int))))]∧B=[.row r1 34 4 (List.replicate i (rr 0)++List.replicate ((a0.length+1-b.length)-i) zR)]) (m:=_) ⟨0,K6 _,rfl,rfl,rfl⟩ ?_
 rintro m L B ⟨i,hp0,hm,rfl,rfl⟩
 refine Qq tt rfl ?_
 by_cases hlt0:i<(a0.length+1-b.length)
 ·skip
  refine Qr tt 1 rfl ?_
  refine Xh tt 4 [] (decide_eq_true (by omega)) rfl rfl ?_
  refine kl tt 0 [] qGo rfl rfl rfl (G8) rfl rfl ?_
  refine kw (Zi (i) Jy Ua rfl rfl (rfl) (by omega) rfl) ?_
  refine Zn (Jp (ls2:=List.replicate (i+1) (rr 0)++List.replicate ((a0.length+1-b.length)-(i+1)) zR) 0 Ua rfl rfl rfl rfl rfl rfl (Az hlt0) rfl (Qcy hlt0) (ko ?_))
  refine Qq tt rfl ?_
  refine Qf tt 1 [] (Zb (r:=((i+1:Nat):Int)) rfl rfl (Qm (by omega) (by omega)) rfl) rfl ?_
  refine Qj [0,1,6,21,22] rfl rfl ?_
  refine Q8 ?_
  refine ⟨_,?_,i+1,by omega,rfl,rfl,rfl⟩
  omega
 skip
 refine Qr tt 1 rfl ?_
 refine Z8 tt 0 [] (decide_eq_false (by omega)) rfl rfl ?_
 refine X5 (fun _ k_=>Jq (ls':=(zp (List.replicate (a0.length+1-b.length) 0)).map rr) 0 rfl (by rw [show i=(a0.length+1-b.length) by omega]; simp [zp]) (Qo k_)) rfl ?_
 refine Qj [0,1,6] rfl rfl ?_
 refine Zl (fun m L B=>∃ k a q,DRun b k a q qf rem∧q.length=(a0.length+1-b.length)∧m=k∧L=[(0,.one (Zp ((zp a)))),(1,.one (Zp ((zp b)))),(6,.one (.orow r1 4 0 ((a0.length+1-b.length))))]∧B=[.row r1 34 4 ((zp q).map rr)]) (m:=_) ⟨n,a0,_,hrun,qZn,rfl,rfl,rfl⟩ ?_
 rintro m L B ⟨k,a,q,hr0,hr1,hm,rfl,rfl⟩
 refine Qq tt rfl ?_
 rcases hr0.inv with ⟨hk,hqf,har,hlt⟩ | ⟨j,hk,hba,hal,hab,hpb,hpd,hkq,hrj⟩
 ·skip
  refine Qr tt 1 rfl ?_
  refine Qf tt 1 [] (Qh (m:=a.length) Jy rfl (by rw [Q6,Ze]) rfl) rfl ?_
  refine Qf tt 1 [] (Qh (m:=b.length) Jy rfl (by rw [Q6,Ze]) rfl) rfl ?_
  refine Z8 tt 1 [] (decide_eq_false (by omega)) rfl rfl ?_
  refine X5 (fun _ k_=>Xe 0 [81] rfl (Zc rfl) (by rw [Zr,Ze,hr1]) (by rw [Zr,Ze,hr1]; omega) rfl (Qo k_)) rfl ?_
  refine Qq tt rfl ?_
  refine kl tt 3 [] qFf rfl rfl rfl ((by rw [hqf]; have h:=Wd (p:=zp qf) ((S2 hqb (by omega)).mono (by omega)) (by rw [Ze,←hqf,hr1]; omega); rwa [Fi] at h)) rfl rfl ?_
  exact kr2 tt [] rfl (by rw [har])
 have hla:Xj (Q0 a)≤9000000:=Zy hab _
 have hlb:Xj (Q0 b)≤9000000:=Zy hbb _
 have hcs:Xj (Q0 a / Q0 b)≤9000000:=Xd (So _ _) hla
 refine Qr tt 1 rfl ?_
 refine Qf tt 1 [] (Qh (m:=a.length) Jy rfl (by rw [Q6,Ze]) rfl) rfl ?_
 refine Qf tt 1 [] (Qh (m:=b.length) Jy rfl (by rw [Q6,Ze]) rfl) rfl ?_
 refine Xh tt 1 [] (decide_eq_true (by omega)) rfl rfl ?_
 refine Qf tt 1 [] (Qh (m:=a.length) Jy rfl (by rw [Q6,Ze]) rfl) rfl ?_
 refine Qf tt 0 [] (Qh (m:=b.length) Jy rfl (by rw [Q6,Ze]) rfl) rfl ?_
 refine Qf tt 1 [] (Z9 (r:=((a.length-b.length:Nat):Int)) rfl rfl (Qm (by omega) (by omega)) rfl) rfl ?_
 refine kc (U3 Qp 14 [40,41,42,43,44,45,46,47,48,49,50,51,52,9] [[],[],[1],[2],[0,3],[4],[],[],[7],[8],[6,9],[10],[5,11],[]] [.one (Zp ((zp a))),.one (Zp ((zp a))),.one (.int .i64 (((a.length:Nat):Int))),.one (.int .i64 (((a.length-1:Nat):Int))),.one (.sh [dl ((dig (Q0 a).natAbs)),sg (Q0 a),dl ((dig (((((Q0 a:Int):Rat)).den:Int)).natAbs)),sg (((((Q0 a:Int):Rat)).den:Int))]),.agg [dl ((dig (Q0 a).natAbs)),sg (Q0 a),dl ((dig (((((Q0 a:Int):Rat)).den:Int)).natAbs)),sg (((((Q0 a:Int):Rat)).den:Int))],.one (Zp ((zp b))),.one (Zp ((zp b))),.one (.int .i64 (((b.length:Nat):Int))),.one (.int .i64 (((b.length-1:Nat):Int))),.one (.sh [dl ((dig (Q0 b).natAbs)),sg (Q0 b),dl ((dig (((((Q0 b:Int):Rat)).den:Int)).natAbs)),sg (((((Q0 b:Int):Rat)).den:Int))]),.agg [dl ((dig (Q0 b).natAbs)),sg (Q0 b),dl ((dig (((((Q0 b:Int):Rat)).den:Int)).natAbs)),sg (((((Q0 b:Int):Rat)).den:Int))],.agg [dl ((dig ((Q0 a / Q0 b)).natAbs)),sg ((Q0 a / Q0 b)),dl ((dig ((((((Q0 a / Q0 b):Int):Rat)).den:Int)).natAbs)),sg ((((((Q0 a / Q0 b):Int):Rat)).den:Int))],.un] [(13,34,[.slice none 0 0,.bool false,.slice none 0 0,.bool false])] [[.nils,.bool false,.nils,.bool false]] rfl rfl rfl (by decide) ⟨rfl,trivial⟩ rfl ⟨Qv rfl rfl,Qv rfl rfl,Qh (m:=a.length) Jy rfl (by rw [Q6,Ze]) rfl,Z9 (r:=((a.length-1:Nat):Int)) rfl rfl (Qm (by omega) (by omega)) rfl,Qi (a.length-1) Jy Ua rfl rfl (rfl) (Qg (Ya (by omega))) rfl rfl,Zq qUt Ua rfl rfl rfl rfl,Qv rfl rfl,Qv rfl rfl,Qh (m:=b.length) Jy rfl (by rw [Q6,Ze]) rfl,Z9 (r:=((b.length-1:Nat):Int)) rfl rfl (Qm (by omega) (by omega)) rfl,Qi (b.length-1) Jy Ua rfl rfl (rfl) (Qg (Ya (by omega))) rfl rfl,Zq qUt Ua rfl rfl rfl rfl,Zu Tryz.func218 rfl rfl rfl rfl (Qe4 (x:=Q0 a) (y:=Q0 b) hla hlb hpb hpd) rfl,Vr Tz rfl,trivial⟩ fun g2=>⟨_,_,rfl,rfl,kn ?_⟩)
 refine Xu tt 4 [0,0] rfl ?_
 refine kw (Zi ((a.length-b.length)) Jy Ua rfl rfl (rfl) (by omega) rfl) ?_
 refine Zn (Jp (ls2:=(zp (q.set (a.length-b.length) (Q0 a / Q0 b))).map rr) 1 Ua rfl rfl rfl rfl rfl rfl (Qui _ (by omega)) rfl (by rw [Vl]; exact Qpn _ _ _) (ko ?_))
 refine Qr tt 1 rfl ?_
 refine Zn (G4 ((a.length-b.length)) Jy qUc rfl Ua Tz rfl rfl rfl rfl rfl rfl (rfl) (rfl) (by omega) rfl fun r3=>ko ?_)
 refine X5 (fun _ k_=>G6 (ls':=List.replicate 0 (rr 0)++List.replicate ((a.length-b.length)-0) zR) 0 rfl rfl (by simp) (Qo k_)) rfl ?_
 refine Qr tt 2 rfl ?_
 refine Qf tt 1 [] (Qh (m:=(a.length-b.length)) Jy rfl (rfl) rfl) rfl ?_
 refine Qj [0,1,6,8,9,10,60,61] rfl rfl ?_
 refine Zl (fun m L B=>∃ e,e≤(a.length-b.length)∧m=(a.length-b.length)-e∧L=[(0,.one (Zp ((zp a)))),(1,.one (Zp ((zp b)))),(6,.one (.orow r1 4 0 ((a0.length+1-b.length)))),(8,.one (.int .i64 (((a.length-b.length:Nat):Int)))),(9,.one (.ow ((g2 13)) 0)),(10,.one (.orow r3 4 0 ((a.length-b.length)))),(60,.one (.int .i64 ((((a.length-b.length):Nat):Int)))),(61,.one (.int .i64 (((e:Nat):Int))))]∧B=[.row r3 34 4 (List.replicate e (rr 0)++List.replicate ((a.length-b.length)-e) zR),.row r1 34 4 ((zp (q.set (a.length-b.length) (Q0 a / Q0 b))).map rr),.blk (g2 13) 34 [dl ((dig ((Q0 a / Q0 b)).natAbs)),sg ((Q0 a / Q0 b)),dl ((dig ((((((Q0 a / Q0 b):Int):Rat)).den:Int)).natAbs)),sg ((((((Q0 a / Q0 b):Int):Rat)).den:Int))]]) (m:=_) ⟨0,K6 _,rfl,rfl,rfl⟩ ?_
 rintro m L B ⟨e,he0,hm,rfl,rfl⟩
 refine Qq tt rfl ?_
 by_cases hlt1:e<(a.length-b.length)
 ·skip
  refine Qr tt 1 rfl ?_
  refine Xh tt 4 [] (decide_eq_true (by omega)) rfl rfl ?_
  refine kl tt 0 [] qGo rfl rfl rfl (G8) rfl rfl ?_
  refine kw (Zi (e) Jy Ua rfl rfl (rfl) (by omega) rfl) ?_
  refine Zn (Jp (ls2:=List.replicate (e+1) (rr 0)++List.replicate ((a.length-b.length)-(e+1)) zR) 0 Ua rfl rfl rfl rfl rfl rfl (Az hlt1) rfl (Qcy hlt1) (ko ?_))
  refine Qq tt rfl ?_
  refine Qf tt 1 [] (Zb (r:=((e+1:Nat):Int)) rfl rfl (Qm (by omega) (by omega)) rfl) rfl ?_
  refine Qj [0,1,6,8,9,10,60,61] rfl rfl ?_
  refine Q8 ?_
  refine ⟨_,?_,e+1,by omega,rfl,rfl,rfl⟩
  omega
 have hek:e=(a.length-b.length):=by omega
 refine Qr tt 1 rfl ?_
 refine Z8 tt 0 [] (decide_eq_false (by omega)) rfl rfl ?_
 refine kc (Kl Qp 11 [69,70,71,72,73,74,75,76,77,78,79] [[],[],[1],[],[3],[0,2,4],[],[],[],[7,8],[6,9]] [.one (Zp ((zp a))),.one (Zp ((zp a))),.one (.int .i64 (((a.length:Nat):Int))),.one (Zp ((zp a))),.one (.int .i64 (((a.length:Nat):Int))),.one (Zp ((zp a))),.one (.orow r3 4 0 ((a.length-b.length))),.one (Zp ((zp b))),.agg [dl ((dig ((Q0 a / Q0 b)).natAbs)),sg ((Q0 a / Q0 b)),dl ((dig ((((((Q0 a / Q0 b):Int):Rat)).den:Int)).natAbs)),sg ((((((Q0 a / Q0 b):Int):Rat)).den:Int))],.one (Zp ((zp ((J8 b (Q0 a / Q0 b)))))),.un] 10 (fun u B=>∃ r9,u=.one (.orow r9 4 0 (((a.length-b.length)+(J8 b (Q0 a / Q0 b)).length)))∧B=[.row r9 34 4 ((zp (Gn (a.length-b.length) (J8 b (Q0 a / Q0 b)))).map rr),.row r1 34 4 ((zp (q.set (a.length-b.length) (Q0 a / Q0 b))).map rr),.blk (g2 13) 34 [dl ((dig ((Q0 a / Q0 b)).natAbs)),sg ((Q0 a / Q0 b)),dl ((dig ((((((Q0 a / Q0 b):Int):Rat)).den:Int)).natAbs)),sg ((((((Q0 a / Q0 b):Int):Rat)).den:Int))]]) rfl rfl rfl rfl ⟨Qv rfl rfl,Qv rfl rfl,Qh (m:=a.length) Jy rfl (by rw [Q6,Ze]) rfl,Qv rfl rfl,Qh (m:=a.length) Jy rfl (by rw [Q6,Ze]) rfl,Qbc a.length Jy Ua rfl rfl rfl rfl rfl (by rw [Zr,Ze]; exact X2 _) (Jj _ (sz:=4) (fun _=>rfl)) (l':=(zp a).map rr) (by rw [Y0 (by rw [Zr,Ze]; exact X2 _)]) rfl,Qv rfl rfl,Qv rfl rfl,Xb 2 qUt Ua rfl rfl rfl rfl rfl,Zu qFo rfl rfl rfl rfl (N4 (p:=b) (c:=(Q0 a / Q0 b)) (Q7 hbb (by omega)) (by omega) (by omega)) rfl,?_,trivial⟩ ?_ ?_)
 ·refine Km fun N k_=>?_
  refine Zg (ls2:=(zp (Gn (a.length-b.length) (J8 b (Q0 a / Q0 b)))).map rr) (m2:=(a.length-b.length)+(J8 b (Q0 a / Q0 b)).length) 0 Jy Jy qUc rfl rfl Ua Tz rfl rfl rfl rfl rfl rfl rfl (by rw [hek,qJz,List.replicate_zero,qXg,qZn]; exact X2 _) (Jj _ (fun _=>rfl)) (Wu _ (fun _=>rfl)) (by rw [Zr,Ze]; have:=X1 b (Q0 a / Q0 b); omega) (by rw [hek,qJz,List.replicate_zero,qXg,Y0 (by rw [qZn]; exact X2 _)]; exact Qs1 _ _) (by rw [Zr,Ze]) fun r4=>?_
  exact Qo (k_ _ _ ⟨_,rfl,rfl⟩)
 ·rintro u_ B_ ⟨r9,rfl,rfl⟩
  exact ⟨Qv rfl rfl,Qv rfl rfl,Qh (m:=a.length) Jy rfl (by rw [Q6,Ze]) rfl,Qv rfl rfl,Qh (m:=a.length) Jy rfl (by rw [Q6,Ze]) rfl,Qbc a.length Jy Ua rfl rfl rfl rfl rfl (by rw [Zr,Ze]; exact X2 _) (Jj _ (sz:=4) (fun _=>rfl)) (l':=(zp a).map rr) (by rw [Y0 (by rw [Zr,Ze]; exact X2 _)]) rfl,Qv rfl rfl,Qv rfl rfl,Xb 2 qUt Ua rfl rfl rfl rfl rfl,Zu qFo rfl rfl rfl rfl (N4 (p:=b) (c:=(Q0 a / Q0 b)) (Q7 hbb (by omega)) (by omega) (by omega)) rfl,trivial,trivial⟩
 rintro u_ B_ ⟨r9,rfl,rfl⟩
 refine ⟨_,rfl,kn ?_⟩
 refine Qq tt rfl ?_
 refine X5 (fun _ k_=>Xe 0 [79] rfl (Zc rfl) (by rw [Zr,Ze,Nd]) (by rw [Zr,Ze,Nd]; have:=X1 b (Q0 a / Q0 b); omega) rfl (Qo k_)) rfl ?_
 refine Qq tt rfl ?_
 refine kl tt 1 [] Tryz.func108 rfl rfl rfl (M5 (p:=a) (q:=(Gn (a.length-b.length) (J8 b (Q0 a / Q0 b)))) (Q7 hab (by omega)) (Q7 (Qlb (Jz hbb hcs)) (by omega)) (by omega) (by rw [Nd]; have:=X1 b (Q0 a / Q0 b); omega)) rfl rfl ?_
 refine Qj [0,1,6] rfl rfl ?_
 refine Yt 1 rfl rfl ?_
 refine Q8 ?_
 refine ⟨_,?_,j,_,_,hrj,by rw [H6]; exact hr1,rfl,rfl,rfl⟩
 omega
end Orr

namespace Orr
open Go Go.Proofs
abbrev zp1 (p:List Int):List LV:=[Zp (zp p)]
def Kw (l:List (List Int)):LV:=.row (l.map zp1)
theorem C8 (l:List (List Int)):Vq (Kw l)=some l.length:=by simp [Kw,Vq]
theorem Qhp {a b g:List Int} {n:Nat} (ta:Yw a) (tb:Yw b) (ha:Bd 9000000 a) (hb:Bd 9000000 b) (la:a.length≤1000) (lb:b.length≤1000) (hrun:GRun n (Vm a) (Vm b) g):Za Tryz.prog 223 [.one (Zp ((zp a))),.one (Zp ((zp b)))] (.one (Zp ((zp g)))):=by
 refine X4 tt 2 [] Tryz.func223 Tryz.ntmps223 rfl rfl rfl ?_
 refine kl tt 1 [] qFq rfl rfl rfl (Wc (p:=a) (ta) (ha) (la)) rfl rfl ?_
 refine kl tt 2 [] qFq rfl rfl rfl (Wc (p:=b) (tb) (hb) (lb)) rfl rfl ?_
 refine Qj [0,1] rfl rfl ?_
 refine Zl (fun m L B=>∃ k x y,GRun k x y g∧m=k∧L=[(0,.one (Zp ((zp x)))),(1,.one (Zp ((zp y))))]∧B=[]) (m:=_) ⟨n,_,_,hrun,rfl,rfl,rfl⟩ ?_
 rintro m L B ⟨k,x,y,hg0,hm,rfl,rfl⟩
 refine Qq tt rfl ?_
 rcases hg0.inv with ⟨hk,hy0,hxg⟩ | ⟨j,m2,r,hk,hy0,hy1,hyb,hrr,hrl,hrb,hrt,hgr⟩
 ·skip
  refine Qr tt 1 rfl ?_
  refine Qf tt 1 [] (Qh (m:=y.length) Jy rfl (by rw [Q6,Ze]) rfl) rfl ?_
  refine Z8 tt 2 [] (decide_eq_false (by omega)) rfl rfl ?_
  exact Xp tt [] rfl (by rw [hxg])
 skip
 refine Qr tt 1 rfl ?_
 refine Qf tt 1 [] (Qh (m:=y.length) Jy rfl (by rw [Q6,Ze]) rfl) rfl ?_
 refine Xh tt 3 [] (decide_eq_true (by omega)) rfl rfl ?_
 refine kl tt 0 [] Tryz.func183 rfl rfl rfl (An (a0:=x) (b:=y) (res:=r) hy0 hy1 hyb hrr) rfl rfl ?_
 refine kl tt 2 [] qFq rfl rfl rfl (Wc (p:=r) hrt hrb hrl) rfl rfl ?_
 refine Qj [0,1] rfl rfl ?_
 refine Q8 ?_
 refine ⟨_,?_,j,y,Vm r,hgr,rfl,rfl,rfl⟩
 omega
theorem Ag  : Za Tryz.prog 75 [.one (.row [[.int .i64 1]])] (.one (Zp ((zp ([1]))))):=by
 refine X4 tt 3 [] Tryz.func75 Tryz.ntmps75 rfl rfl rfl ?_
 refine Qf tt 1 [] (Qh (m:=1) qUv rfl (rfl) rfl) rfl ?_
 refine Gb 2 ?_
 refine J5 ?_
 refine Qr tt 1 rfl ?_
 refine Xh tt 5 [] (rfl) rfl rfl ?_
 refine Qf tt 1 [] (Qi (0) qUv Xw rfl rfl rfl rfl rfl rfl) rfl ?_
 refine kl tt 1 [] qGa rfl rfl rfl (Cq (n:=1) (by decide)) rfl rfl ?_
 refine Zn (Rc (ls2:=(zp [1]).map rr) (m2:=1) Jy Jy qUc rfl rfl Ua Tz rfl rfl rfl rfl rfl rfl rfl (Js rfl) (Jx rfl) (by decide) (rfl) (rfl) fun r1=>ko ?_)
 refine Qr tt 1 rfl ?_
 refine Qf tt 1 [] (Zb (r:=((1:Nat):Int)) rfl rfl (rfl) rfl) rfl ?_
 refine Q8 ?_
 refine J5 ?_
 refine Qr tt 1 rfl ?_
 refine Z8 tt 1 [] (rfl) rfl rfl ?_
 refine X5 (fun _ k_=>Xe 0 [19] rfl (Zc rfl) rfl (by decide) rfl (Qo k_)) rfl ?_
 refine Qq tt rfl ?_
 refine kl tt 1 [] qFf rfl rfl rfl ((by have h:=Wd (p:=zp [1]) (S2 (s:=100000000) (by intro z hz; simp at hz; subst hz; decide) (by decide)) (by decide); rwa [Fi] at h)) rfl rfl ?_
 exact Xp tt [] rfl (by rw [show trim [1]=[1] by decide])
theorem Se {a b q:List Int} (h:DOk a b q):∃ r,Za Tryz.prog 280 [.one (Zp (zp a)),.one (Zp (zp b))] (.tup [.one (Zp (zp q)),.one (Zp (zp r))]):=by
 obtain ⟨h1,h2,h3,h4,qf,r,n,h5,h6,h7,rfl⟩:=h
 exact ⟨r,Qcq h1 h2 h3 h4 h5 h7⟩
theorem Cz {l:List (List Int)} (h:0<l.length):(l.map zp1)[0+(l.length-1)]? = some (zp1 (K8 l)):=by
 rw [Vl]; exact Qg (Fp (by omega))
set_option maxRecDepth 20000 in
theorem O3 {a:List Int} {mf:Nat} {f:Nat→List Int} (ta:Yw a) (ha:Bd 9000000 a) (la:a.length≤1000) (h2:2≤a.length) (hF:FRun a mf f):Za Tryz.prog 216 [.one (Zp ((zp a)))] (.one (Kw ((Og f mf)))):=by
 refine X4 tt 0 [] Tryz.func216 Tryz.ntmps216 rfl rfl rfl ?_
 obtain ⟨⟨n,ls,hrun,hlen,hq⟩,hms⟩:=hF
 skip
 refine Qr tt 2 rfl ?_
 refine Qf tt 1 [] (Qh (m:=a.length) Jy rfl (by rw [Q6,Ze]) rfl) rfl ?_
 refine Z8 tt 1 [] (decide_eq_false (by omega)) rfl rfl ?_
 refine kl tt 3 [] qFq rfl rfl rfl (Wc (p:=a) (ta) (ha) (la)) rfl rfl ?_
 refine Zn (Ex D4 Ef qFd rfl rfl rfl rfl rfl rfl rfl rfl rfl rfl fun r1=>ko ?_)
 refine Qr tt 1 rfl ?_
 refine Qj [0,3,4] rfl rfl ?_
 refine Zl (fun m L B=>∃ k l e rw,LRun k l ls∧l.length=e∧0<e∧e≤1001∧m=k∧L=[(0,.one (Zp ((zp ((Vm a)))))),(3,.one (.nils)),(4,.one (.orow rw 1 0 e))]∧B=[.row rw 28 1 (l.map zp1)]) (m:=_) ⟨n,_,1,_,hrun,rfl,by decide,by decide,rfl,rfl,rfl⟩ ?_
 rintro m L B ⟨k,l,e,rw,hl0,hl1,hl2,hl3,hm,rfl,rfl⟩
 refine Qq tt rfl ?_
 rcases hl0.inv with ⟨hk,hlf,hll⟩ | ⟨j,m2,g,hk,hg1,hg2,hg3,hg4,hg5,hg6,hg7,hlr⟩
 ·skip
  refine Qr tt 2 rfl ?_
  refine Qf tt 0 [] (Qh (m:=e) D4 rfl (rfl) rfl) rfl ?_
  refine Qf tt 0 [] (Z9 (r:=((e-1:Nat):Int)) rfl rfl (Qm (by omega) (by omega)) rfl) rfl ?_
  refine Qf tt 0 [] (Zi (e-1) D4 Ef rfl rfl (rfl) (by omega) rfl) rfl ?_
  refine Qf tt 0 [] (X7 0 qFi Ef rfl rfl (by rw [←hl1]; exact Cz (by omega)) rfl rfl rfl) rfl ?_
  refine Qf tt 1 [] (Qh (m:=((K8 l)).length) Jy rfl (by rw [Q6,Ze]) rfl) rfl ?_
  refine Z8 tt 2 [] (decide_eq_false (by omega)) rfl rfl ?_
  refine kl tt 1 [] Tryz.func75 rfl rfl rfl (Ag) rfl rfl ?_
  refine Zn (Zg (ls2:=(l++[[1]]).map zp1) (m2:=e+1) 0 D4 D4 Tryz.typeInfo28 rfl rfl Ef qFd rfl rfl rfl rfl rfl rfl rfl (by rw [Zr]; omega) (Js rfl) (Jx rfl) (by show _+1<_; omega) (by rw [Y0 (by rw [Zr]; omega),F6]; rfl) (rfl) fun r2=>ko ?_)
  refine Qr tt 2 rfl ?_
  refine X5 (fun _ k_=>Xe 0 [4] rfl (Zc rfl) (by rw [Zr,Fl,hl1]; rfl) (by rw [Zr,Fl,hl1]; show e+1<_; omega) rfl (Qo k_)) rfl ?_
  have hlm:l.length=mf+1:=by rw [hlf]; exact hlen
  refine X5 (fun _ k_=>Xy [3] 28 1 rfl (Zc rfl) rfl (Qo k_)) rfl ?_
  refine Qj [0,4,3,6] rfl rfl ?_
  refine Zl (fun m L B=>∃ i r,i≤mf∧m=mf-i∧L=[(0,.one (Zp ((zp ((Vm a)))))),(4,.one (Kw ((l++[[1]])))),(3,.one (.orow r 1 0 i)),(6,.one (.int .i64 (((i:Nat):Int))))]∧B=[.row r 28 1 ((Og f i).map zp1)]) (m:=_) ⟨0,none,K6 _,rfl,rfl,rfl⟩ ?_
  rintro m L B ⟨i,r,hp0,hm,rfl,rfl⟩
  refine Qq tt rfl ?_
  by_cases hlt:i<mf
  ·obtain ⟨x,y,z,hx,hy,hz,hf⟩:=hq i hlt
   rw [←hlf] at hx hy
   obtain ⟨rx,hdx⟩:=Se hx
   obtain ⟨ry,hdy⟩:=Se hy
   obtain ⟨rz,hdz⟩:=Se hz
   refine Qr tt 1 rfl ?_
   refine Qf tt 1 [] (Zb (r:=((i+2:Nat):Int)) rfl rfl (Qm (by omega) (by omega)) rfl) rfl ?_
   refine Qf tt 1 [] (Qh (m:=e+1) D4 rfl (by rw [C8,Fl,hl1]; rfl) rfl) rfl ?_
   refine Xh tt 0 [] (decide_eq_true (by omega)) rfl rfl ?_
   refine Qy 14 Qp rfl rfl rfl ?_
   refine Qr tt 2 rfl ?_
   refine kd (Qi (i) D4 Ef rfl rfl (rfl) (Qg (Fp (by rw [Fl]; show _<l.length+1; omega))) rfl rfl) rfl ?_
   refine Qr tt 3 rfl ?_
   refine kd (Zb (r:=((i+1:Nat):Int)) rfl rfl (Qm (by omega) (by omega)) rfl) rfl ?_
   refine Qq tt rfl ?_
   refine kd (Qi (i+1) D4 Ef rfl rfl (rfl) (Qg (Fp (by rw [Fl]; show _<l.length+1; omega))) rfl rfl) rfl ?_
   refine Qr tt 1 rfl ?_
   refine Yv tt 4 [] Tryz.func280 rfl rfl rfl (hdx) rfl rfl ?_
   refine Qr tt 1 rfl ?_
   refine Qy 15 Qp rfl rfl rfl ?_
   refine Qr tt 2 rfl ?_
   refine kd (Zb (r:=((i+1:Nat):Int)) rfl rfl (Qm (by omega) (by omega)) rfl) rfl ?_
   refine Qq tt rfl ?_
   refine kd (Qi (i+1) D4 Ef rfl rfl (rfl) (Qg (Fp (by rw [Fl]; show _<l.length+1; omega))) rfl rfl) rfl ?_
   refine Qr tt 3 rfl ?_
   refine kd (Zb (r:=((i+2:Nat):Int)) rfl rfl (Qm (by omega) (by omega)) rfl) rfl ?_
   refine Qq tt rfl ?_
   refine kd (Qi (i+2) D4 Ef rfl rfl (rfl) (Qg (Fp (by rw [Fl]; show _<l.length+1; omega))) rfl rfl) rfl ?_
   refine Qr tt 1 rfl ?_
   refine Yv tt 4 [] Tryz.func280 rfl rfl rfl (hdy) rfl rfl ?_
   refine Qr tt 2 rfl ?_
   refine kl tt 1 [] qFq rfl rfl rfl (Wc (p:=x) hx.trim hx.bd hx.len) rfl rfl ?_
   refine kl tt 0 [] qFq rfl rfl rfl (Wc (p:=y) hy.trim hy.bd hy.len) rfl rfl ?_
   refine kl tt 7 [] Tryz.func280 rfl rfl rfl (hdz) rfl rfl ?_
   refine kl tt 1 [] qFq rfl rfl rfl (Wc (p:=z) hz.trim hz.bd hz.len) rfl rfl ?_
   refine Zn (Zg (ls2:=(Og f (i+1)).map zp1) (m2:=i+1) 0 D4 D4 Tryz.typeInfo28 rfl rfl Ef qFd rfl rfl rfl rfl rfl rfl rfl (by rw [Zr,S9]; omega) (Js rfl) (Jx rfl) (by show _+1<_; omega) (by rw [Y0 (by rw [Zr,S9]; exact X2 _),Qmw,F6]; rw [hf]; rfl) (rfl) fun r3=>ko ?_)
   refine Qr tt 2 rfl ?_
   refine Qf tt 1 [] (Zb (r:=((i+1:Nat):Int)) rfl rfl (Qm (by omega) (by omega)) rfl) rfl ?_
   refine Qj [0,4,3,6] rfl rfl ?_
   refine Q8 ?_
   refine ⟨_,?_,i+1,r3,by omega,rfl,rfl,rfl⟩
   omega
  have hin:i=mf:=by omega
  refine Qr tt 1 rfl ?_
  refine Qf tt 1 [] (Zb (r:=((i+2:Nat):Int)) rfl rfl (Qm (by omega) (by omega)) rfl) rfl ?_
  refine Qf tt 1 [] (Qh (m:=e+1) D4 rfl (by rw [C8,Fl,hl1]; rfl) rfl) rfl ?_
  refine Z8 tt 2 [] (decide_eq_false (by omega)) rfl rfl ?_
  refine X5 (fun _ k_=>Xe 0 [2] rfl (Zc rfl) (by rw [Zr,S9]) (by rw [Zr,S9]; omega) rfl (Qo k_)) rfl ?_
  exact Xp tt [] rfl (by rw [hin]; rfl)
 skip
 refine Qr tt 2 rfl ?_
 refine Qf tt 0 [] (Qh (m:=e) D4 rfl (rfl) rfl) rfl ?_
 refine Qf tt 0 [] (Z9 (r:=((e-1:Nat):Int)) rfl rfl (Qm (by omega) (by omega)) rfl) rfl ?_
 refine Qf tt 0 [] (Zi (e-1) D4 Ef rfl rfl (rfl) (by omega) rfl) rfl ?_
 refine Qf tt 0 [] (X7 0 qFi Ef rfl rfl (by rw [←hl1]; exact Cz (by omega)) rfl rfl rfl) rfl ?_
 refine Qf tt 1 [] (Qh (m:=((K8 l)).length) Jy rfl (by rw [Q6,Ze]) rfl) rfl ?_
 refine Xh tt 2 [] (decide_eq_true (by omega)) rfl rfl ?_
 refine Qf tt 0 [] (Qh (m:=e) D4 rfl (rfl) rfl) rfl ?_
 refine Qf tt 0 [] (Z9 (r:=((e-1:Nat):Int)) rfl rfl (Qm (by omega) (by omega)) rfl) rfl ?_
 refine Qf tt 0 [] (Zi (e-1) D4 Ef rfl rfl (rfl) (by omega) rfl) rfl ?_
 refine Qf tt 4 [] (X7 0 qFi Ef rfl rfl (by rw [←hl1]; exact Cz (by omega)) rfl rfl rfl) rfl ?_
 refine kl tt 0 [] Tryz.func80 rfl rfl rfl (M4 (p:=(K8 l)) (Q7 hg4 (by omega)) (by omega)) rfl rfl ?_
 refine kl tt 1 [] Tryz.func223 rfl rfl rfl (Qhp hg3 (Ky _ _) hg4 hg5 hg2 (Xd (W8 _) (by omega)) hg6) rfl rfl ?_
 refine Zn (Zg (ls2:=(l++[g]).map zp1) (m2:=e+1) 0 D4 D4 Tryz.typeInfo28 rfl rfl Ef qFd rfl rfl rfl rfl rfl rfl rfl (by rw [Zr]; omega) (Js rfl) (Jx rfl) (by show _+1<_; omega) (by rw [Y0 (by rw [Zr]; omega),F6]; rfl) (rfl) fun r4=>ko ?_)
 refine Qr tt 1 rfl ?_
 refine Qj [0,3,4] rfl rfl ?_
 refine Q8 ?_
 refine ⟨_,?_,j,l++[g],e+1,r4,hlr,by rw [Fl,hl1]; rfl,by omega,by omega,rfl,rfl,rfl⟩
 omega
end Orr

namespace Orr
open Go Go.Proofs
theorem Qly {l:List (List Int)} (g:List Int) (h:0<l.length):(l++[g])[l.length-1]? = some (K8 l):=by
 rw [qZy (by omega)]; exact Fp (by omega)
theorem Qcs {a:List Int} {mf:Nat} {f:Nat→List Int} (ta:Yw a) (ha:Bd 9000000 a) (la:a.length≤1000) (h2:2≤a.length) (hF:FRun a mf f) (hP:Qw3 mf f):Za Tryz.prog 141 [.one (Zp ((zp a)))] (.one (Zp ((zp ((B4 f mf)))))):=by
 refine X4 tt 0 [] Tryz.func141 Tryz.ntmps141 rfl rfl rfl ?_
 have hms:=hF.small
 skip
 refine Qr tt 2 rfl ?_
 refine Qf tt 1 [] (Qh (m:=a.length) Jy rfl (by rw [Q6,Ze]) rfl) rfl ?_
 refine Z8 tt 1 [] (decide_eq_false (by omega)) rfl rfl ?_
 refine kl tt 2 [] Tryz.func75 rfl rfl rfl (Ag) rfl rfl ?_
 refine kl tt 2 [] Tryz.func216 rfl rfl rfl (O3 ta ha la h2 hF) rfl rfl ?_
 refine Qf tt 1 [] (Qh (m:=mf) D4 rfl (by rw [C8,S9]) rfl) rfl ?_
 refine Qj [3,4,14,15] rfl rfl ?_
 refine Zl (fun m L B=>∃ i,i≤mf∧m=mf-i∧L=[(3,.one (Zp ((zp ((B4 f i)))))),(4,.one (Kw ((Og f mf)))),(14,.one (.int .i64 (((mf:Nat):Int)))),(15,.one (.int .i64 (((i:Nat):Int))))]∧B=[]) (m:=_) ⟨0,K6 _,rfl,rfl,rfl⟩ ?_
 rintro m L B ⟨i,hp0,hm,rfl,rfl⟩
 refine Qq tt rfl ?_
 by_cases hlt:i<mf
 ·obtain ⟨g1,g2,g3,g4⟩:=hP i hlt
  refine Qr tt 1 rfl ?_
  refine Xh tt 5 [] (decide_eq_true (by omega)) rfl rfl ?_
  refine Qf tt 1 [] (Qi (i) D4 Ef rfl rfl (rfl) (Qg (Qp5 hlt)) rfl rfl) rfl ?_
  refine kl tt 1 [] qGm rfl rfl rfl (Al (p:=B4 f i) (q:=f i) (by omega) (by omega) g1 g3 (by decide)) rfl rfl ?_
  refine Qf tt 1 [] (Zb (r:=((i+1:Nat):Int)) rfl rfl (Qm (by omega) (by omega)) rfl) rfl ?_
  refine Qj [3,4,14,15] rfl rfl ?_
  refine Q8 ?_
  refine ⟨_,?_,i+1,by omega,rfl,rfl,rfl⟩
  omega
 have hin:i=mf:=by omega
 refine Qr tt 1 rfl ?_
 refine Z8 tt 2 [] (decide_eq_false (by omega)) rfl rfl ?_
 exact Xp tt [] rfl (by rw [hin])
theorem Qe1 {a sq:List Int} {c:List (List Int)} (ta:Yw a) (ha:Bd 9000000 a) (la:a.length≤1000) (h2:2≤a.length) (hC:ChRun a sq c):Za Tryz.prog 105 [.one (Zp ((zp a)))] (.one (Kw c)):=by
 refine X4 tt 0 [] Tryz.func105 Tryz.ntmps105 rfl rfl rfl ?_
 obtain ⟨⟨mf,f,hF,hP,rfl⟩,⟨n,hcr⟩,hbd,hle,hsm⟩:=hC
 skip
 refine Qr tt 2 rfl ?_
 refine kl tt 2 [] Tryz.func141 rfl rfl rfl (Qcs ta ha la h2 hF hP) rfl rfl ?_
 refine Zn (Ex D4 Ef qFd rfl rfl rfl rfl rfl rfl rfl rfl rfl rfl fun r1=>ko ?_)
 refine Qr tt 2 rfl ?_
 refine kl tt 0 [] Tryz.func80 rfl rfl rfl (M4 (p:=(B4 f mf)) (Q7 hbd (by omega)) (by omega)) rfl rfl ?_
 refine kl tt 1 [] Tryz.func181 rfl rfl rfl (N5 (p:=Wz (B4 f mf)) (Ky _ _) (Q7 (Qcb (t:=10) hbd (by omega)) (by omega)) (Xd (W8 _) (by omega))) rfl rfl ?_
 refine Qj [4,5] rfl rfl ?_
 refine Zl (fun m L B=>∃ k l g e rw,CRun k l g c∧l.length=e∧0<e∧e≤1001∧m=k∧L=[(4,.one (.orow rw 1 0 e)),(5,.one (Zp ((zp g))))]∧B=[.row rw 28 1 (l.map zp1)]) (m:=_) ⟨n,_,_,1,_,hcr,rfl,by decide,by decide,rfl,rfl,rfl⟩ ?_
 rintro m L B ⟨k,l,g,e,rw,hc0,hc1,hc2,hc3,hm,rfl,rfl⟩
 refine Qq tt rfl ?_
 rcases hc0.inv with ⟨hk,hlf,hgl⟩ | ⟨j,m2,r,hk,hg1,hg2,hg3,hrr,hrt,hrb,hrl,hl0,hl1,hcj⟩
 ·skip
  refine Qr tt 1 rfl ?_
  refine Qf tt 1 [] (Qh (m:=g.length) Jy rfl (by rw [Q6,Ze]) rfl) rfl ?_
  refine Z8 tt 2 [] (decide_eq_false (by omega)) rfl rfl ?_
  have hel:e≤1000:=by rw [←hc1,hlf]; exact hsm
  refine X5 (fun _ k_=>Xe 0 [2] rfl (Zc rfl) (by rw [Zr,hc1]) (by rw [Zr,hc1]; omega) rfl (Qo k_)) rfl ?_
  exact Xp tt [] rfl (by rw [hlf]; rfl)
 skip
 refine Qr tt 1 rfl ?_
 refine Qf tt 1 [] (Qh (m:=g.length) Jy rfl (by rw [Q6,Ze]) rfl) rfl ?_
 refine Xh tt 3 [] (decide_eq_true (by omega)) rfl rfl ?_
 refine Zn (Zg (ls2:=(l++[g]).map zp1) (m2:=e+1) 0 D4 D4 Tryz.typeInfo28 rfl rfl Ef qFd rfl rfl rfl rfl rfl rfl rfl (by rw [Zr]; omega) (Js rfl) (Jx rfl) (by show _+1<_; omega) (by rw [Y0 (by rw [Zr]; omega),F6]; rfl) (rfl) fun r2=>ko ?_)
 refine Qr tt 3 rfl ?_
 refine Qf tt 0 [] (Qh (m:=e+1) D4 rfl (rfl) rfl) rfl ?_
 refine Qf tt 0 [] (Z9 (r:=((e-1:Nat):Int)) rfl rfl (Qm (by omega) (by omega)) rfl) rfl ?_
 refine Qf tt 0 [] (Zi (e-1) D4 Ef rfl rfl (rfl) (by omega) rfl) rfl ?_
 refine Qf tt 1 [] (X7 0 qFi Ef rfl rfl (by rw [Vl,←hc1]; exact Qg (Qly g hl0)) rfl rfl rfl) rfl ?_
 refine kl tt 0 [] Tryz.func183 rfl rfl rfl (An (a0:=K8 l) (b:=g) (res:=r) hg1 hg2 hg3 hrr) rfl rfl ?_
 refine kl tt 0 [] Tryz.func181 rfl rfl rfl (N5 (p:=r) hrt hrb hrl) rfl rfl ?_
 refine kl tt 1 [] Tryz.func182 rfl rfl rfl (Am (p:=Fw r) (Q7 (Qla hrb) (by omega)) (Xd (Qh0 r) (by omega))) rfl rfl ?_
 refine Qj [4,5] rfl rfl ?_
 refine Q8 ?_
 refine ⟨_,?_,j,l++[g],_,e+1,r2,hcj,by rw [Fl,hc1]; rfl,by omega,by omega,rfl,rfl,rfl⟩
 omega
theorem Qw9 {q:Rat} (h1:Xj q.num≤1000000) (h2:Xj (q.den:Int)≤1000000):Bd 9000000 [-q.num,(q.den:Int)]:=fun z hz=>by
 simp only [Vw,No,or_false] at hz
 rcases hz with rfl | rfl
 ·rw [Xg]; omega
 ·omega
def Qek (q:Rat) (c:List (List Int)):Prop:=∃ sq,ChRun [-q.num,(q.den:Int)] sq c
set_option maxRecDepth 20000 in
theorem Ai {q:Rat} {c:List (List Int)} (hq:Qs 1000000 q) (hC:Qek q c):Za Tryz.prog 38 [.agg [dl ((dig ((q).num).natAbs)),sg ((q).num),dl ((dig (((q).den:Int)).natAbs)),sg (((q).den:Int))]] (.agg [Zp ((zp [-(q).num,((q).den:Int)])),Kw c,dl ((dig ((q).num).natAbs)),sg ((q).num),dl ((dig (((q).den:Int)).natAbs)),sg (((q).den:Int)),dl ((dig ((q).num).natAbs)),sg ((q).num),dl ((dig (((q).den:Int)).natAbs)),sg (((q).den:Int))]):=by
 refine X4 tt 0 [] Tryz.func38 Tryz.ntmps38 rfl rfl rfl ?_
 obtain ⟨sq,hch⟩:=hC
 have hq1:=hq.1
 have hq2:=hq.2
 skip
 refine Qr tt 1 rfl ?_
 refine Zn (Qn Tryz.zeroValue36 rfl rfl fun g1=>ko ?_)
 refine Qq tt rfl ?_
 refine Qy 8 Qp rfl rfl rfl ?_
 refine Qr tt 2 rfl ?_
 refine Yv tt 0 [] qWv rfl rfl rfl (Yq (n:=1) (by omega)) rfl rfl ?_
 refine Yv tt 0 [] qUk rfl rfl rfl (Ke (z:=(q).num) (by omega)) rfl rfl ?_
 refine Yv tt 2 [] Tryz.func102 rfl rfl rfl (Do (z:=q.num) (by omega)) rfl rfl ?_
 refine Yv tt 0 [] qWv rfl rfl rfl (Yq (n:=1) (by omega)) rfl rfl ?_
 refine kl tt 2 [] qUk rfl rfl rfl (Ke (z:=((q).den:Int)) (by omega)) rfl rfl ?_
 refine Qy 5 Qp rfl rfl rfl ?_
 refine Qr tt 2 rfl ?_
 refine Yv tt 2 [] Tryz.func105 rfl rfl rfl (Qe1 (a:=[-q.num,(q.den:Int)]) (Qk2 q) (Qw9 hq1 hq2) (by show 2≤1000; decide) (X2 2) hch) rfl rfl ?_
 refine Xu tt 2 [0] rfl ?_
 exact Xp tt [0] rfl (rfl)
theorem N3 {q:Rat} {c:List (List Int)} (hq:Qs 1000000 q):Za Tryz.prog 150 [.agg [Zp ((zp [-(q).num,((q).den:Int)])),Kw c,dl ((dig ((q).num).natAbs)),sg ((q).num),dl ((dig (((q).den:Int)).natAbs)),sg (((q).den:Int)),dl ((dig ((q).num).natAbs)),sg ((q).num),dl ((dig (((q).den:Int)).natAbs)),sg (((q).den:Int))]] (.one (.bool true)):=by
 refine X4 tt 6 [] Tryz.func150 Tryz.ntmps150 rfl rfl rfl ?_
 refine kl tt 2 [] Tryz.func217 rfl rfl rfl (Qhl (a:=q) (b:=q) (hq.mono (by omega)) (hq.mono (by omega))) rfl rfl ?_
 exact Xp tt [] rfl (by rw [Qae]; rfl)
theorem Qmb {p:List Int} (h:p.length=0) (q:Rat):Ff p q=0:=by rw [P5 h]; rfl
theorem Dq {p:List Int} {q:Rat} {c:List (List Int)} (hp:Bd 30000000 p) (hl:p.length≤64) (hq:Qs 1000000 q):Za Tryz.prog 149 [.one (Zp ((zp p))),.agg [Zp ((zp [-(q).num,((q).den:Int)])),Kw c,dl ((dig ((q).num).natAbs)),sg ((q).num),dl ((dig (((q).den:Int)).natAbs)),sg (((q).den:Int)),dl ((dig ((q).num).natAbs)),sg ((q).num),dl ((dig (((q).den:Int)).natAbs)),sg (((q).den:Int))]] (.one (.bool ((decide (Ff p q=0))))):=by
 refine X4 tt 0 [] Tryz.func149 Tryz.ntmps149 rfl rfl rfl ?_
 rcases Hl p.length with h0 | h0
 ·skip
  refine Qr tt 3 rfl ?_
  refine Qf tt 1 [] (Qh (m:=p.length) Jy rfl (by rw [Q6,Ze]) rfl) rfl ?_
  refine Xh tt 1 [] (decide_eq_true (by omega)) rfl rfl ?_
  exact Xp tt [] rfl (by rw [Qmb h0]; rfl)
 skip
 refine Qr tt 3 rfl ?_
 refine Qf tt 1 [] (Qh (m:=p.length) Jy rfl (by rw [Q6,Ze]) rfl) rfl ?_
 refine Z8 tt 1 [] (decide_eq_false (by omega)) rfl rfl ?_
 refine kl tt 0 [] Tryz.func150 rfl rfl rfl (N3 (q:=q) (c:=c) (hq)) rfl rfl ?_
 refine Xh tt 3 [] (rfl) rfl rfl ?_
 refine kl tt 2 [] Tryz.func151 rfl rfl rfl (Dr (p:=p) (q:=q) (hp) (hl) (hq)) rfl rfl ?_
 exact Xp tt [] rfl (rfl)
theorem Mg {p:List Int} {q:Rat} {c:List (List Int)} (hp:Bd 30000000 p) (hl:p.length≤64) (hq:Qs 1000000 q):Za Tryz.prog 79 [.one (Zp ((zp p))),.agg [Zp ((zp [-(q).num,((q).den:Int)])),Kw c,dl ((dig ((q).num).natAbs)),sg ((q).num),dl ((dig (((q).den:Int)).natAbs)),sg (((q).den:Int)),dl ((dig ((q).num).natAbs)),sg ((q).num),dl ((dig (((q).den:Int)).natAbs)),sg (((q).den:Int))]] (.one (.int .i64 ((Ff p q)))):=by
 refine X4 tt 0 [] Tryz.func79 Tryz.ntmps79 rfl rfl rfl ?_
 by_cases h0:Ff p q=0
 ·skip
  refine Qq tt rfl ?_
  refine Zn (Yy rfl rfl rfl fun g1=>ko ?_)
  refine Xu tt 3 [0] rfl ?_
  refine kl tt 0 [] Tryz.func149 rfl rfl rfl (Dq (p:=p) (q:=q) (c:=c) (hp) (hl) (hq)) rfl rfl ?_
  refine Xh tt 1 [] (decide_eq_true h0) rfl rfl ?_
  exact Xp tt [] rfl (by rw [h0])
 skip
 refine Qq tt rfl ?_
 refine Zn (Yy rfl rfl rfl fun g2=>ko ?_)
 refine Xu tt 3 [0] rfl ?_
 refine kl tt 0 [] Tryz.func149 rfl rfl rfl (Dq (p:=p) (q:=q) (c:=c) (hp) (hl) (hq)) rfl rfl ?_
 refine Z8 tt 1 [0] (decide_eq_false h0) rfl rfl ?_
 refine kl tt 1 [] Tryz.func150 rfl rfl rfl (N3 (q:=q) (c:=c) (hq)) rfl rfl ?_
 refine Qf tt 0 [] (Qk rfl rfl (rfl) rfl) rfl ?_
 refine Qf tt 0 [] (Qk rfl rfl (rfl) rfl) rfl ?_
 refine Qf tt 0 [] (Qk rfl rfl (rfl) rfl) rfl ?_
 refine Qf tt 0 [] (Zs rfl (rfl) rfl rfl) rfl ?_
 refine Xh tt 3 [0] (rfl) rfl rfl ?_
 refine kl tt 1 [] Tryz.func151 rfl rfl rfl (Dr (p:=p) (q:=q) (hp) (hl) (hq)) rfl rfl ?_
 exact Xp tt [] rfl (rfl)
theorem Kg {p:List Int} {q:Rat} {c:List (List Int)} (hp:Bd 20000000 p) (hl:p.length≤64) (hq:Qs 1000000 q):Za Tryz.prog 19 [.one (Zp ((zp p))),.agg [Zp ((zp [-(q).num,((q).den:Int)])),Kw c,dl ((dig ((q).num).natAbs)),sg ((q).num),dl ((dig (((q).den:Int)).natAbs)),sg (((q).den:Int)),dl ((dig ((q).num).natAbs)),sg ((q).num),dl ((dig (((q).den:Int)).natAbs)),sg (((q).den:Int))]] (.one (.int .i64 ((Fb p q)))):=by
 refine X4 tt 2 [] qFy Tryz.ntmps19 rfl rfl rfl ?_
 refine Qj [0,3] rfl rfl ?_
 refine Zl (fun m L B=>∃ r,r.length≤64∧Bd (25000000-30*r.length) r∧V8 (fun p=>Ff p q) r.length r=Fb p q∧m=r.length∧L=[(0,.one (Zp ((zp r)))),(3,.one (.sh [Zp ((zp [-(q).num,((q).den:Int)])),Kw c,dl ((dig ((q).num).natAbs)),sg ((q).num),dl ((dig (((q).den:Int)).natAbs)),sg (((q).den:Int)),dl ((dig ((q).num).natAbs)),sg ((q).num),dl ((dig (((q).den:Int)).natAbs)),sg (((q).den:Int))]))]∧B=[]) (m:=_) ⟨p,hl,Q7 hp (by omega),rfl,rfl,rfl,rfl⟩ ?_
 rintro m L B ⟨r,hr0,hr1,hr2,hm,rfl,rfl⟩
 refine Qq tt rfl ?_
 rcases Hl r.length with h0 | h0
 ·skip
  refine Qr tt 1 rfl ?_
  refine Qf tt 1 [] (Qh (m:=r.length) Jy rfl (by rw [Q6,Ze]) rfl) rfl ?_
  refine Z8 tt 1 [] (decide_eq_false (by omega)) rfl rfl ?_
  exact Xp tt [] rfl (by rw [←hr2,Dx _ h0])
 by_cases hs:Ff r q=0
 refine Qq tt rfl ?_
 ·skip
  refine Qr tt 1 rfl ?_
  refine Qf tt 1 [] (Qh (m:=r.length) Jy rfl (by rw [Q6,Ze]) rfl) rfl ?_
  refine Xh tt 2 [] (decide_eq_true (by omega)) rfl rfl ?_
  refine kl tt 3 [] Tryz.func79 rfl rfl rfl (Mg (p:=r) (q:=q) (c:=c) (Q7 hr1 (by omega)) (hr0) (hq)) rfl rfl ?_
  refine Z8 tt 1 [] (decide_eq_false (fun h=>h hs)) rfl rfl ?_
  refine kl tt 1 [] Tryz.func80 rfl rfl rfl (M4 (p:=r) (Q7 hr1 (by omega)) (by omega)) rfl rfl ?_
  refine Qj [0,3] rfl rfl ?_
  refine Q8 ?_
  refine ⟨_,?_,Wz r,Xd (W8 r) (by omega),Q7 (Qcb (t:=6) hr1 (by omega)) (by have:=W8 r; omega),by rw [←hr2,Dw _ h0 hs],rfl,rfl,rfl⟩
  have:=W8 r
  omega
 skip
 refine Qr tt 1 rfl ?_
 refine Qf tt 1 [] (Qh (m:=r.length) Jy rfl (by rw [Q6,Ze]) rfl) rfl ?_
 refine Xh tt 2 [] (decide_eq_true (by omega)) rfl rfl ?_
 refine kl tt 3 [] Tryz.func79 rfl rfl rfl (Mg (p:=r) (q:=q) (c:=c) (Q7 hr1 (by omega)) (hr0) (hq)) rfl rfl ?_
 refine Xh tt 2 [] (decide_eq_true hs) rfl rfl ?_
 exact Xp tt [] rfl (by rw [←hr2,Dv _ h0 hs])
end Orr

namespace Orr
def X6 (p:List Int) (d:Int):List Rat:=p.map fun (z:Int)=>(z:Rat) / (d:Rat)
theorem Ug (p:List Int) (d:Int):(X6 p d).length=p.length:=Zr _
theorem Qst {p:List Int} {i:Nat} {z:Int} {d:Int} (h:p[i]? = some z):(X6 p d)[i]? = some ((z:Rat) / (d:Rat)):=by simp [X6,h]
theorem Qpm (p:List Int) (d:Int) (i:Nat):(X6 p d).getD i 0=((p.getD i 0:Int):Rat) / (d:Rat):=by
  simp only [V6,X6,S1]
  cases p[i]? with
  | none=>simp; grind
  | some z=>rfl
theorem R6 (z d:Int):(z:Rat) / (d:Rat)=Rat.divInt z d:=by
  by_cases h:d=0
  · subst h; simp; grind
  · rw [Rat.div_def]
    have e1:(z:Rat)=Rat.divInt z 1:=by have:=qXv (z:Rat); simpa using this.symm
    have e2:(d:Rat)⁻¹=Rat.divInt 1 d:=by
      have:(d:Rat)=Rat.divInt d 1:=by have:=qXv (d:Rat); simpa using this.symm
      rw [this,Rat.inv_divInt]
    rw [e1,e2,Rat.divInt_mul_divInt]
    simp
theorem Qra {z d:Int} (hd:0<d):(((z:Rat) / (d:Rat)).den:Int)*(Int.gcd z d:Nat)=d:=by
  rw [R6]
  have h:=(Eb (n:=z) hd).2
  rw [←h,Fa,Int.gcd_comm]
  exact Int.ediv_mul_cancel (qVc ..)
theorem Qn9 {d a b L:Nat} (hd:0<d) (ha:L*a=d) {D:Nat} (hb:D*b=d):L*D / Nat.gcd L D*Nat.gcd a b=d:=by
  have hL:0<L:=Nat.pos_of_ne_zero fun e=>by rw [e] at ha; omega
  have hD:0<D:=Nat.pos_of_ne_zero fun e=>by rw [e] at hb; omega
  have hg:0<Nat.gcd L D:=Nat.gcd_pos_of_pos_left _ hL
  show Nat.lcm L D*Nat.gcd a b=d
  rw [←Nat.gcd_mul_left]
  refine Nat.dvd_antisymm ?_ ?_
  · -- gcd (M a) (M b) | d
    obtain ⟨u,hu⟩:=Nat.gcd_dvd_left L D
    obtain ⟨v,hv⟩:=Nat.gcd_dvd_right L D
    have hM:Nat.lcm L D=Nat.gcd L D*(u*v):=by
      unfold Nat.lcm
      conv=>lhs; rw [show L*D=Nat.gcd L D*u*(Nat.gcd L D*v) by rw [←hu,←hv]]
      rw [show Nat.gcd L D*u*(Nat.gcd L D*v)=Nat.gcd L D*(Nat.gcd L D*(u*v)) by rw [Nat.mul_assoc,Nat.mul_left_comm u,]]
      exact Nat.mul_div_cancel_left _ hg
    have h1:Nat.lcm L D*a=v*d:=by
      rw [hM,←ha]
      conv=>rhs; rw [hu]
      simp [O7,Nat.mul_left_comm,Nat.mul_assoc]
    have h2:Nat.lcm L D*b=u*d:=by
      rw [hM,←hb]
      conv=>rhs; rw [hv]
      simp [O7,Nat.mul_left_comm,Nat.mul_assoc]
    have huv:Nat.gcd u v=1:=by
      have:=Nat.gcd_mul_left (Nat.gcd L D) u v
      rw [←hu,←hv] at this
      exact Nat.eq_of_mul_eq_mul_left hg (by omega)
    rw [h1,h2,Nat.gcd_mul_right,qVl,huv,Nat.one_mul]
    exact Nat.dvd_refl d
  · refine Nat.dvd_gcd ?_ ?_
    · rw [←ha]; exact Nat.mul_dvd_mul_right (Nat.dvd_lcm_left L D) a
    · rw [←hb]; exact Nat.mul_dvd_mul_right (Nat.dvd_lcm_right L D) b
def lcd (z:List Int) (d:Int):Nat→Int
  | 0=>1
  | i+1=>lcd z d i*((((z.getD i 0:Int):Rat) / (d:Rat)).den:Int) / (Int.gcd (lcd z d i) ((((z.getD i 0:Int):Rat) / (d:Rat)).den:Int):Nat)
theorem Qhz {z:List Int} {d:Int} (hd:0<d):∀ i,i≤z.length→lcd z d i*((Y5 (d::z.take i):Nat):Int)=d
  |
   0,_=>by
   show 1*_=d
   have:((Y5 [d]:Nat):Int)=d:=by unfold Y5; simp; omega
   rw [List.take_zero,this,Int.one_mul]
  |
   i+1,hi=>by
   have ih:=Qhz (z:=z) hd i (by omega)
   have hz:z[i]? = some (z.getD i 0):=getD_some (l:=z) (by omega)
   have hstep:Y5 (d::z.take (i+1))=Nat.gcd (Y5 (d::z.take i)) (z.getD i 0).natAbs:=by
     have:=Qaw (l:=d::z) (i:=i+1) (z:=z.getD i 0) (by simpa using hz)
     simpa using this
   have hdn:=Qra (z:=z.getD i 0) hd
   simp only [lcd]
   generalize hL:lcd z d i=L at *
   generalize hD:(((z.getD i 0:Int):Rat) / (d:Rat)).den=D at *
   have hLp:0<L:=by
     rcases qYa L 0 with h | h | h
     · have:=Int.mul_nonneg (Int.neg_nonneg_of_nonpos (Int.le_of_lt h)) (qYf (Y5 (d::z.take i)))
       rw [qVa] at this; omega
     · rw [h,Int.zero_mul] at ih; omega
     · exact h
   obtain ⟨l,rfl⟩:=Int.eq_ofNat_of_zero_le (Int.le_of_lt hLp)
   obtain ⟨e,rfl⟩:=Int.eq_ofNat_of_zero_le (Int.le_of_lt hd)
   have h1:l*Y5 (((e:Nat):Int)::z.take i)=e:=by exact_mod_cast ih
   have h2:D*Int.gcd (z.getD i 0) ((e:Nat):Int)=e:=by exact_mod_cast hdn
   have h3:=Qn9 (d:=e) (by omega) h1 h2
   have h4:Nat.gcd (Y5 (((e:Nat):Int)::z.take i)) (Int.gcd (z.getD i 0) ((e:Nat):Int))=Nat.gcd (Y5 (((e:Nat):Int)::z.take i)) (z.getD i 0).natAbs:=by
     have hge:Y5 (((e:Nat):Int)::z.take i)∣e:=⟨l,by rw [O7]; exact h1.symm⟩
     show Nat.gcd _ (Nat.gcd (z.getD i 0).natAbs e)=_
     rw [qVl (z.getD i 0).natAbs e,←Nat.gcd_assoc,Nat.gcd_eq_left hge]
   rw [hstep,←h4]
   rw [show Int.gcd ((l:Nat):Int) ((D:Nat):Int)=Nat.gcd l D by simp [Int.gcd]]
   exact_mod_cast h3
theorem Qrm {x y:List Int} {d:Int} (hd:0<d) (hg:Y5 (d::(x++y))=1):lcd (x++y) d (x++y).length=d:=by
  have:=Qhz (z:=x++y) hd (x++y).length (X2 _)
  rw [qJu,hg] at this
  simpa using this
theorem Qro {z:List Int} {d:Int} (hd:0<d) {i:Nat} (hi:i≤z.length):Xj (lcd z d i)≤Xj d:=by
  have h:=Qhz (z:=z) hd i hi
  refine J9 ?_
  have h0:Y5 (d::z.take i)≠0:=fun e=>by rw [e] at h; simp at h; omega
  have:d.natAbs=(lcd z d i).natAbs*Y5 (d::z.take i):=by
    conv=>lhs; rw [←h]
    rw [qKc]; simp
  rw [this]
  exact qYv _ (Nat.pos_of_ne_zero h0)
end Orr

namespace Orr
open Go Go.Proofs
abbrev rcl (c:Crv):List LV:=[Zp (X6 c.x c.d),Zp (X6 c.y c.d),pl c.x,pl c.y,sg c.d,mg c.d]
def I0 (p:Pt):List LV:=rcl p.c++[.int .i64 p.id]
def Kr (l:List Pt):LV:=.row (l.map I0)
theorem Yz (l:List Pt):Vq (Kr l)=some l.length:=by simp [Kr,Vq]
structure Rs (k:Crv):Prop where
 n:Nml k
 c:Cs 100000 16 k
theorem Rs.d0 {k:Crv} (h:Rs k):0<k.d:=h.n.2.2.1
theorem Qin {x:List Int} {d:Int} {s:Nat} (hx:Bd s x) (hd:Xj d≤s) (h1:1≤s):Rb s (X6 x d):=fun q hq=>by
 obtain ⟨z,hz,rfl⟩:=Ww.1 hq
 rw [R6]
 exact Qs.divInt (hx z hz) hd h1
theorem I2 {x:List Int} {d:Int} (tx:Yw x) (hd:d≠0):Fz (X6 x d) (d:Rat)=zp x:=by
 have hd':(d:Rat)≠0:=fun e=>hd (by exact_mod_cast e)
 unfold Fz
 rw [Px (g:=fun i=>x.getD i 0) _ fun i _=>?_,Ug,Gd,Fi,tx]
 rw [Qpm]; grind
theorem Mf {p:List Rat} {c:Int} (hp:Rb 40000000 p) (hc:Xj c≤40000000) (hl:p.length≤1000000):Za Tryz.prog 278 [.one (Zp p),.agg [dl ((dig (c).natAbs)),sg c]] (.one (Zp ((Fz p ((c:Int):Rat))))):=by
 refine X4 tt 2 [] Tryz.func278 Tryz.ntmps278 rfl rfl rfl ?_
 refine Qy 4 Qp rfl rfl rfl ?_
 refine Qr tt 2 rfl ?_
 refine Yv tt 0 [] qWv rfl rfl rfl (Yq (n:=1) (by omega)) rfl rfl ?_
 refine Yv tt 0 [] qUk rfl rfl rfl (Ke (z:=c) (by omega)) rfl rfl ?_
 refine kl tt 1 [] qFo rfl rfl rfl (Wn (p:=p) (c:=((c:Int):Rat)) hp (W0 hc (by omega)) hl) rfl rfl ?_
 exact Xp tt [] rfl (rfl)
theorem Qss (x y:List Int) (d:Int):(X6 x d).map rr++(X6 y d).map rr=(X6 (x++y) d).map rr:=by simp [X6]
theorem S6 {z:List Int} {d:Int} {i:Nat} (h:i<z.length):(X6 z d)[i]? = some (((z.getD i 0:Int):Rat) / (d:Rat)):=Qst (getD_some h)
theorem On (a b:Int) (hb:b≠0) {s:Nat} (h:Xj b≤s):Xj ((Int.gcd a b:Nat):Int)≤s:=by
 refine Xd (J9 ?_) h
 simp only [qVz]
 exact Nat.le_of_dvd (by omega) (by simpa using qVf.2 (qVc a b))
theorem Qrn (a b:Int):(a*b) % ((Int.gcd a b:Nat):Int)=0:=qYc (Int.dvd_trans (Int.gcd_dvd_left ..) (Int.dvd_mul_right a b))
set_option maxRecDepth 20000 in
theorem Aa {k:Crv} (hs:Rs k):Za Tryz.prog 214 [.one (Zp ((X6 k.x k.d))),.one (Zp ((X6 k.y k.d)))] (.agg [Zp ((X6 k.x k.d)),Zp ((X6 k.y k.d)),pl k.x,pl k.y,sg k.d,mg k.d]):=by
 refine X4 tt 0 [] Tryz.func214 Tryz.ntmps214 rfl rfl rfl ?_
 have hlx:=hs.c.lx
 have hly:=hs.c.ly
 have hds:=hs.c.d
 have hxy:Bd 100000 (k.x++k.y):=fun z hz=>by rcases Y7.1 hz with h | h; exact hs.c.x z h; exact hs.c.y z h
 skip
 refine Qq tt rfl ?_
 refine Zn (Qn Tryz.zeroValue98 rfl rfl fun g1=>ko ?_)
 refine Qq tt rfl ?_
 refine kw (Zu qWv rfl rfl rfl rfl (Yq (n:=1) (by omega)) rfl) ?_
 refine Zn (Qn B5 rfl rfl fun g2=>ko ?_)
 refine Xu tt 2 [0] rfl ?_
 refine Zn (Rc (ls2:=(X6 k.x k.d).map rr) (m2:=(X6 k.x k.d).length) Jy Jy qUc rfl rfl Ua Tz rfl rfl rfl rfl rfl rfl rfl (Jj _ (fun _=>rfl)) (Wu _ (fun _=>rfl)) (by rw [Zr,Ug]; omega) (rfl) (Zr _) fun r3=>ko ?_)
 refine Qr tt 1 rfl ?_
 refine Zn (Zg (ls2:=(X6 (k.x++k.y) k.d).map rr) (m2:=(k.x.length+k.y.length)) 0 Jy Jy qUc rfl rfl Ua Tz rfl rfl rfl rfl rfl rfl rfl (by rw [Zr]; exact X2 _) (Jj _ (fun _=>rfl)) (Wu _ (fun _=>rfl)) (by rw [Ug,Zr,Ug]; omega) (by rw [Y0 (by rw [Zr]; exact X2 _)]; exact Qss _ _ _) (by rw [Zr,Ug,Ug]) fun r4=>ko ?_)
 refine Qr tt 2 rfl ?_
 refine Qf tt 1 [] (Qh (m:=k.x.length+k.y.length) Jy rfl rfl rfl) rfl ?_
 refine X5 (fun _ k_=>Xe 0 [6] rfl (Zc rfl) (by rw [Zr,Ug,Fl]) (by rw [Zr,Ug,Fl]; omega) rfl (Qo k_)) rfl ?_
 refine Qj [0,1,4,5,6,14,15] rfl rfl ?_
 refine Zl (fun m L B=>∃ i,i≤k.x.length+k.y.length∧m=k.x.length+k.y.length-i∧L=[(0,.one (Zp ((X6 k.x k.d)))),(1,.one (Zp ((X6 k.y k.d)))),(4,.one (.ow g1 0)),(5,.one (.ow g2 0)),(6,.one (Zp ((X6 (k.x++k.y) k.d)))),(14,.one (.int .i64 ((((k.x.length+k.y.length):Nat):Int)))),(15,.one (.int .i64 (((i:Nat):Int))))]∧B=[.blk g2 32 [dl ((dig ((lcd (k.x++k.y) k.d i)).natAbs)),sg ((lcd (k.x++k.y) k.d i))],.blk g1 98 [.nils,.nils,.nils,.nils,.bool false,.nils]]) (m:=_) ⟨0,K6 _,rfl,rfl,rfl⟩ ?_
 rintro m L B ⟨i,hp0,hm,rfl,rfl⟩
 refine Qq tt rfl ?_
 by_cases hlt0:i<k.x.length+k.y.length
 ·have hlt:i<(k.x++k.y).length:=by rw [Fl]; exact hlt0
  have hqe:=Qin (x:=(k.x++k.y)) (d:=k.d) (s:=100000) hxy hs.c.d (by decide)
  have hqi:=hqe.get (S6 hlt)
  have hq2:=hqi.2
  have hli:=Xd (Qro (z:=(k.x++k.y)) hs.d0 (i:=i) (by rw [Fl]; exact hp0)) hs.c.d
  have hg0:((Int.gcd (lcd (k.x++k.y) k.d i) ((((((k.x++k.y).getD i 0:Int):Rat) / (k.d:Rat))).den:Int):Nat):Int)≠0:=by have:=Int.gcd_ne_zero_right (a:=(lcd (k.x++k.y) k.d i)) (Uk ((((k.x++k.y).getD i 0:Int):Rat) / (k.d:Rat))); omega
  have hmu:=Xl (lcd (k.x++k.y) k.d i) ((((((k.x++k.y).getD i 0:Int):Rat) / (k.d:Rat))).den:Int)
  refine Qr tt 1 rfl ?_
  refine Xh tt 2 [] (decide_eq_true (by omega)) rfl rfl ?_
  refine Qy 13 Qp rfl rfl rfl ?_
  refine Xu tt 3 [0] rfl ?_
  refine kd (Qi (i) Jy Ua rfl rfl (rfl) (Qg (S6 hlt)) rfl rfl) rfl ?_
  refine Qr tt 2 rfl ?_
  refine Yv tt 3 [0] qWs rfl rfl rfl (Jo (a:=((lcd (k.x++k.y) k.d i))) (b:=(((((((k.x++k.y).getD i 0:Int):Rat) / (k.d:Rat))).den:Int))) (by omega) (by omega)) rfl rfl ?_
  refine kd (Qi (i) Jy Ua rfl rfl (rfl) (Qg (S6 hlt)) rfl rfl) rfl ?_
  refine Qr tt 2 rfl ?_
  refine Qq tt rfl ?_
  refine kl tt 0 [] qFm rfl rfl rfl (Fn (a:=((lcd (k.x++k.y) k.d i))) (b:=(((((((k.x++k.y).getD i 0:Int):Rat) / (k.d:Rat))).den:Int))) (by omega) (by omega)) rfl rfl ?_
  refine kl tt 1 [0] qUs rfl rfl rfl (Kx (a:=((((lcd (k.x++k.y) k.d i))*(((((((k.x++k.y).getD i 0:Int):Rat) / (k.d:Rat))).den:Int))))) (b:=(((Int.gcd ((lcd (k.x++k.y) k.d i)) (((((((k.x++k.y).getD i 0:Int):Rat) / (k.d:Rat))).den:Int)):Nat):Int))) (by omega) (Xd (On _ _ (Uk _) hq2) (by omega)) (hg0) (Qrn _ _)) rfl rfl ?_
  refine Qf tt 1 [] (Zb (r:=((i+1:Nat):Int)) rfl rfl (Qm (by omega) (by omega)) rfl) rfl ?_
  refine Qj [0,1,4,5,6,14,15] rfl rfl ?_
  refine Q8 ?_
  refine ⟨_,?_,i+1,by omega,rfl,rfl,rfl⟩
  omega
 have hin:(lcd (k.x++k.y) k.d i)=k.d:=by rw [show i=(k.x++k.y).length by rw [Fl]; omega]; exact Qrm hs.d0 hs.n.2.2.2
 refine Qr tt 1 rfl ?_
 refine Z8 tt 0 [] (decide_eq_false (by omega)) rfl rfl ?_
 refine Qy 13 Qp rfl rfl rfl ?_
 refine Xu tt 4 [0] rfl ?_
 refine Yv tt 0 [] Tryz.func278 rfl rfl rfl ((by rw [hin]; have h:=Mf (p:=X6 k.x k.d) (c:=k.d) ((Qin (s:=100000) hs.c.x hs.c.d (by decide)).mono (by omega)) (by omega) (by rw [Ug]; omega); rwa [I2 hs.n.1 (by have:=hs.d0; omega)] at h)) rfl rfl ?_
 refine Yv tt 2 [0] Tryz.func81 rfl rfl rfl (Qaj (p:=k.x) (Q7 hs.c.x (by omega)) (by omega)) rfl rfl ?_
 refine Yv tt 0 [] Tryz.func278 rfl rfl rfl ((by rw [hin]; have h:=Mf (p:=X6 k.y k.d) (c:=k.d) ((Qin (s:=100000) hs.c.y hs.c.d (by decide)).mono (by omega)) (by omega) (by rw [Ug]; omega); rwa [I2 hs.n.2.1 (by have:=hs.d0; omega)] at h)) rfl rfl ?_
 refine Yv tt 1 [0] Tryz.func81 rfl rfl rfl (Qaj (p:=k.y) (Q7 hs.c.y (by omega)) (by omega)) rfl rfl ?_
 refine Yv tt 1 [] qGb rfl rfl rfl ((by rw [hin]; exact Rg (z:=k.d) (by omega))) rfl rfl ?_
 refine Xu tt 2 [1] rfl ?_
 exact Xp tt [1] rfl (rfl)
theorem Qdr (k:Crv):Qz 1 k.d'=((1:Int):Rat) / (k.d':Rat):=by
 unfold Qz; rw [if_neg k.d'_ne,R6]
theorem D5 {x:List Int} {g d:Int} (hg:g≠0) (hd:d≠0) (hgd:g∣d) (tx:Yw x) (hx:∀ z∈x,g∣z):Fz (zp x) (((1:Int):Rat) / (d:Rat))=X6 (trim (x.map (· / g))) (d / g):=by
 have ht:Yw (x.map (· / g)):=Hj tx hg hx
 rw [show trim (x.map (· / g))=x.map (· / g) from ht]
 obtain ⟨e,rfl⟩:=hgd
 have he:e≠0:=fun h=>hd (by rw [h,Int.mul_zero])
 rw [qXw _ hg]
 have hgq:(g:Rat)≠0:=fun h=>hg (by exact_mod_cast h)
 have heq:(e:Rat)≠0:=fun h=>he (by exact_mod_cast h)
 unfold Fz
 rw [Ze]
 have hval:∀ i,i<x.length→(zp x).getD i 0*(((1:Int):Rat) / ((g*e:Int):Rat))=(((x.map (· / g)).getD i 0:Int):Rat) / (e:Rat):=fun i hi=>by
  rw [P2]
  have hz:=getD_some hi
  have hm:(x.map (· / g)).getD i 0=x.getD i 0 / g:=by simp [V6,Xx hi]
  obtain ⟨w,hw⟩:=hx _ (Vo hz)
  rw [hm,hw,qXw _ hg,qJq,qJq]
  have:((1:Int):Rat)=1:=rfl
  rw [this]
  grind
 have htab:W2 (fun i=>(zp x).getD i 0*(((1:Int):Rat) / ((g*e:Int):Rat))) x.length=X6 (x.map (· / g)) e:=by
  apply qYb
  intro i
  by_cases hi:i<x.length
  ·rw [S6 (by simpa using hi)]
   simp only [W2,S1,qJj hi,qVy]
   rw [hval i hi]
  ·rw [Eh (by rw [Xo]; omega),Eh (by rw [Ug]; simp; omega)]
 rw [htab]
 rcases Hl x.length with h0 | h0
 ·have:=P5 h0; subst this; rfl
 have hl:(X6 (x.map (· / g)) e).length=x.length:=by rw [Ug,Zr]
 have:=Da (l:=X6 (x.map (· / g)) e) (m:=x.length) (by omega) (fun j y hj hy=>by rw [Eh (by omega)] at hy; cases hy) (fun _=>⟨_,S6 (z:=x.map (· / g)) (d:=e) (i:=x.length-1) (by rw [Zr]; omega),fun h=>by
  have h3:(((x.map (· / g)).getD (x.length-1) 0:Int):Rat)=0:=by grind
  have h4:(x.map (· / g)).getD (x.length-1) 0=0:=by exact_mod_cast h3
  have:=Pz ht (by rw [Zr]; omega)
  rw [Zr] at this
  exact this h4⟩)
 rw [this,Y0 (by omega)]
theorem Qpa {k:Crv} (hk:Cs 100000 16 k):Qs 40000000 (Qz 1 k.d'):=by
 have h1:=Qc4 hk.d (by decide)
 rw [Qdr,R6]
 exact Qs.divInt (by decide) (by omega) (by decide)
theorem Crv.g_dvd' (k:Crv) {z:Int} (h:z∈k.d'::(trim k.x++trim k.y)):k.g∣z:=qYs (k.g_dvd z h)
theorem Qpi (k:Crv):Fz (zp (trim k.x)) (Qz 1 k.d')=X6 k.norm.x k.norm.d:=by
 rw [Qdr]
 exact D5 k.g_ne k.d'_ne (k.g_dvd' (by simp)) (K0 _) (fun z hz=>k.g_dvd' (by simp [hz]))
theorem Qpj (k:Crv):Fz (zp (trim k.y)) (Qz 1 k.d')=X6 k.norm.y k.norm.d:=by
 rw [Qdr]
 exact D5 k.g_ne k.d'_ne (k.g_dvd' (by simp)) (K0 _) (fun z hz=>k.g_dvd' (by simp [hz]))
theorem Qsp {k:Crv} (h:Cs 100000 16 k):Rs k.norm:=⟨k.nml,h.norm (by decide)⟩
set_option maxRecDepth 20000 in
theorem Qcn {k:Crv} (hk:Cs 100000 16 k):Za Tryz.prog 138 [.agg [pl k.x,pl k.y,sg k.d,mg k.d]] (.agg [Zp ((X6 (Crv.norm k).x (Crv.norm k).d)),Zp ((X6 (Crv.norm k).y (Crv.norm k).d)),pl ((Crv.norm k).x),pl ((Crv.norm k).y),sg ((Crv.norm k).d),mg ((Crv.norm k).d)]):=by
 refine X4 tt 0 [] Tryz.func138 Tryz.ntmps138 rfl rfl rfl ?_
 have hlx:=hk.lx
 have hly:=hk.ly
 have hkd:=hk.d
 have hrq:=Qpa hk
 skip
 refine Qr tt 1 rfl ?_
 refine Zn (Qn Tryz.zeroValue98 rfl rfl fun g1=>ko ?_)
 refine Qr tt 2 rfl ?_
 refine kw (Zu Tryz.func184 rfl rfl rfl rfl (M2 (z:=k.d) (by omega)) rfl) ?_
 refine Zn (Qn B5 rfl rfl fun g2=>ko ?_)
 refine Xu tt 2 [0,0] rfl ?_
 refine kl tt 0 [] qUx rfl rfl rfl (Vy (by omega)) rfl rfl ?_
 refine Ml 1 (fun L B=>∃ dd,dd=k.d'∧L=[(1,.one (.sh [pl k.x,pl k.y,sg k.d,mg k.d])),(2,.one (.ow g1 0)),(3,.one (.ow g2 0))]∧B=[.blk g2 32 [dl ((dig (dd).natAbs)),sg dd],.blk g1 98 [.nils,.nils,.nils,.nils,.bool false,.nils]]) ?_ rfl ?_
 ·skip
  refine Qq tt rfl ?_
  refine kif rfl (fun hb_if1=>?_) (fun hb_if1=>?_)
  ·try simp only [decide_eq_true_eq,decide_eq_false_iff_not,Vc,Vb] at hb_if1
   refine Qq tt rfl ?_
   refine kl tt 1 [0] qWv rfl rfl rfl (Yq (n:=1) (by omega)) rfl rfl ?_
   refine Qj [1,2,3] rfl rfl ?_
   refine Q8 ?_
   exact ⟨(1:Int),by unfold Crv.d'; rw [if_pos hb_if1],rfl,rfl⟩
  try simp only [decide_eq_true_eq,decide_eq_false_iff_not,Vc,Vb] at hb_if1
  refine Qq tt rfl ?_
  refine Qj [1,2,3] rfl rfl ?_
  refine Q8 ?_
  exact ⟨k.d,by unfold Crv.d'; rw [if_neg hb_if1],rfl,rfl⟩
 rintro L B ⟨dd,hdd0,rfl,rfl⟩
 refine Qq tt rfl ?_
 have hdi:Xj dd≤100000:=by rw [hdd0]; exact Qc4 hk.d (by decide)
 skip
 refine Qq tt rfl ?_
 refine kc (U3 Qp 4 [11,12,13,4] [[],[],[0,1],[]] [.agg [dl ((dig ((1:Int)).natAbs)),sg ((1:Int))],.agg [dl ((dig (dd).natAbs)),sg dd],.agg [dl ((dig (((Qz 1 dd)).num).natAbs)),sg (((Qz 1 dd)).num),dl ((dig ((((Qz 1 dd)).den:Int)).natAbs)),sg ((((Qz 1 dd)).den:Int))],.un] [(3,34,[.slice none 0 0,.bool false,.slice none 0 0,.bool false])] [[.nils,.bool false,.nils,.bool false]] rfl rfl rfl (by decide) ⟨rfl,trivial⟩ rfl ⟨Zu qWv rfl rfl rfl rfl (Yq (n:=1) (by omega)) rfl,Xb 0 qFr qFj rfl rfl rfl rfl rfl,Zu qUk rfl rfl rfl rfl (Fo (a:=1) (b:=dd) (by decide) (by omega)) rfl,Vr Tz rfl,trivial⟩ fun g3=>⟨_,_,rfl,rfl,kn ?_⟩)
 refine Xu tt 1 [0] rfl ?_
 refine Qy 9 Qp rfl rfl rfl ?_
 refine Qr tt 2 rfl ?_
 refine Yv tt 1 [0] Tryz.func185 rfl rfl rfl (Hr (p:=k.x) (Q7 hk.x (by omega)) (by omega)) rfl rfl ?_
 refine Yv tt 2 [] qFo rfl rfl rfl ((by rw [hdd0]; have h:=Wn (p:=zp (trim k.x)) (c:=Qz 1 k.d') (S2 (Q7 (Jm hk.x) (by omega)) (by omega)) hrq (by rw [Ze]; have:=Kt k.x; omega); rwa [Qpi] at h)) rfl rfl ?_
 refine Yv tt 1 [0] Tryz.func185 rfl rfl rfl (Hr (p:=k.y) (Q7 hk.y (by omega)) (by omega)) rfl rfl ?_
 refine Qq tt rfl ?_
 refine kl tt 0 [] qFo rfl rfl rfl ((by rw [hdd0]; have h:=Wn (p:=zp (trim k.y)) (c:=Qz 1 k.d') (S2 (Q7 (Jm hk.y) (by omega)) (by omega)) hrq (by rw [Ze]; have:=Kt k.y; omega); rwa [Qpj] at h)) rfl rfl ?_
 refine kl tt 1 [2] Tryz.func214 rfl rfl rfl (Aa (k:=Crv.norm k) (Qsp hk)) rfl rfl ?_
 exact Xp tt [2] rfl (rfl)
theorem Me {k:Crv} {id:Int} (hk:Cs 100000 16 k):Za Tryz.prog 74 [.agg [pl k.x,pl k.y,sg k.d,mg k.d,.int .i64 id]] (.agg [Zp ((X6 (Crv.norm k).x (Crv.norm k).d)),Zp ((X6 (Crv.norm k).y (Crv.norm k).d)),pl ((Crv.norm k).x),pl ((Crv.norm k).y),sg ((Crv.norm k).d),mg ((Crv.norm k).d),.int .i64 id]):=by
 refine X4 tt 1 [] Tryz.func74 Tryz.ntmps74 rfl rfl rfl ?_
 refine Zn (Qn qWh rfl rfl fun g1=>ko ?_)
 refine Qq tt rfl ?_
 refine Qy 5 Qp rfl rfl rfl ?_
 refine Qr tt 2 rfl ?_
 refine Yv tt 2 [] Tryz.func138 rfl rfl rfl (Qcn hk) rfl rfl ?_
 refine Xu tt 2 [0] rfl ?_
 exact Xp tt [0] rfl (rfl)
set_option maxRecDepth 20000 in
theorem Hq {k:Crv} (hk:Rs k):Za Tryz.prog 106 [.agg [Zp ((X6 k.x k.d)),Zp ((X6 k.y k.d)),pl k.x,pl k.y,sg k.d,mg k.d]] (.tup [.one (Zp ((zp k.x))),.one (Zp ((zp k.y))),.one (Zp ((zp ([k.d]))))]):=by
 refine X4 tt 0 [] Tryz.func106 Tryz.ntmps106 rfl rfl rfl ?_
 have hlx:=hk.c.lx
 have hly:=hk.c.ly
 have hkd:=hk.c.d
 skip
 refine Qr tt 7 rfl ?_
 refine kl tt 0 [] Tryz.func184 rfl rfl rfl (M2 (z:=k.d) (by omega)) rfl rfl ?_
 refine kl tt 0 [] qWv rfl rfl rfl (Yq (n:=1) (by omega)) rfl rfl ?_
 refine kl tt 2 [] qUk rfl rfl rfl (Ke (z:=k.d) (by omega)) rfl rfl ?_
 refine Qy 11 Qp rfl rfl rfl ?_
 refine Qr tt 3 rfl ?_
 refine Yv tt 3 [] Tryz.func185 rfl rfl rfl ((by have h:=Hr (p:=k.x) (Q7 hk.c.x (by omega)) (by omega); rwa [show trim k.x=k.x from hk.n.1] at h)) rfl rfl ?_
 refine Yv tt 3 [] Tryz.func185 rfl rfl rfl ((by have h:=Hr (p:=k.y) (Q7 hk.c.y (by omega)) (by omega); rwa [show trim k.y=k.y from hk.n.2.1] at h)) rfl rfl ?_
 refine Qr tt 1 rfl ?_
 exact kr3 tt [] rfl (rfl)
theorem Qid {p:List Int} {d:Int} (tp:Yw p) (hd:d≠0):Li p [d]=J8 p d:=by
 refine Sj (Qb0 _ _) (Ky _ _) fun m=>?_
 unfold J8
 rw [Gw]
 unfold Li
 by_cases h0:p.length=0
 ·rw [if_pos (.inl h0),if_neg (by omega)]; rfl
 rw [if_neg (by simp; exact fun h=>h0 (by rw [h]; rfl)),Py]
 show (Hm p [d] (List.replicate (p.length+1-1) 0) p.length).getD m 0=_
 have key:∀ i,i≤p.length→(Hm p [d] (List.replicate (p.length+1-1) 0) i).getD m 0=if m<i then p.getD m 0*d else 0:=by
  intro i
  induction i with
  | zero=>intro _; simp only [Hm]; rw [Fc,if_neg (by omega)]
  |
   succ i ih =>
   intro hi
   simp only [Hm]
   rw [C2 _ _ _ _ _ _ (by rw [Hd,qZn]; show i+1≤_; omega),ih (by omega)]
   show (if i≤m∧m<i+1 then (if m<i then p.getD m 0*d else 0)+p.getD i 0*[d].getD (m-i) 0 else _)=_
   by_cases e:m=i
   ·subst e
    rw [if_pos ⟨X2 _,by omega⟩,if_neg (by omega),if_pos (by omega),qJz]
    show 0+p.getD m 0*d=_
    omega
   ·rw [if_neg (by omega)]
    by_cases h1:m<i
    ·rw [if_pos h1,if_pos (by omega)]
    ·rw [if_neg h1,if_neg (by omega)]
 rw [key _ (X2 _)]
theorem Qz8 {s:Nat} {d:Int} (h:Xj d≤s):Bd s [d]:=fun z hz=>by simp at hz; subst hz; exact h
theorem R4 {p:List Int} {d:Int} (tp:Yw p) (hd:d≠0) (hp:Bd 9000000 p) (hs:Xj d≤9000000) (hl:p.length≤1000):Za Tryz.prog 107 [.one (Zp (zp p)),.one (Zp (zp [d]))] (.one (Zp (zp (J8 p d)))):=by
 have h:=Al (p:=p) (q:=[d]) (by omega) (by show 1≤1000000; decide) hp (Qz8 hs) (by decide)
 rwa [Qid tp hd] at h
theorem Rs.dn {k:Crv} (h:Rs k):k.d≠0:=by have:=h.d0; omega
theorem H0 {a b:Crv} (ha:Rs a) (hb:Rs b):Za Tryz.prog 129 [.agg [Zp ((X6 a.x a.d)),Zp ((X6 a.y a.d)),pl a.x,pl a.y,sg a.d,mg a.d],.agg [Zp ((X6 b.x b.d)),Zp ((X6 b.y b.d)),pl b.x,pl b.y,sg b.d,mg b.d]] (.one (Zp ((zp ((Yk a b)))))):=by
 refine X4 tt 4 [] Tryz.func129 Tryz.ntmps129 rfl rfl rfl ?_
 refine kl tt 8 [] Tryz.func106 rfl rfl rfl (Hq (k:=a) (ha)) rfl rfl ?_
 refine kl tt 9 [] Tryz.func106 rfl rfl rfl (Hq (k:=b) (hb)) rfl rfl ?_
 refine kl tt 2 [] qGm rfl rfl rfl (R4 (p:=b.x) (d:=a.d) hb.n.1 ha.dn (Q7 hb.c.x (by omega)) (Xd ha.c.d (by omega)) (by have:=hb.c.lx; omega)) rfl rfl ?_
 refine kl tt 0 [] qGm rfl rfl rfl (R4 (p:=a.x) (d:=b.d) ha.n.1 hb.dn (Q7 ha.c.x (by omega)) (Xd hb.c.d (by omega)) (by have:=ha.c.lx; omega)) rfl rfl ?_
 refine kl tt 1 [] Tryz.func108 rfl rfl rfl (M5 (p:=(J8 b.x a.d)) (q:=(J8 a.x b.d)) (Q7 (Jz hb.c.x ha.c.d) (by omega)) (Q7 (Jz ha.c.x hb.c.d) (by omega)) (by have:=X1 b.x a.d; have:=hb.c.lx; omega) (by have:=X1 a.x b.d; have:=ha.c.lx; omega)) rfl rfl ?_
 exact Xp tt [] rfl (rfl)
theorem W5 {a b:Crv} (ha:Rs a) (hb:Rs b):Za Tryz.prog 130 [.agg [Zp ((X6 a.x a.d)),Zp ((X6 a.y a.d)),pl a.x,pl a.y,sg a.d,mg a.d],.agg [Zp ((X6 b.x b.d)),Zp ((X6 b.y b.d)),pl b.x,pl b.y,sg b.d,mg b.d]] (.one (Zp ((zp ((J2 a b)))))):=by
 refine X4 tt 4 [] qGn Tryz.ntmps130 rfl rfl rfl ?_
 refine kl tt 8 [] Tryz.func106 rfl rfl rfl (Hq (k:=a) (ha)) rfl rfl ?_
 refine kl tt 9 [] Tryz.func106 rfl rfl rfl (Hq (k:=b) (hb)) rfl rfl ?_
 refine kl tt 2 [] qGm rfl rfl rfl (R4 (p:=b.y) (d:=a.d) hb.n.2.1 ha.dn (Q7 hb.c.y (by omega)) (Xd ha.c.d (by omega)) (by have:=hb.c.ly; omega)) rfl rfl ?_
 refine kl tt 0 [] qGm rfl rfl rfl (R4 (p:=a.y) (d:=b.d) ha.n.2.1 hb.dn (Q7 ha.c.y (by omega)) (Xd hb.c.d (by omega)) (by have:=ha.c.ly; omega)) rfl rfl ?_
 refine kl tt 1 [] Tryz.func108 rfl rfl rfl (M5 (p:=(J8 b.y a.d)) (q:=(J8 a.y b.d)) (Q7 (Jz hb.c.y ha.c.d) (by omega)) (Q7 (Jz ha.c.y hb.c.d) (by omega)) (by have:=X1 b.y a.d; have:=hb.c.ly; omega) (by have:=X1 a.y b.d; have:=ha.c.ly; omega)) rfl rfl ?_
 exact Xp tt [] rfl (rfl)
theorem G1 {a b:Crv} (ha:Rs a) (hb:Rs b):Bd 200001 (Yk a b)∧(Yk a b).length≤16:=by
 refine ⟨Q7 (Lt (Jz hb.c.x ha.c.d) (Jz ha.c.x hb.c.d)) (by omega),Xd (Bk _ _) ?_⟩
 have:=X1 b.x a.d; have:=X1 a.x b.d; have:=ha.c.lx; have:=hb.c.lx; omega
theorem Uw {a b:Crv} (ha:Rs a) (hb:Rs b):Bd 200001 (J2 a b)∧(J2 a b).length≤16:=by
 refine ⟨Q7 (Lt (Jz hb.c.y ha.c.d) (Jz ha.c.y hb.c.d)) (by omega),Xd (Bk _ _) ?_⟩
 have:=X1 b.y a.d; have:=X1 a.y b.d; have:=ha.c.ly; have:=hb.c.ly; omega
end Orr

namespace Orr
open Go
variable {P:Program} {ops:Array Oper} {n d:Nat} {rest:List Oper} {N:Sg→List OB→Prop} {L:Sg} {B:List OB} {ty:TypeId} {pos:String} {after:Array Edge}
theorem Qdf {T E size len:Nat} {z:Value} {zs r:List LV} {ps:List (Nat×Operand)} {us:List (Nat×AV)} {ls:List (List LV)} (hu:∀ w,(underlying T).run P w=.ok (.slice E) w) (hs:∀ w,(Go.sizeOf E).run P w=.ok size w) (hz:∀ w,(zeroValue E).run P w=.ok z w)
    (hz1:zl z=some zs) (hz2:Nat.beq zs.length size=true) (hsz:Nat.blt 0 size=true) (hl:Nat.ble (len*size) 16777216=true) (hl0:Nat.blt 0 len=true) (hx:O4 L ps=some us) (hf:Mi (fun i=>some (i*size,size)) (zrep len zs) us=some r)
    (hc:R1 size len r=some ls) (hfr:M7 ls=true) (hd:Nat.blt d n=true) :
    AP P ops n { dst:=some d,op:=.buildSlice T len ps.toArray,type:=ty,pos:=pos,after:=after,guard:=none } d (.one (.frow ls)) L B:=by
  intro K Ob w0 w a Bs L' Fs h hL hB
  have hz2:=Fj hz2
  have hsz:0<size:=by rwa [Mo] at hsz
  have hl:=qXk hl
  have hl0:0<len:=by rwa [Mo] at hl0
  obtain ⟨vs,h1,h2,h3⟩:=Ax hL hx
  have hzr:=Lb (w:=w) (O:=Q3 Ob Bs) hz1
  have hzl:=hzr.len
  obtain ⟨cells,h4,h5⟩:=Sl (w:=w) (O:=Q3 Ob Bs) hf (Et hzr len) h2 h3
  have h6:=Bc h4
  obtain ⟨vss,rfl,h7,h8,h9⟩:=Ns h5 hc
  have hadd:=h.add (f:=⟨fun w O=>RReps w O vss ls,fun hle h=>h.keep hle⟩) h7
  refine V3 hadd h1 (fun w=>Vd (size:=size) (zs:=z.cells.toList) hu hs hz (by simp) (by rw [hzl]; exact hz2) hsz hl hl0 h6 w) hd fun g w' a' h'=>?_
  have h10:=h'.publish
  have h11:RReps w' _ vss ls:=h'.fact 0 rfl
  have h12:=h'
  rw [←qXg vss.flatten] at h12
  have hll:len≤16777216:=Xd (qYv len hsz) hl
  have h63:(2:Nat)^63=9223372036854775808:=by decide
  have h47:(2:Nat)^47=140737488355328:=by decide
  have key:=Tj (lo:=0) (len:=len) (c:=len) (o:=0) h12 (by rw [qXg]; exact h11) h8 (Pj hfr) (by omega) (X2 _) (by omega) (by omega) (fun _=>by simp)
  rw [qXf,Y0 (by omega)] at key
  exact wpList_nil ⟨rfl,_,{ h10 with facts:=fun f hf=>h10.facts f (Ge _ hf) },(by
    have hll2:ls.length=len:=h9
    exact ⟨by rw [←hll2] at key ⊢; exact key,some ⟨g,0,none⟩,by rw [hll2]⟩)⟩
theorem Qs3 {K Ob:Nat→Prop} {w0 w:World} {a:Act} {L':List (Nat×Value)} {Fs:List Fact} {Bo Bs:List Va} {r:Option (Nat×Nat)} {E sz lo len:Nat} {ls:List (List LV)} {v:Value}
    (h:St K Ob w0 w a n L' Fs (Bo++Bs)) (hb:OBRep w (Q3 Ob (Bo++Bs)) (.row r E sz ls) Bo) (hv:XRep w (Q3 Ob (Bo++Bs)) v (.orow r sz lo len)) (hlen:lo+len≤ls.length):∃ nss:List (List Value),RReps w (Q3 Ob (Bo++Bs)) nss ((ls.drop lo).take len)∧Src w v sz len nss.flatten:=by
  rcases r with _ | ⟨g,c⟩
  · obtain ⟨_,rfl,rfl⟩:=hb
    obtain ⟨rfl,rfl,rfl⟩:=hv
    exact ⟨[],trivial,by simp,none,0,rfl,fun h=>absurd h (by simp)⟩
  · obtain ⟨h1,h2,h3,vss,ex,h4,rfl,h5,h6,h7⟩:=hb
    obtain ⟨h8,o,rfl,h9⟩:=hv
    have hall:=h4.all h2
    have hvl:vss.length=ls.length:=h4.len
    refine ⟨(vss.drop lo).take len,RReps.take len (RReps.drop lo h4),?_,_,_,rfl,fun hpos=>⟨g,o,rfl,fun q u hq=>?_⟩⟩
    · rw [Vf (sz:=sz) fun c hc=>hall c (Pr (Rx hc)),Kd,Na,Nb (by omega)]
    · have ha:o=lo*sz:=h9 (.inr (by omega))
      subst ha
      have htk:(vss.take lo).flatten.length=lo*sz:=by
        rw [Vf (sz:=sz) fun c hc=>hall c (Rx hc),Kd,Nb (by omega)]
      have hsp:vss.flatten=(vss.take lo).flatten++(((vss.drop lo).take len).flatten++(vss.drop (lo+len)).flatten):=by
        rw [←qJc,←qJc]
        congr 1
        rw [←List.drop_drop,Iy,Iy]
      rw [h.own_cell (i:=0) rfl]
      have hql:=(Uy.1 hq).1
      rw [hsp,P6,qXh (by rw [htk]; omega),htk,qJo,P6,qZy hql]
      exact hq
theorem Ew (i:Nat) {T E T2 E2 sz m2:Nat} {x y:Operand} {z:Value} {info:TypeInfo} {l ls lo2 ls2:List (List LV)} {r:Option (Nat×Nat)} {lo len:Nat} {B':List OB} {zs:List LV} (hu:∀ w,(underlying T).run P w=.ok (.slice E) w) (hu2:∀ w,(underlying T2).run P w=.ok (.slice E2) w) (hi':∀ w,(typeInfo E).run P w=.ok info w) (hb2:Nat.ble info.bytes 4096=true) (hb3:Nat.blt 0 info.bytes=true) (hs:∀ w,(Go.sizeOf E).run P w=.ok sz w)
    (hz:∀ w,(zeroValue E).run P w=.ok z w) (hz1:zl z=some zs) (hz2:Nat.beq zs.length sz=true) (hsz:Nat.blt 0 sz=true) (hi:Jr B i=some (.row r E sz ls,B')) (hx:J3 L x=some (.one (.frow l))) (hy:J3 L y=some (.one (.orow r sz lo len))) (hlen0:lo+len≤ls.length) (hl2:(ls.drop lo).take len=lo2) (hd:Nat.blt d n=true)
    (hw1:∀ c∈l,c.length=sz) (hfr1:∀ c∈l,∀ x∈c,x.free=true) (hw:∀ c∈lo2,c.length=sz) (hfr:∀ c∈lo2,∀ x∈c,x.free=true) (hk:0<len) (hm:l.length+len<8589934592) (hls:l++lo2=ls2) (hm2:l.length+len=m2)
    (k:∀ r',AW P ops n rest N ((d,.one (.orow r' sz 0 m2))::L) (.row r' E sz ls2::.row r E sz ls::B')) :
    AW P ops n ({ dst:=some d,op:=.call { callee:=.builtin .append,args := #[x,y],argTypes := #[T,T2] },type:=ty,pos:=pos,after:=after,guard:=none }::rest) N L B:=by
  intro K Ob w0 w a Q hs0 hQ
  obtain ⟨L',Bo,Bs,h,hL,hob,hB⟩:=hs0.front hi
  subst hls hm2
  rw [Mo] at hsz
  have e33:(2:Nat)^33=8589934592:=by decide
  have h48:(2:Nat)^48=281474976710656:=by decide
  obtain ⟨v,hv,hr0⟩:=Zt hL hx
  obtain ⟨hr,A0,rfl⟩:LRep w (Q3 Ob (Bo++Bs)) v (.row l)∧∃ A,v=.slice A l.length l.length:=hr0
  obtain ⟨v2,hv2,hr2⟩:=Zt hL hy
  have hz2:=Fj hz2
  have hzl:=(Lb (w:=w) (O:=Q3 Ob (Bo++Bs)) hz1).len
  have hr2:XRep w (Q3 Ob (Bo++Bs)) v2 (.orow r sz lo len):=hr2
  obtain ⟨oss,ho,hold⟩:=Qpt hr hw1
  obtain ⟨nss,hn,hsrc⟩:=Qs3 h hob hr2 hlen0
  rw [hl2] at hn
  have hl2l:lo2.length=len:=by rw [←hl2,Kd,Na]; omega
  have h2:=h.add (f:=⟨fun w O=>(∀ t x,lk L t=some x→∃ v,Z0 L' t=some v∧ARep w O v x)∧BsRep w O B' Bs∧OBRep w O (.row r E sz ls) Bo∧RReps w O oss l∧RReps w O nss lo2,fun hle h=>⟨Fd hle h.1,h.2.1.keep hle,h.2.2.1.keep hle,h.2.2.2.1.keep hle,h.2.2.2.2.keep hle⟩⟩) ⟨hL,hB,hob,ho,hn⟩
  obtain ⟨v',w',Bo',hr',ho',hst⟩:=I4 (P:=P) (v:=.slice A0 l.length l.length) (c:=l.length) (zs:=z.cells.toList) h2 hi' rfl hz (by simp) (by omega)
    (fun w' he=>Vh (hold.keep (w':=w') (fun p v hp=>by rw [show w'.cell? p=w.cell? p from by simp only [World.cell?,he]]; exact hp))) hsrc hold.1 (by omega)
  have hb2':=qXk hb2
  have hb3':0<info.bytes:=by rwa [Mo] at hb3
  have hbig:¬(Builtin.nextslicecap (l.length+len) l.length*info.bytes>2^48):=by
    have:=Ts (l.length+len) l.length (by omega)
    have h2:Builtin.nextslicecap (l.length+len) l.length*info.bytes≤(4*(l.length+len)+2048)*4096:=qJd this hb2'
    omega
  obtain ⟨A',c',rfl,hA'⟩:=hsrc.2
  have hlen:∀ w,(Builtin.lenOf (.slice A' len c')).run P w=.ok len w:=fun _=>rfl
  have hrun:(Builtin.append_ #[T,T2] ty #[.slice A0 l.length l.length,.slice A' len c']).run P w=.ok v' w':=by
    rw [←hr']
    have hroom:¬(l.length+len≤l.length):=by omega
    have hbb:¬(info.bytes=0):=by omega
    simp only [Builtin.append_,hu,hu2,hs,hlen,hi',Sem.run_bind,Sem.run_pure,Result.andThen_ok,qVg,qYt,qJe,hroom,if_false,qXd,false_or,hbb,and_false,hbig,qVe,if_true]
  have h':=hst.put v' hd
  obtain ⟨h4,h5,h5b,h6,h7⟩:=h'.fact 0 rfl
  obtain ⟨hcl,⟨rfl,hm0,rfl⟩ | ⟨g,c,ex,rfl,rfl,hl,hmc,hc63⟩⟩:=ho'
  · exact absurd hm0 (by omega)
  · refine Yl (w':=w') (v:=_) rfl (by simp [execOp,resolve,invoke,h.ev hv,h.ev hv2,builtin,hrun]; rfl) ?_
    have e1:oss.flatten++nss.flatten=(oss++nss).flatten:=by simp
    refine k (some (g,c)) _ _ _ _ _ _ (SA.of (Bo:=[_]) h'.noFacts (Gk h4 ?_) ?_ ⟨Bo,Bs,rfl,h5b,h5⟩) hQ
    · exact ⟨by omega,0,rfl,fun _=>by simp⟩
    · refine ⟨hsz,?_,?_,oss++nss,ex,h6.append h7,by rw [e1],by rw [←e1]; exact hl,by rw [Fl,hl2l]; omega,hc63⟩
      · intro c hc
        rcases Y7.1 hc with hc | hc
        · exact hw1 c hc
        · exact hw c hc
      · intro c hc
        rcases Y7.1 hc with hc | hc
        · exact hfr1 c hc
        · exact hfr c hc
theorem Ev {T E T2 E2 sz:Nat} {x y:Operand} {info:TypeInfo} {l:List (List LV)} {r:Option (Nat×Nat)} {lo:Nat} (hu:∀ w,(underlying T).run P w=.ok (.slice E) w) (hu2:∀ w,(underlying T2).run P w=.ok (.slice E2) w) (hi':∀ w,(typeInfo E).run P w=.ok info w) (hs:∀ w,(Go.sizeOf E).run P w=.ok sz w)
    (hx:J3 L x=some (.one (.frow l))) (hy:J3 L y=some (.one (.orow r sz lo 0))) (hd:Nat.blt d n=true) (k:AW P ops n rest N ((d,.one (.row l))::L) B) :
    AW P ops n ({ dst:=some d,op:=.call { callee:=.builtin .append,args := #[x,y],argTypes := #[T,T2] },type:=ty,pos:=pos,after:=after,guard:=none }::rest) N L B:=by
  rintro K Ob w0 w a Q ⟨L',Bs,h,hL,hB⟩ hQ
  obtain ⟨v,hv,hr0⟩:=Zt hL hx
  obtain ⟨hr,A0,rfl⟩:LRep w (Q3 Ob Bs) v (.row l)∧∃ A,v=.slice A l.length l.length:=hr0
  obtain ⟨v2,hv2,hr2⟩:=Zt hL hy
  have hr2:XRep w (Q3 Ob Bs) v2 (.orow r sz lo 0):=hr2
  obtain ⟨A',c',rfl⟩:∃ A c,v2=.slice A 0 c:=by
    rcases r with _ | ⟨g,c⟩
    · obtain ⟨rfl,_,_⟩:=hr2; exact ⟨_,_,rfl⟩
    · obtain ⟨_,o,rfl,_⟩:=hr2; exact ⟨_,_,rfl⟩
  have hlen:∀ w,(Builtin.lenOf (.slice A' 0 c')).run P w=.ok 0 w:=fun _=>rfl
  have hcells:∀ w,(Builtin.firstCells sz 0 (.slice A' 0 c')).run P w=.ok #[] w:=fun w=>by
    have:=Vh (P:=P) (w:=w) (size:=sz) (m:=0) (x:=.slice A' 0 c') (news:=[]) ⟨by simp,A',c',rfl,fun h=>absurd h (by omega)⟩
    simpa using this
  have hrun:(Builtin.append_ #[T,T2] ty #[.slice A0 l.length l.length,.slice A' 0 c']).run P w=.ok (.slice A0 l.length l.length) w:=by
    cases A0 <;> simp [Builtin.append_,hu,hu2,hs,hlen,hi',hcells,Sem.run_bind,Sem.run_pure,Go.storeCells]
  refine Yl (w':=w) (v:=_) rfl (by simp [execOp,resolve,invoke,h.ev hv,h.ev hv2,builtin,hrun]; rfl) ?_
  exact k _ _ _ _ _ _ ⟨_,Bs,h.put _ hd,Gk hL (show ARep w _ _ (.one (.row l)) from hr),hB⟩ hQ
end Orr

namespace Orr
open Go
section
variable {α:Type} (lt:α→α→Bool)
def U1 (out:List α) (c:α):Nat→Nat
  | 0=>0
  |
   k+1=>match out[k]? with
   | some x=>if lt c x=true then U1 out c k else k+1
   | none=>k+1
def P4 (out:List α) (c:α):List α:=out.take (U1 lt out c out.length)++c::out.drop (U1 lt out c out.length)
def Zf (l:List α):List α:=l.foldl (P4 lt) []
end
variable {α:Type} {lt:α→α→Bool}
theorem Bz {out:List α} {c x:α} {k:Nat} (h0:0<k) (hx:out[k-1]? = some x) (h:lt c x=true):U1 lt out c k=U1 lt out c (k-1):=by
  obtain ⟨j,rfl⟩:∃ j,k=j+1:=⟨k-1,by omega⟩
  have hx:out[j]? = some x:=hx
  simp only [U1,hx,h,if_true]; rfl
theorem Sx {out:List α} {c x:α} {k:Nat} (h0:0<k) (hx:out[k-1]? = some x) (h:lt c x=false):U1 lt out c k=k:=by
  obtain ⟨j,rfl⟩:∃ j,k=j+1:=⟨k-1,by omega⟩
  have hx:out[j]? = some x:=hx
  simp [U1,hx,h]
theorem Qlw (out:List α) (c:α):(P4 lt out c).Perm (c::out):=by
  unfold P4
  exact (qVo).trans (by rw [Iy])
theorem Qiy (l:List α) (c:α):Zf lt (l++[c])=P4 lt (Zf lt l) c:=by simp [Zf,List.foldl_append]
theorem Ng {l:List α} {i:Nat} {c:α} (h:l[i]? = some c):Zf lt (l.take (i+1))=P4 lt (Zf lt (l.take i)) c:=by
  rw [qXq,h]; exact Qiy _ _
theorem A4:∀ (l acc:List α),(l.foldl (P4 lt) acc).Perm (l++acc)
  | [],acc=>List.Perm.refl _
  |
   c::l,acc=>by
   simp only [qYy]
   exact (A4 l _).trans (((Qlw acc c).append_left l).trans qVo)
theorem Tn (l:List α):(Zf lt l).Perm l:=by
  have:=A4 (lt:=lt) l []
  rwa [qXg] at this
theorem Y8 (l:List α):(Zf lt l).length=l.length:=(Tn l).length_eq
theorem Ps {l:List α} {x:α}:x∈Zf lt l↔x∈l:=(Tn l).mem_iff
theorem Qfm {r:α→α→Prop} {out:List α} {c:α} (ht:∀ {a b c},r a b→r b c→r a c) (h1:∀ a,lt c a=true→r c a) (h2:∀ a,lt c a=false→r a c) (h:out.Pairwise r):(P4 lt out c).Pairwise r:=by
  have key:∀ k,k≤out.length→(∀ x∈out.drop k,r c x)→(∀ x∈out.drop (U1 lt out c k),r c x)∧∀ x∈out.take (U1 lt out c k),r x c:=by
    intro k
    induction k with
    | zero=>intro _ hd; exact ⟨by simpa [U1] using hd,by simp [U1]⟩
    |
     succ k ih =>
     intro hk hd
     have hx:out[k]? = some (out[k]'(by omega)):=Xx (by omega)
     cases hl:lt c (out[k]'(by omega)) with
     |
      true =>
      rw [Bz (Nat.succ_pos k) hx hl]
      refine ih (by omega) fun x hx2=>?_
      rw [qZw (by omega)] at hx2
      rcases Vw.1 hx2 with rfl | hx2
      · exact h1 _ hl
      · exact hd x hx2
     |
      false =>
      rw [Sx (Nat.succ_pos k) hx hl]
      refine ⟨hd,fun x hx2=>?_⟩
      rw [List.take_succ_eq_append_getElem (by omega)] at hx2
      rcases Y7.1 hx2 with hx2 | hx2
      · have h3:out.Pairwise r:=h
        rw [←Iy k out,qVn] at h3
        refine ht (h3.2.2 x hx2 (out[k]'(by omega)) ?_) (h2 _ hl)
        rw [qZw (by omega)]; exact Fm ..
      · rw [qZt.1 hx2]; exact h2 _ hl
  obtain ⟨k1,k2⟩:=key out.length (X2 _) (by simp)
  have h3:out.Pairwise r:=h
  rw [←Iy (U1 lt out c out.length) out,qVn] at h3
  unfold P4
  rw [qVn,qXu]
  refine ⟨h3.1,⟨k1,h3.2.1⟩,fun x hx y hy=>?_⟩
  rcases Vw.1 hy with rfl | hy
  · exact k2 x hx
  · exact h3.2.2 x hx y hy
theorem Qdt {r:α→α→Prop} (ht:∀ {a b c},r a b→r b c→r a c) (h1:∀ a b,lt a b=true→r a b) (h2:∀ a b,lt a b=false→r b a) (l:List α):(Zf lt l).Pairwise r:=by
  have:∀ (l acc:List α),acc.Pairwise r→(l.foldl (P4 lt) acc).Pairwise r:=by
    intro l
    induction l with
    | nil=>intro acc h; exact h
    | cons c l ih=>intro acc h; exact ih _ (Qfm ht (h1 c) (fun a=>h2 c a) h)
  exact this l [] List.Pairwise.nil
def V9 (a b:Pt):Bool:=decide (a.id<b.id)
def Qxb (l:List Pt):List Pt:=Zf V9 l
theorem Qcc (l:List Pt):(Qxb l).Pairwise (fun a b=>a.id≤b.id):=Qdt (lt:=V9) (r:=fun a b=>a.id≤b.id) (fun h1 h2=>Int.le_trans h1 h2) (fun _ _ h=>Int.le_of_lt (of_decide_eq_true h)) (fun _ _ h=>by have:=of_decide_eq_false h; omega) l
end Orr
