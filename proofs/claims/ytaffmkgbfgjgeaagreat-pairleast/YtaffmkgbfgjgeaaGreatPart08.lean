/- ARef12B AvDrawAS AvLeaf ARef12C ARef12D RawL ACert AKin NewsL ANews -/
import Derived.Test.YtaffmkgbfgjgeaaGreatPart07
import Derived.Test.YtaffmkgbfgjgeaaGreatPart05
import Derived.Test.YtaffmkgbfgjgeaaGreatPart00
import Derived.Test.YtaffmkgbfgjgeaaGreatPart02
import Derived.Test.YtaffmkgbfgjgeaaGreatPart06
import Derived.Test.YtaffmkgbfgjgeaaGreatPart04
import Derived.Laws.StructEq
set_option linter.all false

namespace Orr
open Go Go.Proofs
abbrev rct (c:Ct):List LV:=[.int .i64 c.kind,.int .i64 c.i0,.int .i64 c.i1,.int .i64 c.i2,.int .i64 c.i3,Zm (zp c.p),.int .i64 c.want,.row [],.bool false]
def Fl (l:List Ct):LV:=.row (l.map rct)
theorem Qbj (l:List Ct):We (Fl l)=some l.length:=by simp [Fl,We]
set_option maxRecDepth 20000 in
theorem Hd {l:List Pt} (hn:l.length≤1000000):Q8 Tryz.prog 89 [.one (Kq l)] (.one (Kq ((Xe Vt l)))):=by
 refine X2 tt 3 [] Tryz.func89 Tryz.ntmps89 rfl rfl rfl ?_
 refine Qf tt 1 [] (Qj (m:=l.length) Vc rfl (Xu _) rfl) rfl ?_
 refine X5 (fun _ k_=>X9 [3] 100 7 rfl (Zg rfl) rfl (Qo k_)) rfl ?_
 refine Qk [3,7,8,0] rfl rfl ?_
 refine Zj (fun m L B=>∃ i r,i≤l.length∧m=l.length-i∧L=[(3,.one (.orow r 7 0 i)),(7,.one (.int .i64 (((l.length:Nat):Int)))),(8,.one (.int .i64 (((i:Nat):Int)))),(0,.one (Kq l))]∧B=[.row r 100 7 (((Xe Vt (l.take i)).map rpt))]) (m:=_) ⟨0,none,K7 _,rfl,rfl,rfl⟩ ?_
 rintro m L B ⟨i,r,hp0,hm,rfl,rfl⟩
 refine Qw tt rfl ?_
 by_cases hlt:i<l.length
 ·obtain ⟨c,hc⟩:∃ c,l[i]? = some c:=⟨_,Xv hlt⟩
  have hO:(Xe Vt (l.take i)).length=i:=by rw [W6,Uk]; omega
  refine Qr tt 1 rfl ?_
  refine Xf tt 3 [] (decide_eq_true (by omega)) rfl rfl ?_
  refine kw (Qj (m:=i) Vc rfl (rfl) rfl) ?_
  refine syp tt 1 [100002] [] rfl ?_
  refine Cu 1 (fun L B=>∃ k,k≤i∧Hz Vt (Xe Vt (l.take i)) c (Xe Vt (l.take i)).length=k∧L=[(0,.one (Kq l)),(3,.one (.orow r 7 0 i)),(4,.one (.int .i64 (((i:Nat):Int)))),(7,.one (.int .i64 (((l.length:Nat):Int)))),(8,.one (.int .i64 (((i:Nat):Int)))),(5,.one (.int .i64 (((k:Nat):Int))))]∧B=[.row r 100 7 (((Xe Vt (l.take i)).map rpt))]) ?_ rfl ?_
  ·skip
   refine Qw tt rfl ?_
   refine Qk [0,3,4,7,8,5] rfl rfl ?_
   refine Zj (fun m L B=>∃ k,k≤i∧Hz Vt (Xe Vt (l.take i)) c k=Hz Vt (Xe Vt (l.take i)) c (Xe Vt (l.take i)).length∧m=k∧L=[(0,.one (Kq l)),(3,.one (.orow r 7 0 i)),(4,.one (.int .i64 (((i:Nat):Int)))),(7,.one (.int .i64 (((l.length:Nat):Int)))),(8,.one (.int .i64 (((i:Nat):Int)))),(5,.one (.int .i64 (((k:Nat):Int))))]∧B=[.row r 100 7 (((Xe Vt (l.take i)).map rpt))]) (m:=_) ⟨i,Ji _,by rw [hO],rfl,rfl,rfl⟩ ?_
   rintro m L B ⟨k,hq0,hq1,hm,rfl,rfl⟩
   refine Qw tt rfl ?_
   rcases H9 k with h0 | h0
   ·have hpos:Hz Vt (Xe Vt (l.take i)) c (Xe Vt (l.take i)).length=k:=by rw [←hq1,h0]; rfl
    refine Qw tt rfl ?_
    refine Qx 14 Qp rfl rfl rfl ?_
    refine Qr tt 3 rfl ?_
    refine kd (Qh rfl rfl (decide_eq_false (by omega)) rfl) rfl ?_
    refine Qw tt rfl ?_
    refine kd (Qh rfl rfl (decide_eq_false (by omega)) rfl) rfl ?_
    refine Qw tt rfl ?_
    refine kd (Qh rfl rfl (decide_eq_false (by omega)) rfl) rfl ?_
    refine Qw tt rfl ?_
    refine kd (Qh rfl rfl (decide_eq_false (by omega)) rfl) rfl ?_
    refine Qw tt rfl ?_
    refine kd (Qh rfl rfl (decide_eq_false (by omega)) rfl) rfl ?_
    refine Qw tt rfl ?_
    refine kd (Qh rfl rfl (decide_eq_false (by omega)) rfl) rfl ?_
    refine Qw tt rfl ?_
    refine kd (Qh rfl rfl (decide_eq_false (by omega)) rfl) rfl ?_
    refine Qw tt rfl ?_
    refine kd (Qh rfl rfl (decide_eq_false (by omega)) rfl) rfl ?_
    refine Qw tt rfl ?_
    refine kd (Qh rfl rfl (decide_eq_false (by omega)) rfl) rfl ?_
    refine Qw tt rfl ?_
    refine kd (Qh rfl rfl (decide_eq_false (by omega)) rfl) rfl ?_
    refine Qw tt rfl ?_
    refine kd (Qh rfl rfl (decide_eq_false (by omega)) rfl) rfl ?_
    refine Qw tt rfl ?_
    refine Qf tt 0 [] (Qh rfl rfl (decide_eq_false (by omega)) rfl) rfl ?_
    refine Qf tt 0 [] (Zu rfl (decide_eq_false (by omega)) rfl rfl) rfl ?_
    refine Xb tt 0 [] (rfl) rfl rfl ?_
    refine Qk [0,3,4,7,8,5] rfl rfl ?_
    refine Q7 ?_
    exact ⟨k,hq0,hpos,rfl,rfl⟩
   obtain ⟨x,hx⟩:∃ x,(Xe Vt (l.take i))[k-1]? = some x:=⟨_,Xv (by omega)⟩
   cases hls:Vt c x
   refine Qw tt rfl ?_
   ·have hpos:Hz Vt (Xe Vt (l.take i)) c (Xe Vt (l.take i)).length=k:=by rw [←hq1,If h0 hx hls]
    refine Qw tt rfl ?_
    refine Qx 14 Qp rfl rfl rfl ?_
    refine Qr tt 3 rfl ?_
    refine kd ((Qd rfl rfl (decide_eq_true (by omega)) (Qv tt rfl rfl))) rfl ?_
    refine Qw tt rfl ?_
    refine kd ((Qd rfl rfl (decide_eq_true (by omega)) (Qv tt rfl rfl))) rfl ?_
    refine Qw tt rfl ?_
    refine kd ((Qd rfl rfl (decide_eq_true (by omega)) (Qi (i) Vc Kn rfl rfl (rfl) (Qg hc) rfl rfl))) rfl ?_
    refine Qw tt rfl ?_
    refine kd ((Qd rfl rfl (decide_eq_true (by omega)) (Qv tt rfl rfl))) rfl ?_
    refine Qw tt rfl ?_
    refine kd ((Qd rfl rfl (decide_eq_true (by omega)) (Qv tt rfl rfl))) rfl ?_
    refine Qw tt rfl ?_
    refine kd ((Qd rfl rfl (decide_eq_true (by omega)) (Qv tt rfl rfl))) rfl ?_
    refine Qw tt rfl ?_
    refine kd ((Qd rfl rfl (decide_eq_true (by omega)) (Qv tt rfl rfl))) rfl ?_
    refine Qw tt rfl ?_
    refine kd ((Qd rfl rfl (decide_eq_true (by omega)) (Xs (r:=((k-1:Nat):Int)) rfl rfl (Qm (by omega) (by omega)) rfl))) rfl ?_
    refine Qw tt rfl ?_
    refine kd ((Qd rfl rfl (decide_eq_true (by omega)) (Zr (k-1) Vc Kn rfl rfl (rfl) (by omega) rfl))) rfl ?_
    refine Qw tt rfl ?_
    refine kd ((Qd rfl rfl (decide_eq_true (by omega)) (Qv tt rfl rfl))) rfl ?_
    refine Qw tt rfl ?_
    refine kd ((Qd rfl rfl (decide_eq_true (by omega)) (Yo 0 Lw Js rfl rfl (by rw [Vy]; exact Qg hx) rfl rfl rfl))) rfl ?_
    refine Qw tt rfl ?_
    refine Qf tt 0 [] ((Qd rfl rfl (decide_eq_true (by omega)) (Qv tt rfl rfl))) rfl ?_
    refine Qf tt 0 [] (Zp rfl (decide_eq_true (by omega)) rfl rfl) rfl ?_
    refine Xb tt 0 [] (hls) rfl rfl ?_
    refine Qk [0,3,4,7,8,5] rfl rfl ?_
    refine Q7 ?_
    exact ⟨k,hq0,hpos,rfl,rfl⟩
   skip
   refine Qw tt rfl ?_
   refine Qx 14 Qp rfl rfl rfl ?_
   refine Qr tt 3 rfl ?_
   refine kd ((Qd rfl rfl (decide_eq_true (by omega)) (Qv tt rfl rfl))) rfl ?_
   refine Qw tt rfl ?_
   refine kd ((Qd rfl rfl (decide_eq_true (by omega)) (Qv tt rfl rfl))) rfl ?_
   refine Qw tt rfl ?_
   refine kd ((Qd rfl rfl (decide_eq_true (by omega)) (Qi (i) Vc Kn rfl rfl (rfl) (Qg hc) rfl rfl))) rfl ?_
   refine Qw tt rfl ?_
   refine kd ((Qd rfl rfl (decide_eq_true (by omega)) (Qv tt rfl rfl))) rfl ?_
   refine Qw tt rfl ?_
   refine kd ((Qd rfl rfl (decide_eq_true (by omega)) (Qv tt rfl rfl))) rfl ?_
   refine Qw tt rfl ?_
   refine kd ((Qd rfl rfl (decide_eq_true (by omega)) (Qv tt rfl rfl))) rfl ?_
   refine Qw tt rfl ?_
   refine kd ((Qd rfl rfl (decide_eq_true (by omega)) (Qv tt rfl rfl))) rfl ?_
   refine Qw tt rfl ?_
   refine kd ((Qd rfl rfl (decide_eq_true (by omega)) (Xs (r:=((k-1:Nat):Int)) rfl rfl (Qm (by omega) (by omega)) rfl))) rfl ?_
   refine Qw tt rfl ?_
   refine kd ((Qd rfl rfl (decide_eq_true (by omega)) (Zr (k-1) Vc Kn rfl rfl (rfl) (by omega) rfl))) rfl ?_
   refine Qw tt rfl ?_
   refine kd ((Qd rfl rfl (decide_eq_true (by omega)) (Qv tt rfl rfl))) rfl ?_
   refine Qw tt rfl ?_
   refine kd ((Qd rfl rfl (decide_eq_true (by omega)) (Yo 0 Lw Js rfl rfl (by rw [Vy]; exact Qg hx) rfl rfl rfl))) rfl ?_
   refine Qw tt rfl ?_
   refine Qf tt 0 [] ((Qd rfl rfl (decide_eq_true (by omega)) (Qv tt rfl rfl))) rfl ?_
   refine Qf tt 0 [] (Zp rfl (decide_eq_true (by omega)) rfl rfl) rfl ?_
   refine Xf tt 1 [] (hls) rfl rfl ?_
   refine Qf tt 1 [] (Xs (r:=((k-1:Nat):Int)) rfl rfl (Qm (by omega) (by omega)) rfl) rfl ?_
   refine Qk [0,3,4,7,8,5] rfl rfl ?_
   refine Q7 ?_
   refine ⟨_,?_,k-1,by omega,by rw [←hq1,Qeo h0 hx hls],rfl,rfl,rfl⟩
   omega
  rintro L B ⟨k,hp0,hp1,rfl,rfl⟩
  refine Qw tt rfl ?_
  skip
  skip
  refine Qw tt rfl ?_
  refine kc (S0 Qp 12 [31,32,33,34,35,36,37,38,39,40,41,42] [[],[],[0,1],[],[],[3,4],[5],[6],[],[],[8,9],[7,10]] [.one (.orow r 7 0 i),.one (.int .i64 (((k:Nat):Int))),.one (.orow r 7 0 k),.one (Kq l),.one (.int .i64 (((i:Nat):Int))),.one (.sh [Zm ((X3 c.c.x c.c.d)),Zm ((X3 c.c.y c.c.d)),pl c.c.x,pl c.c.y,sg c.c.d,mg c.c.d,.int .i64 c.id]),.agg [Zm ((X3 c.c.x c.c.d)),Zm ((X3 c.c.y c.c.d)),pl c.c.x,pl c.c.y,sg c.c.d,mg c.c.d,.int .i64 c.id],.one (.frow [[Zm ((X3 c.c.x c.c.d)),Zm ((X3 c.c.y c.c.d)),pl c.c.x,pl c.c.y,sg c.c.d,mg c.c.d,.int .i64 c.id]]),.one (.orow r 7 0 i),.one (.int .i64 (((k:Nat):Int))),.one (.orow r 7 ((0+k)) ((i-k))),.un] 11 (fun u B=>u=.one (.row (rpt c::((Xe Vt (l.take i)).map rpt).drop k))∧B=[.row r 100 7 (((Xe Vt (l.take i)).map rpt))]) rfl rfl rfl rfl ⟨Zd rfl rfl,Zd rfl rfl,Gc k Vc Kn rfl rfl rfl (by omega) rfl,Zd rfl rfl,Zd rfl rfl,Qi (i) Vc Kn rfl rfl (rfl) (Qg hc) rfl rfl,Zz qUg Kn rfl rfl rfl rfl,Qd5 Vc Kn qWh rfl rfl rfl rfl rfl rfl rfl rfl rfl rfl,Zd rfl rfl,Zd rfl rfl,F9 k Vc Kn rfl rfl rfl (by omega) rfl,?_,trivial⟩ ?_ ?_)
  ·refine Rz fun N k_=>?_
   rcases Mp k i with hki | hki
   ·refine Oq 0 (lo2:=((Xe Vt (l.take i)).map rpt).drop k) (ls2:=rpt c::((Xe Vt (l.take i)).map rpt).drop k) (m2:=i-k+1) Vc Vc Tryz.typeInfo100 rfl rfl Kn qWh rfl rfl rfl rfl rfl rfl (by rw [Zw,hO]; omega) (by rw [Vy]; exact Vh (by rw [E5,Zw,hO]; omega)) rfl (Yh rfl) (Ya rfl) (fun z hz=>(Vu (f:=rpt) (sz:=7) _ fun _=>rfl) z (Eg hz)) (fun z hz=>(F1 (f:=rpt) _ fun _=>rfl) z (Eg hz)) (by omega) (by show 1+_<_; omega) rfl (by show 1+_=_; omega) fun r_=>?_
    refine Xm 0 [42] rfl (Zg rfl) (by show _=_+1; rw [E5,Zw,hO]) (by show _+1<_; rw [E5,Zw,hO]; omega) rfl ?_
    refine E9 [42,38,41,0,3,4,7,8,5] rfl ?_
    exact Qo (k_ _ _ ⟨rfl,rfl⟩)
   refine Jf 41 (y:=.one (.orow r 7 (0+k) 0)) rfl (by show AV.one (.orow r 7 (0+k) (i-k))=_; rw [show i-k=0 by omega]) ?_
   refine In Vc Vc Tryz.typeInfo100 Kn rfl rfl rfl ?_
   refine Jf 41 (y:=.one (.orow r 7 (0+k) (i-k))) rfl (by show AV.one (.orow r 7 (0+k) 0)=_; rw [show i-k=0 by omega]) ?_
   refine E9 [42,38,41,0,3,4,7,8,5] rfl ?_
   exact Qo (k_ _ _ ⟨by rw [Aa (by rw [Zw,hO]; omega)] <;> rfl,rfl⟩)
  ·rintro u_ B_ ⟨rfl,rfl⟩
   exact ⟨Zd rfl rfl,Zd rfl rfl,Gc k Vc Kn rfl rfl rfl (by omega) rfl,Zd rfl rfl,Zd rfl rfl,Qi (i) Vc Kn rfl rfl (rfl) (Qg hc) rfl rfl,Zz qUg Kn rfl rfl rfl rfl,Qd5 Vc Kn qWh rfl rfl rfl rfl rfl rfl rfl rfl rfl rfl,Zd rfl rfl,Zd rfl rfl,F9 k Vc Kn rfl rfl rfl (by omega) rfl,trivial,trivial⟩
  rintro u_ B_ ⟨rfl,rfl⟩
  refine ⟨_,rfl,kn ?_⟩
  refine Qw tt rfl ?_
  refine Zn (Zo (ls2:=((D3 Vt (Xe Vt (l.take i)) c).map rpt)) (m2:=i+1) 0 Vc Vc Tryz.typeInfo100 rfl rfl Kn qWh rfl rfl rfl rfl rfl rfl rfl (by rw [Zw]; omega) ((fun z hz=>(Vb.1 hz).elim (fun e=>by rw [e]; rfl) (fun h=>(Vu (f:=rpt) (sz:=7) _ fun _=>rfl) z (Eg h)))) ((fun z hz=>(Vb.1 hz).elim (fun e=>by rw [e]; exact Ya rfl _ (qZw.2 rfl)) (fun h=>(F1 (f:=rpt) _ fun _=>rfl) z (Eg h)))) (by show k+(_+1)<_; rw [E5,Zw,hO]; omega) (by simp [D3,hp1,qXu,List.map_drop]) (by show k+(_+1)=_; rw [E5,Zw,hO]; omega) fun r1=>ko ?_)
  refine Qr tt 1 rfl ?_
  refine Qf tt 1 [] (Q6 (r:=((i+1:Nat):Int)) rfl rfl (Qm (by omega) (by omega)) rfl) rfl ?_
  refine X5 (fun _ k_=>Jx 0 rfl (by rw [←I3 hc]) (Qo k_)) rfl ?_
  refine Qk [3,7,8,0] rfl rfl ?_
  refine Q7 ?_
  refine ⟨_,?_,i+1,r1,by omega,rfl,rfl,rfl⟩
  omega
 have hO:(Xe Vt (l.take i)).length=i:=by rw [W6,Uk]; omega
 have hi:l.take i=l:=Vh (by omega)
 refine Qr tt 1 rfl ?_
 refine Xb tt 2 [] (decide_eq_false (by omega)) rfl rfl ?_
 refine X5 (fun _ k_=>Xm 0 [2] rfl (Zg rfl) (by rw [Zw,hO]) (by rw [Zw,hO]; omega) rfl (Qo k_)) rfl ?_
 exact Xq tt [] rfl (by rw [hi]; rfl)
set_option maxRecDepth 20000 in
theorem C6 {k i0 i1 i2 i3 l j0 j1 j2 j3:Int}:Q8 Tryz.prog 283 [.agg [.int .i64 k,.int .i64 i0,.int .i64 i1,.int .i64 i2,.int .i64 i3],.agg [.int .i64 l,.int .i64 j0,.int .i64 j1,.int .i64 j2,.int .i64 j3]] (.one (.bool (Ha [k,i0,i1,i2,i3] [l,j0,j1,j2,j3]))):=by
 refine X2 tt 8 [] Tryz.func283 Tryz.ntmps283 rfl rfl rfl ?_
 refine kif rfl (fun hb_if1=>?_) (fun hb_if1=>?_)
 ·try simp only [decide_eq_true_eq,decide_eq_false_iff_not,Vf,Vg] at hb_if1
  refine Qr tt 6 rfl ?_
  exact Xq tt [] rfl (by simp_all [Ha])
 try simp only [decide_eq_true_eq,decide_eq_false_iff_not,Vf,Vg] at hb_if1
 refine Qr tt 1 rfl ?_
 refine H1 5 ?_
 refine J7 ?_
 refine Qr tt 2 rfl ?_
 refine Xf tt 0 [] (rfl) rfl rfl ?_
 refine Qx 8 Qp rfl rfl rfl ?_
 refine Qr tt 2 rfl ?_
 refine kd (Zv 0 Sm Js rfl rfl rfl (by decide) rfl rfl) rfl ?_
 refine Qr tt 3 rfl ?_
 refine kd (Zv 0 Sm Js rfl rfl rfl (by decide) rfl rfl) rfl ?_
 refine Qr tt 1 rfl ?_
 refine Qr tt 1 rfl ?_
 refine kif rfl (fun hb_if3=>?_) (fun hb_if3=>?_)
 ·try simp only [decide_eq_true_eq,decide_eq_false_iff_not,Vf,Vg] at hb_if3
  refine Qw tt rfl ?_
  refine Qx 8 Qp rfl rfl rfl ?_
  refine Qr tt 2 rfl ?_
  refine kd (Zv 0 Sm Js rfl rfl rfl (by decide) rfl rfl) rfl ?_
  refine Qr tt 3 rfl ?_
  refine kd (Zv 0 Sm Js rfl rfl rfl (by decide) rfl rfl) rfl ?_
  refine Qr tt 1 rfl ?_
  refine Qr tt 2 rfl ?_
  exact Xq tt [] rfl (by simp_all [Ha])
 try simp only [decide_eq_true_eq,decide_eq_false_iff_not,Vf,Vg] at hb_if3
 refine Qr tt 1 rfl ?_
 refine Qf tt 1 [] (Q6 (r:=((1:Nat):Int)) rfl rfl (rfl) rfl) rfl ?_
 refine Q7 ?_
 refine J7 ?_
 refine Qr tt 2 rfl ?_
 refine Xf tt 0 [] (rfl) rfl rfl ?_
 refine Qx 8 Qp rfl rfl rfl ?_
 refine Qr tt 2 rfl ?_
 refine kd (Zv 1 Sm Js rfl rfl rfl (by decide) rfl rfl) rfl ?_
 refine Qr tt 3 rfl ?_
 refine kd (Zv 1 Sm Js rfl rfl rfl (by decide) rfl rfl) rfl ?_
 refine Qr tt 1 rfl ?_
 refine Qr tt 1 rfl ?_
 refine kif rfl (fun hb_if3=>?_) (fun hb_if3=>?_)
 ·try simp only [decide_eq_true_eq,decide_eq_false_iff_not,Vf,Vg] at hb_if3
  refine Qw tt rfl ?_
  refine Qx 8 Qp rfl rfl rfl ?_
  refine Qr tt 2 rfl ?_
  refine kd (Zv 1 Sm Js rfl rfl rfl (by decide) rfl rfl) rfl ?_
  refine Qr tt 3 rfl ?_
  refine kd (Zv 1 Sm Js rfl rfl rfl (by decide) rfl rfl) rfl ?_
  refine Qr tt 1 rfl ?_
  refine Qr tt 2 rfl ?_
  exact Xq tt [] rfl (by simp_all [Ha])
 try simp only [decide_eq_true_eq,decide_eq_false_iff_not,Vf,Vg] at hb_if3
 refine Qr tt 1 rfl ?_
 refine Qf tt 1 [] (Q6 (r:=((2:Nat):Int)) rfl rfl (rfl) rfl) rfl ?_
 refine Q7 ?_
 refine J7 ?_
 refine Qr tt 2 rfl ?_
 refine Xf tt 0 [] (rfl) rfl rfl ?_
 refine Qx 8 Qp rfl rfl rfl ?_
 refine Qr tt 2 rfl ?_
 refine kd (Zv 2 Sm Js rfl rfl rfl (by decide) rfl rfl) rfl ?_
 refine Qr tt 3 rfl ?_
 refine kd (Zv 2 Sm Js rfl rfl rfl (by decide) rfl rfl) rfl ?_
 refine Qr tt 1 rfl ?_
 refine Qr tt 1 rfl ?_
 refine kif rfl (fun hb_if3=>?_) (fun hb_if3=>?_)
 ·try simp only [decide_eq_true_eq,decide_eq_false_iff_not,Vf,Vg] at hb_if3
  refine Qw tt rfl ?_
  refine Qx 8 Qp rfl rfl rfl ?_
  refine Qr tt 2 rfl ?_
  refine kd (Zv 2 Sm Js rfl rfl rfl (by decide) rfl rfl) rfl ?_
  refine Qr tt 3 rfl ?_
  refine kd (Zv 2 Sm Js rfl rfl rfl (by decide) rfl rfl) rfl ?_
  refine Qr tt 1 rfl ?_
  refine Qr tt 2 rfl ?_
  exact Xq tt [] rfl (by simp_all [Ha])
 try simp only [decide_eq_true_eq,decide_eq_false_iff_not,Vf,Vg] at hb_if3
 refine Qr tt 1 rfl ?_
 refine Qf tt 1 [] (Q6 (r:=((3:Nat):Int)) rfl rfl (rfl) rfl) rfl ?_
 refine Q7 ?_
 refine J7 ?_
 refine Qr tt 2 rfl ?_
 refine Xf tt 0 [] (rfl) rfl rfl ?_
 refine Qx 8 Qp rfl rfl rfl ?_
 refine Qr tt 2 rfl ?_
 refine kd (Zv 3 Sm Js rfl rfl rfl (by decide) rfl rfl) rfl ?_
 refine Qr tt 3 rfl ?_
 refine kd (Zv 3 Sm Js rfl rfl rfl (by decide) rfl rfl) rfl ?_
 refine Qr tt 1 rfl ?_
 refine Qr tt 1 rfl ?_
 refine kif rfl (fun hb_if3=>?_) (fun hb_if3=>?_)
 ·try simp only [decide_eq_true_eq,decide_eq_false_iff_not,Vf,Vg] at hb_if3
  refine Qw tt rfl ?_
  refine Qx 8 Qp rfl rfl rfl ?_
  refine Qr tt 2 rfl ?_
  refine kd (Zv 3 Sm Js rfl rfl rfl (by decide) rfl rfl) rfl ?_
  refine Qr tt 3 rfl ?_
  refine kd (Zv 3 Sm Js rfl rfl rfl (by decide) rfl rfl) rfl ?_
  refine Qr tt 1 rfl ?_
  refine Qr tt 2 rfl ?_
  exact Xq tt [] rfl (by simp_all [Ha])
 try simp only [decide_eq_true_eq,decide_eq_false_iff_not,Vf,Vg] at hb_if3
 refine Qr tt 1 rfl ?_
 refine Qf tt 1 [] (Q6 (r:=((4:Nat):Int)) rfl rfl (rfl) rfl) rfl ?_
 refine Q7 ?_
 refine J7 ?_
 refine Qr tt 2 rfl ?_
 refine Xb tt 1 [] (rfl) rfl rfl ?_
 exact Xq tt [] rfl (by simp_all [Ha])
set_option maxRecDepth 20000 in
theorem Qej {l:List Ct} (hn:l.length≤1000000):Q8 Tryz.prog 222 [.one (Fl l)] (.one (Fl ((Xe Yy l)))):=by
 refine X2 tt 3 [] Tryz.func222 Tryz.ntmps222 rfl rfl rfl ?_
 refine Qf tt 1 [] (Qj (m:=l.length) L1 rfl (Qbj _) rfl) rfl ?_
 refine X5 (fun _ k_=>X9 [3] 47 9 rfl (Zg rfl) rfl (Qo k_)) rfl ?_
 refine Qk [3,7,8,0] rfl rfl ?_
 refine Zj (fun m L B=>∃ i r,i≤l.length∧m=l.length-i∧L=[(3,.one (.orow r 9 0 i)),(7,.one (.int .i64 (((l.length:Nat):Int)))),(8,.one (.int .i64 (((i:Nat):Int)))),(0,.one (Fl l))]∧B=[.row r 47 9 (((Xe Yy (l.take i)).map rct))]) (m:=_) ⟨0,none,K7 _,rfl,rfl,rfl⟩ ?_
 rintro m L B ⟨i,r,hp0,hm,rfl,rfl⟩
 refine Qw tt rfl ?_
 by_cases hlt:i<l.length
 ·obtain ⟨c,hc⟩:∃ c,l[i]? = some c:=⟨_,Xv hlt⟩
  have hO:(Xe Yy (l.take i)).length=i:=by rw [W6,Uk]; omega
  refine Qr tt 1 rfl ?_
  refine Xf tt 3 [] (decide_eq_true (by omega)) rfl rfl ?_
  refine kw (Qj (m:=i) L1 rfl (rfl) rfl) ?_
  refine syp tt 1 [100002] [] rfl ?_
  refine Cu 1 (fun L B=>∃ k,k≤i∧Hz Yy (Xe Yy (l.take i)) c (Xe Yy (l.take i)).length=k∧L=[(0,.one (Fl l)),(3,.one (.orow r 9 0 i)),(4,.one (.int .i64 (((i:Nat):Int)))),(7,.one (.int .i64 (((l.length:Nat):Int)))),(8,.one (.int .i64 (((i:Nat):Int)))),(5,.one (.int .i64 (((k:Nat):Int))))]∧B=[.row r 47 9 (((Xe Yy (l.take i)).map rct))]) ?_ rfl ?_
  ·skip
   refine Qw tt rfl ?_
   refine Qk [0,3,4,7,8,5] rfl rfl ?_
   refine Zj (fun m L B=>∃ k,k≤i∧Hz Yy (Xe Yy (l.take i)) c k=Hz Yy (Xe Yy (l.take i)) c (Xe Yy (l.take i)).length∧m=k∧L=[(0,.one (Fl l)),(3,.one (.orow r 9 0 i)),(4,.one (.int .i64 (((i:Nat):Int)))),(7,.one (.int .i64 (((l.length:Nat):Int)))),(8,.one (.int .i64 (((i:Nat):Int)))),(5,.one (.int .i64 (((k:Nat):Int))))]∧B=[.row r 47 9 (((Xe Yy (l.take i)).map rct))]) (m:=_) ⟨i,Ji _,by rw [hO],rfl,rfl,rfl⟩ ?_
   rintro m L B ⟨k,hq0,hq1,hm,rfl,rfl⟩
   refine Qw tt rfl ?_
   rcases H9 k with h0 | h0
   ·have hpos:Hz Yy (Xe Yy (l.take i)) c (Xe Yy (l.take i)).length=k:=by rw [←hq1,h0]; rfl
    refine Qw tt rfl ?_
    refine Qx 14 Qp rfl rfl rfl ?_
    refine Qr tt 3 rfl ?_
    refine kd (Qh rfl rfl (decide_eq_false (by omega)) rfl) rfl ?_
    refine Qw tt rfl ?_
    refine kd (Qh rfl rfl (decide_eq_false (by omega)) rfl) rfl ?_
    refine Qw tt rfl ?_
    refine kd (Qh rfl rfl (decide_eq_false (by omega)) rfl) rfl ?_
    refine Qw tt rfl ?_
    refine kd (Qh rfl rfl (decide_eq_false (by omega)) rfl) rfl ?_
    refine Qw tt rfl ?_
    refine kd (Qh rfl rfl (decide_eq_false (by omega)) rfl) rfl ?_
    refine Qw tt rfl ?_
    refine kd (Qh rfl rfl (decide_eq_false (by omega)) rfl) rfl ?_
    refine Qw tt rfl ?_
    refine kd (Qh rfl rfl (decide_eq_false (by omega)) rfl) rfl ?_
    refine Qw tt rfl ?_
    refine kd (Qh rfl rfl (decide_eq_false (by omega)) rfl) rfl ?_
    refine Qw tt rfl ?_
    refine kd (Qh rfl rfl (decide_eq_false (by omega)) rfl) rfl ?_
    refine Qw tt rfl ?_
    refine kd (Qh rfl rfl (decide_eq_false (by omega)) rfl) rfl ?_
    refine Qw tt rfl ?_
    refine kd (Qh rfl rfl (decide_eq_false (by omega)) rfl) rfl ?_
    refine Qw tt rfl ?_
    refine Qf tt 0 [] (Qh rfl rfl (decide_eq_false (by omega)) rfl) rfl ?_
    refine Qf tt 0 [] (Zu rfl (decide_eq_false (by omega)) rfl rfl) rfl ?_
    refine Xb tt 0 [] (rfl) rfl rfl ?_
    refine Qk [0,3,4,7,8,5] rfl rfl ?_
    refine Q7 ?_
    exact ⟨k,hq0,hpos,rfl,rfl⟩
   obtain ⟨x,hx⟩:∃ x,(Xe Yy (l.take i))[k-1]? = some x:=⟨_,Xv (by omega)⟩
   cases hls:Yy c x
   refine Qw tt rfl ?_
   ·have hpos:Hz Yy (Xe Yy (l.take i)) c (Xe Yy (l.take i)).length=k:=by rw [←hq1,If h0 hx hls]
    refine Qw tt rfl ?_
    refine Qx 14 Qp rfl rfl rfl ?_
    refine Qr tt 3 rfl ?_
    refine kd ((Qd rfl rfl (decide_eq_true (by omega)) (Qv tt rfl rfl))) rfl ?_
    refine Qw tt rfl ?_
    refine kd ((Qd rfl rfl (decide_eq_true (by omega)) (Qv tt rfl rfl))) rfl ?_
    refine Qw tt rfl ?_
    refine kd ((Qd rfl rfl (decide_eq_true (by omega)) (Qi (i) L1 qWq rfl rfl (rfl) (Qg hc) rfl rfl))) rfl ?_
    refine Qw tt rfl ?_
    refine kd ((Qd rfl rfl (decide_eq_true (by omega)) (Qv tt rfl rfl))) rfl ?_
    refine Qw tt rfl ?_
    refine kd ((Qd rfl rfl (decide_eq_true (by omega)) (Qv tt rfl rfl))) rfl ?_
    refine Qw tt rfl ?_
    refine kd ((Qd rfl rfl (decide_eq_true (by omega)) (Qv tt rfl rfl))) rfl ?_
    refine Qw tt rfl ?_
    refine kd ((Qd rfl rfl (decide_eq_true (by omega)) (Qv tt rfl rfl))) rfl ?_
    refine Qw tt rfl ?_
    refine kd ((Qd rfl rfl (decide_eq_true (by omega)) (Xs (r:=((k-1:Nat):Int)) rfl rfl (Qm (by omega) (by omega)) rfl))) rfl ?_
    refine Qw tt rfl ?_
    refine kd ((Qd rfl rfl (decide_eq_true (by omega)) (Zr (k-1) L1 qWq rfl rfl (rfl) (by omega) rfl))) rfl ?_
    refine Qw tt rfl ?_
    refine kd ((Qd rfl rfl (decide_eq_true (by omega)) (Qv tt rfl rfl))) rfl ?_
    refine Qw tt rfl ?_
    refine kd ((Qd rfl rfl (decide_eq_true (by omega)) (Yo 0 qFy qFv rfl rfl (by rw [Vy]; exact Qg hx) rfl rfl rfl))) rfl ?_
    refine Qw tt rfl ?_
    refine Qf tt 0 [] ((Qd rfl rfl (decide_eq_true (by omega)) (Zs Tryz.func283 rfl rfl rfl rfl (C6) rfl))) rfl ?_
    refine Qf tt 0 [] (Zp rfl (decide_eq_true (by omega)) rfl rfl) rfl ?_
    refine Xb tt 0 [] (hls) rfl rfl ?_
    refine Qk [0,3,4,7,8,5] rfl rfl ?_
    refine Q7 ?_
    exact ⟨k,hq0,hpos,rfl,rfl⟩
   skip
   refine Qw tt rfl ?_
   refine Qx 14 Qp rfl rfl rfl ?_
   refine Qr tt 3 rfl ?_
   refine kd ((Qd rfl rfl (decide_eq_true (by omega)) (Qv tt rfl rfl))) rfl ?_
   refine Qw tt rfl ?_
   refine kd ((Qd rfl rfl (decide_eq_true (by omega)) (Qv tt rfl rfl))) rfl ?_
   refine Qw tt rfl ?_
   refine kd ((Qd rfl rfl (decide_eq_true (by omega)) (Qi (i) L1 qWq rfl rfl (rfl) (Qg hc) rfl rfl))) rfl ?_
   refine Qw tt rfl ?_
   refine kd ((Qd rfl rfl (decide_eq_true (by omega)) (Qv tt rfl rfl))) rfl ?_
   refine Qw tt rfl ?_
   refine kd ((Qd rfl rfl (decide_eq_true (by omega)) (Qv tt rfl rfl))) rfl ?_
   refine Qw tt rfl ?_
   refine kd ((Qd rfl rfl (decide_eq_true (by omega)) (Qv tt rfl rfl))) rfl ?_
   refine Qw tt rfl ?_
   refine kd ((Qd rfl rfl (decide_eq_true (by omega)) (Qv tt rfl rfl))) rfl ?_
   refine Qw tt rfl ?_
   refine kd ((Qd rfl rfl (decide_eq_true (by omega)) (Xs (r:=((k-1:Nat):Int)) rfl rfl (Qm (by omega) (by omega)) rfl))) rfl ?_
   refine Qw tt rfl ?_
   refine kd ((Qd rfl rfl (decide_eq_true (by omega)) (Zr (k-1) L1 qWq rfl rfl (rfl) (by omega) rfl))) rfl ?_
   refine Qw tt rfl ?_
   refine kd ((Qd rfl rfl (decide_eq_true (by omega)) (Qv tt rfl rfl))) rfl ?_
   refine Qw tt rfl ?_
   refine kd ((Qd rfl rfl (decide_eq_true (by omega)) (Yo 0 qFy qFv rfl rfl (by rw [Vy]; exact Qg hx) rfl rfl rfl))) rfl ?_
   refine Qw tt rfl ?_
   refine Qf tt 0 [] ((Qd rfl rfl (decide_eq_true (by omega)) (Zs Tryz.func283 rfl rfl rfl rfl (C6) rfl))) rfl ?_
   refine Qf tt 0 [] (Zp rfl (decide_eq_true (by omega)) rfl rfl) rfl ?_
   refine Xf tt 1 [] (hls) rfl rfl ?_
   refine Qf tt 1 [] (Xs (r:=((k-1:Nat):Int)) rfl rfl (Qm (by omega) (by omega)) rfl) rfl ?_
   refine Qk [0,3,4,7,8,5] rfl rfl ?_
   refine Q7 ?_
   refine ⟨_,?_,k-1,by omega,by rw [←hq1,Qeo h0 hx hls],rfl,rfl,rfl⟩
   omega
  rintro L B ⟨k,hp0,hp1,rfl,rfl⟩
  refine Qw tt rfl ?_
  skip
  skip
  refine Qw tt rfl ?_
  refine kc (S0 Qp 12 [31,32,33,34,35,36,37,38,39,40,41,42] [[],[],[0,1],[],[],[3,4],[5],[6],[],[],[8,9],[7,10]] [.one (.orow r 9 0 i),.one (.int .i64 (((k:Nat):Int))),.one (.orow r 9 0 k),.one (Fl l),.one (.int .i64 (((i:Nat):Int))),.one (.sh [.int .i64 c.kind,.int .i64 c.i0,.int .i64 c.i1,.int .i64 c.i2,.int .i64 c.i3,Zm ((zp c.p)),.int .i64 c.want,.row ([]),.bool false]),.agg [.int .i64 c.kind,.int .i64 c.i0,.int .i64 c.i1,.int .i64 c.i2,.int .i64 c.i3,Zm ((zp c.p)),.int .i64 c.want,.row ([]),.bool false],.one (.frow [[.int .i64 c.kind,.int .i64 c.i0,.int .i64 c.i1,.int .i64 c.i2,.int .i64 c.i3,Zm ((zp c.p)),.int .i64 c.want,.row ([]),.bool false]]),.one (.orow r 9 0 i),.one (.int .i64 (((k:Nat):Int))),.one (.orow r 9 ((0+k)) ((i-k))),.un] 11 (fun u B=>u=.one (.row (rct c::((Xe Yy (l.take i)).map rct).drop k))∧B=[.row r 47 9 (((Xe Yy (l.take i)).map rct))]) rfl rfl rfl rfl ⟨Zd rfl rfl,Zd rfl rfl,Gc k L1 qWq rfl rfl rfl (by omega) rfl,Zd rfl rfl,Zd rfl rfl,Qi (i) L1 qWq rfl rfl (rfl) (Qg hc) rfl rfl,Zz Tryz.isAgg47 qWq rfl rfl rfl rfl,Qd5 L1 qWq qUe rfl rfl rfl rfl rfl rfl rfl rfl rfl rfl,Zd rfl rfl,Zd rfl rfl,F9 k L1 qWq rfl rfl rfl (by omega) rfl,?_,trivial⟩ ?_ ?_)
  ·refine Rz fun N k_=>?_
   rcases Mp k i with hki | hki
   ·refine Oq 0 (lo2:=((Xe Yy (l.take i)).map rct).drop k) (ls2:=rct c::((Xe Yy (l.take i)).map rct).drop k) (m2:=i-k+1) L1 L1 qGj rfl rfl qWq qUe rfl rfl rfl rfl rfl rfl (by rw [Zw,hO]; omega) (by rw [Vy]; exact Vh (by rw [E5,Zw,hO]; omega)) rfl (Yh rfl) (Ya rfl) (fun z hz=>(Vu (f:=rct) (sz:=9) _ fun _=>rfl) z (Eg hz)) (fun z hz=>(F1 (f:=rct) _ fun _=>rfl) z (Eg hz)) (by omega) (by show 1+_<_; omega) rfl (by show 1+_=_; omega) fun r_=>?_
    refine Xm 0 [42] rfl (Zg rfl) (by show _=_+1; rw [E5,Zw,hO]) (by show _+1<_; rw [E5,Zw,hO]; omega) rfl ?_
    refine E9 [42,38,41,0,3,4,7,8,5] rfl ?_
    exact Qo (k_ _ _ ⟨rfl,rfl⟩)
   refine Jf 41 (y:=.one (.orow r 9 (0+k) 0)) rfl (by show AV.one (.orow r 9 (0+k) (i-k))=_; rw [show i-k=0 by omega]) ?_
   refine In L1 L1 qGj qWq rfl rfl rfl ?_
   refine Jf 41 (y:=.one (.orow r 9 (0+k) (i-k))) rfl (by show AV.one (.orow r 9 (0+k) 0)=_; rw [show i-k=0 by omega]) ?_
   refine E9 [42,38,41,0,3,4,7,8,5] rfl ?_
   exact Qo (k_ _ _ ⟨by rw [Aa (by rw [Zw,hO]; omega)] <;> rfl,rfl⟩)
  ·rintro u_ B_ ⟨rfl,rfl⟩
   exact ⟨Zd rfl rfl,Zd rfl rfl,Gc k L1 qWq rfl rfl rfl (by omega) rfl,Zd rfl rfl,Zd rfl rfl,Qi (i) L1 qWq rfl rfl (rfl) (Qg hc) rfl rfl,Zz Tryz.isAgg47 qWq rfl rfl rfl rfl,Qd5 L1 qWq qUe rfl rfl rfl rfl rfl rfl rfl rfl rfl rfl,Zd rfl rfl,Zd rfl rfl,F9 k L1 qWq rfl rfl rfl (by omega) rfl,trivial,trivial⟩
  rintro u_ B_ ⟨rfl,rfl⟩
  refine ⟨_,rfl,kn ?_⟩
  refine Qw tt rfl ?_
  refine Zn (Zo (ls2:=((D3 Yy (Xe Yy (l.take i)) c).map rct)) (m2:=i+1) 0 L1 L1 qGj rfl rfl qWq qUe rfl rfl rfl rfl rfl rfl rfl (by rw [Zw]; omega) ((fun z hz=>(Vb.1 hz).elim (fun e=>by rw [e]; rfl) (fun h=>(Vu (f:=rct) (sz:=9) _ fun _=>rfl) z (Eg h)))) ((fun z hz=>(Vb.1 hz).elim (fun e=>by rw [e]; exact Ya rfl _ (qZw.2 rfl)) (fun h=>(F1 (f:=rct) _ fun _=>rfl) z (Eg h)))) (by show k+(_+1)<_; rw [E5,Zw,hO]; omega) (by simp [D3,hp1,qXu,List.map_drop]) (by show k+(_+1)=_; rw [E5,Zw,hO]; omega) fun r1=>ko ?_)
  refine Qr tt 1 rfl ?_
  refine Qf tt 1 [] (Q6 (r:=((i+1:Nat):Int)) rfl rfl (Qm (by omega) (by omega)) rfl) rfl ?_
  refine X5 (fun _ k_=>Jx 0 rfl (by rw [←I3 hc]) (Qo k_)) rfl ?_
  refine Qk [3,7,8,0] rfl rfl ?_
  refine Q7 ?_
  refine ⟨_,?_,i+1,r1,by omega,rfl,rfl,rfl⟩
  omega
 have hO:(Xe Yy (l.take i)).length=i:=by rw [W6,Uk]; omega
 have hi:l.take i=l:=Vh (by omega)
 refine Qr tt 1 rfl ?_
 refine Xb tt 2 [] (decide_eq_false (by omega)) rfl rfl ?_
 refine X5 (fun _ k_=>Xm 0 [2] rfl (Zg rfl) (by rw [Zw,hO]) (by rw [Zw,hO]; omega) rfl (Qo k_)) rfl ?_
 exact Xq tt [] rfl (by rw [hi]; rfl)
end Orr

namespace Orr
open Go
variable {P:Program} {ops:Array Oper} {n:Nat} {L:Sg} {B:List OB} {ty:TypeId} {pos:String} {after:Array Edge} {Q:Exit→Sg→List OB→Prop}
theorem Qbw:∀ (cs vs:List Value),vs.length=cs.length→upd cs 0 vs=vs
  | [],[],_=>rfl
  |
   c::cs,v::vs,h=>by
   simp only [upd]
   rw [Qbw cs vs (by simpa using h)]
  | [],_::_,h=>by simp at h
  | _::_,[],h=>by simp at h
def hdB (c t j T:Nat) (cs:List Value) (p:Nat→Bool) (v:Nat→Value):List Y8:=if p t=true then [(gOf (v t),T,if p c=true then (v j).cells.toList else cs)] else []
theorem Qch {c t j T i:Nat} {cs:List Value} {p:Nat→Bool} {v:Nat→Value} (u:Value) (h1:i≠t) (h2:i≠c) (h3:p c=true→i≠j):hdB c t j T cs (fun k=>k == i || p k) (fun k=>if k=i then u else v k)=hdB c t j T cs p v:=by
  unfold hdB
  have e1:(t == i || p t)=p t:=by simp [Ne.symm h1]
  have e2:(c == i || p c)=p c:=by simp [Ne.symm h2]
  simp only [e1,e2,if_neg (Ne.symm h1)]
  split
  · congr 3
    split
    · rename_i hc
      rw [if_neg (Ne.symm (h3 hc))]
    · rfl
  · rfl
theorem Nh:∀ {A:Td} {i:Nat},(∀ x∈A,x.1≠i)→Yx A i=none
  | [],_,_=>rfl
  |
   x::A,i,h=>by
   simp only [Yx]
   have hx:=h x (Ub ..)
   have:Nat.beq x.1 i=false:=by
     cases e:Nat.beq x.1 i with
     | false=>rfl
     | true=>exact absurd (Fg e) hx
   rw [this]
   exact Nh fun y hy=>h y (W0 _ hy)
theorem Qcc {id:Nat} {l:List Oper} (hm:P.follows .mixedOrders=true) (c t j T T0 dp dv:Nat) (cs:List Value) (ys:List LV) (D:List Nat) (deps:List (List Nat)) (us:List AV) (A2:Td) (zss:List (List LV)) (hchk:Kc l (c+1) (D.map some++[none]) deps=true)
    (hDm:(Nat.beq D.length c && Nat.beq us.length c && Nat.blt t c && Nat.blt j c && !(Nat.beq j t) && (Yx A2 j).isNone && deps.all fun js=>js.all fun j=>Nat.blt j c)=true) (hAs:(A2.all fun x=>Nat.blt x.1 c)=true) (hnd:(((t,T,cs)::A2:Td).map (·.1)).Nodup) (hzl:Qmh A2 zss) (hnone:(D.all fun t=>(lk L t).isNone)=true)
    (hdp:((deps.take c).all fun js=>js.all fun k=>(Yx ((t,T,cs)::A2) k).isNone)=true) (hjs:(match deps[c]? with
      | some js=>js.contains t && js.contains j
      | none=>false)=true)
    (ho0:l[c]? = some { dst:=none,op:=.store T0 (.tmp dp) (.tmp dv),type:=ty,pos:=pos,after:=after,guard:=none }) (hDt:D[t]? = some dp) (hDj:D[j]? = some dv) (hT0:∀ w,(Go.sizeOf T0).run P w=.ok cs.length w)
    {uj:AV} (huj0:us[j]? = some uj) (hul:G4 uj=some ys) (hyl:Nat.beq ys.length cs.length=true)
    (hops:Qr2 P l.toArray n L B ((t,T,cs)::A2) D us 0 (depsOf D us deps) (l.take c))
    (k:∀ g:Nat→Nat,∃ L2 B2,S5 ((t,T,cs)::A2) g 0 D us L=some L2∧Qoo A2 zss g=some B2∧AW P l.toArray n (l.drop (c+1)) (fun L B=>Q .normal L B) L2 (.blk (g t) T ys::(B2++B))):AC P n (.region id l.toArray true) Q L B:=by
  rintro K Ob w0 w a ⟨L',Bs,h,hL,hB⟩
  simp only [qXk,Bv] at hDm hnone hAs hdp
  obtain ⟨⟨⟨⟨⟨⟨hD,hU⟩,htc⟩,hjc⟩,hjt⟩,hjA⟩,hdl1⟩:=hDm
  have huj:∀ u,us[j]? = some u→G4 u=some ys:=fun u h=>by rw [huj0] at h; injection h with h; subst h; exact hul
  have hD:=Fg hD
  have hU:=Fg hU
  rw [Mc] at htc hjc
  have hjt:j≠t:=fun e=>by subst e; simp at hjt
  rw [qXq] at hjA
  have hdl1:∀ js∈deps,∀ k∈js,k<c:=fun js hj k hk=>by have:=hdl1 js hj k hk; rwa [Mc] at this
  have hnd1:=qJr.1 (show (t::A2.map (·.1)).Nodup from hnd)
  have htA:Yx A2 t=none:=Nh fun x hx e=>hnd1.1 (Wa.2 ⟨x,hx,e⟩)
  let As:Td:=(t,T,cs)::A2
  have hft:Yx As t=some (T,cs):=by
    show (match Nat.beq t t with
      | true=>some (T,cs)
      | false=>Yx A2 t)=_
    rw [Nat.beq_refl]
  have hfo:∀ i,i≠t→Yx As i=Yx A2 i:=fun i hi=>by
    show (match Nat.beq t i with
      | true=>some (T,cs)
      | false=>Yx A2 i)=_
    have:Nat.beq t i=false:=by
      cases e:Nat.beq t i with
      | false=>rfl
      | true=>exact absurd (Fg e).symm hi
    rw [this]
  have hdl2:∀ i,i<c→∀ dj,deps[i]? = some dj→∀ k∈dj,Yx As k=none:=fun i hi dj hd k hk=>by
    have hmem:dj∈deps.take c:=Y6 (i:=i) (by rw [Ei,if_pos hi]; exact hd)
    have:=hdp dj hmem k hk
    rwa [qXq] at this
  obtain ⟨L3,h1,h2,h3⟩:=only L hL
  have hst:St K Ob w0 w a n L3 [] Bs:={ h with slots:=fun t v hv=>h.slots t v (h2 t v hv) }
  have hst2:=hst.add (f:=SF L L3 B Bs [] []) ⟨h3,hB,trivial⟩
  have hc:=Hr hchk
  have hS:∀ i,(hi:i<c)→(dFs As 0 us).getD i Uq=dF As i (us[i]'(by rw [hU]; exact hi)):=fun i hi=>by
    have:=Qdi As (us:=us) (k:=0) (i:=i) (Xv (by rw [hU]; exact hi))
    rw [Ve,this,Vy]; rfl
  have hus:∀ i,(hi:i<c)→us.getD i .un=us[i]'(by rw [hU]; exact hi):=fun i hi=>by
    rw [Ve,Xv (by rw [hU]; exact hi)]; rfl
  have hget:∀ (os:List Oper) (ds:List (List (Nat×AV))) (k:Nat),Qr2 P l.toArray n L B As D us k ds os→∀ (i:Nat) dep o,ds[i]? = some dep→os[i]? = some o→DOp P l.toArray n L B As (k+i) (D.getD (k+i) 0) (us.getD (k+i) .un) dep o:=by
    intro os
    induction os with
    | nil=>intro ds k _ i dep o _ ho; simp at ho
    |
     cons o os ih =>
     intro ds k hap i dep o' hd ho
     rcases ds with _ | ⟨dp,ds⟩
     · simp at hd
     · cases i with
       | zero=>simp at hd ho; subst hd ho; exact hap.1
       |
        succ i =>
        have:=ih ds (k+1) hap.2 i dep o' (by simpa using hd) (by simpa using ho)
        rw [show k+(i+1)=k+1+i from by omega]
        exact this
  let Bf:(Nat→Bool)→(Nat→Value)→List Y8:=fun p v=>hdB c t j T cs p v++(Sn A2 p v++Bs)
  let Inv:(Nat→Bool)→(Nat→Value)→World→List Y8→Prop:=fun p v _ Bx=>(p c=true→p t=true∧p j=true)∧Bx=Bf p v
  have hone:∀ (i:Nat) (dj:List Nat) (o:Oper),deps[i]? = some dj→l[i]? = some o→i<c+1→Gp P l.toArray K Ob w0 n L3 [SF L L3 B Bs [] []] Inv (D.map some++[none]) (dFs As 0 us) i dj o:=by
    intro i dj o hd ho hi p hpi hpd v Fx a' w' Bx hinv hs
    obtain ⟨hcl,rfl⟩:=hinv
    have hjm:=hdl1 dj (Y6 hd)
    rw [Qkr D v dj fun j hj=>by rw [hD]; exact hjm j hj] at hs
    obtain ⟨h6,h7,_⟩:(SF L L3 B Bs [] []).holds w' (Qy Ob (Bf p v)):=hs.facts _ (Yz.2 (.inr (by simp)))
    have hfact:∀ j∈dj,(dF As j (us.getD j .un) (v j)).holds w' (Qy Ob (Bf p v)):=fun j hj=>by
      have:=hs.facts ((dFs As 0 us).getD j Uq (v j)) (Yz.2 (.inl (Wa.2 ⟨j,hj,rfl⟩)))
      rw [hS j (hjm j hj)] at this
      rw [hus j (hjm j hj)]
      exact this
    rcases Mp i c with hic | hic
    · have hop:=hget (l.take c) _ 0 hops i _ o (Wo hd) (by rw [Ei,if_pos hic]; exact ho)
      rw [Vy] at hop
      have hjn:=hdl2 i hic dj hd
      have hfacts:∀ j∈dj,ARep w' (Qy Ob (Bf p v)) (v j) (us.getD j .un):=fun j hj=>by
        have:=hfact j hj
        unfold dF at this
        rw [hjn j hj] at this
        exact this
      have hdk:=Fm D i (by rw [hD]; exact hic)
      have hne:i≠c:=by omega
      have hpc:∀ u:Value,((c == i || p c)=true→(t == i || p t)=true∧(j == i || p j)=true):=fun _ hh=>by
        have hh:p c=true:=by simpa [Ne.symm hne] using hh
        obtain ⟨h8,h9⟩:=hcl hh
        simp [h8,h9]
      have hij:p c=true→i≠j:=fun hh e=>by subst e; rw [(hcl hh).2] at hpi; cases hpi
      unfold DOp at hop
      by_cases hit:i=t
      · subst hit
        rw [hft] at hop
        have hw:=hop K Ob w0 w' a' _ _ _ hs
        refine K0 hs.defers (fun _ _ ⟨_,hh⟩=>hh.defers) hw fun a2 w2 hh=>?_
        obtain ⟨g,h8⟩:=hh
        have hpc0:p c=false:=by
          cases hh:p c with
          | false=>rfl
          | true=>rw [(hcl hh).1] at hpi; cases hpi
        have e1:(i,T,cs).1=i:=rfl
        have hBf:Bf (fun j=>j == i || p j) (fun j=>if j=i then .pointer (some ⟨g,0,none⟩) else v j)=(g,Tag.ty T,cs)::Bf p v:=by
          have e2:hdB c i j T cs p v=[]:=by unfold hdB; rw [if_neg (by rw [hpi]; decide)]
          have e3:hdB c i j T cs (fun j=>j == i || p j) (fun j=>if j=i then .pointer (some ⟨g,0,none⟩) else v j)=[(g,Tag.ty T,cs)]:=by
            unfold hdB
            simp [hpc0,Ne.symm hne,gOf]
          show _++(Sn A2 _ _++Bs)=(g,Tag.ty T,cs)::(hdB c i j T cs p v++(Sn A2 p v++Bs))
          rw [e2,e3,Hg (As:=A2) p v _ htA]; rfl
        refine wpList_nil ⟨rfl,.pointer (some ⟨g,0,none⟩),_,⟨hpc undef,hBf.symm⟩,?_⟩
        rw [if_pos hdk.2,hdk.1,hS i hic]
        refine h8.drawEnd (by simp [Z1]) ?_
        unfold dF; rw [hft]; exact ⟨g,rfl⟩
      · rw [hfo i hit] at hop
        cases hf:Yx A2 i with
        |
         none =>
         rw [hf] at hop
         have hw:=AP.frame hop K Ob w0 w' a' (hdB c t j T cs p v++Sn A2 p v) Bs _ _ (by rw [N1]; exact hs) (by rw [N1]; exact Ug h6 hfacts) (by rw [N1]; exact h7)
         refine K0 hs.defers (fun _ _ ⟨_,hh,_⟩=>hh.defers) hw fun a2 w2 hh=>?_
         obtain ⟨x,h8,h9⟩:=hh
         rw [N1] at h8 h9
         have hBf:Bf (fun j=>j == i || p j) (fun j=>if j=i then x else v j)=Bf p v:=by
           show _++(Sn A2 _ _++Bs)=_
           rw [Qch x hit hne hij,Hg (As:=A2) p v x hf]
         refine wpList_nil ⟨rfl,x,Bf p v,⟨hpc x,hBf.symm⟩,?_⟩
         rw [if_pos hdk.2,hdk.1,hS i hic]
         rw [hus i hic] at h9
         refine h8.drawEnd (by simp [Z1]) ?_
         unfold dF; rw [hfo i hit,hf]; exact h9
        |
         some q =>
         obtain ⟨T',cs'⟩:=q
         rw [hf] at hop
         have hw:=hop K Ob w0 w' a' _ _ _ hs
         refine K0 hs.defers (fun _ _ ⟨_,hh⟩=>hh.defers) hw fun a2 w2 hh=>?_
         obtain ⟨g,h8⟩:=hh
         have hp:=Qdh (As:=A2) p v g hnd1.2 hf hpi
         have hperm:(Bf (fun j=>j == i || p j) (fun j=>if j=i then .pointer (some ⟨g,0,none⟩) else v j)).Perm ((g,Tag.ty T',cs')::Bf p v):=by
           show (hdB c t j T cs _ _++(Sn A2 _ _++Bs)).Perm ((g,Tag.ty T',cs')::(hdB c t j T cs p v++(Sn A2 p v++Bs)))
           rw [Qch _ hit hne hij]
           refine ((hp.append_right Bs).append_left _).trans ?_
           exact List.perm_middle
         refine wpList_nil ⟨rfl,.pointer (some ⟨g,0,none⟩),_,⟨hpc undef,rfl⟩,?_⟩
         rw [if_pos hdk.2,hdk.1,hS i hic]
         have h9:=h8.perm hperm
         refine h9.drawEnd (by simp [Z1]) ?_
         unfold dF; rw [hfo i hit,hf]; exact ⟨g,rfl⟩
    · obtain rfl:i=c:=by omega
      rw [ho] at ho0
      injection ho0 with ho0
      subst ho0
      rw [hd] at hjs
      simp only [qXk,qYi] at hjs
      have hpt:=hpd t hjs.1
      have hpj:=hpd j hjs.2
      have ht1:=hfact t hjs.1
      unfold dF at ht1
      rw [hft] at ht1
      obtain ⟨g,hg⟩:∃ g,v t=.pointer (some ⟨g,0,none⟩):=ht1
      have hj1:=hfact j hjs.2
      unfold dF at hj1
      rw [hfo j hjt,hjA] at hj1
      have hj1:ARep w' (Qy Ob (Bf p v)) (v j) (us.getD j .un):=hj1
      obtain ⟨hc2,_⟩:=Gf hj1 (huj _ (by rw [hus j hjc]; exact Xv _))
      have hBf:Bf p v=(g,Tag.ty T,cs)::(Sn A2 p v++Bs):=by
        show hdB i t j T cs p v++_=_
        unfold hdB
        rw [if_pos hpt,if_neg (by rw [hpi]; decide),hg]; rfl
      have hlx:Z1 (dj.map (fun j=>(D.getD j 0,v j))++L3) dp=some (v t):=by
        have:=Wp (D:=fun j=>D.getD j 0) (v:=v) (L:=L3) (ls:=dj) hjs.1 (fun x hx y hy e=>?_)
        · rw [Ve,hDt] at this; exact this
        · exact hc.inj x (by have:=hjm x hx; omega) y (by have:=hjm y hy; omega) (Fm D x (by rw [hD]; exact hjm x hx)).2 (Fm D y (by rw [hD]; exact hjm y hy)).2 (by rw [(Fm D x (by rw [hD]; exact hjm x hx)).1,(Fm D y (by rw [hD]; exact hjm y hy)).1]; exact e)
      have hly:Z1 (dj.map (fun j=>(D.getD j 0,v j))++L3) dv=some (v j):=by
        have:=Wp (D:=fun j=>D.getD j 0) (v:=v) (L:=L3) (ls:=dj) hjs.2 (fun x hx y hy e=>?_)
        · rw [Ve,hDj] at this; exact this
        · exact hc.inj x (by have:=hjm x hx; omega) y (by have:=hjm y hy; omega) (Fm D x (by rw [hD]; exact hjm x hx)).2 (Fm D y (by rw [hD]; exact hjm y hy)).2 (by rw [(Fm D x (by rw [hD]; exact hjm x hx)).1,(Fm D y (by rw [hD]; exact hjm y hy)).1]; exact e)
      have hyl:=Fg hyl
      have hvl:(v j).cells.toList.length=cs.length:=hc2.len.trans hyl
      rw [hBf] at hs
      refine Z7 (g:=g) (o:=0) (cs:=cs) (T':=T) hs 0 rfl (by show Z1 _ _=_; rw [hlx,hg]) (by show Z1 _ _=_; exact hly) hT0 rfl hvl (by rw [Nat.ble_eq]; omega) (Bv.2 hc2.one) fun w2 h8=>?_
      rw [Qbw _ _ hvl] at h8
      have hBf2:Bf (fun k=>k == i || p k) (fun k=>if k=i then undef else v k)=(g,Tag.ty T,(v j).cells.toList)::(Sn A2 p v++Bs):=by
        show hdB i t j T cs _ _++(Sn A2 _ _++Bs)=_
        have e2:Yx A2 i=none:=Nh fun x hx e=>by have:=hAs x hx; rw [Mc] at this; omega
        rw [Hg (As:=A2) p v _ e2]
        unfold hdB
        have e3:t≠i:=by omega
        have e4:j≠i:=by omega
        simp [hpt,e3,e4,hg,gOf]
      refine wpList_nil ⟨rfl,undef,_,⟨fun _=>by simp [hpt,hpj],rfl⟩,?_⟩
      have hE:dE (D.map some++[none]) i=false:=by rw [←hD]; exact Bn D
      rw [if_neg (by rw [hE]; decide),hBf2]
      have e5:(dFs As 0 us).getD i Uq=Uq:=by
        have hlen:∀ (us:List AV) (k:Nat),(dFs As k us).length=us.length:=by
          intro us
          induction us with
          | nil=>intro k; rfl
          | cons u us ih=>intro k; simp [dFs,ih]
        rw [Ve,Eu (by rw [hlen,hU]; exact Ji _)]; rfl
      rw [e5]
      exact St.drawEnd0 (f:=Uq undef) (h8:St K Ob w0 w2 a' n _ (_++([SF L L3 B Bs [] []]++Fx)) _) trivial
  have hdrawops:∀ (js:List (List Nat)) (os:List Oper) (k:Nat),(∀ i dj o,js[i]? = some dj→os[i]? = some o→Gp P l.toArray K Ob w0 n L3 [SF L L3 B Bs [] []] Inv (D.map some++[none]) (dFs As 0 us) (k+i) dj o) →
      Pk P l.toArray K Ob w0 n L3 [SF L L3 B Bs [] []] Inv (D.map some++[none]) (dFs As 0 us) k js os:=by
    intro js
    induction js with
    | nil=>intro os k _; cases os <;> trivial
    |
     cons dj js ih =>
     intro os k hall
     rcases os with _ | ⟨o,os⟩
     · trivial
     · refine ⟨by have:=hall 0 dj o rfl rfl; rwa [Mr] at this,ih os (k+1) fun i dj' o' hd ho=>?_⟩
       have:=hall (i+1) dj' o' (by simpa using hd) (by simpa using ho)
       rwa [show k+(i+1)=k+1+i from by omega] at this
  refine Qeh hm (c+1) (D.map some++[none]) deps (dFs As 0 us) Inv hchk hst2 (fun w' hw'=>⟨fun hh=>by simp at hh,by show Bs=hdB _ _ _ _ _ _ _++_; unfold hdB; simp [Sn]⟩) ?_ (hdrawops deps l 0 fun i dj o hd ho=>by
    rw [Vy]
    exact hone i dj o hd ho (by have:=(Wz.1 hd).1; rw [hc.deplen] at this; exact this)) fun p hp v a' w' Bx hinv hs=>?_
  · rw [Bv]
    intro j hj
    have hjm:j<c+1:=Ru.1 hj
    rcases Mp j c with hjc | hjc
    · rw [(Fm D j (by rw [hD]; exact hjc)).1]
      have hmem:D.getD j 0∈D:=by rw [Ve,Xv (by rw [hD]; exact hjc)]; exact qJd _
      have:=hnone _ hmem
      rw [qXq] at this
      rw [h1 _ this]; simp
    · obtain rfl:j=c:=by omega
      have hE:dE (D.map some++[none]) j=false:=by rw [←hD]; exact Bn D
      rw [hE]; rfl
  · obtain ⟨_,rfl⟩:=hinv
    have hdL:=Qpo D v
    rw [hD] at hdL
    rw [hdL] at hs
    let g:Nat→Nat:=fun j=>gOf (v j)
    have hfct:∀ i,(hi:i<c)→(dF As i (us.getD i .un) (v i)).holds w' (Qy Ob (Bf p v)):=fun i hi=>by
      have:=hs.facts ((dFs As 0 us).getD i Uq (v i)) (Yz.2 (.inl (Wa.2 ⟨i,Ru.2 (by omega),rfl⟩)))
      rw [hS i hi] at this
      rw [hus i hi]
      exact this
    have hall:Bf p v=(g t,Tag.ty T,(v j).cells.toList)::(A2.map (fun x=>(g x.1,Tag.ty x.2.1,x.2.2))++Bs):=by
      show hdB c t j T cs p v++(Sn A2 p v++Bs)=_
      unfold hdB Sn
      rw [if_pos (hp t (by omega)),if_pos (hp c (by omega)),qYv.2 fun x hx=>hp x.1 (by have:=hAs x hx; rw [Mc] at this; omega)]
      rfl
    have hf1:∀ k,k<D.length→Yx As (0+k)=none→ARep w' (Qy Ob (Bf p v)) (v (0+k)) (us.getD k .un):=fun k hk hf=>by
      rw [Vy] at hf ⊢
      have:=hfct k (by omega)
      unfold dF at this
      rw [hf] at this
      exact this
    have hf2:∀ k,k<D.length→(Yx As (0+k)).isSome=true→v (0+k)=.pointer (some ⟨g (0+k),0,none⟩):=fun k hk hf=>by
      rw [Vy] at hf ⊢
      have:=hfct k (by omega)
      unfold dF at this
      cases hq:Yx As k with
      | none=>rw [hq] at hf; cases hf
      |
       some q =>
       rw [hq] at this
       obtain ⟨g',hg⟩:=this
       show v k=.pointer (some ⟨gOf (v k),0,none⟩)
       rw [hg]; rfl
    obtain ⟨h6,h7,_⟩:(SF L L3 B Bs [] []).holds w' (Qy Ob (Bf p v)):=hs.facts _ (Yz.2 (.inr (by simp)))
    obtain ⟨L2,B2,hk1,hk2,hk3⟩:=k g
    have hlk:=Dd h6 hk1 hf1 hf2
    have hr:List.range' 0 D.length=List.range c:=by rw [List.range_eq_range',hD]
    rw [hr] at hlk
    simp only [qYf] at hlk
    have hj1:=hf1 j (by omega) (by rw [Vy,hfo j hjt]; exact hjA)
    rw [Vy] at hj1
    obtain ⟨hc2,_⟩:=Gf hj1 (huj _ (by rw [hus j hjc]; exact Xv _))
    have hB2:=Ic (w:=w') (O:=Qy Ob (Bf p v)) hzl hk2 h7
    have hB3:BsRep w' (Qy Ob (Bf p v)) (.blk (g t) T ys::(B2++B)) (Bf p v):=by
      have:BsRep w' (Qy Ob (Bf p v)) (.blk (g t) T ys::(B2++B)) ((g t,Tag.ty T,(v j).cells.toList)::(A2.map (fun x=>(g x.1,Tag.ty x.2.1,x.2.2))++Bs)):=⟨[_],_,rfl,⟨_,rfl,hc2⟩,hB2⟩
      rwa [←hall] at this
    exact hk3 K Ob w0 w' a' _ ⟨_,Bf p v,hs.noFacts,hlk,hB3⟩ fun a2 w2 h=>h
end Orr

namespace Orr
open Go
variable {P:Program} {ops:Array Oper} {n:Nat} {rest:List Oper} {N:Sg→List OB→Prop} {L:Sg} {B:List OB}
def Qcq:Nat→Nat→List LV→Option (List LV)
  |
   0,sz,x::l=>match x.isNil with
   | true=>some (.orow none sz 0 0::l)
   | false=>none
  |
   j+1,sz,x::l=>match Qcq j sz l with
   | some r=>some (x::r)
   | none=>none
  | _,_,[]=>none
theorem Qg5 {w:World} {O:Nat→Prop}:∀ {j sz:Nat} {xs ys:List LV} {vs:List Value},Qcq j sz xs=some ys→XReps w O vs xs→XReps w O vs ys
  | _,_,[],_,_,h,_=>by simp [Qcq] at h
  | _,_,_::_,_,[],_,h=>h.elim
  |
   0,sz,x::l,ys,v::vs,h,hr=>by
   simp only [Qcq] at h
   split at h
   · rename_i e
     injection h with h; subst h
     have:x=.nils:=by cases x <;> first | rfl | (simp [LV.isNil] at e)
     subst this
     have hv:LRep w O v .nils:=hr.1
     cases hv
     exact ⟨⟨rfl,rfl,rfl⟩,hr.2⟩
   · cases h
  |
   j+1,sz,x::l,ys,v::vs,h,hr=>by
   simp only [Qcq] at h
   split at h
   · rename_i r hq
     injection h with h; subst h
     exact ⟨hr.1,Qg5 hq hr.2⟩
   · cases h
theorem Nj (i j E sz:Nat) {g:Nat} {T:TypeId} {xs ys:List LV} {B':List OB} (hi:Jg B i=some (.blk g T xs,B')) (hsz:Nat.blt 0 sz=true) (hj:Qcq j sz xs=some ys)
    (k:AW P ops n rest N L (.blk g T ys::.row none E sz []::B')):AW P ops n rest N L B:=by
  intro K Ob w0 w a Q hs hQ
  rw [Mc] at hsz
  obtain ⟨L',Bo,Bs,h1,h2,⟨cs,rfl,h3⟩,h4⟩:=hs.front hi
  exact k _ _ _ _ _ _ ⟨L',[(g,Tag.ty T,cs)]++Bs,h1,h2,[(g,Tag.ty T,cs)],Bs,rfl,⟨cs,rfl,Qg5 hj h3⟩,[],Bs,rfl,⟨hsz,rfl,rfl⟩,h4⟩ hQ
theorem T5 (i k j:Nat) {r:Option (Nat×Nat)} {E sz len g:Nat} {T:TypeId} {ls:List (List LV)} {xs ys:List LV} {B' B2:List OB} (hi:Jg B i=some (.row r E sz ls,B')) (hk:Jg B' k=some (.blk g T xs,B2))
    (hj:xs[j]? = some (.orow r sz 0 len)) (hys:xs.set j (.row ls)=ys) (hlen:len=ls.length) (h47:ls.length<140737488355328) (kk:AW P ops n rest N L (.blk g T ys::B2)):AW P ops n rest N L B:=by
  intro K Ob w0 w a Q hs hQ
  subst hlen hys
  obtain ⟨L',Bo,Bs,h1,h2,h3,h4⟩:=hs.front hi
  have hle:Le w (Qy Ob (Bo++Bs)) w (Qy Ob Bs):=⟨Ji _,fun _ _ _=>rfl,fun b _ ho=>ho.imp id fun hm=>by simp only [G2,Yz]; exact .inr hm⟩
  have conv:∀ v,XRep w (Qy Ob Bs) v (.orow r sz 0 ls.length)→LRep w (Qy Ob Bs) v (.row ls):=fun v hv=>by
    have hv2:ARep w (Qy Ob (Bo++Bs)) v (.one (.orow r sz 0 ls.length)):=by
      rcases r with _ | ⟨g,c⟩ <;> exact hv
    have:=Qld h1 h3 hv2 rfl (by omega) h47
    rw [qXf,qJx] at this
    exact this
  have h5:=h4.keep hle
  have h6:=Fn hle h2
  obtain ⟨hxk,rfl⟩:=U7 hk
  obtain ⟨Bo2,Bs2,hp,⟨cs,rfl,h7⟩,h8⟩:=h5.front hxk
  have ho:Qy Ob Bs=Qy Ob ([(g,Tag.ty T,cs)]++Bs2):=by
    funext b
    simp only [Qy]
    rw [show (b∈Bs.map (·.1))=(b∈([(g,Tag.ty T,cs)]++Bs2).map (·.1)) from propext ((hp.map _).mem_iff)]
  obtain ⟨v,hv,hvr⟩:=h7.get hj
  have h9:=conv v hvr
  have h10:XReps w (Qy Ob Bs) cs (xs.set j (.row ls)):=by
    refine XReps.of (by rw [H8]; exact h7.len) fun q u x hu hx=>?_
    rw [qYm] at hx
    split at hx
    · rename_i e
      subst e
      split at hx <;> first | cases hx | skip
      rw [hv] at hu; injection hu with hu; subst hu
      exact LRep.x h9
    · exact h7.get' hu hx
  rw [ho] at h6 h8 h10
  exact kk _ _ _ _ _ _ ⟨L',[(g,Tag.ty T,cs)]++Bs2,h1.tailB.perm hp.symm,h6,[(g,Tag.ty T,cs)],Bs2,rfl,⟨cs,rfl,h10⟩,h8⟩ hQ
end Orr

namespace Orr
open Go Go.Proofs
theorem Wv {a b c e:Crv} (ha:Rs a) (hb:Rs b) (hc:Rs c) (he:Rs e):Bd 20000000 (Xj a b c e)∧(Xj a b c e).length≤64:=by
 have h1:=Wc ha hb
 have h2:=Wc hc he
 have sz:∀ {d1 d2:Int},Xh d1≤100000→Xh d2≤100000→Xh ((d1*d2)*(d1*d2))≤400000:=fun {d1 d2} h1 h2=>by
  have:=Z2 d1 d2
  have:=Z2 (d1*d2) (d1*d2)
  omega
 unfold Xj
 refine ⟨Qz (Ml (Xo h2.1 (sz ha.c.d hb.c.d)) (Xo h1.1 (sz hc.c.d he.c.d))) (by omega),Xa (R8 _ _) ?_⟩
 have:=Z6 (Va c e) ((a.d*b.d)*(a.d*b.d)); have:=Z6 (Va a b) ((c.d*e.d)*(c.d*e.d)); omega
set_option maxRecDepth 20000 in
theorem Qa8 {a b d e:Pt} {q:Rat} {c:List (List Int)} (ha:Rs a.c) (hb:Rs b.c) (hd:Rs d.c) (he:Rs e.c) (hq:Qs 1000000 q):Q8 Tryz.prog 282 [.one (.int .i64 5),.agg [Zm ((zp [-(q).num,((q).den:Int)])),Kk c,dl ((dig ((q).num).natAbs)),sg ((q).num),dl ((dig (((q).den:Int)).natAbs)),sg (((q).den:Int)),dl ((dig ((q).num).natAbs)),sg ((q).num),dl ((dig (((q).den:Int)).natAbs)),sg (((q).den:Int))],.one (.row [[Zm ((X3 a.c.x a.c.d)),Zm ((X3 a.c.y a.c.d)),pl a.c.x,pl a.c.y,sg a.c.d,mg a.c.d,.int .i64 a.id],[Zm ((X3 b.c.x b.c.d)),Zm ((X3 b.c.y b.c.d)),pl b.c.x,pl b.c.y,sg b.c.d,mg b.c.d,.int .i64 b.id],[Zm ((X3 d.c.x d.c.d)),Zm ((X3 d.c.y d.c.d)),pl d.c.x,pl d.c.y,sg d.c.d,mg d.c.d,.int .i64 d.id],[Zm ((X3 e.c.x e.c.d)),Zm ((X3 e.c.y e.c.d)),pl e.c.x,pl e.c.y,sg e.c.d,mg e.c.d,.int .i64 e.id]])] (.tup [.agg [.int .i64 ((((X4 q a b d e))).kind),.int .i64 ((((X4 q a b d e))).i0),.int .i64 ((((X4 q a b d e))).i1),.int .i64 ((((X4 q a b d e))).i2),.int .i64 ((((X4 q a b d e))).i3),Zm ((zp ((X4 q a b d e)).p)),.int .i64 (((X4 q a b d e)).want),.row ([]),.bool false],.one (.bool true)]):=by
 refine X2 tt 1 [] Tryz.func282 Tryz.ntmps282 rfl rfl rfl ?_
 refine Zn (Ql qUe rfl rfl fun g1=>ko ?_)
 refine Qr tt 6 rfl ?_
 refine Qf tt 0 [] ((Qd rfl rfl (rfl) (Qv tt rfl rfl))) rfl ?_
 refine Qf tt 0 [] ((Qd rfl rfl (rfl) (Qv tt rfl rfl))) rfl ?_
 refine Qf tt 1 [] (Zu rfl (rfl) rfl rfl) rfl ?_
 refine Qf tt 0 [] ((Qd rfl rfl (rfl) (Qv tt rfl rfl))) rfl ?_
 refine Qf tt 0 [] ((Qd rfl rfl (rfl) (Qj (m:=4) Vc rfl (rfl) rfl))) rfl ?_
 refine Qf tt 0 [] ((Qd rfl rfl (rfl) (Qv tt rfl rfl))) rfl ?_
 refine Qf tt 0 [] ((Qd rfl rfl (rfl) (Qv tt rfl rfl))) rfl ?_
 refine Qf tt 0 [] ((Qd rfl rfl (rfl) (Qi (5) qUv Js rfl rfl rfl rfl rfl rfl))) rfl ?_
 refine Qf tt 0 [] ((Qd rfl rfl (rfl) (Qv tt rfl rfl))) rfl ?_
 refine Qf tt 0 [] ((Qd rfl rfl (rfl) (Qv tt rfl rfl))) rfl ?_
 refine Qf tt 0 [] (Zu rfl (rfl) rfl rfl) rfl ?_
 refine Xb tt 3 [] (rfl) rfl rfl ?_
 refine Zn (Ql qUe rfl rfl fun g2=>ko ?_)
 refine Xd tt 2 [0] rfl ?_
 refine Qf tt 1 [] (Qj (m:=4) Vc rfl (rfl) rfl) rfl ?_
 refine H1 5 ?_
 refine J7 ?_
 refine Qr tt 1 rfl ?_
 refine Xf tt 5 [] (rfl) rfl rfl ?_
 refine Qf tt 4 [] (Qi (0) Vc Kn rfl rfl rfl rfl rfl rfl) rfl ?_
 refine Qf tt 1 [0] (V2 0 Sm Js rfl rfl rfl (by decide) rfl) rfl ?_
 refine Qf tt 1 [] (Q6 (r:=((1:Nat):Int)) rfl rfl (rfl) rfl) rfl ?_
 refine Q7 ?_
 refine J7 ?_
 refine Qr tt 1 rfl ?_
 refine Xf tt 5 [] (rfl) rfl rfl ?_
 refine Qf tt 4 [] (Qi (1) Vc Kn rfl rfl rfl rfl rfl rfl) rfl ?_
 refine Qf tt 1 [0] (V2 1 Sm Js rfl rfl rfl (by decide) rfl) rfl ?_
 refine Qf tt 1 [] (Q6 (r:=((2:Nat):Int)) rfl rfl (rfl) rfl) rfl ?_
 refine Q7 ?_
 refine J7 ?_
 refine Qr tt 1 rfl ?_
 refine Xf tt 5 [] (rfl) rfl rfl ?_
 refine Qf tt 4 [] (Qi (2) Vc Kn rfl rfl rfl rfl rfl rfl) rfl ?_
 refine Qf tt 1 [0] (V2 2 Sm Js rfl rfl rfl (by decide) rfl) rfl ?_
 refine Qf tt 1 [] (Q6 (r:=((3:Nat):Int)) rfl rfl (rfl) rfl) rfl ?_
 refine Q7 ?_
 refine J7 ?_
 refine Qr tt 1 rfl ?_
 refine Xf tt 5 [] (rfl) rfl rfl ?_
 refine Qf tt 4 [] (Qi (3) Vc Kn rfl rfl rfl rfl rfl rfl) rfl ?_
 refine Qf tt 1 [0] (V2 3 Sm Js rfl rfl rfl (by decide) rfl) rfl ?_
 refine Qf tt 1 [] (Q6 (r:=((4:Nat):Int)) rfl rfl (rfl) rfl) rfl ?_
 refine Q7 ?_
 refine J7 ?_
 refine Qr tt 1 rfl ?_
 refine Xb tt 3 [] (rfl) rfl rfl ?_
 refine Xb tt 2 [] (rfl) rfl rfl ?_
 refine Xb tt 2 [] (rfl) rfl rfl ?_
 refine Xb tt 2 [] (rfl) rfl rfl ?_
 refine Xb tt 0 [] (rfl) rfl rfl ?_
 refine Qx 16 Qp rfl rfl rfl ?_
 refine Qr tt 1 rfl ?_
 refine kd (Qi (0) Vc Kn rfl rfl rfl rfl rfl rfl) rfl ?_
 refine Qr tt 3 rfl ?_
 refine kd (Qi (1) Vc Kn rfl rfl rfl rfl rfl rfl) rfl ?_
 refine Qr tt 3 rfl ?_
 refine kd (Qi (2) Vc Kn rfl rfl rfl rfl rfl rfl) rfl ?_
 refine Qr tt 3 rfl ?_
 refine kd (Qi (3) Vc Kn rfl rfl rfl rfl rfl rfl) rfl ?_
 refine Qr tt 2 rfl ?_
 refine Qw tt rfl ?_
 refine kl tt 5 [0,0] qGg rfl rfl rfl (Vx (a:=a.c) (b:=b.c) (c:=d.c) (e:=e.c) (ha) (hb) (hd) (he)) rfl rfl ?_
 refine kl tt 5 [0,0,1] qGf rfl rfl rfl (W7 (p:=(Xj a.c b.c d.c e.c)) (q:=q) (c:=c) ((Wv ha hb hd he).1) ((Wv ha hb hd he).2) (hq)) rfl rfl ?_
 refine X5 (fun _ k_=>Jp (ys:=[.int .i64 5,.int .i64 a.id,.int .i64 b.id,.int .i64 d.id,.int .i64 e.id,Zm ((zp ((Xj a.c b.c d.c e.c)))),.int .i64 ((Kx (Xj a.c b.c d.c e.c) q)),.row ([]),.bool false]) 1 rfl rfl rfl (Qo k_)) rfl ?_
 exact kr2 tt [0] rfl (by simp only [X4])
set_option maxRecDepth 20000 in
theorem N8 {a b d e:Pt} {q:Rat} {c:List (List Int)} (ha:Rs a.c) (hb:Rs b.c) (hd:Rs d.c) (he:Rs e.c) (hq:Qs 1000000 q):Q8 Tryz.prog 221 [.one (.int .i64 5),.agg [Zm ((zp [-(q).num,((q).den:Int)])),Kk c,dl ((dig ((q).num).natAbs)),sg ((q).num),dl ((dig (((q).den:Int)).natAbs)),sg (((q).den:Int)),dl ((dig ((q).num).natAbs)),sg ((q).num),dl ((dig (((q).den:Int)).natAbs)),sg (((q).den:Int))],.one (.row [[Zm ((X3 a.c.x a.c.d)),Zm ((X3 a.c.y a.c.d)),pl a.c.x,pl a.c.y,sg a.c.d,mg a.c.d,.int .i64 a.id],[Zm ((X3 b.c.x b.c.d)),Zm ((X3 b.c.y b.c.d)),pl b.c.x,pl b.c.y,sg b.c.d,mg b.c.d,.int .i64 b.id],[Zm ((X3 d.c.x d.c.d)),Zm ((X3 d.c.y d.c.d)),pl d.c.x,pl d.c.y,sg d.c.d,mg d.c.d,.int .i64 d.id],[Zm ((X3 e.c.x e.c.d)),Zm ((X3 e.c.y e.c.d)),pl e.c.x,pl e.c.y,sg e.c.d,mg e.c.d,.int .i64 e.id]])] (.agg [.int .i64 ((((X4 q a b d e))).kind),.int .i64 ((((X4 q a b d e))).i0),.int .i64 ((((X4 q a b d e))).i1),.int .i64 ((((X4 q a b d e))).i2),.int .i64 ((((X4 q a b d e))).i3),Zm ((zp ((X4 q a b d e)).p)),.int .i64 (((X4 q a b d e)).want),.row ([]),.bool false]):=by
 refine X2 tt 1 [] Tryz.func221 Tryz.ntmps221 rfl rfl rfl ?_
 refine Zn (Ql qUe rfl rfl fun g1=>ko ?_)
 refine Qr tt 3 rfl ?_
 refine kl tt 3 [] Tryz.func282 rfl rfl rfl (Qa8 (q:=q) (c:=c) (a:=a) (b:=b) (d:=d) (e:=e) (ha) (hb) (hd) (he) (hq)) rfl rfl ?_
 refine Zn (Ql qUe rfl rfl fun g2=>ko ?_)
 refine Xd tt 4 [0,0,1] rfl ?_
 exact Xq tt [1] rfl (rfl)
abbrev nr (q:Rat) (a b:Pt) (ps:List (Pt×Pt)):Pt×Pt:=Z3 q (a,b) ps
theorem D7 {l M:List Pt} (h:Xe Vt l=M):M.length=l.length:=by rw [←h,W6]
theorem Qv3 {q:Rat} {a b:Pt} {M:List Pt} {ps:List (Pt×Pt)} (hl:∀ x∈M,Rs x.c) (ha:a∈M) (hb:b∈M) (hps:∀ x∈ps,x.1∈M∧x.2∈M):Rs (nr q a b ps).1.c∧Rs (nr q a b ps).2.c:=by
 have:=Rk q (l:=M) ps (a,b) ⟨ha,hb⟩ hps
 exact ⟨hl _ this.1,hl _ this.2⟩
def Yk (M:List Pt) (x:Pt) (i j:Nat):List (Pt×Pt):=Qu i M++((M.drop (i+1)).take j).map (fun y=>(x,y))
theorem Qsx {M:List Pt} {i j:Nat} {x:Pt} (hx:M[i]? = some x):∀ m∈Yk M x i j,m.1∈M∧m.2∈M:=by
 intro m hm
 rcases Yz.1 hm with hm | hm
 ·exact V4 _ _ m hm
 obtain ⟨y,hy,rfl⟩:=Wa.1 hm
 exact ⟨Y6 hx,Eg (N6 hy)⟩
theorem O6 (M:List Pt) (x:Pt) (i:Nat):Yk M x i 0=Qu i M:=by rw [Yk,List.take_zero,List.map_nil,qXh]
theorem Be {M:List Pt} {i j:Nat} {x y:Pt} (hy:M[i+1+j]? = some y):Yk M x i (j+1)=Yk M x i j++[(x,y)]:=by
 have h:(M.drop (i+1))[j]? = some y:=by rw [qXe]; exact hy
 unfold Yk
 rw [D1 h,G2,←N1]; rfl
theorem Qfn {M:List Pt} {i j:Nat} {x:Pt} (hx:M[i]? = some x) (hj:M.length≤i+1+j):Yk M x i j=Qu (i+1) M:=by
 unfold Yk
 rw [G0 M i x hx,Vh (by rw [E5]; omega)]
theorem Q2z {q:Rat} {a b x y:Pt} {M:List Pt} {i j:Nat} (hy:M[i+1+j]? = some y) (hf:Kx (Xj (nr q a b (Yk M x i j)).1.c (nr q a b (Yk M x i j)).2.c x.c y.c) q<0):nr q a b (Yk M x i (j+1))=(x,y):=by
 rw [Be hy]
 show Z3 q (a,b) _=_
 rw [Tr]
 exact if_pos hf
theorem Q2o {q:Rat} {a b x y:Pt} {M:List Pt} {i j:Nat} (hy:M[i+1+j]? = some y) (hf:¬Kx (Xj (nr q a b (Yk M x i j)).1.c (nr q a b (Yk M x i j)).2.c x.c y.c) q<0):nr q a b (Yk M x i (j+1))=nr q a b (Yk M x i j):=by
 rw [Be hy]
 show Z3 q (a,b) _=_
 rw [Tr]
 exact if_neg hf
theorem Sq (M:List Pt):Qu 0 M=[]:=by cases M <;> rfl
theorem Qv9 {M m:List Pt} {a b:Pt} (h2:M=a::b::m):M[0]? = some a∧M[1]? = some b:=by subst h2; exact ⟨rfl,rfl⟩
set_option maxRecDepth 20000 in
theorem Ek {l M:List Pt} {q:Rat} {c:List (List Int)} (hM:Xe Vt l=M) (hl:∀ x∈M,Rs x.c) (hn:l.length≤1000) (hq:Qs 1000000 q) {a b:Pt} {m:List Pt} (h2:M=a::b::m):Q8 Tryz.prog 90 [.one (Kq l),.agg [Zm ((zp [-(q).num,((q).den:Int)])),Kk c,dl ((dig ((q).num).natAbs)),sg ((q).num),dl ((dig (((q).den:Int)).natAbs)),sg (((q).den:Int)),dl ((dig ((q).num).natAbs)),sg ((q).num),dl ((dig (((q).den:Int)).natAbs)),sg (((q).den:Int))]] (.tup [.agg [Zm ((X3 (nr q a b (Q9 M)).1.c.x (nr q a b (Q9 M)).1.c.d)),Zm ((X3 (nr q a b (Q9 M)).1.c.y (nr q a b (Q9 M)).1.c.d)),pl ((nr q a b (Q9 M)).1.c.x),pl ((nr q a b (Q9 M)).1.c.y),sg ((nr q a b (Q9 M)).1.c.d),mg ((nr q a b (Q9 M)).1.c.d),.int .i64 ((nr q a b (Q9 M)).1.id)],.agg [Zm ((X3 (nr q a b (Q9 M)).2.c.x (nr q a b (Q9 M)).2.c.d)),Zm ((X3 (nr q a b (Q9 M)).2.c.y (nr q a b (Q9 M)).2.c.d)),pl ((nr q a b (Q9 M)).2.c.x),pl ((nr q a b (Q9 M)).2.c.y),sg ((nr q a b (Q9 M)).2.c.d),mg ((nr q a b (Q9 M)).2.c.d),.int .i64 ((nr q a b (Q9 M)).2.id)],.one (.bool true)]):=by
 refine X2 tt 0 [] Tryz.func90 Tryz.ntmps90 rfl rfl rfl ?_
 have hML:=D7 hM
 have hM2:2≤M.length:=by rw [h2]; simp
 obtain ⟨hga,hgb⟩:=Qv9 h2
 skip
 refine Qr tt 1 rfl ?_
 refine Zn (Ql qWh rfl rfl fun g1=>ko ?_)
 refine Zn (Ql qWh rfl rfl fun g2=>ko ?_)
 refine Qr tt 2 rfl ?_
 refine kl tt 2 [] Tryz.func89 rfl rfl rfl ((by have h_:=Hd (l:=l) (by omega); rwa [hM] at h_)) rfl rfl ?_
 refine Qf tt 1 [] (Qj (m:=M.length) Vc rfl (Xu _) rfl) rfl ?_
 refine Xb tt 0 [] (decide_eq_false (by omega)) rfl rfl ?_
 refine kc (Qcc Qp 8 6 2 100 100 7 20 [.slice none 0 0,.slice none 0 0,.slice none 0 0,.slice none 0 0,.bool false,.slice none 0 0,.int .i64 0] [Zm ((X3 a.c.x a.c.d)),Zm ((X3 a.c.y a.c.d)),pl a.c.x,pl a.c.y,sg a.c.d,mg a.c.d,.int .i64 a.id] [18,19,20,21,22,23,7,8] [[],[0],[1],[],[3],[4],[],[],[2,6]] [.one (Kq M),.one (.sh [Zm ((X3 a.c.x a.c.d)),Zm ((X3 a.c.y a.c.d)),pl a.c.x,pl a.c.y,sg a.c.d,mg a.c.d,.int .i64 a.id]),.agg [Zm ((X3 a.c.x a.c.d)),Zm ((X3 a.c.y a.c.d)),pl a.c.x,pl a.c.y,sg a.c.d,mg a.c.d,.int .i64 a.id],.one (Kq M),.one (.sh [Zm ((X3 b.c.x b.c.d)),Zm ((X3 b.c.y b.c.d)),pl b.c.x,pl b.c.y,sg b.c.d,mg b.c.d,.int .i64 b.id]),.agg [Zm ((X3 b.c.x b.c.d)),Zm ((X3 b.c.y b.c.d)),pl b.c.x,pl b.c.y,sg b.c.d,mg b.c.d,.int .i64 b.id],.un,.un] [(7,100,[.slice none 0 0,.slice none 0 0,.slice none 0 0,.slice none 0 0,.bool false,.slice none 0 0,.int .i64 0])] [[.nils,.nils,.nils,.nils,.bool false,.nils,.int .i64 0]] rfl rfl rfl (by decide) ⟨rfl,trivial⟩ rfl rfl rfl rfl rfl rfl Kn rfl rfl rfl ⟨Zd rfl rfl,Qi (0) Vc Kn rfl rfl (rfl) (Qg hga) rfl rfl,Zz qUg Kn rfl rfl rfl rfl,Zd rfl rfl,Qi (1) Vc Kn rfl rfl (rfl) (Qg hgb) rfl rfl,Zz qUg Kn rfl rfl rfl rfl,Vl qWh rfl,Vl qWh rfl,trivial⟩ fun g3=>⟨_,_,rfl,rfl,kn ?_⟩)
 refine Xd tt 2 [1] rfl ?_
 refine Qf tt 1 [] (Qj (m:=M.length) Vc rfl (Xu _) rfl) rfl ?_
 refine X5 (fun _ k_=>Jp (ys:=[Zm ((X3 (nr q a b (Qu 0 M)).1.c.x (nr q a b (Qu 0 M)).1.c.d)),Zm ((X3 (nr q a b (Qu 0 M)).1.c.y (nr q a b (Qu 0 M)).1.c.d)),pl ((nr q a b (Qu 0 M)).1.c.x),pl ((nr q a b (Qu 0 M)).1.c.y),sg ((nr q a b (Qu 0 M)).1.c.d),mg ((nr q a b (Qu 0 M)).1.c.d),.int .i64 ((nr q a b (Qu 0 M)).1.id)]) 0 rfl rfl (by rw [Sq]; rfl) (Qo k_)) rfl ?_
 refine X5 (fun _ k_=>Jp (ys:=[Zm ((X3 (nr q a b (Qu 0 M)).2.c.x (nr q a b (Qu 0 M)).2.c.d)),Zm ((X3 (nr q a b (Qu 0 M)).2.c.y (nr q a b (Qu 0 M)).2.c.d)),pl ((nr q a b (Qu 0 M)).2.c.x),pl ((nr q a b (Qu 0 M)).2.c.y),sg ((nr q a b (Qu 0 M)).2.c.d),mg ((nr q a b (Qu 0 M)).2.c.d),.int .i64 ((nr q a b (Qu 0 M)).2.id)]) 1 rfl rfl (by rw [Sq]; rfl) (Qo k_)) rfl ?_
 refine Qk [0,3,4,5,7,8,25,26] rfl rfl ?_
 refine Zx 2 rfl rfl ?_
 refine Zx 3 rfl rfl ?_
 refine Zx 2 rfl rfl ?_
 refine Zx 3 rfl rfl ?_
 refine Zj (fun m L B=>∃ i,i≤M.length∧m=M.length-i∧L=[(0,.one (Kq M)),(3,.one (.sh [Zm ((zp [-(q).num,((q).den:Int)])),Kk c,dl ((dig ((q).num).natAbs)),sg ((q).num),dl ((dig (((q).den:Int)).natAbs)),sg (((q).den:Int)),dl ((dig ((q).num).natAbs)),sg ((q).num),dl ((dig (((q).den:Int)).natAbs)),sg (((q).den:Int))])),(4,.one (.ow g1 0)),(5,.one (.ow g2 0)),(7,.one (.ow ((g3 6)) 0)),(8,.one (.ow ((g3 7)) 0)),(25,.one (.int .i64 (((M.length:Nat):Int)))),(26,.one (.int .i64 (((i:Nat):Int))))]∧B=[.blk (g3 6) 100 [Zm ((X3 ((nr q a b (Qu i M))).1.c.x ((nr q a b (Qu i M))).1.c.d)),Zm ((X3 ((nr q a b (Qu i M))).1.c.y ((nr q a b (Qu i M))).1.c.d)),pl (((nr q a b (Qu i M))).1.c.x),pl (((nr q a b (Qu i M))).1.c.y),sg (((nr q a b (Qu i M))).1.c.d),mg (((nr q a b (Qu i M))).1.c.d),.int .i64 (((nr q a b (Qu i M))).1.id)],.blk (g3 7) 100 [Zm ((X3 ((nr q a b (Qu i M))).2.c.x ((nr q a b (Qu i M))).2.c.d)),Zm ((X3 ((nr q a b (Qu i M))).2.c.y ((nr q a b (Qu i M))).2.c.d)),pl (((nr q a b (Qu i M))).2.c.x),pl (((nr q a b (Qu i M))).2.c.y),sg (((nr q a b (Qu i M))).2.c.d),mg (((nr q a b (Qu i M))).2.c.d),.int .i64 (((nr q a b (Qu i M))).2.id)],.blk g1 100 [.nils,.nils,.nils,.nils,.bool false,.nils,.int .i64 0],.blk g2 100 [.nils,.nils,.nils,.nils,.bool false,.nils,.int .i64 0]]) (m:=_) ⟨0,K7 _,rfl,rfl,rfl⟩ ?_
 rintro m L B ⟨i,hp0,hm,rfl,rfl⟩
 refine Qw tt rfl ?_
 by_cases hlt:i<M.length
 ·obtain ⟨x,hx⟩:∃ x,M[i]? = some x:=⟨_,Xv hlt⟩
  refine Qr tt 1 rfl ?_
  refine Xf tt 3 [] (decide_eq_true (by omega)) rfl rfl ?_
  refine Qf tt 1 [] (Q6 (r:=((i+1:Nat):Int)) rfl rfl (Qm (by omega) (by omega)) rfl) rfl ?_
  refine X5 (fun _ k_=>Jp (ys:=[Zm ((X3 (nr q a b (Yk M x i 0)).1.c.x (nr q a b (Yk M x i 0)).1.c.d)),Zm ((X3 (nr q a b (Yk M x i 0)).1.c.y (nr q a b (Yk M x i 0)).1.c.d)),pl ((nr q a b (Yk M x i 0)).1.c.x),pl ((nr q a b (Yk M x i 0)).1.c.y),sg ((nr q a b (Yk M x i 0)).1.c.d),mg ((nr q a b (Yk M x i 0)).1.c.d),.int .i64 ((nr q a b (Yk M x i 0)).1.id)]) 0 rfl rfl (by rw [O6]) (Qo k_)) rfl ?_
  refine X5 (fun _ k_=>Jp (ys:=[Zm ((X3 (nr q a b (Yk M x i 0)).2.c.x (nr q a b (Yk M x i 0)).2.c.d)),Zm ((X3 (nr q a b (Yk M x i 0)).2.c.y (nr q a b (Yk M x i 0)).2.c.d)),pl ((nr q a b (Yk M x i 0)).2.c.x),pl ((nr q a b (Yk M x i 0)).2.c.y),sg ((nr q a b (Yk M x i 0)).2.c.d),mg ((nr q a b (Yk M x i 0)).2.c.d),.int .i64 ((nr q a b (Yk M x i 0)).2.id)]) 1 rfl rfl (by rw [O6]) (Qo k_)) rfl ?_
  refine Qk [0,3,4,5,7,8,9,25,26,10] rfl rfl ?_
  refine Zx 3 rfl rfl ?_
  refine Zx 3 rfl rfl ?_
  refine Zx 2 rfl rfl ?_
  refine Zx 3 rfl rfl ?_
  refine Zj (fun m L B=>∃ j,i+1+j≤M.length∧m=M.length-(i+1+j)∧L=[(0,.one (Kq M)),(3,.one (.sh [Zm ((zp [-(q).num,((q).den:Int)])),Kk c,dl ((dig ((q).num).natAbs)),sg ((q).num),dl ((dig (((q).den:Int)).natAbs)),sg (((q).den:Int)),dl ((dig ((q).num).natAbs)),sg ((q).num),dl ((dig (((q).den:Int)).natAbs)),sg (((q).den:Int))])),(4,.one (.ow g1 0)),(5,.one (.ow g2 0)),(7,.one (.ow ((g3 6)) 0)),(8,.one (.ow ((g3 7)) 0)),(9,.one (.int .i64 (((i:Nat):Int)))),(25,.one (.int .i64 (((M.length:Nat):Int)))),(26,.one (.int .i64 (((i:Nat):Int)))),(10,.one (.int .i64 (((i+1+j:Nat):Int))))]∧B=[.blk (g3 6) 100 [Zm ((X3 ((nr q a b (Yk M x i j))).1.c.x ((nr q a b (Yk M x i j))).1.c.d)),Zm ((X3 ((nr q a b (Yk M x i j))).1.c.y ((nr q a b (Yk M x i j))).1.c.d)),pl (((nr q a b (Yk M x i j))).1.c.x),pl (((nr q a b (Yk M x i j))).1.c.y),sg (((nr q a b (Yk M x i j))).1.c.d),mg (((nr q a b (Yk M x i j))).1.c.d),.int .i64 (((nr q a b (Yk M x i j))).1.id)],.blk (g3 7) 100 [Zm ((X3 ((nr q a b (Yk M x i j))).2.c.x ((nr q a b (Yk M x i j))).2.c.d)),Zm ((X3 ((nr q a b (Yk M x i j))).2.c.y ((nr q a b (Yk M x i j))).2.c.d)),pl (((nr q a b (Yk M x i j))).2.c.x),pl (((nr q a b (Yk M x i j))).2.c.y),sg (((nr q a b (Yk M x i j))).2.c.d),mg (((nr q a b (Yk M x i j))).2.c.d),.int .i64 (((nr q a b (Yk M x i j))).2.id)],.blk g1 100 [.nils,.nils,.nils,.nils,.bool false,.nils,.int .i64 0],.blk g2 100 [.nils,.nils,.nils,.nils,.bool false,.nils,.int .i64 0]]) (m:=_) ⟨0,by omega,rfl,rfl,rfl⟩ ?_
  rintro m L B ⟨j,hq0,hm,rfl,rfl⟩
  refine Qw tt rfl ?_
  have hrs:=Qv3 (q:=q) (a:=a) (b:=b) hl (by rw [h2]; simp) (by rw [h2]; simp) (Qsx (j:=j) hx)
  by_cases hj2:i+1+j<M.length
  ·obtain ⟨y,hy⟩:∃ y,M[i+1+j]? = some y:=⟨_,Xv hj2⟩
   have hxr:=hl x (Y6 hx)
   have hyr:=hl y (Y6 hy)
   by_cases hf:Kx (Xj (nr q a b (Yk M x i j)).1.c (nr q a b (Yk M x i j)).2.c x.c y.c) q<0
   refine Qw tt rfl ?_
   ·have hnx:=Q2z hy hf
    refine Qr tt 2 rfl ?_
    refine Qf tt 1 [] (Qj (m:=M.length) Vc rfl (Xu _) rfl) rfl ?_
    refine Xf tt 0 [] (decide_eq_true (by omega)) rfl rfl ?_
    refine Qx 16 Qp rfl rfl rfl ?_
    refine Xd tt 6 [0,1] rfl ?_
    refine kd (Qi (i) Vc Kn rfl rfl (rfl) (Qg hx) rfl rfl) rfl ?_
    refine Qr tt 4 rfl ?_
    refine kd (Qi (i+1+j) Vc Kn rfl rfl (rfl) (Qg hy) rfl rfl) rfl ?_
    refine Qr tt 2 rfl ?_
    refine Ye tt 1 [] qGg rfl rfl rfl (Vx (a:=((nr q a b (Yk M x i j))).1.c) (b:=((nr q a b (Yk M x i j))).2.c) (c:=x.c) (e:=y.c) (hrs.1) (hrs.2) (hxr) (hyr)) rfl rfl ?_
    refine Qw tt rfl ?_
    refine kl tt 1 [] qGf rfl rfl rfl (W7 (p:=(Xj ((nr q a b (Yk M x i j))).1.c ((nr q a b (Yk M x i j))).2.c x.c y.c)) (q:=q) (c:=c) ((Wv hrs.1 hrs.2 hxr hyr).1) ((Wv hrs.1 hrs.2 hxr hyr).2) (hq)) rfl rfl ?_
    refine Xf tt 0 [] (decide_eq_true hf) rfl rfl ?_
    refine kc (Iy Qp 8 [55,56,57,58,59,60,61,62] [[],[],[0,1],[2],[],[],[4,5],[6],[3]] [.one (Kq M),.one (.int .i64 (((i:Nat):Int))),.one (.sh [Zm ((X3 x.c.x x.c.d)),Zm ((X3 x.c.y x.c.d)),pl x.c.x,pl x.c.y,sg x.c.d,mg x.c.d,.int .i64 x.id]),.agg [Zm ((X3 x.c.x x.c.d)),Zm ((X3 x.c.y x.c.d)),pl x.c.x,pl x.c.y,sg x.c.d,mg x.c.d,.int .i64 x.id],.one (Kq M),.one (.int .i64 (((i+1+j:Nat):Int))),.one (.sh [Zm ((X3 y.c.x y.c.d)),Zm ((X3 y.c.y y.c.d)),pl y.c.x,pl y.c.y,sg y.c.d,mg y.c.d,.int .i64 y.id]),.agg [Zm ((X3 y.c.x y.c.d)),Zm ((X3 y.c.y y.c.d)),pl y.c.x,pl y.c.y,sg y.c.d,mg y.c.d,.int .i64 y.id]] (fun B=>B=[.blk (g3 6) 100 [Zm ((X3 x.c.x x.c.d)),Zm ((X3 x.c.y x.c.d)),pl x.c.x,pl x.c.y,sg x.c.d,mg x.c.d,.int .i64 x.id],.blk (g3 7) 100 [Zm ((X3 ((nr q a b (Yk M x i j))).2.c.x ((nr q a b (Yk M x i j))).2.c.d)),Zm ((X3 ((nr q a b (Yk M x i j))).2.c.y ((nr q a b (Yk M x i j))).2.c.d)),pl (((nr q a b (Yk M x i j))).2.c.x),pl (((nr q a b (Yk M x i j))).2.c.y),sg (((nr q a b (Yk M x i j))).2.c.d),mg (((nr q a b (Yk M x i j))).2.c.d),.int .i64 (((nr q a b (Yk M x i j))).2.id)],.blk g1 100 [.nils,.nils,.nils,.nils,.bool false,.nils,.int .i64 0],.blk g2 100 [.nils,.nils,.nils,.nils,.bool false,.nils,.int .i64 0]]) rfl rfl rfl rfl ⟨Zd rfl rfl,Zd rfl rfl,Qi (i) Vc Kn rfl rfl (rfl) (Qg hx) rfl rfl,Zz qUg Kn rfl rfl rfl rfl,Zd rfl rfl,Zd rfl rfl,Qi (i+1+j) Vc Kn rfl rfl (rfl) (Qg hy) rfl rfl,Zz qUg Kn rfl rfl rfl rfl,trivial⟩ ?_ ?_ ?_)
    ·intro js_ hj_
     have hj_:some [3]=some js_:=hj_
     injection hj_ with hj_
     subst hj_
     refine P5 fun N k_=>?_
     refine P0 0 Kn rfl rfl rfl rfl rfl rfl rfl ?_
     exact Qo (k_ _ rfl)
    ·rintro B_ rfl
     exact ⟨Zd rfl rfl,Zd rfl rfl,Qi (i) Vc Kn rfl rfl (rfl) (Qg hx) rfl rfl,Zz qUg Kn rfl rfl rfl rfl,Zd rfl rfl,Zd rfl rfl,Qi (i+1+j) Vc Kn rfl rfl (rfl) (Qg hy) rfl rfl,Zz qUg Kn rfl rfl rfl rfl,trivial⟩
    rintro B_ rfl
    refine ⟨_,rfl,kn ?_⟩
    refine Xd tt 2 [1] rfl ?_
    refine Qf tt 1 [] (Q6 (r:=(((i+1+j)+1:Nat):Int)) rfl rfl (Qm (by omega) (by omega)) rfl) rfl ?_
    refine X5 (fun _ k_=>Jp (ys:=[Zm ((X3 (nr q a b (Yk M x i (j+1))).1.c.x (nr q a b (Yk M x i (j+1))).1.c.d)),Zm ((X3 (nr q a b (Yk M x i (j+1))).1.c.y (nr q a b (Yk M x i (j+1))).1.c.d)),pl ((nr q a b (Yk M x i (j+1))).1.c.x),pl ((nr q a b (Yk M x i (j+1))).1.c.y),sg ((nr q a b (Yk M x i (j+1))).1.c.d),mg ((nr q a b (Yk M x i (j+1))).1.c.d),.int .i64 ((nr q a b (Yk M x i (j+1))).1.id)]) 0 rfl rfl (by rw [hnx]) (Qo k_)) rfl ?_
    refine X5 (fun _ k_=>Jp (ys:=[Zm ((X3 (nr q a b (Yk M x i (j+1))).2.c.x (nr q a b (Yk M x i (j+1))).2.c.d)),Zm ((X3 (nr q a b (Yk M x i (j+1))).2.c.y (nr q a b (Yk M x i (j+1))).2.c.d)),pl ((nr q a b (Yk M x i (j+1))).2.c.x),pl ((nr q a b (Yk M x i (j+1))).2.c.y),sg ((nr q a b (Yk M x i (j+1))).2.c.d),mg ((nr q a b (Yk M x i (j+1))).2.c.d),.int .i64 ((nr q a b (Yk M x i (j+1))).2.id)]) 1 rfl rfl (by rw [hnx]) (Qo k_)) rfl ?_
    refine Qk [0,3,4,5,7,8,9,25,26,10] rfl rfl ?_
    refine Zx 3 rfl rfl ?_
    refine Zx 3 rfl rfl ?_
    refine Zx 2 rfl rfl ?_
    refine Zx 3 rfl rfl ?_
    refine Q7 ?_
    refine ⟨_,?_,j+1,by omega,rfl,rfl,rfl⟩
    omega
   have hnx:=Q2o hy hf
   refine Qr tt 2 rfl ?_
   refine Qf tt 1 [] (Qj (m:=M.length) Vc rfl (Xu _) rfl) rfl ?_
   refine Xf tt 0 [] (decide_eq_true (by omega)) rfl rfl ?_
   refine Qx 16 Qp rfl rfl rfl ?_
   refine Xd tt 6 [0,1] rfl ?_
   refine kd (Qi (i) Vc Kn rfl rfl (rfl) (Qg hx) rfl rfl) rfl ?_
   refine Qr tt 4 rfl ?_
   refine kd (Qi (i+1+j) Vc Kn rfl rfl (rfl) (Qg hy) rfl rfl) rfl ?_
   refine Qr tt 2 rfl ?_
   refine Ye tt 1 [] qGg rfl rfl rfl (Vx (a:=((nr q a b (Yk M x i j))).1.c) (b:=((nr q a b (Yk M x i j))).2.c) (c:=x.c) (e:=y.c) (hrs.1) (hrs.2) (hxr) (hyr)) rfl rfl ?_
   refine Qw tt rfl ?_
   refine kl tt 1 [] qGf rfl rfl rfl (W7 (p:=(Xj ((nr q a b (Yk M x i j))).1.c ((nr q a b (Yk M x i j))).2.c x.c y.c)) (q:=q) (c:=c) ((Wv hrs.1 hrs.2 hxr hyr).1) ((Wv hrs.1 hrs.2 hxr hyr).2) (hq)) rfl rfl ?_
   refine Xb tt 1 [] (decide_eq_false hf) rfl rfl ?_
   refine Qf tt 1 [] (Q6 (r:=(((i+1+j)+1:Nat):Int)) rfl rfl (Qm (by omega) (by omega)) rfl) rfl ?_
   refine X5 (fun _ k_=>Jp (ys:=[Zm ((X3 (nr q a b (Yk M x i (j+1))).1.c.x (nr q a b (Yk M x i (j+1))).1.c.d)),Zm ((X3 (nr q a b (Yk M x i (j+1))).1.c.y (nr q a b (Yk M x i (j+1))).1.c.d)),pl ((nr q a b (Yk M x i (j+1))).1.c.x),pl ((nr q a b (Yk M x i (j+1))).1.c.y),sg ((nr q a b (Yk M x i (j+1))).1.c.d),mg ((nr q a b (Yk M x i (j+1))).1.c.d),.int .i64 ((nr q a b (Yk M x i (j+1))).1.id)]) 0 rfl rfl (by rw [hnx]) (Qo k_)) rfl ?_
   refine X5 (fun _ k_=>Jp (ys:=[Zm ((X3 (nr q a b (Yk M x i (j+1))).2.c.x (nr q a b (Yk M x i (j+1))).2.c.d)),Zm ((X3 (nr q a b (Yk M x i (j+1))).2.c.y (nr q a b (Yk M x i (j+1))).2.c.d)),pl ((nr q a b (Yk M x i (j+1))).2.c.x),pl ((nr q a b (Yk M x i (j+1))).2.c.y),sg ((nr q a b (Yk M x i (j+1))).2.c.d),mg ((nr q a b (Yk M x i (j+1))).2.c.d),.int .i64 ((nr q a b (Yk M x i (j+1))).2.id)]) 1 rfl rfl (by rw [hnx]) (Qo k_)) rfl ?_
   refine Qk [0,3,4,5,7,8,9,25,26,10] rfl rfl ?_
   refine Zx 3 rfl rfl ?_
   refine Zx 3 rfl rfl ?_
   refine Zx 2 rfl rfl ?_
   refine Zx 3 rfl rfl ?_
   refine Q7 ?_
   refine ⟨_,?_,j+1,by omega,rfl,rfl,rfl⟩
   omega
  have hj:M.length≤i+1+j:=by omega
  refine Qr tt 2 rfl ?_
  refine Qf tt 1 [] (Qj (m:=M.length) Vc rfl (Xu _) rfl) rfl ?_
  refine Xb tt 0 [] (decide_eq_false (by omega)) rfl rfl ?_
  refine Qf tt 1 [] (Q6 (r:=((i+1:Nat):Int)) rfl rfl (Qm (by omega) (by omega)) rfl) rfl ?_
  refine X5 (fun _ k_=>Jp (ys:=[Zm ((X3 (nr q a b (Qu (i+1) M)).1.c.x (nr q a b (Qu (i+1) M)).1.c.d)),Zm ((X3 (nr q a b (Qu (i+1) M)).1.c.y (nr q a b (Qu (i+1) M)).1.c.d)),pl ((nr q a b (Qu (i+1) M)).1.c.x),pl ((nr q a b (Qu (i+1) M)).1.c.y),sg ((nr q a b (Qu (i+1) M)).1.c.d),mg ((nr q a b (Qu (i+1) M)).1.c.d),.int .i64 ((nr q a b (Qu (i+1) M)).1.id)]) 0 rfl rfl (by rw [←Qfn hx hj]) (Qo k_)) rfl ?_
  refine X5 (fun _ k_=>Jp (ys:=[Zm ((X3 (nr q a b (Qu (i+1) M)).2.c.x (nr q a b (Qu (i+1) M)).2.c.d)),Zm ((X3 (nr q a b (Qu (i+1) M)).2.c.y (nr q a b (Qu (i+1) M)).2.c.d)),pl ((nr q a b (Qu (i+1) M)).2.c.x),pl ((nr q a b (Qu (i+1) M)).2.c.y),sg ((nr q a b (Qu (i+1) M)).2.c.d),mg ((nr q a b (Qu (i+1) M)).2.c.d),.int .i64 ((nr q a b (Qu (i+1) M)).2.id)]) 1 rfl rfl (by rw [←Qfn hx hj]) (Qo k_)) rfl ?_
  refine Qk [0,3,4,5,7,8,25,26] rfl rfl ?_
  refine Zx 3 rfl rfl ?_
  refine Zx 3 rfl rfl ?_
  refine Zx 2 rfl rfl ?_
  refine Zx 3 rfl rfl ?_
  refine Q7 ?_
  refine ⟨_,?_,i+1,by omega,rfl,rfl,rfl⟩
  omega
 have hi:i=M.length:=by omega
 refine Qr tt 1 rfl ?_
 refine Xb tt 0 [] (decide_eq_false (by omega)) rfl rfl ?_
 refine kc (Iy Qp 2 [64,65] [[],[],[0]] [.agg [Zm ((X3 ((nr q a b (Qu i M))).1.c.x ((nr q a b (Qu i M))).1.c.d)),Zm ((X3 ((nr q a b (Qu i M))).1.c.y ((nr q a b (Qu i M))).1.c.d)),pl (((nr q a b (Qu i M))).1.c.x),pl (((nr q a b (Qu i M))).1.c.y),sg (((nr q a b (Qu i M))).1.c.d),mg (((nr q a b (Qu i M))).1.c.d),.int .i64 (((nr q a b (Qu i M))).1.id)],.agg [Zm ((X3 ((nr q a b (Qu i M))).2.c.x ((nr q a b (Qu i M))).2.c.d)),Zm ((X3 ((nr q a b (Qu i M))).2.c.y ((nr q a b (Qu i M))).2.c.d)),pl (((nr q a b (Qu i M))).2.c.x),pl (((nr q a b (Qu i M))).2.c.y),sg (((nr q a b (Qu i M))).2.c.d),mg (((nr q a b (Qu i M))).2.c.d),.int .i64 (((nr q a b (Qu i M))).2.id)]] (fun B=>B=[.blk (g3 6) 100 [Zm ((X3 ((nr q a b (Qu i M))).1.c.x ((nr q a b (Qu i M))).1.c.d)),Zm ((X3 ((nr q a b (Qu i M))).1.c.y ((nr q a b (Qu i M))).1.c.d)),pl (((nr q a b (Qu i M))).1.c.x),pl (((nr q a b (Qu i M))).1.c.y),sg (((nr q a b (Qu i M))).1.c.d),mg (((nr q a b (Qu i M))).1.c.d),.int .i64 (((nr q a b (Qu i M))).1.id)],.blk (g3 7) 100 [Zm ((X3 ((nr q a b (Qu i M))).2.c.x ((nr q a b (Qu i M))).2.c.d)),Zm ((X3 ((nr q a b (Qu i M))).2.c.y ((nr q a b (Qu i M))).2.c.d)),pl (((nr q a b (Qu i M))).2.c.x),pl (((nr q a b (Qu i M))).2.c.y),sg (((nr q a b (Qu i M))).2.c.d),mg (((nr q a b (Qu i M))).2.c.d),.int .i64 (((nr q a b (Qu i M))).2.id)],.blk g1 100 [Zm ((X3 ((nr q a b (Qu i M))).1.c.x ((nr q a b (Qu i M))).1.c.d)),Zm ((X3 ((nr q a b (Qu i M))).1.c.y ((nr q a b (Qu i M))).1.c.d)),pl (((nr q a b (Qu i M))).1.c.x),pl (((nr q a b (Qu i M))).1.c.y),sg (((nr q a b (Qu i M))).1.c.d),mg (((nr q a b (Qu i M))).1.c.d),.int .i64 (((nr q a b (Qu i M))).1.id)],.blk g2 100 [.nils,.nils,.nils,.nils,.bool false,.nils,.int .i64 0]]) rfl rfl rfl rfl ⟨Jm 0 qUg Kn rfl rfl rfl rfl rfl,Jm 1 qUg Kn rfl rfl rfl rfl rfl,trivial⟩ ?_ ?_ ?_)
 ·intro js_ hj_
  have hj_:some [0]=some js_:=hj_
  injection hj_ with hj_
  subst hj_
  refine P5 fun N k_=>?_
  refine P0 2 Kn rfl rfl rfl rfl rfl rfl rfl ?_
  exact Qo (k_ _ rfl)
 ·rintro B_ rfl
  exact ⟨Jm 0 qUg Kn rfl rfl rfl rfl rfl,Jm 1 qUg Kn rfl rfl rfl rfl rfl,trivial⟩
 rintro B_ rfl
 refine ⟨_,rfl,kn ?_⟩
 refine Xd tt 2 [3] rfl ?_
 exact kr3 tt [2,3] rfl (by rw [hi]; rfl)
set_option maxRecDepth 20000 in
theorem Di {l M:List Pt} {q:Rat} {c:List (List Int)} (hM:Xe Vt l=M) (hl:∀ x∈M,Rs x.c) (hn:l.length≤1000) (hq:Qs 1000000 q) (h2:M.length<2):Q8 Tryz.prog 90 [.one (Kq l),.agg [Zm ((zp [-(q).num,((q).den:Int)])),Kk c,dl ((dig ((q).num).natAbs)),sg ((q).num),dl ((dig (((q).den:Int)).natAbs)),sg (((q).den:Int)),dl ((dig ((q).num).natAbs)),sg ((q).num),dl ((dig (((q).den:Int)).natAbs)),sg (((q).den:Int))]] (.tup [.agg [.row ([]),.row ([]),.row ([]),.row ([]),.bool false,.row ([]),.int .i64 0],.agg [.row ([]),.row ([]),.row ([]),.row ([]),.bool false,.row ([]),.int .i64 0],.one (.bool false)]):=by
 refine X2 tt 0 [] Tryz.func90 Tryz.ntmps90 rfl rfl rfl ?_
 have hML:=D7 hM
 skip
 refine Qr tt 1 rfl ?_
 refine Zn (Ql qWh rfl rfl fun g1=>ko ?_)
 refine Zn (Ql qWh rfl rfl fun g2=>ko ?_)
 refine Qr tt 2 rfl ?_
 refine kl tt 2 [] Tryz.func89 rfl rfl rfl ((by have h_:=Hd (l:=l) (by omega); rwa [hM] at h_)) rfl rfl ?_
 refine Qf tt 1 [] (Qj (m:=M.length) Vc rfl (Xu _) rfl) rfl ?_
 refine Xf tt 5 [1,0] (decide_eq_true (by omega)) rfl rfl ?_
 refine X5 (fun _ k_=>Jp (ys:=[.row ([]),.row ([]),.row ([]),.row ([]),.bool false,.row ([]),.int .i64 0]) 0 rfl rfl rfl (Qo k_)) rfl ?_
 refine X5 (fun _ k_=>Jp (ys:=[.row ([]),.row ([]),.row ([]),.row ([]),.bool false,.row ([]),.int .i64 0]) 1 rfl rfl rfl (Qo k_)) rfl ?_
 exact kr3 tt [0,1] rfl (rfl)
theorem Qf3 {q:Rat} {s:Pt×Pt} {M:List Pt} {i:Nat} (hi:i≤M.length) (hn:M.length≤1000):(Ka q s (Qu i M)).length≤1000000:=by
 have h1:=R9 q s (Qu i M)
 have h2:=Gm i M
 have h3:i*M.length≤1000*1000:=qXr (by omega) hn
 omega
theorem Qwq {q:Rat} {s:Pt×Pt} {M:List Pt} {x:Pt} {i j:Nat} (hi:i≤M.length) (hn:M.length≤1000):(Ka q s (Yk M x i j)).length≤1001000:=by
 have h1:=R9 q s (Yk M x i j)
 have h2:=Gm i M
 have h3:i*M.length≤1000*1000:=qXr (by omega) hn
 have h4:(Yk M x i j).length≤(Qu i M).length+M.length:=by
  unfold Yk
  rw [H7,Zw,Uk,E5]
  omega
 omega
theorem Qrl {s:Pt×Pt} {x y:Pt} (h:¬x.id=s.1.id):Ww s (x,y)=true:=by simp [Ww,h]
theorem Qq0 {s:Pt×Pt} {x y:Pt} (h:¬y.id=s.2.id):Ww s (x,y)=true:=by simp [Ww,h]
theorem Qug {s:Pt×Pt} {x y:Pt} (h:x.id=s.1.id) (h2:y.id=s.2.id):Ww s (x,y)=false:=by simp [Ww,h,h2]
theorem Qg2 {q:Rat} {s:Pt×Pt} {M:List Pt} {x y:Pt} {i j:Nat} {vs:List Ct} (hy:M[i+1+j]? = some y) (hv:vs=Ka q s (Yk M x i j)) (h:Ww s (x,y)=true):vs++[X4 q s.1 s.2 x y]=Ka q s (Yk M x i (j+1)):=by
 rw [Be hy,Qlw h,hv]
theorem Qqs {q:Rat} {s:Pt×Pt} {M:List Pt} {x y:Pt} {i j:Nat} {vs:List Ct} (hy:M[i+1+j]? = some y) (hv:vs=Ka q s (Yk M x i j)) (h:Ww s (x,y)=false):vs=Ka q s (Yk M x i (j+1)):=by
 rw [Be hy,Qlu h,hv]
set_option maxRecDepth 20000 in
theorem Nl {l M:List Pt} {q:Rat} {c:List (List Int)} (hM:Xe Vt l=M) (hl:∀ x∈M,Rs x.c) (hn:l.length≤1000) (hq:Qs 1000000 q) {a b:Pt} {m:List Pt} (h2:M=a::b::m) {s:Pt×Pt} (hnr:nr q a b (Q9 M)=s):Q8 Tryz.prog 147 [.one (Kq l),.agg [Zm ((zp [-(q).num,((q).den:Int)])),Kk c,dl ((dig ((q).num).natAbs)),sg ((q).num),dl ((dig (((q).den:Int)).natAbs)),sg (((q).den:Int)),dl ((dig ((q).num).natAbs)),sg ((q).num),dl ((dig (((q).den:Int)).natAbs)),sg (((q).den:Int))]] (.one (Fl ((Xe Yy (Ka q s (Q9 M)))))):=by
 refine X2 tt 0 [] Tryz.func147 Tryz.ntmps147 rfl rfl rfl ?_
 have hML:=D7 hM
 have hs:=Qv3 (q:=q) (a:=a) (b:=b) hl (by rw [h2]; simp) (by rw [h2]; simp) (ps:=Q9 M) (fun m hm=>V4 _ _ m hm)
 rw [hnr] at hs
 skip
 refine Qr tt 4 rfl ?_
 refine kl tt 4 [] Tryz.func90 rfl rfl rfl ((by have h_:=Ek (c:=c) hM hl hn hq h2; rwa [hnr] at h_)) rfl rfl ?_
 refine Zn (Ql qWh rfl rfl fun g1=>ko ?_)
 refine Zn (Ql qWh rfl rfl fun g2=>ko ?_)
 refine Xd tt 5 [1,0] rfl ?_
 refine Xb tt 1 [] (rfl) rfl rfl ?_
 refine kl tt 3 [] Tryz.func89 rfl rfl rfl ((by have h_:=Hd (l:=l) (by omega); rwa [hM] at h_)) rfl rfl ?_
 refine Qf tt 1 [] (Qj (m:=M.length) Vc rfl (Xu _) rfl) rfl ?_
 refine X5 (fun _ k_=>X9 [8] 47 9 rfl (Zg rfl) rfl (Qo k_)) rfl ?_
 refine Qk [0,3,5,6,23,8,24] rfl rfl ?_
 refine Zx 1 rfl rfl ?_
 refine Zx 2 rfl rfl ?_
 refine Zx 2 rfl rfl ?_
 refine Zj (fun m L B=>∃ i ws r,i≤M.length∧ws=Ka q s (Qu i M)∧m=M.length-i∧L=[(0,.one (Kq M)),(3,.one (.sh [Zm ((zp [-(q).num,((q).den:Int)])),Kk c,dl ((dig ((q).num).natAbs)),sg ((q).num),dl ((dig (((q).den:Int)).natAbs)),sg (((q).den:Int)),dl ((dig ((q).num).natAbs)),sg ((q).num),dl ((dig (((q).den:Int)).natAbs)),sg (((q).den:Int))])),(5,.one (.ow g1 0)),(6,.one (.ow g2 0)),(23,.one (.int .i64 (((M.length:Nat):Int)))),(8,.one (.orow r 9 0 ws.length)),(24,.one (.int .i64 (((i:Nat):Int))))]∧B=[.row r 47 9 (ws.map rct),.blk g1 100 [Zm ((X3 s.1.c.x s.1.c.d)),Zm ((X3 s.1.c.y s.1.c.d)),pl s.1.c.x,pl s.1.c.y,sg s.1.c.d,mg s.1.c.d,.int .i64 s.1.id],.blk g2 100 [Zm ((X3 s.2.c.x s.2.c.d)),Zm ((X3 s.2.c.y s.2.c.d)),pl s.2.c.x,pl s.2.c.y,sg s.2.c.d,mg s.2.c.d,.int .i64 s.2.id]]) (m:=_) ⟨0,[],none,K7 _,by rw [Sq]; rfl,rfl,rfl,rfl⟩ ?_
 rintro m L B ⟨i,ws,r,hp0,hp1,hm,rfl,rfl⟩
 refine Qw tt rfl ?_
 by_cases hlt:i<M.length
 ·obtain ⟨x,hx⟩:∃ x,M[i]? = some x:=⟨_,Xv hlt⟩
  have hxr:=hl x (Y6 hx)
  refine Qr tt 1 rfl ?_
  refine Xf tt 3 [] (decide_eq_true (by omega)) rfl rfl ?_
  refine Qf tt 1 [] (Q6 (r:=((i+1:Nat):Int)) rfl rfl (Qm (by omega) (by omega)) rfl) rfl ?_
  refine Qk [0,3,5,6,9,23,24,8,10] rfl rfl ?_
  refine Zj (fun m L B=>∃ j vs r2,i+1+j≤M.length∧vs=Ka q s (Yk M x i j)∧m=M.length-(i+1+j)∧L=[(0,.one (Kq M)),(3,.one (.sh [Zm ((zp [-(q).num,((q).den:Int)])),Kk c,dl ((dig ((q).num).natAbs)),sg ((q).num),dl ((dig (((q).den:Int)).natAbs)),sg (((q).den:Int)),dl ((dig ((q).num).natAbs)),sg ((q).num),dl ((dig (((q).den:Int)).natAbs)),sg (((q).den:Int))])),(5,.one (.ow g1 0)),(6,.one (.ow g2 0)),(9,.one (.int .i64 (((i:Nat):Int)))),(23,.one (.int .i64 (((M.length:Nat):Int)))),(24,.one (.int .i64 (((i:Nat):Int)))),(8,.one (.orow r2 9 0 vs.length)),(10,.one (.int .i64 (((i+1+j:Nat):Int))))]∧B=[.row r2 47 9 (vs.map rct),.blk g1 100 [Zm ((X3 s.1.c.x s.1.c.d)),Zm ((X3 s.1.c.y s.1.c.d)),pl s.1.c.x,pl s.1.c.y,sg s.1.c.d,mg s.1.c.d,.int .i64 s.1.id],.blk g2 100 [Zm ((X3 s.2.c.x s.2.c.d)),Zm ((X3 s.2.c.y s.2.c.d)),pl s.2.c.x,pl s.2.c.y,sg s.2.c.d,mg s.2.c.d,.int .i64 s.2.id]]) (m:=_) ⟨0,ws,r,by omega,by rw [O6]; exact hp1,rfl,rfl,rfl⟩ ?_
  rintro m L B ⟨j,vs,r2,hq0,hq1,hm,rfl,rfl⟩
  refine Qw tt rfl ?_
  have hvl:vs.length≤1001000:=by rw [hq1]; exact Qwq hp0 (by omega)
  by_cases hj2:i+1+j<M.length
  ·obtain ⟨y,hy⟩:∃ y,M[i+1+j]? = some y:=⟨_,Xv hj2⟩
   have hyr:=hl y (Y6 hy)
   refine Qw tt rfl ?_
   by_cases h1:x.id=s.1.id
   ·by_cases h3:y.id=s.2.id
    refine Qw tt rfl ?_
    ·have hnx:=Qqs hy hq1 (Qug h1 h3)
     refine Qr tt 2 rfl ?_
     refine Qf tt 1 [] (Qj (m:=M.length) Vc rfl (Xu _) rfl) rfl ?_
     refine Xf tt 0 [] (decide_eq_true (by omega)) rfl rfl ?_
     refine Qx 16 Qp rfl rfl rfl ?_
     refine Qr tt 2 rfl ?_
     refine kd (Qi (i) Vc Kn rfl rfl (rfl) (Qg hx) rfl rfl) rfl ?_
     refine Xd tt 6 [1] rfl ?_
     refine kd ((Qd rfl rfl (decide_eq_false (fun h=>h h1)) (Qv tt rfl rfl))) rfl ?_
     refine Qw tt rfl ?_
     refine kd ((Qd rfl rfl (decide_eq_false (fun h=>h h1)) (Qv tt rfl rfl))) rfl ?_
     refine Qw tt rfl ?_
     refine kd ((Qd rfl rfl (decide_eq_false (fun h=>h h1)) (Qi (i+1+j) Vc Kn rfl rfl (rfl) (Qg hy) rfl rfl))) rfl ?_
     refine Qw tt rfl ?_
     refine kd ((Qd rfl rfl (decide_eq_false (fun h=>h h1)) (Qv tt rfl rfl))) rfl ?_
     refine Qw tt rfl ?_
     refine kd ((Qd rfl rfl (decide_eq_false (fun h=>h h1)) (Qv tt rfl rfl))) rfl ?_
     refine Qw tt rfl ?_
     refine kd ((Qd rfl rfl (decide_eq_false (fun h=>h h1)) (Qv tt rfl rfl))) rfl ?_
     refine Qw tt rfl ?_
     refine kd ((Qd rfl rfl (decide_eq_false (fun h=>h h1)) (F0 tt 2 rfl rfl))) rfl ?_
     refine Qw tt rfl ?_
     refine Qf tt 0 [] ((Qd rfl rfl (decide_eq_false (fun h=>h h1)) (Qv tt rfl rfl))) rfl ?_
     refine Qf tt 0 [] (Zu rfl (decide_eq_false (fun h=>h h1)) rfl rfl) rfl ?_
     refine Xb tt 1 [] (decide_eq_false (fun h=>h h3)) rfl rfl ?_
     refine Qf tt 1 [] (Q6 (r:=(((i+1+j)+1:Nat):Int)) rfl rfl (Qm (by omega) (by omega)) rfl) rfl ?_
     refine Qk [0,3,5,6,9,23,24,8,10] rfl rfl ?_
     refine Q7 ?_
     refine ⟨_,?_,j+1,vs,r2,by omega,hnx,rfl,rfl,rfl⟩
     omega
    have hnx:=Qg2 hy hq1 (Qq0 (x:=x) h3)
    refine Qr tt 2 rfl ?_
    refine Qf tt 1 [] (Qj (m:=M.length) Vc rfl (Xu _) rfl) rfl ?_
    refine Xf tt 0 [] (decide_eq_true (by omega)) rfl rfl ?_
    refine Qx 16 Qp rfl rfl rfl ?_
    refine Qr tt 2 rfl ?_
    refine kd (Qi (i) Vc Kn rfl rfl (rfl) (Qg hx) rfl rfl) rfl ?_
    refine Xd tt 6 [1] rfl ?_
    refine kd ((Qd rfl rfl (decide_eq_false (fun h=>h h1)) (Qv tt rfl rfl))) rfl ?_
    refine Qw tt rfl ?_
    refine kd ((Qd rfl rfl (decide_eq_false (fun h=>h h1)) (Qv tt rfl rfl))) rfl ?_
    refine Qw tt rfl ?_
    refine kd ((Qd rfl rfl (decide_eq_false (fun h=>h h1)) (Qi (i+1+j) Vc Kn rfl rfl (rfl) (Qg hy) rfl rfl))) rfl ?_
    refine Qw tt rfl ?_
    refine kd ((Qd rfl rfl (decide_eq_false (fun h=>h h1)) (Qv tt rfl rfl))) rfl ?_
    refine Qw tt rfl ?_
    refine kd ((Qd rfl rfl (decide_eq_false (fun h=>h h1)) (Qv tt rfl rfl))) rfl ?_
    refine Qw tt rfl ?_
    refine kd ((Qd rfl rfl (decide_eq_false (fun h=>h h1)) (Qv tt rfl rfl))) rfl ?_
    refine Qw tt rfl ?_
    refine kd ((Qd rfl rfl (decide_eq_false (fun h=>h h1)) (F0 tt 2 rfl rfl))) rfl ?_
    refine Qw tt rfl ?_
    refine Qf tt 0 [] ((Qd rfl rfl (decide_eq_false (fun h=>h h1)) (Qv tt rfl rfl))) rfl ?_
    refine Qf tt 0 [] (Zu rfl (decide_eq_false (fun h=>h h1)) rfl rfl) rfl ?_
    refine Xf tt 0 [] (decide_eq_true h3) rfl rfl ?_
    refine Qx 15 Qp rfl rfl rfl ?_
    refine Xd tt 6 [1,2] rfl ?_
    refine kd (Qi (i) Vc Kn rfl rfl (rfl) (Qg hx) rfl rfl) rfl ?_
    refine Qr tt 3 rfl ?_
    refine kd (Qi (i+1+j) Vc Kn rfl rfl (rfl) (Qg hy) rfl rfl) rfl ?_
    refine Qr tt 2 rfl ?_
    refine Ye tt 1 [] Tryz.func221 rfl rfl rfl (N8 (q:=q) (c:=c) (a:=s.1) (b:=s.2) (d:=x) (e:=y) (hs.1) (hs.2) (hxr) (hyr) (hq)) rfl rfl ?_
    refine Qw tt rfl ?_
    refine Zn (Zo (ls2:=((vs++[X4 q s.1 s.2 x y]).map rct)) (m2:=(vs++[X4 q s.1 s.2 x y]).length) 0 L1 L1 qGj rfl rfl qWq qUe rfl rfl rfl rfl rfl rfl rfl (by rw [Zw]; exact Ji _) (Yh rfl) (Ya rfl) (by show _+1<_; omega) (by rw [Vh (by rw [Zw]; exact Ji _)]; rw [G2]; rfl) (by rw [H7]; rfl) fun r3=>ko ?_)
    refine Qr tt 2 rfl ?_
    refine Qf tt 1 [] (Q6 (r:=(((i+1+j)+1:Nat):Int)) rfl rfl (Qm (by omega) (by omega)) rfl) rfl ?_
    refine Qk [0,3,5,6,9,23,24,8,10] rfl rfl ?_
    refine Q7 ?_
    refine ⟨_,?_,j+1,_,r3,by omega,hnx,rfl,rfl,rfl⟩
    omega
   have hnx:=Qg2 hy hq1 (Qrl (y:=y) h1)
   refine Qr tt 2 rfl ?_
   refine Qf tt 1 [] (Qj (m:=M.length) Vc rfl (Xu _) rfl) rfl ?_
   refine Xf tt 0 [] (decide_eq_true (by omega)) rfl rfl ?_
   refine Qx 16 Qp rfl rfl rfl ?_
   refine Qr tt 2 rfl ?_
   refine kd (Qi (i) Vc Kn rfl rfl (rfl) (Qg hx) rfl rfl) rfl ?_
   refine Xd tt 6 [1] rfl ?_
   refine kd (Qh rfl rfl (decide_eq_true h1) rfl) rfl ?_
   refine Qw tt rfl ?_
   refine kd (Qh rfl rfl (decide_eq_true h1) rfl) rfl ?_
   refine Qw tt rfl ?_
   refine kd (Qh rfl rfl (decide_eq_true h1) rfl) rfl ?_
   refine Qw tt rfl ?_
   refine kd (Qh rfl rfl (decide_eq_true h1) rfl) rfl ?_
   refine Qw tt rfl ?_
   refine kd (Qh rfl rfl (decide_eq_true h1) rfl) rfl ?_
   refine Qw tt rfl ?_
   refine kd (Qh rfl rfl (decide_eq_true h1) rfl) rfl ?_
   refine Qw tt rfl ?_
   refine kd (Qh rfl rfl (decide_eq_true h1) rfl) rfl ?_
   refine Qw tt rfl ?_
   refine Qf tt 0 [] (Qh rfl rfl (decide_eq_true h1) rfl) rfl ?_
   refine Qf tt 0 [] (Zp rfl (decide_eq_true h1) rfl rfl) rfl ?_
   refine Xf tt 0 [] (rfl) rfl rfl ?_
   refine Qx 15 Qp rfl rfl rfl ?_
   refine Xd tt 6 [1,2] rfl ?_
   refine kd (Qi (i) Vc Kn rfl rfl (rfl) (Qg hx) rfl rfl) rfl ?_
   refine Qr tt 3 rfl ?_
   refine kd (Qi (i+1+j) Vc Kn rfl rfl (rfl) (Qg hy) rfl rfl) rfl ?_
   refine Qr tt 2 rfl ?_
   refine Ye tt 1 [] Tryz.func221 rfl rfl rfl (N8 (q:=q) (c:=c) (a:=s.1) (b:=s.2) (d:=x) (e:=y) (hs.1) (hs.2) (hxr) (hyr) (hq)) rfl rfl ?_
   refine Qw tt rfl ?_
   refine Zn (Zo (ls2:=((vs++[X4 q s.1 s.2 x y]).map rct)) (m2:=(vs++[X4 q s.1 s.2 x y]).length) 0 L1 L1 qGj rfl rfl qWq qUe rfl rfl rfl rfl rfl rfl rfl (by rw [Zw]; exact Ji _) (Yh rfl) (Ya rfl) (by show _+1<_; omega) (by rw [Vh (by rw [Zw]; exact Ji _)]; rw [G2]; rfl) (by rw [H7]; rfl) fun r4=>ko ?_)
   refine Qr tt 2 rfl ?_
   refine Qf tt 1 [] (Q6 (r:=(((i+1+j)+1:Nat):Int)) rfl rfl (Qm (by omega) (by omega)) rfl) rfl ?_
   refine Qk [0,3,5,6,9,23,24,8,10] rfl rfl ?_
   refine Q7 ?_
   refine ⟨_,?_,j+1,_,r4,by omega,hnx,rfl,rfl,rfl⟩
   omega
  have hj:M.length≤i+1+j:=by omega
  refine Qr tt 2 rfl ?_
  refine Qf tt 1 [] (Qj (m:=M.length) Vc rfl (Xu _) rfl) rfl ?_
  refine Xb tt 0 [] (decide_eq_false (by omega)) rfl rfl ?_
  refine Qf tt 1 [] (Q6 (r:=((i+1:Nat):Int)) rfl rfl (Qm (by omega) (by omega)) rfl) rfl ?_
  refine Qk [0,3,5,6,23,8,24] rfl rfl ?_
  refine Q7 ?_
  refine ⟨_,?_,i+1,vs,r2,by omega,by rw [hq1,Qfn hx hj],rfl,rfl,rfl⟩
  omega
 have hi:i=M.length:=by omega
 have hwl:ws.length≤1000000:=by rw [hp1]; exact Qf3 hp0 (by omega)
 refine Qr tt 1 rfl ?_
 refine Xb tt 1 [] (decide_eq_false (by omega)) rfl rfl ?_
 refine X5 (fun _ k_=>Xm 0 [70] rfl (Zg rfl) (by rw [Zw]) (by rw [Zw]; omega) rfl (Qo k_)) rfl ?_
 refine Qw tt rfl ?_
 refine kl tt 1 [] Tryz.func222 rfl rfl rfl (Qej hwl) rfl rfl ?_
 exact Xq tt [] rfl (by rw [hp1,hi]; rfl)
set_option maxRecDepth 20000 in
theorem Nc {l M:List Pt} {q:Rat} {c:List (List Int)} (hM:Xe Vt l=M) (hl:∀ x∈M,Rs x.c) (hn:l.length≤1000) (hq:Qs 1000000 q) (h2:M.length<2):Q8 Tryz.prog 147 [.one (Kq l),.agg [Zm ((zp [-(q).num,((q).den:Int)])),Kk c,dl ((dig ((q).num).natAbs)),sg ((q).num),dl ((dig (((q).den:Int)).natAbs)),sg (((q).den:Int)),dl ((dig ((q).num).natAbs)),sg ((q).num),dl ((dig (((q).den:Int)).natAbs)),sg (((q).den:Int))]] (.one (Fl ([]))):=by
 refine X2 tt 4 [] Tryz.func147 Tryz.ntmps147 rfl rfl rfl ?_
 refine kl tt 4 [] Tryz.func90 rfl rfl rfl (Di hM hl hn hq h2) rfl rfl ?_
 refine Zn (Ql qWh rfl rfl fun g1=>ko ?_)
 refine Zn (Ql qWh rfl rfl fun g2=>ko ?_)
 refine Xd tt 5 [1,0] rfl ?_
 refine Xf tt 1 [] (rfl) rfl rfl ?_
 refine X5 (fun _ k_=>Nb 4 rfl (Qo k_)) rfl ?_
 exact Xq tt [] rfl (rfl)
end Orr

namespace Orr
open Go Go.Proofs
theorem Qav {l:List Ct} (hl:l.length≤1000000):Q8 Tryz.prog 174 [.one (.row ([])),.one (Fl l)] (.one (Fl l)):=by
 refine X2 tt 2 [] Tryz.func174 Tryz.ntmps174 rfl rfl rfl ?_
 refine Qf tt 1 [] (Qj (m:=l.length) L1 rfl (Qbj _) rfl) rfl ?_
 refine Qk [0,1,8,9] rfl rfl ?_
 refine Zj (fun m L B=>∃ i,i≤l.length∧m=l.length-i∧L=[(0,.one (.row ([]))),(1,.one (Fl l)),(8,.one (.int .i64 (((l.length:Nat):Int)))),(9,.one (.int .i64 (((i:Nat):Int))))]∧B=[]) (m:=_) ⟨0,K7 _,rfl,rfl,rfl⟩ ?_
 rintro m L B ⟨i,hp0,hm,rfl,rfl⟩
 refine Qw tt rfl ?_
 by_cases hlt:i<l.length
 ·skip
  refine Qr tt 1 rfl ?_
  refine Xf tt 3 [] (decide_eq_true (by omega)) rfl rfl ?_
  refine Qf tt 1 [] (Qj (m:=([]).length) L1 rfl (rfl) rfl) rfl ?_
  refine H1 1 ?_
  refine J7 ?_
  refine Qr tt 1 rfl ?_
  refine Xb tt 0 [] (rfl) rfl rfl ?_
  refine Qf tt 1 [] (Q6 (r:=((i+1:Nat):Int)) rfl rfl (Qm (by omega) (by omega)) rfl) rfl ?_
  refine Qk [0,1,8,9] rfl rfl ?_
  refine Q7 ?_
  refine ⟨_,?_,i+1,by omega,rfl,rfl,rfl⟩
  omega
 skip
 refine Qr tt 1 rfl ?_
 refine Xb tt 2 [] (decide_eq_false (by omega)) rfl rfl ?_
 exact Xq tt [] rfl (rfl)
theorem O5 {l:List Pt} {w:List Ct} {q:Rat} {c:List (List Int)} (h:Q8 Tryz.prog 147 [.one (Kq l),.agg [Zm ((zp [-(q).num,((q).den:Int)])),Kk c,dl ((dig ((q).num).natAbs)),sg ((q).num),dl ((dig (((q).den:Int)).natAbs)),sg (((q).den:Int)),dl ((dig ((q).num).natAbs)),sg ((q).num),dl ((dig (((q).den:Int)).natAbs)),sg (((q).den:Int))]] (.one (Fl w))):Q8 Tryz.prog 78 [.one (.int .i64 3),.one (Kq l),.agg [Zm ((zp [-(q).num,((q).den:Int)])),Kk c,dl ((dig ((q).num).natAbs)),sg ((q).num),dl ((dig (((q).den:Int)).natAbs)),sg (((q).den:Int)),dl ((dig ((q).num).natAbs)),sg ((q).num),dl ((dig (((q).den:Int)).natAbs)),sg (((q).den:Int))]] (.one (Fl w)):=by
 refine X2 tt 5 [] Tryz.func78 Tryz.ntmps78 rfl rfl rfl ?_
 refine Xb tt 2 [] (rfl) rfl rfl ?_
 refine Xb tt 2 [] (rfl) rfl rfl ?_
 refine Xb tt 2 [] (rfl) rfl rfl ?_
 refine Xf tt 2 [] (rfl) rfl rfl ?_
 refine kl tt 1 [] Tryz.func147 rfl rfl rfl (h) rfl rfl ?_
 exact Xq tt [] rfl (rfl)
theorem O9 {l:List Pt} {w:List Ct} {q:Rat} {c:List (List Int)} (h:Q8 Tryz.prog 147 [.one (Kq l),.agg [Zm ((zp [-(q).num,((q).den:Int)])),Kk c,dl ((dig ((q).num).natAbs)),sg ((q).num),dl ((dig (((q).den:Int)).natAbs)),sg (((q).den:Int)),dl ((dig ((q).num).natAbs)),sg ((q).num),dl ((dig (((q).den:Int)).natAbs)),sg (((q).den:Int))]] (.one (Fl w))):Q8 Tryz.prog 17 [.one (.int .i64 3),.one (Kq l),.agg [Zm ((zp [-(q).num,((q).den:Int)])),Kk c,dl ((dig ((q).num).natAbs)),sg ((q).num),dl ((dig (((q).den:Int)).natAbs)),sg (((q).den:Int)),dl ((dig ((q).num).natAbs)),sg ((q).num),dl ((dig (((q).den:Int)).natAbs)),sg (((q).den:Int))]] (.one (Fl w)):=by
 refine X2 tt 5 [] Tryz.func17 Tryz.ntmps17 rfl rfl rfl ?_
 refine kl tt 1 [] Tryz.func78 rfl rfl rfl (O5 h) rfl rfl ?_
 exact Xq tt [] rfl (rfl)
end Orr

namespace Orr
open Go
structure RawInt where
  b:Bool
  l:List Nat
structure RawPt where
  x:List RawInt
  y:List RawInt
  d:RawInt
  id:Int
abbrev Qj4 (z:RawInt):List LV:=[.bool z.b,Xy z.l]
def Y4 (l:List RawInt):LV:=.row (l.map Qj4)
theorem Kz (l:List RawInt):We (Y4 l)=some l.length:=by simp [We,Y4]
abbrev rwp (z:RawPt):List LV:=[Y4 z.x,Y4 z.y,.bool z.d.b,Xy z.d.l,.int .i64 z.id]
def I0 (l:List RawPt):LV:=.row (l.map rwp)
theorem Dt (l:List RawPt):We (I0 l)=some l.length:=by simp [We,I0]
structure RawInt.Ok (z:RawInt):Prop where
  u:∀ u∈z.l,u<4294967296
structure RawPt.Ok (z:RawPt):Prop where
  x:∀ a∈z.x,a.Ok
  y:∀ a∈z.y,a.Ok
  d:z.d.Ok
  id:-9223372036854775808≤z.id∧z.id≤9223372036854775807
def RawInt.cut (z:RawInt):RawInt:=⟨z.b,z.l.take 1⟩
def Yc (most:Int) (z:RawInt):Int:=match z.l with
  | []=>0
  | u::_=>if z.b=true then -((u:Int) % (most+1)) else (u:Int) % (most+1)
theorem At {most:Int} (h:0≤most) (z:RawInt):-most≤Yc most z∧Yc most z≤most:=by
  unfold Yc
  split
  · omega
  · rename_i u _ _
    have h1:=qJc (u:Int) (b:=most+1) (by omega)
    have h2:=qXs (u:Int) (b:=most+1) (by omega)
    split <;> omega
def J0 (most:Int) (l:List RawInt):List Int:=(l.take 3).map (Yc most)
def Z5 (most:Int) (x y:List RawInt) (d:RawInt):Crv:=⟨J0 most x,J0 most y,Yc 3 d⟩
def To (most:Int) (z:RawPt):Pt:=⟨Z5 most z.x z.y z.d,z.id % 1000⟩
theorem L6 (most:Int) (l:List RawInt):(J0 most l).length≤3:=by unfold J0; rw [Zw,Uk]; omega
theorem Cd {most:Int} {l:List RawInt} {i:Nat} {z:RawInt} (hi:i<3) (h:l[i]? = some z):J0 most (l.take (i+1))=J0 most (l.take i)++[Yc most z]:=by
  unfold J0
  rw [qYr,qYr,qJy (by omega),qJy (by omega),qJa,h]
  simp
theorem Yi (most:Int) {l:List RawInt} {i:Nat} (h:l.length≤i∨3≤i):J0 most (l.take i)=J0 most l:=by
  unfold J0
  rw [qYr]
  rcases Nat.le_total 3 i with h3 | h3
  · rw [Nm h3]
  · rcases h with h | h
    · rw [qJy h3,Vh (l:=l) (i:=i) (by omega),Vh (l:=l) (i:=3) (by omega)]
    · rw [qJy h3,show i=3 by omega]
theorem Ls {most:Int} {l:List RawInt} {z:Int} (hm:0≤most) (h:z∈J0 most l):-most≤z∧z≤most:=by
  obtain ⟨a,_,rfl⟩:=Wa.1 h
  exact At hm a
theorem Dc {most:Int} (hm:0≤most∧most≤999) (x y:List RawInt) (d:RawInt):Cs 10 3 (Z5 most x y d):=by
  have key:∀ z:Int,-999≤z∧z≤999→Xh z≤10:=fun z h=>G7.2 (by omega)
  refine ⟨fun z hz=>?_,fun z hz=>?_,?_,L6 _ _,L6 _ _⟩
  · have:=Ls hm.1 hz; exact key _ (by omega)
  · have:=Ls hm.1 hz; exact key _ (by omega)
  · have:=At (most:=3) (by decide) d
    show Xh (Yc 3 d)≤10
    exact key _ (by omega)
def Wg (n:Nat):List Pt→List Pt→List Pt
  | out,[]=>out
  | out,p::l=>if out.length<n then (if out.any (fun x=>decide (x.id=p.id))=true then Wg n out l else Wg n (out++[p]) l) else out
theorem Ts {n:Nat}:∀ (l out:List Pt) (p:Pt),(Wg n out l).length<n→(Wg n out l).any (fun x=>decide (x.id=p.id))=true→Wg n out (l++[p])=Wg n out l
  |
   [],out,p,h,ha=>by
   simp only [Wg] at h ha
   show Wg n out [p]=out
   simp only [Wg]
   rw [if_pos h,if_pos ha]
  |
   x::l,out,p,h,ha=>by
   show Wg n out (x::(l++[p]))=Wg n out (x::l)
   simp only [Wg] at h ha ⊢
   split
   · rename_i h0
     rw [if_pos h0] at h ha
     split
     · rename_i h1
       rw [if_pos h1] at h ha
       exact Ts l out p h ha
     · rename_i h1
       rw [if_neg h1] at h ha
       exact Ts l _ p h ha
   · rfl
theorem Rr {n:Nat}:∀ (l out:List Pt) (p:Pt),(Wg n out l).length<n→(Wg n out l).any (fun x=>decide (x.id=p.id))=false→Wg n out (l++[p])=Wg n out l++[p]
  |
   [],out,p,h,ha=>by
   simp only [Wg] at h ha
   show Wg n out [p]=out++[p]
   simp only [Wg]
   rw [if_pos h,if_neg (by rw [ha]; simp)]
  |
   x::l,out,p,h,ha=>by
   show Wg n out (x::(l++[p]))=Wg n out (x::l)++[p]
   simp only [Wg] at h ha ⊢
   split
   · rename_i h0
     rw [if_pos h0] at h ha
     split
     · rename_i h1
       rw [if_pos h1] at h ha
       exact Rr l out p h ha
     · rename_i h1
       rw [if_neg h1] at h ha
       exact Rr l _ p h ha
   · rename_i h0
     rw [if_neg h0] at h
     omega
theorem Dh {n:Nat}:∀ (l m out:List Pt),n≤(Wg n out l).length→Wg n out (l++m)=Wg n out l
  |
   [],m,out,h=>by
   simp only [Wg] at h
   show Wg n out m=out
   match m with
   | []=>rfl
   | p::m=>simp only [Wg]; rw [if_neg (by omega)]
  |
   x::l,m,out,h=>by
   show Wg n out (x::(l++m))=Wg n out (x::l)
   simp only [Wg] at h ⊢
   split
   · rename_i h0
     rw [if_pos h0] at h
     split
     · rename_i h1
       rw [if_pos h1] at h
       exact Dh l m out h
     · rename_i h1
       rw [if_neg h1] at h
       exact Dh l m _ h
   · rfl
theorem Ss {n:Nat}:∀ (l out:List Pt),out.length≤n→(Wg n out l).length≤n
  | [],out,h=>h
  |
   x::l,out,h=>by
   simp only [Wg]
   split
   · split
     · exact Ss l out h
     · exact Ss l _ (by rw [H7]; show _+1≤_; omega)
   · exact h
theorem N9 {n:Nat}:∀ (l out:List Pt) {p:Pt},p∈Wg n out l→p∈out∨p∈l
  | [],out,p,h=>.inl h
  |
   x::l,out,p,h=>by
   simp only [Wg] at h
   split at h
   · split at h
     · rcases N9 l out h with h | h
       · exact .inl h
       · exact .inr (W0 _ h)
     · rcases N9 l _ h with h | h
       · rcases Yz.1 h with h | h
         · exact .inl h
         · exact .inr (by rw [qZw.1 h]; exact Ub ..)
       · exact .inr (W0 _ h)
   · exact .inl h
def Jw (n:Nat) (most:Int) (zs:List RawPt):List Pt:=Wg n [] (zs.map (To most))
def Pt.nrm (p:Pt):Pt:=⟨p.c.norm,p.id⟩
end Orr

namespace Orr
open Go Go.Proofs
theorem Qvu (d:Nat) (x y:Int) (w:World):(Op.equalIn (d+1) 3 (.int .i64 x) (.int .i64 y)).run Tryz.prog w=.ok (decide (x=y)) w:=by
 simp [Op.equalIn,qWm]
 rfl
set_option maxRecDepth 20000 in
theorem Qxd (d:Nat) (x0 x1 x2 x3 y0 y1 y2 y3:Int) (w:World):(Op.equalIn (d+1+1) 42 (.agg #[.int .i64 x0,.int .i64 x1,.int .i64 x2,.int .i64 x3]) (.agg #[.int .i64 y0,.int .i64 y1,.int .i64 y2,.int .i64 y3])).run Tryz.prog w=.ok (decide ([x0,x1,x2,x3]=[y0,y1,y2,y3])) w:=by
 rw [run_equalIn_array w (d+1) _ _ (n:=4) (e:=3) rfl rfl]
 rw [show List.range 4=[0,1,2,3] from rfl,show Tryz.prog.cellsOf 3=1 from rfl]
 simp [Op.eqItems,Go.part,Lw,Qvu]
 by_cases h0:x0=y0 <;> by_cases h1:x1=y1 <;> by_cases h2:x2=y2 <;> by_cases h3:x3=y3 <;> simp [h0,h1,h2,h3]
set_option maxRecDepth 20000 in
theorem Qs9 (d:Nat) (x x0 x1 x2 x3 y y0 y1 y2 y3:Int) (w:World):(Op.equalIn (d+1+1+1) 44 (.agg #[.int .i64 x,.int .i64 x0,.int .i64 x1,.int .i64 x2,.int .i64 x3]) (.agg #[.int .i64 y,.int .i64 y0,.int .i64 y1,.int .i64 y2,.int .i64 y3])).run Tryz.prog w=.ok (decide ([x,x0,x1,x2,x3]=[y,y0,y1,y2,y3])) w:=by
 rw [run_equalIn_struct w (d+1+1) 44 _ _ rfl Tryz.stoodInHeld44]
 have hf:(Tryz.prog.fieldsOf 44).toList=[{ name := "Kind",type:=3,offset:=0,embedded:=false,tag := "",pkgPath := "",byteOffset:=0 },{ name := "Ids",type:=42,offset:=1,embedded:=false,tag := "",pkgPath := "",byteOffset:=8 }]:=by simp [Program.fieldsOf,Tryz.underlying44]
 rw [hf]
 simp [Op.eqFields,Go.part,Lw,Tryz.isAgg42,Tryz.sizeOf42,Js,Qvu,Qxd]
 by_cases h:x=y <;> by_cases h0:x0=y0 <;> by_cases h1:x1=y1 <;> by_cases h2:x2=y2 <;> by_cases h3:x3=y3 <;> simp [h,h0,h1,h2,h3]
theorem Qq8 (a b:List Int) (ha:a.length=5) (hb:b.length=5) (w:World):(Op.equal 44 (.agg (a.map (Value.int .i64)).toArray) (.agg (b.map (Value.int .i64)).toArray)).run Tryz.prog w=.ok (decide (a=b)) w:=by
 match a,ha,b,hb with
 | [x,x0,x1,x2,x3],_,[y,y0,y1,y2,y3],_=>exact Qs9 9997 x x0 x1 x2 x3 y y0 y1 y2 y3 w
theorem I4  : Q8 Tryz.prog 274 [.one (.int .i64 5)] (.one (.int .i64 4)):=by
 refine X2 tt 4 [] Tryz.func274 Tryz.ntmps274 rfl rfl rfl ?_
 refine Xb tt 2 [] (rfl) rfl rfl ?_
 refine Xb tt 2 [] (rfl) rfl rfl ?_
 refine Xb tt 2 [] (rfl) rfl rfl ?_
 refine Xb tt 2 [] (rfl) rfl rfl ?_
 refine Xf tt 1 [] (rfl) rfl rfl ?_
 exact Xq tt [] rfl (rfl)
theorem L7 {k i0 i1 i2 i3 l j0 j1 j2 j3:Int}:Q8 Tryz.prog 188 [.agg [.int .i64 k,.int .i64 i0,.int .i64 i1,.int .i64 i2,.int .i64 i3],.agg [.int .i64 l,.int .i64 j0,.int .i64 j1,.int .i64 j2,.int .i64 j3]] (.one (.bool (Ha [k,i0,i1,i2,i3] [l,j0,j1,j2,j3]))):=by
 refine X2 tt 8 [] Tryz.func188 Tryz.ntmps188 rfl rfl rfl ?_
 refine kif rfl (fun hb_if1=>?_) (fun hb_if1=>?_)
 ·try simp only [decide_eq_true_eq,decide_eq_false_iff_not,Vf,Vg] at hb_if1
  refine Qr tt 6 rfl ?_
  exact Xq tt [] rfl (by simp_all [Ha])
 try simp only [decide_eq_true_eq,decide_eq_false_iff_not,Vf,Vg] at hb_if1
 refine Qr tt 3 rfl ?_
 refine H1 5 ?_
 refine J7 ?_
 refine Qr tt 1 rfl ?_
 refine Xf tt 1 [] (rfl) rfl rfl ?_
 refine Qf tt 5 [] (B5 0 Sm Js Lw rfl rfl rfl (by decide) rfl rfl) rfl ?_
 refine Qf tt 2 [] (Zv 0 Sm Js rfl rfl rfl (by decide) rfl rfl) rfl ?_
 refine kif rfl (fun hb_if3=>?_) (fun hb_if3=>?_)
 ·try simp only [decide_eq_true_eq,decide_eq_false_iff_not,Vf,Vg] at hb_if3
  refine Qr tt 3 rfl ?_
  refine Qf tt 3 [] (Zv 0 Sm Js rfl rfl rfl (by decide) rfl rfl) rfl ?_
  exact Xq tt [] rfl (by simp_all [Ha])
 try simp only [decide_eq_true_eq,decide_eq_false_iff_not,Vf,Vg] at hb_if3
 refine Qw tt rfl ?_
 refine Qf tt 1 [] (Q6 (r:=((1:Nat):Int)) rfl rfl (rfl) rfl) rfl ?_
 refine Q7 ?_
 refine J7 ?_
 refine Qr tt 1 rfl ?_
 refine Xf tt 1 [] (rfl) rfl rfl ?_
 refine Qf tt 5 [] (B5 1 Sm Js Lw rfl rfl rfl (by decide) rfl rfl) rfl ?_
 refine Qf tt 2 [] (Zv 1 Sm Js rfl rfl rfl (by decide) rfl rfl) rfl ?_
 refine kif rfl (fun hb_if3=>?_) (fun hb_if3=>?_)
 ·try simp only [decide_eq_true_eq,decide_eq_false_iff_not,Vf,Vg] at hb_if3
  refine Qr tt 3 rfl ?_
  refine Qf tt 3 [] (Zv 1 Sm Js rfl rfl rfl (by decide) rfl rfl) rfl ?_
  exact Xq tt [] rfl (by simp_all [Ha])
 try simp only [decide_eq_true_eq,decide_eq_false_iff_not,Vf,Vg] at hb_if3
 refine Qw tt rfl ?_
 refine Qf tt 1 [] (Q6 (r:=((2:Nat):Int)) rfl rfl (rfl) rfl) rfl ?_
 refine Q7 ?_
 refine J7 ?_
 refine Qr tt 1 rfl ?_
 refine Xf tt 1 [] (rfl) rfl rfl ?_
 refine Qf tt 5 [] (B5 2 Sm Js Lw rfl rfl rfl (by decide) rfl rfl) rfl ?_
 refine Qf tt 2 [] (Zv 2 Sm Js rfl rfl rfl (by decide) rfl rfl) rfl ?_
 refine kif rfl (fun hb_if3=>?_) (fun hb_if3=>?_)
 ·try simp only [decide_eq_true_eq,decide_eq_false_iff_not,Vf,Vg] at hb_if3
  refine Qr tt 3 rfl ?_
  refine Qf tt 3 [] (Zv 2 Sm Js rfl rfl rfl (by decide) rfl rfl) rfl ?_
  exact Xq tt [] rfl (by simp_all [Ha])
 try simp only [decide_eq_true_eq,decide_eq_false_iff_not,Vf,Vg] at hb_if3
 refine Qw tt rfl ?_
 refine Qf tt 1 [] (Q6 (r:=((3:Nat):Int)) rfl rfl (rfl) rfl) rfl ?_
 refine Q7 ?_
 refine J7 ?_
 refine Qr tt 1 rfl ?_
 refine Xf tt 1 [] (rfl) rfl rfl ?_
 refine Qf tt 5 [] (B5 3 Sm Js Lw rfl rfl rfl (by decide) rfl rfl) rfl ?_
 refine Qf tt 2 [] (Zv 3 Sm Js rfl rfl rfl (by decide) rfl rfl) rfl ?_
 refine kif rfl (fun hb_if3=>?_) (fun hb_if3=>?_)
 ·try simp only [decide_eq_true_eq,decide_eq_false_iff_not,Vf,Vg] at hb_if3
  refine Qr tt 3 rfl ?_
  refine Qf tt 3 [] (Zv 3 Sm Js rfl rfl rfl (by decide) rfl rfl) rfl ?_
  exact Xq tt [] rfl (by simp_all [Ha])
 try simp only [decide_eq_true_eq,decide_eq_false_iff_not,Vf,Vg] at hb_if3
 refine Qw tt rfl ?_
 refine Qf tt 1 [] (Q6 (r:=((4:Nat):Int)) rfl rfl (rfl) rfl) rfl ?_
 refine Q7 ?_
 refine J7 ?_
 refine Qr tt 1 rfl ?_
 refine Xb tt 1 [] (rfl) rfl rfl ?_
 exact Xq tt [] rfl (by simp_all [Ha])
abbrev zCt:List LV:=[.int .i64 0,.int .i64 0,.int .i64 0,.int .i64 0,.int .i64 0,.nils,.int .i64 0]
theorem Qqw {out:List Ct} {c x:Ct} {k:Nat} (h0:0<k) (hx:out[k-1]? = some x) (h:Yy c x=true):Tg out c k=Tg out c (k-1):=by
 obtain ⟨j,rfl⟩:∃ j,k=j+1:=⟨k-1,by omega⟩
 exact Qtr hx h
theorem Qn8 {out:List Ct} {c x:Ct} {k:Nat} (h0:0<k) (hx:out[k-1]? = some x) (h:Yy c x=false):Tg out c k=k:=by
 obtain ⟨j,rfl⟩:∃ j,k=j+1:=⟨k-1,by omega⟩
 exact Qrs hx h
theorem Qz6 {ls:List (List LV)} (h:∀ c∈ls,c.length=7) {k:Nat} (hk:k<ls.length):∃ a0 a1 a2 a3 a4 a5 a6,ls[k]? = some [a0,a1,a2,a3,a4,a5,a6]:=by
 have h1:=h ls[k] (qJd hk)
 rw [Xv hk]
 match hl:ls[k],h1 with
 | [a0,a1,a2,a3,a4,a5,a6],_=>exact ⟨a0,a1,a2,a3,a4,a5,a6,rfl⟩
theorem Q0y {O:List Ct} {z:List LV} (hz:z.length=7) {a b m e:Nat}:∀ c∈((O.map Fj++[z]).take a++((O.map Fj++[z]).drop b).take m++(O.map Fj++[z]).drop e),c.length=7:=by
 intro c hc
 have h1:c∈O.map Fj++[z]:=by
  rcases Yz.1 hc with hc | hc
  ·rcases Yz.1 hc with hc | hc
   ·exact N6 hc
   ·exact Eg (N6 hc)
  ·exact Eg hc
 rcases Yz.1 h1 with h1 | h1
 ·obtain ⟨x,_,rfl⟩:=Wa.1 h1; rfl
 rw [qZw.1 h1]; exact hz
theorem Qw2 {O:List Ct} {z:List LV} {c:Ct} {i k:Nat} (hO:O.length=i) (hk:k≤i) (hp:Tg O c O.length=k) :
  ((O.map Fj++[z]).take (0+(k+1))++((O.map Fj++[z]).drop (0+k)).take (i-k)++(O.map Fj++[z]).drop (0+(k+1)+(i-k))).set (0+k) (Fj c)=(Do O c).map Fj:=by
 simp only [Vy]
 rw [Qr9 (O.map Fj) z (Fj c) (by rw [Zw]; omega) (by rw [Zw]; omega)]
 simp [Do,hp,qXu,List.map_drop]
set_option maxRecDepth 20000 in
theorem Lz {l:List Ct} (hl:∀ c∈l,Pb c.p) (hn:l.length≤1000000):Q8 Tryz.prog 110 [.one (cts l)] (.one (cts ((Z9 l)))):=by
 refine X2 tt 3 [] Tryz.func110 Tryz.ntmps110 rfl rfl rfl ?_
 refine Qf tt 1 [] (Qj (m:=l.length) qWe rfl (Sw _) rfl) rfl ?_
 refine X5 (fun _ k_=>X9 [3] 166 7 rfl (Zg rfl) rfl (Qo k_)) rfl ?_
 refine Qk [3,7,8,9] rfl rfl ?_
 refine Zj (fun m L B=>∃ i r,i≤l.length∧m=l.length-i∧L=[(3,.one (.orow r 7 0 i)),(7,.one (cts l)),(8,.one (.int .i64 (((l.length:Nat):Int)))),(9,.one (.int .i64 (((i:Nat):Int))))]∧B=[.row r 166 7 ((Z9 (l.take i)).map Fj)]) (m:=_) ⟨0,none,K7 _,rfl,rfl,rfl⟩ ?_
 rintro m L B ⟨i,r,hp0,hm,rfl,rfl⟩
 refine Qw tt rfl ?_
 by_cases hlt:i<l.length
 ·obtain ⟨c,hc⟩:∃ c,l[i]? = some c:=⟨_,Xv hlt⟩
  have hO:(Z9 (l.take i)).length=i:=by rw [Hl,Uk]; omega
  have hcp:=hl c (Y6 hc)
  refine Qr tt 1 rfl ?_
  refine Xf tt 0 [] (decide_eq_true (by omega)) rfl rfl ?_
  refine Qf tt 1 [] (Qi (i) qWe qWw rfl rfl (rfl) (Qg hc) rfl rfl) rfl ?_
  refine Zn (Ql qUc rfl rfl fun g1=>ko ?_)
  refine Xd tt 2 [0] rfl ?_
  refine kw (Qj (m:=i) qWe rfl (rfl) rfl) ?_
  refine syp tt 1 [100002] [] rfl ?_
  refine Cu 1 (fun L B=>∃ k,k≤i∧Tg (Z9 (l.take i)) c (Z9 (l.take i)).length=k∧L=[(3,.one (.orow r 7 0 i)),(5,.one (.ow g1 0)),(7,.one (cts l)),(8,.one (.int .i64 (((l.length:Nat):Int)))),(9,.one (.int .i64 (((i:Nat):Int)))),(6,.one (.int .i64 (((k:Nat):Int))))]∧B=[.blk g1 166 [.int .i64 c.kind,.int .i64 c.i0,.int .i64 c.i1,.int .i64 c.i2,.int .i64 c.i3,pl c.p,.int .i64 c.want],.row r 166 7 ((Z9 (l.take i)).map Fj)]) ?_ rfl ?_
  ·skip
   refine Qw tt rfl ?_
   refine Qk [3,5,7,8,9,6] rfl rfl ?_
   refine Zj (fun m L B=>∃ k,k≤i∧Tg (Z9 (l.take i)) c k=Tg (Z9 (l.take i)) c (Z9 (l.take i)).length∧m=k∧L=[(3,.one (.orow r 7 0 i)),(5,.one (.ow g1 0)),(7,.one (cts l)),(8,.one (.int .i64 (((l.length:Nat):Int)))),(9,.one (.int .i64 (((i:Nat):Int)))),(6,.one (.int .i64 (((k:Nat):Int))))]∧B=[.blk g1 166 [.int .i64 c.kind,.int .i64 c.i0,.int .i64 c.i1,.int .i64 c.i2,.int .i64 c.i3,pl c.p,.int .i64 c.want],.row r 166 7 ((Z9 (l.take i)).map Fj)]) (m:=_) ⟨i,Ji _,by rw [hO],rfl,rfl,rfl⟩ ?_
   rintro m L B ⟨k,hq0,hq1,hm,rfl,rfl⟩
   refine Qw tt rfl ?_
   rcases H9 k with h0 | h0
   ·have hpos:Tg (Z9 (l.take i)) c (Z9 (l.take i)).length=k:=by rw [←hq1,h0]; rfl
    refine Qw tt rfl ?_
    refine Qx 11 Qp rfl rfl rfl ?_
    refine Qr tt 3 rfl ?_
    refine kd (Qh rfl rfl (decide_eq_false (by omega)) rfl) rfl ?_
    refine Qw tt rfl ?_
    refine kd (Qh rfl rfl (decide_eq_false (by omega)) rfl) rfl ?_
    refine Qw tt rfl ?_
    refine kd (Qh rfl rfl (decide_eq_false (by omega)) rfl) rfl ?_
    refine Qw tt rfl ?_
    refine kd (Qh rfl rfl (decide_eq_false (by omega)) rfl) rfl ?_
    refine Qw tt rfl ?_
    refine kd (Qh rfl rfl (decide_eq_false (by omega)) rfl) rfl ?_
    refine Qw tt rfl ?_
    refine kd (Qh rfl rfl (decide_eq_false (by omega)) rfl) rfl ?_
    refine Qw tt rfl ?_
    refine kd (Qh rfl rfl (decide_eq_false (by omega)) rfl) rfl ?_
    refine Qw tt rfl ?_
    refine kd (Qh rfl rfl (decide_eq_false (by omega)) rfl) rfl ?_
    refine Qw tt rfl ?_
    refine Qf tt 0 [] (Qh rfl rfl (decide_eq_false (by omega)) rfl) rfl ?_
    refine Qf tt 0 [] (Zu rfl (decide_eq_false (by omega)) rfl rfl) rfl ?_
    refine Xb tt 0 [] (rfl) rfl rfl ?_
    refine Qk [3,5,7,8,9,6] rfl rfl ?_
    refine Q7 ?_
    exact ⟨k,hq0,hpos,rfl,rfl⟩
   obtain ⟨x,hx⟩:∃ x,(Z9 (l.take i))[k-1]? = some x:=⟨_,Xv (by omega)⟩
   cases hls:Yy c x
   refine Qw tt rfl ?_
   ·have hpos:Tg (Z9 (l.take i)) c (Z9 (l.take i)).length=k:=by rw [←hq1,Qn8 h0 hx hls]
    refine Qw tt rfl ?_
    refine Qx 11 Qp rfl rfl rfl ?_
    refine Qr tt 3 rfl ?_
    refine kd ((Qd rfl rfl (decide_eq_true (by omega)) (Qv tt rfl rfl))) rfl ?_
    refine Qw tt rfl ?_
    refine kd ((Qd rfl rfl (decide_eq_true (by omega)) (F0 tt 0 rfl rfl))) rfl ?_
    refine Qw tt rfl ?_
    refine kd ((Qd rfl rfl (decide_eq_true (by omega)) (Qv tt rfl rfl))) rfl ?_
    refine Qw tt rfl ?_
    refine kd ((Qd rfl rfl (decide_eq_true (by omega)) (Qv tt rfl rfl))) rfl ?_
    refine Qw tt rfl ?_
    refine kd ((Qd rfl rfl (decide_eq_true (by omega)) (Xs (r:=((k-1:Nat):Int)) rfl rfl (Qm (by omega) (by omega)) rfl))) rfl ?_
    refine Qw tt rfl ?_
    refine kd ((Qd rfl rfl (decide_eq_true (by omega)) (Zr (k-1) qWe qWw rfl rfl (rfl) (by omega) rfl))) rfl ?_
    refine Qw tt rfl ?_
    refine kd ((Qd rfl rfl (decide_eq_true (by omega)) (Qv tt rfl rfl))) rfl ?_
    refine Qw tt rfl ?_
    refine kd ((Qd rfl rfl (decide_eq_true (by omega)) (Yo 1 qFy qFv rfl rfl (by rw [Vy]; exact Qg hx) rfl rfl rfl))) rfl ?_
    refine Qw tt rfl ?_
    refine Qf tt 0 [] ((Qd rfl rfl (decide_eq_true (by omega)) (Zs Tryz.func188 rfl rfl rfl rfl (L7) rfl))) rfl ?_
    refine Qf tt 0 [] (Zp rfl (decide_eq_true (by omega)) rfl rfl) rfl ?_
    refine Xb tt 0 [] (hls) rfl rfl ?_
    refine Qk [3,5,7,8,9,6] rfl rfl ?_
    refine Q7 ?_
    exact ⟨k,hq0,hpos,rfl,rfl⟩
   skip
   refine Qw tt rfl ?_
   refine Qx 11 Qp rfl rfl rfl ?_
   refine Qr tt 3 rfl ?_
   refine kd ((Qd rfl rfl (decide_eq_true (by omega)) (Qv tt rfl rfl))) rfl ?_
   refine Qw tt rfl ?_
   refine kd ((Qd rfl rfl (decide_eq_true (by omega)) (F0 tt 0 rfl rfl))) rfl ?_
   refine Qw tt rfl ?_
   refine kd ((Qd rfl rfl (decide_eq_true (by omega)) (Qv tt rfl rfl))) rfl ?_
   refine Qw tt rfl ?_
   refine kd ((Qd rfl rfl (decide_eq_true (by omega)) (Qv tt rfl rfl))) rfl ?_
   refine Qw tt rfl ?_
   refine kd ((Qd rfl rfl (decide_eq_true (by omega)) (Xs (r:=((k-1:Nat):Int)) rfl rfl (Qm (by omega) (by omega)) rfl))) rfl ?_
   refine Qw tt rfl ?_
   refine kd ((Qd rfl rfl (decide_eq_true (by omega)) (Zr (k-1) qWe qWw rfl rfl (rfl) (by omega) rfl))) rfl ?_
   refine Qw tt rfl ?_
   refine kd ((Qd rfl rfl (decide_eq_true (by omega)) (Qv tt rfl rfl))) rfl ?_
   refine Qw tt rfl ?_
   refine kd ((Qd rfl rfl (decide_eq_true (by omega)) (Yo 1 qFy qFv rfl rfl (by rw [Vy]; exact Qg hx) rfl rfl rfl))) rfl ?_
   refine Qw tt rfl ?_
   refine Qf tt 0 [] ((Qd rfl rfl (decide_eq_true (by omega)) (Zs Tryz.func188 rfl rfl rfl rfl (L7) rfl))) rfl ?_
   refine Qf tt 0 [] (Zp rfl (decide_eq_true (by omega)) rfl rfl) rfl ?_
   refine Xf tt 1 [] (hls) rfl rfl ?_
   refine Qf tt 1 [] (Xs (r:=((k-1:Nat):Int)) rfl rfl (Qm (by omega) (by omega)) rfl) rfl ?_
   refine Qk [3,5,7,8,9,6] rfl rfl ?_
   refine Q7 ?_
   refine ⟨_,?_,k-1,by omega,by rw [←hq1,Qqw h0 hx hls],rfl,rfl,rfl⟩
   omega
  rintro L B ⟨k,hp0,hp1,rfl,rfl⟩
  refine Qw tt rfl ?_
  skip
  skip
  refine Qr tt 3 rfl ?_
  refine Zn (Zo (ls2:=((Z9 (l.take i)).map Fj++[zCt])) (m2:=i+1) 1 qWe qWe Tryz.typeInfo166 rfl rfl qWw qUc rfl rfl rfl rfl rfl rfl rfl (by rw [Zw]; omega) (Yh rfl) (Ya rfl) (by show _+1<_; omega) (by rw [Vh (by rw [Zw]; omega)]) (rfl) fun r2=>ko ?_)
  refine Qr tt 1 rfl ?_
  refine Qx 7 Qp rfl rfl rfl ?_
  refine Qr tt 2 rfl ?_
  refine kd (Q6 (r:=((k+1:Nat):Int)) rfl rfl (Qm (by omega) (by omega)) rfl) rfl ?_
  refine kd (F9 (k+1) qWe qWw rfl rfl (rfl) (by omega) rfl) rfl ?_
  refine Qr tt 2 rfl ?_
  refine kd (F9 (k) qWe qWw rfl rfl (rfl) (by omega) rfl) rfl ?_
  refine Qw tt rfl ?_
  refine Qw tt rfl ?_
  refine Zn (Qss (m':=i-k) (ls2:=(((Z9 (l.take i)).map Fj++[zCt]).take (0+(k+1))++(((Z9 (l.take i)).map Fj++[zCt]).drop (0+k)).take (i-k)++((Z9 (l.take i)).map Fj++[zCt]).drop (0+(k+1)+(i-k)))) 0 qWe qWw rfl rfl rfl rfl (by simp; omega) (by simp; omega) (by simp) (by show min _ _=_; omega) (rfl) rfl (ko ?_))
  refine Qw tt rfl ?_
  refine Qx 10 Qp rfl rfl rfl ?_
  refine Xd tt 6 [1,1] rfl ?_
  refine Ye tt 3 [1] qWp rfl rfl rfl (Jz hcp.t (B9 hcp.l (by decide)) (Qz hcp.b (by omega))) rfl rfl ?_
  refine Qw tt rfl ?_
  refine kw (Zr (k) qWe qWw rfl rfl (rfl) (by omega) rfl) ?_
  obtain ⟨z0,z1,z2,z3,z4,z5,z6,hz⟩:=Qz6 (k:=0+k) (Q0y (O:=(Z9 (l.take i))) (z:=zCt) (a:=0+(k+1)) (b:=0+k) (m:=i-k) (e:=0+(k+1)+(i-k)) rfl) (by simp; omega)
  refine Zn (Ju (ls2:=((Do (Z9 (l.take i)) c).map Fj)) 0 qWw rfl rfl rfl rfl rfl rfl (hz) rfl (Qw2 hO hp0 hp1) (ko ?_))
  refine Qw tt rfl ?_
  refine Qf tt 1 [] (Q6 (r:=((i+1:Nat):Int)) rfl rfl (Qm (by omega) (by omega)) rfl) rfl ?_
  refine X5 (fun _ k_=>Jx 0 rfl (by rw [←Qjv hc]) (Qo k_)) rfl ?_
  refine Qk [3,7,8,9] rfl rfl ?_
  refine Y2 1 rfl rfl ?_
  refine Q7 ?_
  refine ⟨_,?_,i+1,r2,by omega,rfl,rfl,rfl⟩
  omega
 have hO:(Z9 (l.take i)).length=i:=by rw [Hl,Uk]; omega
 have hi:l.take i=l:=Vh (by omega)
 refine Qr tt 1 rfl ?_
 refine Xb tt 2 [] (decide_eq_false (by omega)) rfl rfl ?_
 refine X5 (fun _ k_=>Xm 0 [2] rfl (Zg rfl) (by rw [Zw,hO]) (by rw [Zw,hO]; omega) rfl (Qo k_)) rfl ?_
 exact Xq tt [] rfl (by rw [hi]; rfl)
end Orr

namespace Orr
open Go Go.Proofs
theorem Qea {q:Rat} (hq:Qs 1073741823 q):Q8 Tryz.prog 271 [.one (.row [[pl ([-q.num,(q.den:Int)]),sg q.num,mg q.num,sg ((q.den:Int)),mg ((q.den:Int)),sg q.num,mg q.num,sg ((q.den:Int)),mg ((q.den:Int))]])] (.tup [.agg [pl ([-q.num,(q.den:Int)]),sg q.num,mg q.num,sg ((q.den:Int)),mg ((q.den:Int)),sg q.num,mg q.num,sg ((q.den:Int)),mg ((q.den:Int))],.one (.bool true)]):=by
 refine X2 tt 0 [] Tryz.func271 Tryz.ntmps271 rfl rfl rfl ?_
 refine Zn (Ql qFc rfl rfl fun g1=>ko ?_)
 refine Qr tt 2 rfl ?_
 refine Qf tt 1 [] (Qj (m:=1) qGe rfl (rfl) rfl) rfl ?_
 refine Xb tt 1 [] (rfl) rfl rfl ?_
 refine Qf tt 1 [] (Qi (0) qGe qFa rfl rfl rfl rfl rfl rfl) rfl ?_
 refine Zn (Ql qFc rfl rfl fun g2=>ko ?_)
 refine Xd tt 2 [0] rfl ?_
 refine Qf tt 0 [] (Dz 1 qGe qFa rfl rfl rfl (Ji 1) (Yh rfl) (l':=[]) rfl rfl) rfl ?_
 refine Qf tt 1 [] (Qj (m:=0) qGe rfl (rfl) rfl) rfl ?_
 refine H1 1 ?_
 refine J7 ?_
 refine Qr tt 1 rfl ?_
 refine Xb tt 1 [0] (rfl) rfl rfl ?_
 refine kl tt 2 [1] Tryz.func315 rfl rfl rfl (Qe4 (hq.mono (by omega))) rfl rfl ?_
 exact kr2 tt [1] rfl (rfl)
abbrev ofW (c:Ct):List LV:=[.int .i64 c.kind,.int .i64 c.i0,.int .i64 c.i1,.int .i64 c.i2,.int .i64 c.i3,pl c.p,.int .i64 c.want,.bool false,.bool false,.row [],.bool false,.row [],.bool false,.row [],.bool false,.row [],.bool false,.row []]
def Ms (l:List Ct):LV:=.row (l.map ofW)
theorem Qih (l:List Ct):We (Ms l)=some l.length:=by simp [We,Ms]
set_option maxRecDepth 20000 in
theorem Qju {g T:Nat} {ys:List LV} {ev:Int} {n0 n1 n2 n3 n4 n5 n6 n7 n8:LV} {b:Bool} {ws:List Ct} {x:Ct} {q:Rat} (hn:ws.length≤1000000):Wt Tryz.prog 270 [.one (.ow g 0),.agg [.int .i64 x.kind,.int .i64 x.i0,.int .i64 x.i1,.int .i64 x.i2,.int .i64 x.i3,pl x.p,.int .i64 x.want],.agg [pl ([-q.num,(q.den:Int)]),sg q.num,mg q.num,sg ((q.den:Int)),mg ((q.den:Int)),sg q.num,mg q.num,sg ((q.den:Int)),mg ((q.den:Int))]] [.blk g T ((.bool b)::n0::n1::n2::n3::n4::n5::n6::n7::n8::(Ms ws)::(.int .i64 ev)::ys)] fun r B=>r=.agg [.int .i64 x.kind,.int .i64 x.i0,.int .i64 x.i1,.int .i64 x.i2,.int .i64 x.i3,pl x.p,.int .i64 x.want,.bool false,.bool false,.row ([]),.bool false,.row ([]),.bool false,.row ([]),.bool false,.row ([]),.bool false,.row ([])]∧B=[.blk g T ((.bool b)::n0::n1::n2::n3::n4::n5::n6::n7::n8::(Ms ws)::(.int .i64 ev)::ys)]:=by
 refine X2 tt 2 [] Tryz.func270 Tryz.ntmps270 rfl rfl rfl ?_
 refine Zn (Ql qUr rfl rfl fun g1=>ko ?_)
 refine Xd tt 4 [1] rfl ?_
 refine Qf tt 1 [] (Qj (m:=ws.length) qUb rfl (Qih _) rfl) rfl ?_
 refine Qk [4,5,6,12,13,14] rfl rfl ?_
 refine Zj (fun m L B=>∃ i,i≤ws.length∧m=ws.length-i∧L=[(4,.one (.sh [.int .i64 x.kind,.int .i64 x.i0,.int .i64 x.i1,.int .i64 x.i2,.int .i64 x.i3,pl x.p,.int .i64 x.want])),(5,.one (.sh [pl ([-q.num,(q.den:Int)]),sg q.num,mg q.num,sg ((q.den:Int)),mg ((q.den:Int)),sg q.num,mg q.num,sg ((q.den:Int)),mg ((q.den:Int))])),(6,.one (.ow g1 0)),(12,.one (Ms ws)),(13,.one (.int .i64 (((ws.length:Nat):Int)))),(14,.one (.int .i64 (((i:Nat):Int))))]∧B=[.blk g1 196 [.int .i64 0,.int .i64 0,.int .i64 0,.int .i64 0,.int .i64 0,.nils,.int .i64 0,.bool false,.bool false,.nils,.bool false,.nils,.bool false,.nils,.bool false,.nils,.bool false,.nils],.blk g T ((.bool b)::n0::n1::n2::n3::n4::n5::n6::n7::n8::(Ms ws)::(.int .i64 ev)::ys)]) (m:=_) ⟨0,K7 _,rfl,rfl,rfl⟩ ?_
 rintro m L B ⟨i,hp0,hm,rfl,rfl⟩
 refine Qw tt rfl ?_
 by_cases hlt:i<ws.length
 ·obtain ⟨w,hw⟩:∃ w,ws[i]? = some w:=⟨_,Xv hlt⟩
  by_cases ht:([w.kind,w.i0,w.i1,w.i2,w.i3]:List Int)=[x.kind,x.i0,x.i1,x.i2,x.i3]
  refine Qw tt rfl ?_
  ·skip
   refine Qr tt 1 rfl ?_
   refine Xf tt 0 [] (decide_eq_true (by omega)) rfl rfl ?_
   refine Qf tt 1 [] (Qi (i) qUb qFl rfl rfl (rfl) (Qg hw) rfl rfl) rfl ?_
   refine Zn (Ql qUr rfl rfl fun g2=>ko ?_)
   refine Xd tt 6 [0,0] rfl ?_
   refine Qf tt 1 [] (Qvm (r:=(!decide (([w.kind,w.i0,w.i1,w.i2,w.i3]:List Int)=[x.kind,x.i0,x.i1,x.i2,x.i3]))) [w.kind,w.i0,w.i1,w.i2,w.i3] [x.kind,x.i0,x.i1,x.i2,x.i3] Tryz.eqGuardType44 (Qq8 _ _ rfl rfl) rfl rfl rfl rfl (rfl) rfl) rfl ?_
   refine Qf tt 0 [] ((Qd rfl rfl (by rw [decide_eq_true ht] <;> rfl) (Qv tt rfl rfl))) rfl ?_
   refine Qf tt 0 [] ((Qd rfl rfl (by rw [decide_eq_true ht] <;> rfl) (F0 tt 0 rfl rfl))) rfl ?_
   refine Qf tt 0 [] ((Qd rfl rfl (by rw [decide_eq_true ht] <;> rfl) (Qv tt rfl rfl))) rfl ?_
   refine Qf tt 1 [] (Zu rfl (by rw [decide_eq_true ht] <;> rfl) rfl rfl) rfl ?_
   refine Qf tt 0 [] (Qh rfl rfl (rfl) rfl) rfl ?_
   refine Qf tt 0 [] (Qh rfl rfl (rfl) rfl) rfl ?_
   refine Qf tt 0 [] (Qh rfl rfl (rfl) rfl) rfl ?_
   refine Qf tt 0 [] (Qh rfl rfl (rfl) rfl) rfl ?_
   refine Qf tt 0 [] (Qh rfl rfl (rfl) rfl) rfl ?_
   refine Qf tt 0 [] (Qh rfl rfl (rfl) rfl) rfl ?_
   refine Qf tt 0 [] (Qh rfl rfl (rfl) rfl) rfl ?_
   refine Qf tt 0 [] (Zp rfl (rfl) rfl rfl) rfl ?_
   refine Xf tt 0 [] (rfl) rfl rfl ?_
   refine Qf tt 1 [] (Q6 (r:=((i+1:Nat):Int)) rfl rfl (Qm (by omega) (by omega)) rfl) rfl ?_
   refine Qk [4,5,6,12,13,14] rfl rfl ?_
   refine Y2 0 rfl rfl ?_
   refine Q7 ?_
   refine ⟨_,?_,i+1,by omega,rfl,rfl,rfl⟩
   omega
  skip
  refine Qr tt 1 rfl ?_
  refine Xf tt 0 [] (decide_eq_true (by omega)) rfl rfl ?_
  refine Qf tt 1 [] (Qi (i) qUb qFl rfl rfl (rfl) (Qg hw) rfl rfl) rfl ?_
  refine Zn (Ql qUr rfl rfl fun g3=>ko ?_)
  refine Xd tt 6 [0,0] rfl ?_
  refine Qf tt 1 [] (Qvm (r:=(!decide (([w.kind,w.i0,w.i1,w.i2,w.i3]:List Int)=[x.kind,x.i0,x.i1,x.i2,x.i3]))) [w.kind,w.i0,w.i1,w.i2,w.i3] [x.kind,x.i0,x.i1,x.i2,x.i3] Tryz.eqGuardType44 (Qq8 _ _ rfl rfl) rfl rfl rfl rfl (rfl) rfl) rfl ?_
  refine Qf tt 0 [] (Qh rfl rfl (by rw [decide_eq_false ht] <;> rfl) rfl) rfl ?_
  refine Qf tt 0 [] (Qh rfl rfl (by rw [decide_eq_false ht] <;> rfl) rfl) rfl ?_
  refine Qf tt 0 [] (Qh rfl rfl (by rw [decide_eq_false ht] <;> rfl) rfl) rfl ?_
  refine Qf tt 1 [] (Zp rfl (by rw [decide_eq_false ht] <;> rfl) rfl rfl) rfl ?_
  refine Qf tt 0 [] (Qh rfl rfl (rfl) rfl) rfl ?_
  refine Qf tt 0 [] (Qh rfl rfl (rfl) rfl) rfl ?_
  refine Qf tt 0 [] (Qh rfl rfl (rfl) rfl) rfl ?_
  refine Qf tt 0 [] (Qh rfl rfl (rfl) rfl) rfl ?_
  refine Qf tt 0 [] (Qh rfl rfl (rfl) rfl) rfl ?_
  refine Qf tt 0 [] (Qh rfl rfl (rfl) rfl) rfl ?_
  refine Qf tt 0 [] (Qh rfl rfl (rfl) rfl) rfl ?_
  refine Qf tt 0 [] (Zp rfl (rfl) rfl rfl) rfl ?_
  refine Xf tt 0 [] (rfl) rfl rfl ?_
  refine Qf tt 1 [] (Q6 (r:=((i+1:Nat):Int)) rfl rfl (Qm (by omega) (by omega)) rfl) rfl ?_
  refine Qk [4,5,6,12,13,14] rfl rfl ?_
  refine Y2 0 rfl rfl ?_
  refine Q7 ?_
  refine ⟨_,?_,i+1,by omega,rfl,rfl,rfl⟩
  omega
 skip
 refine Qr tt 1 rfl ?_
 refine Xb tt 3 [0] (decide_eq_false (by omega)) rfl rfl ?_
 refine Re ?_
 exact ⟨_,[0],_,Qb0 Tryz.results270 (Qli 0 Tryz.isAgg196 qFl rfl rfl rfl rfl rfl),rfl,⟨rfl,rfl⟩⟩
set_option maxRecDepth 20000 in
theorem Qow {g T:Nat} {ys:List LV} {ev:Int} {n0 n1 n2 n3 n4 n5 n6 n7 n8:LV} {b later:Bool} {ws l:List Ct} {q:Rat} (hn:ws.length≤1000000) (hl:∀ c∈l,Pb c.p) (hm:l.length≤1000000) (hq:Qs 1073741823 q):Wt Tryz.prog 195 [.one (.ow g 0),.agg [pl ([-q.num,(q.den:Int)]),sg q.num,mg q.num,sg ((q.den:Int)),mg ((q.den:Int)),sg q.num,mg q.num,sg ((q.den:Int)),mg ((q.den:Int))],.one (.bool later),.one (cts l)] [.blk g T ((.bool b)::n0::n1::n2::n3::n4::n5::n6::n7::n8::(Ms ws)::(.int .i64 ev)::ys)] fun r B=>r=.tup []∧B=[.blk g T ((.bool true)::(pl ([-q.num,(q.den:Int)]))::(sg q.num)::(mg q.num)::(sg ((q.den:Int)))::(mg ((q.den:Int)))::(sg q.num)::(mg q.num)::(sg ((q.den:Int)))::(mg ((q.den:Int)))::(Ms ((Z9 l)))::(.int .i64 ev)::ys)]:=by
 refine X2 tt 3 [] Tryz.func195 Tryz.ntmps195 rfl rfl rfl ?_
 refine kl tt 0 [] Tryz.func110 rfl rfl rfl (Lz (hl) (hm)) rfl rfl ?_
 refine Qf tt 1 [] (Qj (m:=((Z9 l)).length) qWe rfl (Sw _) rfl) rfl ?_
 refine X5 (fun _ k_=>X9 [8] 196 18 rfl (Zg rfl) rfl (Qo k_)) rfl ?_
 refine Qk [0,2,5,8,13,14,15] rfl rfl ?_
 refine Zj (fun m L B=>∃ i r,i≤(Z9 l).length∧m=(Z9 l).length-i∧L=[(0,.one (.ow g 0)),(2,.one (.bool later)),(5,.one (.sh [pl ([-q.num,(q.den:Int)]),sg q.num,mg q.num,sg ((q.den:Int)),mg ((q.den:Int)),sg q.num,mg q.num,sg ((q.den:Int)),mg ((q.den:Int))])),(8,.one (.orow r 18 0 i)),(13,.one (cts ((Z9 l)))),(14,.one (.int .i64 (((((Z9 l)).length:Nat):Int)))),(15,.one (.int .i64 (((i:Nat):Int))))]∧B=[.row r 196 18 (((Z9 l).take i).map ofW),.blk g T ((.bool b)::n0::n1::n2::n3::n4::n5::n6::n7::n8::(Ms ws)::(.int .i64 ev)::ys)]) (m:=_) ⟨0,none,K7 _,rfl,rfl,rfl⟩ ?_
 rintro m L B ⟨i,r,hp0,hm,rfl,rfl⟩
 refine Qw tt rfl ?_
 by_cases hlt:i<(Z9 l).length
 ·obtain ⟨c,hc⟩:∃ c,(Z9 l)[i]? = some c:=⟨_,Xv hlt⟩
  have hsl:=Hl l
  refine Qr tt 1 rfl ?_
  refine Xf tt 0 [] (decide_eq_true (by omega)) rfl rfl ?_
  refine Qf tt 1 [] (Qi (i) qWe qWw rfl rfl (rfl) (Qg hc) rfl rfl) rfl ?_
  refine Zn (Ql qUc rfl rfl fun g1=>ko ?_)
  refine Xd tt 3 [0,0] rfl ?_
  refine Zn (Ql qUr rfl rfl fun g2=>ko ?_)
  refine Xd tt 2 [0] rfl ?_
  refine kif rfl (fun hb_if2=>?_) (fun hb_if2=>?_)
  ·try simp only [decide_eq_true_eq,decide_eq_false_iff_not,Vf,Vg] at hb_if2
   refine Xd tt 3 [1] rfl ?_
   refine Zx 3 rfl rfl ?_
   refine Zn (Vs (Bin:=[.blk g T ((.bool b)::n0::n1::n2::n3::n4::n5::n6::n7::n8::(Ms ws)::(.int .i64 ev)::ys)]) Tryz.func270 rfl rfl rfl rfl (Qju (by omega)) rfl fun r_ B_ hr_=>ko ?_)
   obtain ⟨rfl,rfl⟩:=hr_
   refine Xd tt 2 [1] rfl ?_
   refine X5 (fun _ k_=>Jp (ys:=[.int .i64 c.kind,.int .i64 c.i0,.int .i64 c.i1,.int .i64 c.i2,.int .i64 c.i3,pl c.p,.int .i64 c.want,.bool false,.bool false,.row ([]),.bool false,.row ([]),.bool false,.row ([]),.bool false,.row ([]),.bool false,.row ([])]) 1 rfl rfl rfl (Qo k_)) rfl ?_
   refine Xd tt 2 [0] rfl ?_
   refine Zn (Zo (ls2:=(((Z9 l).take (i+1)).map ofW)) (m2:=i+1) 3 qUb qUb Tryz.typeInfo196 rfl rfl qFl qUr rfl rfl rfl rfl rfl rfl rfl (by rw [Zw,Uk]; omega) (Yh rfl) (Ya rfl) (by show _+1<_; omega) (by rw [Vh (by rw [Zw,Uk]; omega),qJa,hc,G2]; rfl) (rfl) fun r3=>ko ?_)
   refine Qr tt 1 rfl ?_
   refine Qf tt 1 [] (Q6 (r:=((i+1:Nat):Int)) rfl rfl (Qm (by omega) (by omega)) rfl) rfl ?_
   refine Qk [0,2,5,8,13,14,15] rfl rfl ?_
   refine Y2 1 rfl rfl ?_
   refine Y2 2 rfl rfl ?_
   refine Q7 ?_
   refine ⟨_,?_,i+1,r3,by omega,rfl,rfl,rfl⟩
   omega
  try simp only [decide_eq_true_eq,decide_eq_false_iff_not,Vf,Vg] at hb_if2
  refine Qr tt 1 rfl ?_
  refine X5 (fun _ k_=>Jp (ys:=[.int .i64 c.kind,.int .i64 c.i0,.int .i64 c.i1,.int .i64 c.i2,.int .i64 c.i3,pl c.p,.int .i64 c.want,.bool false,.bool false,.row ([]),.bool false,.row ([]),.bool false,.row ([]),.bool false,.row ([]),.bool false,.row ([])]) 0 rfl rfl rfl (Qo k_)) rfl ?_
  refine Xd tt 2 [0] rfl ?_
  refine Zn (Zo (ls2:=(((Z9 l).take (i+1)).map ofW)) (m2:=i+1) 2 qUb qUb Tryz.typeInfo196 rfl rfl qFl qUr rfl rfl rfl rfl rfl rfl rfl (by rw [Zw,Uk]; omega) (Yh rfl) (Ya rfl) (by show _+1<_; omega) (by rw [Vh (by rw [Zw,Uk]; omega),qJa,hc,G2]; rfl) (rfl) fun r4=>ko ?_)
  refine Qr tt 1 rfl ?_
  refine Qf tt 1 [] (Q6 (r:=((i+1:Nat):Int)) rfl rfl (Qm (by omega) (by omega)) rfl) rfl ?_
  refine Qk [0,2,5,8,13,14,15] rfl rfl ?_
  refine Y2 1 rfl rfl ?_
  refine Y2 1 rfl rfl ?_
  refine Q7 ?_
  refine ⟨_,?_,i+1,r4,by omega,rfl,rfl,rfl⟩
  omega
 have hsl:=Hl l
 have hi:(Z9 l).take i=Z9 l:=Vh (by omega)
 refine X5 (fun _ k_=>Xm (L2:=_) 0 [8] rfl (Zg rfl) (by rw [Zw,hi]; omega) (by rw [Zw,hi]; omega) rfl (Qo k_)) rfl ?_
 refine X5 (fun _ k_=>Jf 8 (y:=.one (Ms (Z9 l))) rfl (by rw [hi]; rfl) (Qo k_)) rfl ?_
 refine Qr tt 1 rfl ?_
 refine Xb tt 3 [] (decide_eq_false (by omega)) rfl rfl ?_
 refine kl tt 15 [0,0,0] Tryz.func271 rfl rfl rfl (Qea (hq)) rfl rfl ?_
 refine L9 ?_
 exact ⟨_,[],_,Cw Tryz.results195 ,rfl,⟨rfl,rfl⟩⟩
set_option maxRecDepth 20000 in
theorem Qd2 {g T:Nat} {ys:List LV} {ev:Int} {n0 n1 n2 n3 n4 n5 n6 n7 n8:LV} {ws l:List Ct} {q:Rat} (hn:ws.length≤1000000) (hl:∀ c∈l,Pb c.p) (hm:l.length≤1000000) (hq:Qs 1073741823 q):Wt Tryz.prog 116 [.one (.ow g 0),.agg [pl ([-q.num,(q.den:Int)]),sg q.num,mg q.num,sg ((q.den:Int)),mg ((q.den:Int)),sg q.num,mg q.num,sg ((q.den:Int)),mg ((q.den:Int))],.one (cts l)] [.blk g T ((.bool false)::n0::n1::n2::n3::n4::n5::n6::n7::n8::(Ms ws)::(.int .i64 ev)::ys)] fun r B=>r=.tup []∧B=[.blk g T ((.bool true)::(pl ([-q.num,(q.den:Int)]))::(sg q.num)::(mg q.num)::(sg ((q.den:Int)))::(mg ((q.den:Int)))::(sg q.num)::(mg q.num)::(sg ((q.den:Int)))::(mg ((q.den:Int)))::(Ms ((Z9 l)))::(.int .i64 ev)::ys)]:=by
 refine X2 tt 1 [] Tryz.func116 Tryz.ntmps116 rfl rfl rfl ?_
 refine Qx 16 Qp rfl rfl rfl ?_
 refine Xd tt 7 [0] rfl ?_
 refine kd (Qh rfl rfl (rfl) rfl) rfl ?_
 refine Qw tt rfl ?_
 refine kd (Qh rfl rfl (rfl) rfl) rfl ?_
 refine Qw tt rfl ?_
 refine kd (Qh rfl rfl (rfl) rfl) rfl ?_
 refine Qw tt rfl ?_
 refine kd (Qh rfl rfl (rfl) rfl) rfl ?_
 refine Qw tt rfl ?_
 refine kd (Qh rfl rfl (rfl) rfl) rfl ?_
 refine Qw tt rfl ?_
 refine kd (Qh rfl rfl (rfl) rfl) rfl ?_
 refine Qw tt rfl ?_
 refine kd (Qh rfl rfl (rfl) rfl) rfl ?_
 refine Qw tt rfl ?_
 refine kd (Zu rfl (rfl) rfl rfl) rfl ?_
 refine Qr tt 1 rfl ?_
 refine Qw tt rfl ?_
 refine Zn (Vs (Bin:=[.blk g T ((.bool false)::n0::n1::n2::n3::n4::n5::n6::n7::n8::(Ms ws)::(.int .i64 ev)::ys)]) Tryz.func195 rfl rfl rfl rfl (Qow hn hl hm hq) rfl fun r_ B_ hr_=>ko ?_)
 obtain ⟨rfl,rfl⟩:=hr_
 refine Qw tt rfl ?_
 refine L9 ?_
 exact ⟨_,[],_,Cw Tryz.results116 ,rfl,⟨rfl,rfl⟩⟩
set_option maxRecDepth 20000 in
theorem Ea {g T:Nat} {ys:List LV} {ev:Int} {n0 n1 n2 n3 n4 n5 n6 n7 n8:LV} {b:Bool} {ws:List Ct} (hn:ws.length≤1000000) (hl:∀ c∈ws,Pb c.p):Wt Tryz.prog 40 [.one (.ow g 0)] [.blk g T ((.bool b)::n0::n1::n2::n3::n4::n5::n6::n7::n8::(Ms ws)::(.int .i64 ev)::ys)] fun r B=>r=.one (cts ((Z9 ws)))∧B=[.blk g T ((.bool b)::n0::n1::n2::n3::n4::n5::n6::n7::n8::(Ms ws)::(.int .i64 ev)::ys)]:=by
 refine X2 tt 6 [0] Tryz.func40 Tryz.ntmps40 rfl rfl rfl ?_
 refine Qf tt 1 [] (Qj (m:=ws.length) qUb rfl (Qih _) rfl) rfl ?_
 refine X5 (fun _ k_=>X9 [3] 166 7 rfl (Zg rfl) rfl (Qo k_)) rfl ?_
 refine Qk [3,9,10,11] rfl rfl ?_
 refine Zj (fun m L B=>∃ i r,i≤ws.length∧m=ws.length-i∧L=[(3,.one (.orow r 7 0 i)),(9,.one (Ms ws)),(10,.one (.int .i64 (((ws.length:Nat):Int)))),(11,.one (.int .i64 (((i:Nat):Int))))]∧B=[.row r 166 7 ((ws.take i).map Fj),.blk g T ((.bool b)::n0::n1::n2::n3::n4::n5::n6::n7::n8::(Ms ws)::(.int .i64 ev)::ys)]) (m:=_) ⟨0,none,K7 _,rfl,rfl,rfl⟩ ?_
 rintro m L B ⟨i,r,hp0,hm,rfl,rfl⟩
 refine Qw tt rfl ?_
 by_cases hlt:i<ws.length
 ·obtain ⟨c,hc⟩:∃ c,ws[i]? = some c:=⟨_,Xv hlt⟩
  refine Qr tt 1 rfl ?_
  refine Xf tt 0 [] (decide_eq_true (by omega)) rfl rfl ?_
  refine Qf tt 1 [] (Qi (i) qUb qFl rfl rfl (rfl) (Qg hc) rfl rfl) rfl ?_
  refine Zn (Ql qUr rfl rfl fun g1=>ko ?_)
  refine Xd tt 5 [0,0] rfl ?_
  refine Zn (Zo (ls2:=((ws.take (i+1)).map Fj)) (m2:=i+1) 1 qWe qWe Tryz.typeInfo166 rfl rfl qWw qUc rfl rfl rfl rfl rfl rfl rfl (by rw [Zw,Uk]; omega) (Yh rfl) (Ya rfl) (by show _+1<_; omega) (by rw [Vh (by rw [Zw,Uk]; omega),qJa,hc,G2]; rfl) (rfl) fun r2=>ko ?_)
  refine Qr tt 1 rfl ?_
  refine Qf tt 1 [] (Q6 (r:=((i+1:Nat):Int)) rfl rfl (Qm (by omega) (by omega)) rfl) rfl ?_
  refine Qk [3,9,10,11] rfl rfl ?_
  refine Y2 1 rfl rfl ?_
  refine Q7 ?_
  refine ⟨_,?_,i+1,r2,by omega,rfl,rfl,rfl⟩
  omega
 have hi:ws.take i=ws:=Vh (by omega)
 refine X5 (fun _ k_=>Xm (L2:=_) 0 [3] rfl (Zg rfl) (by rw [Zw,hi]; omega) (by rw [Zw,hi]; omega) rfl (Qo k_)) rfl ?_
 refine X5 (fun _ k_=>Jf 3 (y:=.one (cts ws)) rfl (by rw [hi]; rfl) (Qo k_)) rfl ?_
 refine Qr tt 1 rfl ?_
 refine Xb tt 1 [] (decide_eq_false (by omega)) rfl rfl ?_
 refine kl tt 1 [] Tryz.func110 rfl rfl rfl (Lz (hl) (hn)) rfl rfl ?_
 refine Re ?_
 exact ⟨_,[],_,Qb0 Tryz.results40 (V6 rfl rfl),rfl,⟨rfl,rfl⟩⟩
end Orr

namespace Orr
def V0 (l:List Pt):Prop:=l.Pairwise fun a b=>a.id<b.id
theorem Qtq (id:Int):has [] id=false:=rfl
theorem Qh8 (p:Pt) (l:List Pt) (id:Int):has (p::l) id=if p.id<id then has l id else decide (p.id=id):=by
  by_cases h:p.id<id
  · rw [if_pos h]; unfold has; simp only [pos]; rw [if_pos h]; simp
  · rw [if_neg h]; unfold has; simp only [pos]; rw [if_neg h]; simp
theorem Qqb (p:Pt) (l:List Pt) (q:Pt):put (p::l) q=if p.id<q.id then p::put l q else q::p::l:=by
  unfold put
  simp only [pos]
  split <;> simp
theorem Qdp:∀ {l:List Pt} {id:Int},V0 l→(has l id=true↔∃ p∈l,p.id=id)
  | [],id,_=>by simp [Qtq]
  |
   p::l,id,h=>by
   have h1:=qXc.1 h
   rw [Qh8]
   split
   · rename_i hlt
     rw [Qdp h1.2]
     constructor
     · rintro ⟨x,hx,e⟩; exact ⟨x,W0 _ hx,e⟩
     · rintro ⟨x,hx,e⟩
       rcases Vb.1 hx with rfl | hx
       · omega
       · exact ⟨x,hx,e⟩
   · rename_i hge
     rw [decide_eq_true_iff]
     constructor
     · intro e; exact ⟨p,Ub ..,e⟩
     · rintro ⟨x,hx,e⟩
       rcases Vb.1 hx with rfl | hx
       · exact e
       · have:=h1.1 x hx; omega
theorem I5:∀ {l:List Pt} {q:Pt},V0 l→has l q.id=false→V0 (put l q)
  | [],q,_,_=>by simp [put,pos,V0]
  |
   p::l,q,h,hn=>by
   have h1:=qXc.1 h
   rw [Qh8] at hn
   rw [Qqb]
   split
   · rename_i hlt
     rw [if_pos hlt] at hn
     refine qXc.2 ⟨fun x hx=>?_,I5 h1.2 hn⟩
     rcases Qex hx with rfl | hx
     · exact hlt
     · exact h1.1 x hx
   · rename_i hge
     rw [if_neg hge,decide_eq_false_iff_not] at hn
     refine qXc.2 ⟨fun x hx=>?_,h⟩
     rcases Vb.1 hx with rfl | hx
     · omega
     · have:=h1.1 x hx; omega
theorem Qlg {l:List Pt} {q p:Pt} (h:p=q∨p∈l):p∈put l q:=by
  unfold put
  rcases h with rfl | h
  · simp
  · rw [←qZk (pos l q.id) l] at h
    simp only [Yz,Vb] at h ⊢
    rcases h with h | h
    · exact .inl h
    · exact .inr (.inr h)
theorem Qpe {l:List Pt} {q:Pt} (h:l.length<6):Tn l q=if has l q.id=true then 6 else 0:=by
  unfold Tn
  split
  · rfl
  · rw [if_neg (by omega)]
theorem Qc1:∀ (qs acc:List Pt),V0 acc→acc.length+qs.length≤6 →
    ((J1 acc qs).2=0∧V0 (J1 acc qs).1∧(J1 acc qs).1.length=acc.length+qs.length∧qs.Pairwise (fun a b=>a.id≠b.id)∧∀ q∈qs,∀ p∈acc,p.id≠q.id) ∨
    ((J1 acc qs).2=6∧¬(qs.Pairwise (fun a b=>a.id≠b.id)∧∀ q∈qs,∀ p∈acc,p.id≠q.id))
  | [],acc,hs,_=>.inl ⟨rfl,hs,rfl,List.Pairwise.nil,fun _ h=>absurd h (by simp)⟩
  |
   q::qs,acc,hs,hl=>by
   simp only [qZy] at hl
   have he:=Qpe (l:=acc) (q:=q) (by omega)
   simp only [J1]
   cases hh:has acc q.id with
   |
    true =>
    rw [hh,if_pos rfl] at he
    rw [he,if_neg (by decide)]
    obtain ⟨p,hp,e⟩:=(Qdp hs).1 hh
    exact .inr ⟨rfl,fun h=>h.2 q (Ub ..) p hp e⟩
   |
    false =>
    rw [hh,if_neg (by decide)] at he
    rw [he,if_pos rfl]
    have hno:∀ p∈acc,p.id≠q.id:=fun p hp e=>by
      have:=(Qdp hs).2 ⟨p,hp,e⟩
      rw [hh] at this; cases this
    have hpl:=Ew acc q
    rcases Qc1 qs (put acc q) (I5 hs hh) (by omega) with ⟨h1,h2,h3,h4,h5⟩ | ⟨h1,h2⟩
    · refine .inl ⟨h1,h2,by simp only [qZy]; omega,qXc.2 ⟨fun x hx=>h5 x hx q (Qlg (.inl rfl)),h4⟩,fun x hx p hp=>?_⟩
      rcases Vb.1 hx with rfl | hx
      · exact hno p hp
      · exact h5 x hx p (Qlg (.inr hp))
    · refine .inr ⟨h1,fun h=>h2 ⟨(qXc.1 h.1).2,fun x hx p hp=>?_⟩⟩
      rcases Qex hp with rfl | hp
      · exact (qXc.1 h.1).1 x hx
      · exact h.2 x (W0 _ hx) p hp
theorem Qog {qs:List Pt} (hl:qs.length≤6) :
    ((J1 [] qs).2=0∧V0 (J1 [] qs).1∧(J1 [] qs).1.length=qs.length∧qs.Pairwise (fun a b=>a.id≠b.id))∨((J1 [] qs).2=6∧¬qs.Pairwise (fun a b=>a.id≠b.id)):=by
  rcases Qc1 qs [] List.Pairwise.nil (by simpa using hl) with ⟨h1,h2,h3,h4,_⟩ | ⟨h1,h2⟩
  · exact .inl ⟨h1,h2,by simpa using h3,h4⟩
  · exact .inr ⟨h1,fun h=>h2 ⟨h,fun _ _ _ hp=>absurd hp (by simp)⟩⟩
end Orr

namespace Orr
open Go Go.Proofs
theorem Qhn {α β:Type} (f:α→β) (l:List α) (x:α):l.map f++[f x]=(l++[x]).map f:=by simp
abbrev B6 (l:List Pt):Prop:=∀ a∈l,Mv a.c∧Cb a.c
theorem Qgl:∀ (qs acc:List Pt) {p:Pt},p∈(J1 acc qs).1→p∈qs∨p∈acc
 | [],acc,p,h=>.inr h
 |
  q::qs,acc,p,h=>by
  simp only [J1] at h
  split at h
  ·rcases Qgl qs _ h with h | h
   ·exact .inl (W0 _ h)
   ·rcases Qex h with rfl | h
    ·exact .inl (Ub ..)
    ·exact .inr h
  ·cases h
theorem qs_0:Qs 1 (Q3 0 0):=by
 unfold Q3
 exact Qs.divInt (by decide) (by decide) (by decide)
theorem I7 {x y:Int} (hx:-9223372036854775808≤x∧x≤9223372036854775807) (hy:-9223372036854775808≤y∧y≤9223372036854775807):Mv (F2 x y)∧Cb (F2 x y) :=
 ⟨Crv.nml _,((Qh3 hx hy).norm (by decide)).mono (by omega) (by omega)⟩
theorem Qqo {v n:Int} (hn:0<n) (h:v.tmod n<0):v.tmod n+n=v % n:=by
 have h1:=Int.tmod_eq_emod (a:=v) (b:=n)
 have h2:=qJc v (b:=n) (by omega)
 have h3:=qXs v hn
 rw [h1] at h ⊢
 split at h <;> split <;> omega
theorem Qqf {v n:Int} (hn:0<n) (h:¬v.tmod n<0):v.tmod n=v % n:=by
 have h1:=Int.tmod_eq_emod (a:=v) (b:=n)
 have h2:=qJc v (b:=n) (by omega)
 have h3:=qXs v hn
 rw [h1] at h ⊢
 split at h <;> split <;> omega
theorem Us {v n:Int} (hv:-9223372036854775808≤v∧v≤9223372036854775807) (hn:0<n∧n≤1000000):Q8 Tryz.prog 18 [.one (.int .i64 v),.one (.int .i64 n)] (.one (.int .i64 ((v % n)))):=by
 refine X2 tt 0 [] Tryz.func18 Tryz.ntmps18 rfl rfl rfl ?_
 have hlt:=Int.tmod_lt_of_pos v hn.1
 have hgt:-n<v.tmod n:=by have:=Int.tmod_eq_emod (a:=v) (b:=n); have:=qJc v (b:=n) (by omega); have:=qXs v hn.1; split at * <;> omega
 by_cases h0:v.tmod n<0
 ·skip
  refine Qr tt 3 rfl ?_
  refine Xb tt 2 [] (decide_eq_false (by omega)) rfl rfl ?_
  refine Qf tt 3 [] (G9 (r:=(v.tmod n)) rfl rfl (by omega) (rfl) rfl) rfl ?_
  refine Xf tt 2 [] (decide_eq_true h0) rfl rfl ?_
  refine Qf tt 3 [] (Q6 (r:=(v % n)) rfl rfl (by rw [Qqo hn.1 h0]; exact Xz (by have:=qJc v (b:=n) (by omega); omega) (by have:=qXs v hn.1; omega)) rfl) rfl ?_
  exact Xq tt [] rfl (rfl)
 skip
 refine Qr tt 3 rfl ?_
 refine Xb tt 2 [] (decide_eq_false (by omega)) rfl rfl ?_
 refine Qf tt 3 [] (G9 (r:=(v.tmod n)) rfl rfl (by omega) (rfl) rfl) rfl ?_
 refine Xb tt 2 [] (decide_eq_false h0) rfl rfl ?_
 exact Xq tt [] rfl (by rw [Qqf hn.1 h0])
end Orr
