/- ARef12B AvDrawAS AvLeaf ARef12C ARef12D RawL ACert AKin NewsL ANews ARaw APts BeginL TourneyL -/
import Derived.Test.YtaffmkgbfgjgeaaGreatPart07
import Derived.Test.YtaffmkgbfgjgeaaGreatPart05
import Derived.Test.YtaffmkgbfgjgeaaGreatPart00
import Derived.Test.YtaffmkgbfgjgeaaGreatPart02
import Derived.Test.YtaffmkgbfgjgeaaGreatPart06
import Derived.Test.YtaffmkgbfgjgeaaGreatPart04
import Derived.Laws.StructEq
set_option linter.all false

namespace Orr
open Go Go.Proofs
abbrev rct (c:Ct):List LV:=[.int .i64 c.kind,.int .i64 c.i0,.int .i64 c.i1,.int .i64 c.i2,.int .i64 c.i3,Zp (zp c.p),.int .i64 c.want,.row [],.bool false]
def Gl (l:List Ct):LV:=.row (l.map rct)
theorem Qbp (l:List Ct):Vq (Gl l)=some l.length:=by simp [Gl,Vq]
set_option maxRecDepth 20000 in
theorem N1 {l:List Pt} (hn:l.length≤1000000):Za Tryz.prog 89 [.one (Kr l)] (.one (Kr ((Zf V9 l)))):=by
 refine X4 tt 3 [] Tryz.func89 Tryz.ntmps89 rfl rfl rfl ?_
 refine Qf tt 1 [] (Qh (m:=l.length) Ue rfl (Yz _) rfl) rfl ?_
 refine X5 (fun _ k_=>Xy [3] 100 7 rfl (Zc rfl) rfl (Qo k_)) rfl ?_
 refine Qj [3,7,8,0] rfl rfl ?_
 refine Zl (fun m L B=>∃ i r,i≤l.length∧m=l.length-i∧L=[(3,.one (.orow r 7 0 i)),(7,.one (.int .i64 (((l.length:Nat):Int)))),(8,.one (.int .i64 (((i:Nat):Int)))),(0,.one (Kr l))]∧B=[.row r 100 7 (((Zf V9 (l.take i)).map I0))]) (m:=_) ⟨0,none,K6 _,rfl,rfl,rfl⟩ ?_
 rintro m L B ⟨i,r,hp0,hm,rfl,rfl⟩
 refine Qq tt rfl ?_
 by_cases hlt:i<l.length
 ·obtain ⟨c,hc⟩:∃ c,l[i]? = some c:=⟨_,Xx hlt⟩
  have hO:(Zf V9 (l.take i)).length=i:=by rw [Y8,Kd]; omega
  refine Qr tt 1 rfl ?_
  refine Xh tt 3 [] (decide_eq_true (by omega)) rfl rfl ?_
  refine kw (Qh (m:=i) Ue rfl (rfl) rfl) ?_
  refine syp tt 1 [100002] [] rfl ?_
  refine Ml 1 (fun L B=>∃ k,k≤i∧U1 V9 (Zf V9 (l.take i)) c (Zf V9 (l.take i)).length=k∧L=[(0,.one (Kr l)),(3,.one (.orow r 7 0 i)),(4,.one (.int .i64 (((i:Nat):Int)))),(7,.one (.int .i64 (((l.length:Nat):Int)))),(8,.one (.int .i64 (((i:Nat):Int)))),(5,.one (.int .i64 (((k:Nat):Int))))]∧B=[.row r 100 7 (((Zf V9 (l.take i)).map I0))]) ?_ rfl ?_
  ·skip
   refine Qq tt rfl ?_
   refine Qj [0,3,4,7,8,5] rfl rfl ?_
   refine Zl (fun m L B=>∃ k,k≤i∧U1 V9 (Zf V9 (l.take i)) c k=U1 V9 (Zf V9 (l.take i)) c (Zf V9 (l.take i)).length∧m=k∧L=[(0,.one (Kr l)),(3,.one (.orow r 7 0 i)),(4,.one (.int .i64 (((i:Nat):Int)))),(7,.one (.int .i64 (((l.length:Nat):Int)))),(8,.one (.int .i64 (((i:Nat):Int)))),(5,.one (.int .i64 (((k:Nat):Int))))]∧B=[.row r 100 7 (((Zf V9 (l.take i)).map I0))]) (m:=_) ⟨i,X2 _,by rw [hO],rfl,rfl,rfl⟩ ?_
   rintro m L B ⟨k,hq0,hq1,hm,rfl,rfl⟩
   refine Qq tt rfl ?_
   rcases Hl k with h0 | h0
   ·have hpos:U1 V9 (Zf V9 (l.take i)) c (Zf V9 (l.take i)).length=k:=by rw [←hq1,h0]; rfl
    refine Qq tt rfl ?_
    refine Qy 14 Qp rfl rfl rfl ?_
    refine Qr tt 3 rfl ?_
    refine kd (Qk rfl rfl (decide_eq_false (by omega)) rfl) rfl ?_
    refine Qq tt rfl ?_
    refine kd (Qk rfl rfl (decide_eq_false (by omega)) rfl) rfl ?_
    refine Qq tt rfl ?_
    refine kd (Qk rfl rfl (decide_eq_false (by omega)) rfl) rfl ?_
    refine Qq tt rfl ?_
    refine kd (Qk rfl rfl (decide_eq_false (by omega)) rfl) rfl ?_
    refine Qq tt rfl ?_
    refine kd (Qk rfl rfl (decide_eq_false (by omega)) rfl) rfl ?_
    refine Qq tt rfl ?_
    refine kd (Qk rfl rfl (decide_eq_false (by omega)) rfl) rfl ?_
    refine Qq tt rfl ?_
    refine kd (Qk rfl rfl (decide_eq_false (by omega)) rfl) rfl ?_
    refine Qq tt rfl ?_
    refine kd (Qk rfl rfl (decide_eq_false (by omega)) rfl) rfl ?_
    refine Qq tt rfl ?_
    refine kd (Qk rfl rfl (decide_eq_false (by omega)) rfl) rfl ?_
    refine Qq tt rfl ?_
    refine kd (Qk rfl rfl (decide_eq_false (by omega)) rfl) rfl ?_
    refine Qq tt rfl ?_
    refine kd (Qk rfl rfl (decide_eq_false (by omega)) rfl) rfl ?_
    refine Qq tt rfl ?_
    refine Qf tt 0 [] (Qk rfl rfl (decide_eq_false (by omega)) rfl) rfl ?_
    refine Qf tt 0 [] (Zw rfl (decide_eq_false (by omega)) rfl rfl) rfl ?_
    refine Z8 tt 0 [] (rfl) rfl rfl ?_
    refine Qj [0,3,4,7,8,5] rfl rfl ?_
    refine Q8 ?_
    exact ⟨k,hq0,hpos,rfl,rfl⟩
   obtain ⟨x,hx⟩:∃ x,(Zf V9 (l.take i))[k-1]? = some x:=⟨_,Xx (by omega)⟩
   cases hls:V9 c x
   refine Qq tt rfl ?_
   ·have hpos:U1 V9 (Zf V9 (l.take i)) c (Zf V9 (l.take i)).length=k:=by rw [←hq1,Sx h0 hx hls]
    refine Qq tt rfl ?_
    refine Qy 14 Qp rfl rfl rfl ?_
    refine Qr tt 3 rfl ?_
    refine kd ((Qc rfl rfl (decide_eq_true (by omega)) (Qw tt rfl rfl))) rfl ?_
    refine Qq tt rfl ?_
    refine kd ((Qc rfl rfl (decide_eq_true (by omega)) (Qw tt rfl rfl))) rfl ?_
    refine Qq tt rfl ?_
    refine kd ((Qc rfl rfl (decide_eq_true (by omega)) (Qi (i) Ue Uf rfl rfl (rfl) (Qg hc) rfl rfl))) rfl ?_
    refine Qq tt rfl ?_
    refine kd ((Qc rfl rfl (decide_eq_true (by omega)) (Qw tt rfl rfl))) rfl ?_
    refine Qq tt rfl ?_
    refine kd ((Qc rfl rfl (decide_eq_true (by omega)) (Qw tt rfl rfl))) rfl ?_
    refine Qq tt rfl ?_
    refine kd ((Qc rfl rfl (decide_eq_true (by omega)) (Qw tt rfl rfl))) rfl ?_
    refine Qq tt rfl ?_
    refine kd ((Qc rfl rfl (decide_eq_true (by omega)) (Qw tt rfl rfl))) rfl ?_
    refine Qq tt rfl ?_
    refine kd ((Qc rfl rfl (decide_eq_true (by omega)) (Z9 (r:=((k-1:Nat):Int)) rfl rfl (Qm (by omega) (by omega)) rfl))) rfl ?_
    refine Qq tt rfl ?_
    refine kd ((Qc rfl rfl (decide_eq_true (by omega)) (Zi (k-1) Ue Uf rfl rfl (rfl) (by omega) rfl))) rfl ?_
    refine Qq tt rfl ?_
    refine kd ((Qc rfl rfl (decide_eq_true (by omega)) (Qw tt rfl rfl))) rfl ?_
    refine Qq tt rfl ?_
    refine kd ((Qc rfl rfl (decide_eq_true (by omega)) (X7 0 S0 Xw rfl rfl (by rw [Vl]; exact Qg hx) rfl rfl rfl))) rfl ?_
    refine Qq tt rfl ?_
    refine Qf tt 0 [] ((Qc rfl rfl (decide_eq_true (by omega)) (Qw tt rfl rfl))) rfl ?_
    refine Qf tt 0 [] (Zs rfl (decide_eq_true (by omega)) rfl rfl) rfl ?_
    refine Z8 tt 0 [] (hls) rfl rfl ?_
    refine Qj [0,3,4,7,8,5] rfl rfl ?_
    refine Q8 ?_
    exact ⟨k,hq0,hpos,rfl,rfl⟩
   skip
   refine Qq tt rfl ?_
   refine Qy 14 Qp rfl rfl rfl ?_
   refine Qr tt 3 rfl ?_
   refine kd ((Qc rfl rfl (decide_eq_true (by omega)) (Qw tt rfl rfl))) rfl ?_
   refine Qq tt rfl ?_
   refine kd ((Qc rfl rfl (decide_eq_true (by omega)) (Qw tt rfl rfl))) rfl ?_
   refine Qq tt rfl ?_
   refine kd ((Qc rfl rfl (decide_eq_true (by omega)) (Qi (i) Ue Uf rfl rfl (rfl) (Qg hc) rfl rfl))) rfl ?_
   refine Qq tt rfl ?_
   refine kd ((Qc rfl rfl (decide_eq_true (by omega)) (Qw tt rfl rfl))) rfl ?_
   refine Qq tt rfl ?_
   refine kd ((Qc rfl rfl (decide_eq_true (by omega)) (Qw tt rfl rfl))) rfl ?_
   refine Qq tt rfl ?_
   refine kd ((Qc rfl rfl (decide_eq_true (by omega)) (Qw tt rfl rfl))) rfl ?_
   refine Qq tt rfl ?_
   refine kd ((Qc rfl rfl (decide_eq_true (by omega)) (Qw tt rfl rfl))) rfl ?_
   refine Qq tt rfl ?_
   refine kd ((Qc rfl rfl (decide_eq_true (by omega)) (Z9 (r:=((k-1:Nat):Int)) rfl rfl (Qm (by omega) (by omega)) rfl))) rfl ?_
   refine Qq tt rfl ?_
   refine kd ((Qc rfl rfl (decide_eq_true (by omega)) (Zi (k-1) Ue Uf rfl rfl (rfl) (by omega) rfl))) rfl ?_
   refine Qq tt rfl ?_
   refine kd ((Qc rfl rfl (decide_eq_true (by omega)) (Qw tt rfl rfl))) rfl ?_
   refine Qq tt rfl ?_
   refine kd ((Qc rfl rfl (decide_eq_true (by omega)) (X7 0 S0 Xw rfl rfl (by rw [Vl]; exact Qg hx) rfl rfl rfl))) rfl ?_
   refine Qq tt rfl ?_
   refine Qf tt 0 [] ((Qc rfl rfl (decide_eq_true (by omega)) (Qw tt rfl rfl))) rfl ?_
   refine Qf tt 0 [] (Zs rfl (decide_eq_true (by omega)) rfl rfl) rfl ?_
   refine Xh tt 1 [] (hls) rfl rfl ?_
   refine Qf tt 1 [] (Z9 (r:=((k-1:Nat):Int)) rfl rfl (Qm (by omega) (by omega)) rfl) rfl ?_
   refine Qj [0,3,4,7,8,5] rfl rfl ?_
   refine Q8 ?_
   refine ⟨_,?_,k-1,by omega,by rw [←hq1,Bz h0 hx hls],rfl,rfl,rfl⟩
   omega
  rintro L B ⟨k,hp0,hp1,rfl,rfl⟩
  refine Qq tt rfl ?_
  skip
  skip
  refine Qq tt rfl ?_
  refine kc (Kl Qp 12 [31,32,33,34,35,36,37,38,39,40,41,42] [[],[],[0,1],[],[],[3,4],[5],[6],[],[],[8,9],[7,10]] [.one (.orow r 7 0 i),.one (.int .i64 (((k:Nat):Int))),.one (.orow r 7 0 k),.one (Kr l),.one (.int .i64 (((i:Nat):Int))),.one (.sh [Zp ((X6 c.c.x c.c.d)),Zp ((X6 c.c.y c.c.d)),pl c.c.x,pl c.c.y,sg c.c.d,mg c.c.d,.int .i64 c.id]),.agg [Zp ((X6 c.c.x c.c.d)),Zp ((X6 c.c.y c.c.d)),pl c.c.x,pl c.c.y,sg c.c.d,mg c.c.d,.int .i64 c.id],.one (.frow [[Zp ((X6 c.c.x c.c.d)),Zp ((X6 c.c.y c.c.d)),pl c.c.x,pl c.c.y,sg c.c.d,mg c.c.d,.int .i64 c.id]]),.one (.orow r 7 0 i),.one (.int .i64 (((k:Nat):Int))),.one (.orow r 7 ((0+k)) ((i-k))),.un] 11 (fun u B=>u=.one (.row (I0 c::((Zf V9 (l.take i)).map I0).drop k))∧B=[.row r 100 7 (((Zf V9 (l.take i)).map I0))]) rfl rfl rfl rfl ⟨Qv rfl rfl,Qv rfl rfl,Fu k Ue Uf rfl rfl rfl (by omega) rfl,Qv rfl rfl,Qv rfl rfl,Qi (i) Ue Uf rfl rfl (rfl) (Qg hc) rfl rfl,Zq qUa Uf rfl rfl rfl rfl,Qdf Ue Uf qWh rfl rfl rfl rfl rfl rfl rfl rfl rfl rfl,Qv rfl rfl,Qv rfl rfl,Wg k Ue Uf rfl rfl rfl (by omega) rfl,?_,trivial⟩ ?_ ?_)
  ·refine Km fun N k_=>?_
   rcases Mq k i with hki | hki
   ·refine Ew 0 (lo2:=((Zf V9 (l.take i)).map I0).drop k) (ls2:=I0 c::((Zf V9 (l.take i)).map I0).drop k) (m2:=i-k+1) Ue Ue Tryz.typeInfo100 rfl rfl Uf qWh rfl rfl rfl rfl rfl rfl (by rw [Zr,hO]; omega) (by rw [Vl]; exact Y0 (by rw [Na,Zr,hO]; omega)) rfl (Js rfl) (Jx rfl) (fun z hz=>(Jj (f:=I0) (sz:=7) _ fun _=>rfl) z (Pr hz)) (fun z hz=>(Wu (f:=I0) _ fun _=>rfl) z (Pr hz)) (by omega) (by show 1+_<_; omega) rfl (by show 1+_=_; omega) fun r_=>?_
    refine Xe 0 [42] rfl (Zc rfl) (by show _=_+1; rw [Na,Zr,hO]) (by show _+1<_; rw [Na,Zr,hO]; omega) rfl ?_
    refine Ls [42,38,41,0,3,4,7,8,5] rfl ?_
    exact Qo (k_ _ _ ⟨rfl,rfl⟩)
   refine Xs 41 (y:=.one (.orow r 7 (0+k) 0)) rfl (by show AV.one (.orow r 7 (0+k) (i-k))=_; rw [show i-k=0 by omega]) ?_
   refine Ev Ue Ue Tryz.typeInfo100 Uf rfl rfl rfl ?_
   refine Xs 41 (y:=.one (.orow r 7 (0+k) (i-k))) rfl (by show AV.one (.orow r 7 (0+k) 0)=_; rw [show i-k=0 by omega]) ?_
   refine Ls [42,38,41,0,3,4,7,8,5] rfl ?_
   exact Qo (k_ _ _ ⟨by rw [Ll (by rw [Zr,hO]; omega)] <;> rfl,rfl⟩)
  ·rintro u_ B_ ⟨rfl,rfl⟩
   exact ⟨Qv rfl rfl,Qv rfl rfl,Fu k Ue Uf rfl rfl rfl (by omega) rfl,Qv rfl rfl,Qv rfl rfl,Qi (i) Ue Uf rfl rfl (rfl) (Qg hc) rfl rfl,Zq qUa Uf rfl rfl rfl rfl,Qdf Ue Uf qWh rfl rfl rfl rfl rfl rfl rfl rfl rfl rfl,Qv rfl rfl,Qv rfl rfl,Wg k Ue Uf rfl rfl rfl (by omega) rfl,trivial,trivial⟩
  rintro u_ B_ ⟨rfl,rfl⟩
  refine ⟨_,rfl,kn ?_⟩
  refine Qq tt rfl ?_
  refine Zn (Zg (ls2:=((P4 V9 (Zf V9 (l.take i)) c).map I0)) (m2:=i+1) 0 Ue Ue Tryz.typeInfo100 rfl rfl Uf qWh rfl rfl rfl rfl rfl rfl rfl (by rw [Zr]; omega) ((fun z hz=>(Vw.1 hz).elim (fun e=>by rw [e]; rfl) (fun h=>(Jj (f:=I0) (sz:=7) _ fun _=>rfl) z (Pr h)))) ((fun z hz=>(Vw.1 hz).elim (fun e=>by rw [e]; exact Jx rfl _ (qZt.2 rfl)) (fun h=>(Wu (f:=I0) _ fun _=>rfl) z (Pr h)))) (by show k+(_+1)<_; rw [Na,Zr,hO]; omega) (by simp [P4,hp1,Ix,qJm]) (by show k+(_+1)=_; rw [Na,Zr,hO]; omega) fun r1=>ko ?_)
  refine Qr tt 1 rfl ?_
  refine Qf tt 1 [] (Zb (r:=((i+1:Nat):Int)) rfl rfl (Qm (by omega) (by omega)) rfl) rfl ?_
  refine X5 (fun _ k_=>Jq 0 rfl (by rw [←Ng hc]) (Qo k_)) rfl ?_
  refine Qj [3,7,8,0] rfl rfl ?_
  refine Q8 ?_
  refine ⟨_,?_,i+1,r1,by omega,rfl,rfl,rfl⟩
  omega
 have hO:(Zf V9 (l.take i)).length=i:=by rw [Y8,Kd]; omega
 have hi:l.take i=l:=Y0 (by omega)
 refine Qr tt 1 rfl ?_
 refine Z8 tt 2 [] (decide_eq_false (by omega)) rfl rfl ?_
 refine X5 (fun _ k_=>Xe 0 [2] rfl (Zc rfl) (by rw [Zr,hO]) (by rw [Zr,hO]; omega) rfl (Qo k_)) rfl ?_
 exact Xp tt [] rfl (by rw [hi]; rfl)
set_option maxRecDepth 20000 in
theorem N2 {k i0 i1 i2 i3 l j0 j1 j2 j3:Int}:Za Tryz.prog 283 [.agg [.int .i64 k,.int .i64 i0,.int .i64 i1,.int .i64 i2,.int .i64 i3],.agg [.int .i64 l,.int .i64 j0,.int .i64 j1,.int .i64 j2,.int .i64 j3]] (.one (.bool (Gp [k,i0,i1,i2,i3] [l,j0,j1,j2,j3]))):=by
 refine X4 tt 8 [] Tryz.func283 Tryz.ntmps283 rfl rfl rfl ?_
 refine kif rfl (fun hb_if1=>?_) (fun hb_if1=>?_)
 ·try simp only [decide_eq_true_eq,decide_eq_false_iff_not,Vc,Vb] at hb_if1
  refine Qr tt 6 rfl ?_
  exact Xp tt [] rfl (by simp_all [Gp])
 try simp only [decide_eq_true_eq,decide_eq_false_iff_not,Vc,Vb] at hb_if1
 refine Qr tt 1 rfl ?_
 refine Gb 5 ?_
 refine J5 ?_
 refine Qr tt 2 rfl ?_
 refine Xh tt 0 [] (rfl) rfl rfl ?_
 refine Qy 8 Qp rfl rfl rfl ?_
 refine Qr tt 2 rfl ?_
 refine kd (Zo 0 Pq Xw rfl rfl rfl (by decide) rfl rfl) rfl ?_
 refine Qr tt 3 rfl ?_
 refine kd (Zo 0 Pq Xw rfl rfl rfl (by decide) rfl rfl) rfl ?_
 refine Qr tt 1 rfl ?_
 refine Qr tt 1 rfl ?_
 refine kif rfl (fun hb_if3=>?_) (fun hb_if3=>?_)
 ·try simp only [decide_eq_true_eq,decide_eq_false_iff_not,Vc,Vb] at hb_if3
  refine Qq tt rfl ?_
  refine Qy 8 Qp rfl rfl rfl ?_
  refine Qr tt 2 rfl ?_
  refine kd (Zo 0 Pq Xw rfl rfl rfl (by decide) rfl rfl) rfl ?_
  refine Qr tt 3 rfl ?_
  refine kd (Zo 0 Pq Xw rfl rfl rfl (by decide) rfl rfl) rfl ?_
  refine Qr tt 1 rfl ?_
  refine Qr tt 2 rfl ?_
  exact Xp tt [] rfl (by simp_all [Gp])
 try simp only [decide_eq_true_eq,decide_eq_false_iff_not,Vc,Vb] at hb_if3
 refine Qr tt 1 rfl ?_
 refine Qf tt 1 [] (Zb (r:=((1:Nat):Int)) rfl rfl (rfl) rfl) rfl ?_
 refine Q8 ?_
 refine J5 ?_
 refine Qr tt 2 rfl ?_
 refine Xh tt 0 [] (rfl) rfl rfl ?_
 refine Qy 8 Qp rfl rfl rfl ?_
 refine Qr tt 2 rfl ?_
 refine kd (Zo 1 Pq Xw rfl rfl rfl (by decide) rfl rfl) rfl ?_
 refine Qr tt 3 rfl ?_
 refine kd (Zo 1 Pq Xw rfl rfl rfl (by decide) rfl rfl) rfl ?_
 refine Qr tt 1 rfl ?_
 refine Qr tt 1 rfl ?_
 refine kif rfl (fun hb_if3=>?_) (fun hb_if3=>?_)
 ·try simp only [decide_eq_true_eq,decide_eq_false_iff_not,Vc,Vb] at hb_if3
  refine Qq tt rfl ?_
  refine Qy 8 Qp rfl rfl rfl ?_
  refine Qr tt 2 rfl ?_
  refine kd (Zo 1 Pq Xw rfl rfl rfl (by decide) rfl rfl) rfl ?_
  refine Qr tt 3 rfl ?_
  refine kd (Zo 1 Pq Xw rfl rfl rfl (by decide) rfl rfl) rfl ?_
  refine Qr tt 1 rfl ?_
  refine Qr tt 2 rfl ?_
  exact Xp tt [] rfl (by simp_all [Gp])
 try simp only [decide_eq_true_eq,decide_eq_false_iff_not,Vc,Vb] at hb_if3
 refine Qr tt 1 rfl ?_
 refine Qf tt 1 [] (Zb (r:=((2:Nat):Int)) rfl rfl (rfl) rfl) rfl ?_
 refine Q8 ?_
 refine J5 ?_
 refine Qr tt 2 rfl ?_
 refine Xh tt 0 [] (rfl) rfl rfl ?_
 refine Qy 8 Qp rfl rfl rfl ?_
 refine Qr tt 2 rfl ?_
 refine kd (Zo 2 Pq Xw rfl rfl rfl (by decide) rfl rfl) rfl ?_
 refine Qr tt 3 rfl ?_
 refine kd (Zo 2 Pq Xw rfl rfl rfl (by decide) rfl rfl) rfl ?_
 refine Qr tt 1 rfl ?_
 refine Qr tt 1 rfl ?_
 refine kif rfl (fun hb_if3=>?_) (fun hb_if3=>?_)
 ·try simp only [decide_eq_true_eq,decide_eq_false_iff_not,Vc,Vb] at hb_if3
  refine Qq tt rfl ?_
  refine Qy 8 Qp rfl rfl rfl ?_
  refine Qr tt 2 rfl ?_
  refine kd (Zo 2 Pq Xw rfl rfl rfl (by decide) rfl rfl) rfl ?_
  refine Qr tt 3 rfl ?_
  refine kd (Zo 2 Pq Xw rfl rfl rfl (by decide) rfl rfl) rfl ?_
  refine Qr tt 1 rfl ?_
  refine Qr tt 2 rfl ?_
  exact Xp tt [] rfl (by simp_all [Gp])
 try simp only [decide_eq_true_eq,decide_eq_false_iff_not,Vc,Vb] at hb_if3
 refine Qr tt 1 rfl ?_
 refine Qf tt 1 [] (Zb (r:=((3:Nat):Int)) rfl rfl (rfl) rfl) rfl ?_
 refine Q8 ?_
 refine J5 ?_
 refine Qr tt 2 rfl ?_
 refine Xh tt 0 [] (rfl) rfl rfl ?_
 refine Qy 8 Qp rfl rfl rfl ?_
 refine Qr tt 2 rfl ?_
 refine kd (Zo 3 Pq Xw rfl rfl rfl (by decide) rfl rfl) rfl ?_
 refine Qr tt 3 rfl ?_
 refine kd (Zo 3 Pq Xw rfl rfl rfl (by decide) rfl rfl) rfl ?_
 refine Qr tt 1 rfl ?_
 refine Qr tt 1 rfl ?_
 refine kif rfl (fun hb_if3=>?_) (fun hb_if3=>?_)
 ·try simp only [decide_eq_true_eq,decide_eq_false_iff_not,Vc,Vb] at hb_if3
  refine Qq tt rfl ?_
  refine Qy 8 Qp rfl rfl rfl ?_
  refine Qr tt 2 rfl ?_
  refine kd (Zo 3 Pq Xw rfl rfl rfl (by decide) rfl rfl) rfl ?_
  refine Qr tt 3 rfl ?_
  refine kd (Zo 3 Pq Xw rfl rfl rfl (by decide) rfl rfl) rfl ?_
  refine Qr tt 1 rfl ?_
  refine Qr tt 2 rfl ?_
  exact Xp tt [] rfl (by simp_all [Gp])
 try simp only [decide_eq_true_eq,decide_eq_false_iff_not,Vc,Vb] at hb_if3
 refine Qr tt 1 rfl ?_
 refine Qf tt 1 [] (Zb (r:=((4:Nat):Int)) rfl rfl (rfl) rfl) rfl ?_
 refine Q8 ?_
 refine J5 ?_
 refine Qr tt 2 rfl ?_
 refine Z8 tt 1 [] (rfl) rfl rfl ?_
 exact Xp tt [] rfl (by simp_all [Gp])
set_option maxRecDepth 20000 in
theorem Qco {l:List Ct} (hn:l.length≤1000000):Za Tryz.prog 222 [.one (Gl l)] (.one (Gl ((Zf Yu l)))):=by
 refine X4 tt 3 [] Tryz.func222 Tryz.ntmps222 rfl rfl rfl ?_
 refine Qf tt 1 [] (Qh (m:=l.length) Ee rfl (Qbp _) rfl) rfl ?_
 refine X5 (fun _ k_=>Xy [3] 47 9 rfl (Zc rfl) rfl (Qo k_)) rfl ?_
 refine Qj [3,7,8,0] rfl rfl ?_
 refine Zl (fun m L B=>∃ i r,i≤l.length∧m=l.length-i∧L=[(3,.one (.orow r 9 0 i)),(7,.one (.int .i64 (((l.length:Nat):Int)))),(8,.one (.int .i64 (((i:Nat):Int)))),(0,.one (Gl l))]∧B=[.row r 47 9 (((Zf Yu (l.take i)).map rct))]) (m:=_) ⟨0,none,K6 _,rfl,rfl,rfl⟩ ?_
 rintro m L B ⟨i,r,hp0,hm,rfl,rfl⟩
 refine Qq tt rfl ?_
 by_cases hlt:i<l.length
 ·obtain ⟨c,hc⟩:∃ c,l[i]? = some c:=⟨_,Xx hlt⟩
  have hO:(Zf Yu (l.take i)).length=i:=by rw [Y8,Kd]; omega
  refine Qr tt 1 rfl ?_
  refine Xh tt 3 [] (decide_eq_true (by omega)) rfl rfl ?_
  refine kw (Qh (m:=i) Ee rfl (rfl) rfl) ?_
  refine syp tt 1 [100002] [] rfl ?_
  refine Ml 1 (fun L B=>∃ k,k≤i∧U1 Yu (Zf Yu (l.take i)) c (Zf Yu (l.take i)).length=k∧L=[(0,.one (Gl l)),(3,.one (.orow r 9 0 i)),(4,.one (.int .i64 (((i:Nat):Int)))),(7,.one (.int .i64 (((l.length:Nat):Int)))),(8,.one (.int .i64 (((i:Nat):Int)))),(5,.one (.int .i64 (((k:Nat):Int))))]∧B=[.row r 47 9 (((Zf Yu (l.take i)).map rct))]) ?_ rfl ?_
  ·skip
   refine Qq tt rfl ?_
   refine Qj [0,3,4,7,8,5] rfl rfl ?_
   refine Zl (fun m L B=>∃ k,k≤i∧U1 Yu (Zf Yu (l.take i)) c k=U1 Yu (Zf Yu (l.take i)) c (Zf Yu (l.take i)).length∧m=k∧L=[(0,.one (Gl l)),(3,.one (.orow r 9 0 i)),(4,.one (.int .i64 (((i:Nat):Int)))),(7,.one (.int .i64 (((l.length:Nat):Int)))),(8,.one (.int .i64 (((i:Nat):Int)))),(5,.one (.int .i64 (((k:Nat):Int))))]∧B=[.row r 47 9 (((Zf Yu (l.take i)).map rct))]) (m:=_) ⟨i,X2 _,by rw [hO],rfl,rfl,rfl⟩ ?_
   rintro m L B ⟨k,hq0,hq1,hm,rfl,rfl⟩
   refine Qq tt rfl ?_
   rcases Hl k with h0 | h0
   ·have hpos:U1 Yu (Zf Yu (l.take i)) c (Zf Yu (l.take i)).length=k:=by rw [←hq1,h0]; rfl
    refine Qq tt rfl ?_
    refine Qy 14 Qp rfl rfl rfl ?_
    refine Qr tt 3 rfl ?_
    refine kd (Qk rfl rfl (decide_eq_false (by omega)) rfl) rfl ?_
    refine Qq tt rfl ?_
    refine kd (Qk rfl rfl (decide_eq_false (by omega)) rfl) rfl ?_
    refine Qq tt rfl ?_
    refine kd (Qk rfl rfl (decide_eq_false (by omega)) rfl) rfl ?_
    refine Qq tt rfl ?_
    refine kd (Qk rfl rfl (decide_eq_false (by omega)) rfl) rfl ?_
    refine Qq tt rfl ?_
    refine kd (Qk rfl rfl (decide_eq_false (by omega)) rfl) rfl ?_
    refine Qq tt rfl ?_
    refine kd (Qk rfl rfl (decide_eq_false (by omega)) rfl) rfl ?_
    refine Qq tt rfl ?_
    refine kd (Qk rfl rfl (decide_eq_false (by omega)) rfl) rfl ?_
    refine Qq tt rfl ?_
    refine kd (Qk rfl rfl (decide_eq_false (by omega)) rfl) rfl ?_
    refine Qq tt rfl ?_
    refine kd (Qk rfl rfl (decide_eq_false (by omega)) rfl) rfl ?_
    refine Qq tt rfl ?_
    refine kd (Qk rfl rfl (decide_eq_false (by omega)) rfl) rfl ?_
    refine Qq tt rfl ?_
    refine kd (Qk rfl rfl (decide_eq_false (by omega)) rfl) rfl ?_
    refine Qq tt rfl ?_
    refine Qf tt 0 [] (Qk rfl rfl (decide_eq_false (by omega)) rfl) rfl ?_
    refine Qf tt 0 [] (Zw rfl (decide_eq_false (by omega)) rfl rfl) rfl ?_
    refine Z8 tt 0 [] (rfl) rfl rfl ?_
    refine Qj [0,3,4,7,8,5] rfl rfl ?_
    refine Q8 ?_
    exact ⟨k,hq0,hpos,rfl,rfl⟩
   obtain ⟨x,hx⟩:∃ x,(Zf Yu (l.take i))[k-1]? = some x:=⟨_,Xx (by omega)⟩
   cases hls:Yu c x
   refine Qq tt rfl ?_
   ·have hpos:U1 Yu (Zf Yu (l.take i)) c (Zf Yu (l.take i)).length=k:=by rw [←hq1,Sx h0 hx hls]
    refine Qq tt rfl ?_
    refine Qy 14 Qp rfl rfl rfl ?_
    refine Qr tt 3 rfl ?_
    refine kd ((Qc rfl rfl (decide_eq_true (by omega)) (Qw tt rfl rfl))) rfl ?_
    refine Qq tt rfl ?_
    refine kd ((Qc rfl rfl (decide_eq_true (by omega)) (Qw tt rfl rfl))) rfl ?_
    refine Qq tt rfl ?_
    refine kd ((Qc rfl rfl (decide_eq_true (by omega)) (Qi (i) Ee qWo rfl rfl (rfl) (Qg hc) rfl rfl))) rfl ?_
    refine Qq tt rfl ?_
    refine kd ((Qc rfl rfl (decide_eq_true (by omega)) (Qw tt rfl rfl))) rfl ?_
    refine Qq tt rfl ?_
    refine kd ((Qc rfl rfl (decide_eq_true (by omega)) (Qw tt rfl rfl))) rfl ?_
    refine Qq tt rfl ?_
    refine kd ((Qc rfl rfl (decide_eq_true (by omega)) (Qw tt rfl rfl))) rfl ?_
    refine Qq tt rfl ?_
    refine kd ((Qc rfl rfl (decide_eq_true (by omega)) (Qw tt rfl rfl))) rfl ?_
    refine Qq tt rfl ?_
    refine kd ((Qc rfl rfl (decide_eq_true (by omega)) (Z9 (r:=((k-1:Nat):Int)) rfl rfl (Qm (by omega) (by omega)) rfl))) rfl ?_
    refine Qq tt rfl ?_
    refine kd ((Qc rfl rfl (decide_eq_true (by omega)) (Zi (k-1) Ee qWo rfl rfl (rfl) (by omega) rfl))) rfl ?_
    refine Qq tt rfl ?_
    refine kd ((Qc rfl rfl (decide_eq_true (by omega)) (Qw tt rfl rfl))) rfl ?_
    refine Qq tt rfl ?_
    refine kd ((Qc rfl rfl (decide_eq_true (by omega)) (X7 0 qGf qFx rfl rfl (by rw [Vl]; exact Qg hx) rfl rfl rfl))) rfl ?_
    refine Qq tt rfl ?_
    refine Qf tt 0 [] ((Qc rfl rfl (decide_eq_true (by omega)) (Zu Tryz.func283 rfl rfl rfl rfl (N2) rfl))) rfl ?_
    refine Qf tt 0 [] (Zs rfl (decide_eq_true (by omega)) rfl rfl) rfl ?_
    refine Z8 tt 0 [] (hls) rfl rfl ?_
    refine Qj [0,3,4,7,8,5] rfl rfl ?_
    refine Q8 ?_
    exact ⟨k,hq0,hpos,rfl,rfl⟩
   skip
   refine Qq tt rfl ?_
   refine Qy 14 Qp rfl rfl rfl ?_
   refine Qr tt 3 rfl ?_
   refine kd ((Qc rfl rfl (decide_eq_true (by omega)) (Qw tt rfl rfl))) rfl ?_
   refine Qq tt rfl ?_
   refine kd ((Qc rfl rfl (decide_eq_true (by omega)) (Qw tt rfl rfl))) rfl ?_
   refine Qq tt rfl ?_
   refine kd ((Qc rfl rfl (decide_eq_true (by omega)) (Qi (i) Ee qWo rfl rfl (rfl) (Qg hc) rfl rfl))) rfl ?_
   refine Qq tt rfl ?_
   refine kd ((Qc rfl rfl (decide_eq_true (by omega)) (Qw tt rfl rfl))) rfl ?_
   refine Qq tt rfl ?_
   refine kd ((Qc rfl rfl (decide_eq_true (by omega)) (Qw tt rfl rfl))) rfl ?_
   refine Qq tt rfl ?_
   refine kd ((Qc rfl rfl (decide_eq_true (by omega)) (Qw tt rfl rfl))) rfl ?_
   refine Qq tt rfl ?_
   refine kd ((Qc rfl rfl (decide_eq_true (by omega)) (Qw tt rfl rfl))) rfl ?_
   refine Qq tt rfl ?_
   refine kd ((Qc rfl rfl (decide_eq_true (by omega)) (Z9 (r:=((k-1:Nat):Int)) rfl rfl (Qm (by omega) (by omega)) rfl))) rfl ?_
   refine Qq tt rfl ?_
   refine kd ((Qc rfl rfl (decide_eq_true (by omega)) (Zi (k-1) Ee qWo rfl rfl (rfl) (by omega) rfl))) rfl ?_
   refine Qq tt rfl ?_
   refine kd ((Qc rfl rfl (decide_eq_true (by omega)) (Qw tt rfl rfl))) rfl ?_
   refine Qq tt rfl ?_
   refine kd ((Qc rfl rfl (decide_eq_true (by omega)) (X7 0 qGf qFx rfl rfl (by rw [Vl]; exact Qg hx) rfl rfl rfl))) rfl ?_
   refine Qq tt rfl ?_
   refine Qf tt 0 [] ((Qc rfl rfl (decide_eq_true (by omega)) (Zu Tryz.func283 rfl rfl rfl rfl (N2) rfl))) rfl ?_
   refine Qf tt 0 [] (Zs rfl (decide_eq_true (by omega)) rfl rfl) rfl ?_
   refine Xh tt 1 [] (hls) rfl rfl ?_
   refine Qf tt 1 [] (Z9 (r:=((k-1:Nat):Int)) rfl rfl (Qm (by omega) (by omega)) rfl) rfl ?_
   refine Qj [0,3,4,7,8,5] rfl rfl ?_
   refine Q8 ?_
   refine ⟨_,?_,k-1,by omega,by rw [←hq1,Bz h0 hx hls],rfl,rfl,rfl⟩
   omega
  rintro L B ⟨k,hp0,hp1,rfl,rfl⟩
  refine Qq tt rfl ?_
  skip
  skip
  refine Qq tt rfl ?_
  refine kc (Kl Qp 12 [31,32,33,34,35,36,37,38,39,40,41,42] [[],[],[0,1],[],[],[3,4],[5],[6],[],[],[8,9],[7,10]] [.one (.orow r 9 0 i),.one (.int .i64 (((k:Nat):Int))),.one (.orow r 9 0 k),.one (Gl l),.one (.int .i64 (((i:Nat):Int))),.one (.sh [.int .i64 c.kind,.int .i64 c.i0,.int .i64 c.i1,.int .i64 c.i2,.int .i64 c.i3,Zp ((zp c.p)),.int .i64 c.want,.row ([]),.bool false]),.agg [.int .i64 c.kind,.int .i64 c.i0,.int .i64 c.i1,.int .i64 c.i2,.int .i64 c.i3,Zp ((zp c.p)),.int .i64 c.want,.row ([]),.bool false],.one (.frow [[.int .i64 c.kind,.int .i64 c.i0,.int .i64 c.i1,.int .i64 c.i2,.int .i64 c.i3,Zp ((zp c.p)),.int .i64 c.want,.row ([]),.bool false]]),.one (.orow r 9 0 i),.one (.int .i64 (((k:Nat):Int))),.one (.orow r 9 ((0+k)) ((i-k))),.un] 11 (fun u B=>u=.one (.row (rct c::((Zf Yu (l.take i)).map rct).drop k))∧B=[.row r 47 9 (((Zf Yu (l.take i)).map rct))]) rfl rfl rfl rfl ⟨Qv rfl rfl,Qv rfl rfl,Fu k Ee qWo rfl rfl rfl (by omega) rfl,Qv rfl rfl,Qv rfl rfl,Qi (i) Ee qWo rfl rfl (rfl) (Qg hc) rfl rfl,Zq Tryz.isAgg47 qWo rfl rfl rfl rfl,Qdf Ee qWo qUf rfl rfl rfl rfl rfl rfl rfl rfl rfl rfl,Qv rfl rfl,Qv rfl rfl,Wg k Ee qWo rfl rfl rfl (by omega) rfl,?_,trivial⟩ ?_ ?_)
  ·refine Km fun N k_=>?_
   rcases Mq k i with hki | hki
   ·refine Ew 0 (lo2:=((Zf Yu (l.take i)).map rct).drop k) (ls2:=rct c::((Zf Yu (l.take i)).map rct).drop k) (m2:=i-k+1) Ee Ee Tryz.typeInfo47 rfl rfl qWo qUf rfl rfl rfl rfl rfl rfl (by rw [Zr,hO]; omega) (by rw [Vl]; exact Y0 (by rw [Na,Zr,hO]; omega)) rfl (Js rfl) (Jx rfl) (fun z hz=>(Jj (f:=rct) (sz:=9) _ fun _=>rfl) z (Pr hz)) (fun z hz=>(Wu (f:=rct) _ fun _=>rfl) z (Pr hz)) (by omega) (by show 1+_<_; omega) rfl (by show 1+_=_; omega) fun r_=>?_
    refine Xe 0 [42] rfl (Zc rfl) (by show _=_+1; rw [Na,Zr,hO]) (by show _+1<_; rw [Na,Zr,hO]; omega) rfl ?_
    refine Ls [42,38,41,0,3,4,7,8,5] rfl ?_
    exact Qo (k_ _ _ ⟨rfl,rfl⟩)
   refine Xs 41 (y:=.one (.orow r 9 (0+k) 0)) rfl (by show AV.one (.orow r 9 (0+k) (i-k))=_; rw [show i-k=0 by omega]) ?_
   refine Ev Ee Ee Tryz.typeInfo47 qWo rfl rfl rfl ?_
   refine Xs 41 (y:=.one (.orow r 9 (0+k) (i-k))) rfl (by show AV.one (.orow r 9 (0+k) 0)=_; rw [show i-k=0 by omega]) ?_
   refine Ls [42,38,41,0,3,4,7,8,5] rfl ?_
   exact Qo (k_ _ _ ⟨by rw [Ll (by rw [Zr,hO]; omega)] <;> rfl,rfl⟩)
  ·rintro u_ B_ ⟨rfl,rfl⟩
   exact ⟨Qv rfl rfl,Qv rfl rfl,Fu k Ee qWo rfl rfl rfl (by omega) rfl,Qv rfl rfl,Qv rfl rfl,Qi (i) Ee qWo rfl rfl (rfl) (Qg hc) rfl rfl,Zq Tryz.isAgg47 qWo rfl rfl rfl rfl,Qdf Ee qWo qUf rfl rfl rfl rfl rfl rfl rfl rfl rfl rfl,Qv rfl rfl,Qv rfl rfl,Wg k Ee qWo rfl rfl rfl (by omega) rfl,trivial,trivial⟩
  rintro u_ B_ ⟨rfl,rfl⟩
  refine ⟨_,rfl,kn ?_⟩
  refine Qq tt rfl ?_
  refine Zn (Zg (ls2:=((P4 Yu (Zf Yu (l.take i)) c).map rct)) (m2:=i+1) 0 Ee Ee Tryz.typeInfo47 rfl rfl qWo qUf rfl rfl rfl rfl rfl rfl rfl (by rw [Zr]; omega) ((fun z hz=>(Vw.1 hz).elim (fun e=>by rw [e]; rfl) (fun h=>(Jj (f:=rct) (sz:=9) _ fun _=>rfl) z (Pr h)))) ((fun z hz=>(Vw.1 hz).elim (fun e=>by rw [e]; exact Jx rfl _ (qZt.2 rfl)) (fun h=>(Wu (f:=rct) _ fun _=>rfl) z (Pr h)))) (by show k+(_+1)<_; rw [Na,Zr,hO]; omega) (by simp [P4,hp1,Ix,qJm]) (by show k+(_+1)=_; rw [Na,Zr,hO]; omega) fun r1=>ko ?_)
  refine Qr tt 1 rfl ?_
  refine Qf tt 1 [] (Zb (r:=((i+1:Nat):Int)) rfl rfl (Qm (by omega) (by omega)) rfl) rfl ?_
  refine X5 (fun _ k_=>Jq 0 rfl (by rw [←Ng hc]) (Qo k_)) rfl ?_
  refine Qj [3,7,8,0] rfl rfl ?_
  refine Q8 ?_
  refine ⟨_,?_,i+1,r1,by omega,rfl,rfl,rfl⟩
  omega
 have hO:(Zf Yu (l.take i)).length=i:=by rw [Y8,Kd]; omega
 have hi:l.take i=l:=Y0 (by omega)
 refine Qr tt 1 rfl ?_
 refine Z8 tt 2 [] (decide_eq_false (by omega)) rfl rfl ?_
 refine X5 (fun _ k_=>Xe 0 [2] rfl (Zc rfl) (by rw [Zr,hO]) (by rw [Zr,hO]; omega) rfl (Qo k_)) rfl ?_
 exact Xp tt [] rfl (by rw [hi]; rfl)
end Orr

namespace Orr
open Go
variable {P:Program} {ops:Array Oper} {n:Nat} {L:Sg} {B:List OB} {ty:TypeId} {pos:String} {after:Array Edge} {Q:Exit→Sg→List OB→Prop}
theorem Qb3:∀ (cs vs:List Value),vs.length=cs.length→upd cs 0 vs=vs
  | [],[],_=>rfl
  |
   c::cs,v::vs,h=>by
   simp only [upd]
   rw [Qb3 cs vs (by simpa using h)]
  | [],_::_,h=>by simp at h
  | _::_,[],h=>by simp at h
def hdB (c t j T:Nat) (cs:List Value) (p:Nat→Bool) (v:Nat→Value):List Va:=if p t=true then [(gOf (v t),T,if p c=true then (v j).cells.toList else cs)] else []
theorem Qa0 {c t j T i:Nat} {cs:List Value} {p:Nat→Bool} {v:Nat→Value} (u:Value) (h1:i≠t) (h2:i≠c) (h3:p c=true→i≠j):hdB c t j T cs (fun k=>k == i || p k) (fun k=>if k=i then u else v k)=hdB c t j T cs p v:=by
  unfold hdB
  have e1:(t == i || p t)=p t:=by simp [Ne.symm h1]
  have e2:(c == i || p c)=p c:=by simp [Ne.symm h2]
  simp only [e1,e2,if_neg (Ne.symm h1)]
  split
  · congr 3
    split
    · rename_i hc
      rw [if_neg (Ne.symm (h3 hc))]
    · rfl
  · rfl
theorem M6:∀ {A:Ra} {i:Nat},(∀ x∈A,x.1≠i)→Ys A i=none
  | [],_,_=>rfl
  |
   x::A,i,h=>by
   simp only [Ys]
   have hx:=h x (Fm ..)
   have:Nat.beq x.1 i=false:=by
     cases e:Nat.beq x.1 i with
     | false=>rfl
     | true=>exact absurd (Fj e) hx
   rw [this]
   exact M6 fun y hy=>h y (Ge _ hy)
theorem Rd {id:Nat} {l:List Oper} (hm:P.follows .mixedOrders=true) (c t j T T0 dp dv:Nat) (cs:List Value) (ys:List LV) (D:List Nat) (deps:List (List Nat)) (us:List AV) (A2:Ra) (zss:List (List LV)) (hchk:K7 l (c+1) (D.map some++[none]) deps=true)
    (hDm:(Nat.beq D.length c && Nat.beq us.length c && Nat.blt t c && Nat.blt j c && !(Nat.beq j t) && (Ys A2 j).isNone && deps.all fun js=>js.all fun j=>Nat.blt j c)=true) (hAs:(A2.all fun x=>Nat.blt x.1 c)=true) (hnd:(((t,T,cs)::A2:Ra).map (·.1)).Nodup) (hzl:Qk6 A2 zss) (hnone:(D.all fun t=>(lk L t).isNone)=true)
    (hdp:((deps.take c).all fun js=>js.all fun k=>(Ys ((t,T,cs)::A2) k).isNone)=true) (hjs:(match deps[c]? with
      | some js=>js.contains t && js.contains j
      | none=>false)=true)
    (ho0:l[c]? = some { dst:=none,op:=.store T0 (.tmp dp) (.tmp dv),type:=ty,pos:=pos,after:=after,guard:=none }) (hDt:D[t]? = some dp) (hDj:D[j]? = some dv) (hT0:∀ w,(Go.sizeOf T0).run P w=.ok cs.length w)
    {uj:AV} (huj0:us[j]? = some uj) (hul:Gh uj=some ys) (hyl:Nat.beq ys.length cs.length=true)
    (hops:Qne P l.toArray n L B ((t,T,cs)::A2) D us 0 (depsOf D us deps) (l.take c))
    (k:∀ g:Nat→Nat,∃ L2 B2,S7 ((t,T,cs)::A2) g 0 D us L=some L2∧Ql1 A2 zss g=some B2∧AW P l.toArray n (l.drop (c+1)) (fun L B=>Q .normal L B) L2 (.blk (g t) T ys::(B2++B))):AC P n (.region id l.toArray true) Q L B:=by
  rintro K Ob w0 w a ⟨L',Bs,h,hL,hB⟩
  simp only [qXp,C4] at hDm hnone hAs hdp
  obtain ⟨⟨⟨⟨⟨⟨hD,hU⟩,htc⟩,hjc⟩,hjt⟩,hjA⟩,hdl1⟩:=hDm
  have huj:∀ u,us[j]? = some u→Gh u=some ys:=fun u h=>by rw [huj0] at h; injection h with h; subst h; exact hul
  have hD:=Fj hD
  have hU:=Fj hU
  rw [Mo] at htc hjc
  have hjt:j≠t:=fun e=>by subst e; simp at hjt
  rw [qXo] at hjA
  have hdl1:∀ js∈deps,∀ k∈js,k<c:=fun js hj k hk=>by have:=hdl1 js hj k hk; rwa [Mo] at this
  have hnd1:=qJp.1 (show (t::A2.map (·.1)).Nodup from hnd)
  have htA:Ys A2 t=none:=M6 fun x hx e=>hnd1.1 (Ww.2 ⟨x,hx,e⟩)
  let As:Ra:=(t,T,cs)::A2
  have hft:Ys As t=some (T,cs):=by
    show (match Nat.beq t t with
      | true=>some (T,cs)
      | false=>Ys A2 t)=_
    rw [Nat.beq_refl]
  have hfo:∀ i,i≠t→Ys As i=Ys A2 i:=fun i hi=>by
    show (match Nat.beq t i with
      | true=>some (T,cs)
      | false=>Ys A2 i)=_
    have:Nat.beq t i=false:=by
      cases e:Nat.beq t i with
      | false=>rfl
      | true=>exact absurd (Fj e).symm hi
    rw [this]
  have hdl2:∀ i,i<c→∀ dj,deps[i]? = some dj→∀ k∈dj,Ys As k=none:=fun i hi dj hd k hk=>by
    have hmem:dj∈deps.take c:=Vo (i:=i) (by rw [Ei,if_pos hi]; exact hd)
    have:=hdp dj hmem k hk
    rwa [qXo] at this
  obtain ⟨L3,h1,h2,h3⟩:=only L hL
  have hst:St K Ob w0 w a n L3 [] Bs:={ h with slots:=fun t v hv=>h.slots t v (h2 t v hv) }
  have hst2:=hst.add (f:=SF L L3 B Bs [] []) ⟨h3,hB,trivial⟩
  have hc:=Hz hchk
  have hS:∀ i,(hi:i<c)→(Oo As 0 us).getD i U2=dF As i (us[i]'(by rw [hU]; exact hi)):=fun i hi=>by
    have:=Qcd As (us:=us) (k:=0) (i:=i) (Xx (by rw [hU]; exact hi))
    rw [V6,this,Vl]; rfl
  have hus:∀ i,(hi:i<c)→us.getD i .un=us[i]'(by rw [hU]; exact hi):=fun i hi=>by
    rw [V6,Xx (by rw [hU]; exact hi)]; rfl
  have hget:∀ (os:List Oper) (ds:List (List (Nat×AV))) (k:Nat),Qne P l.toArray n L B As D us k ds os→∀ (i:Nat) dep o,ds[i]? = some dep→os[i]? = some o→DOp P l.toArray n L B As (k+i) (D.getD (k+i) 0) (us.getD (k+i) .un) dep o:=by
    intro os
    induction os with
    | nil=>intro ds k _ i dep o _ ho; simp at ho
    |
     cons o os ih =>
     intro ds k hap i dep o' hd ho
     rcases ds with _ | ⟨dp,ds⟩
     · simp at hd
     · cases i with
       | zero=>simp at hd ho; subst hd ho; exact hap.1
       |
        succ i =>
        have:=ih ds (k+1) hap.2 i dep o' (by simpa using hd) (by simpa using ho)
        rw [show k+(i+1)=k+1+i from by omega]
        exact this
  let Bf:(Nat→Bool)→(Nat→Value)→List Va:=fun p v=>hdB c t j T cs p v++(T1 A2 p v++Bs)
  let Inv:(Nat→Bool)→(Nat→Value)→World→List Va→Prop:=fun p v _ Bx=>(p c=true→p t=true∧p j=true)∧Bx=Bf p v
  have hone:∀ (i:Nat) (dj:List Nat) (o:Oper),deps[i]? = some dj→l[i]? = some o→i<c+1→Hn P l.toArray K Ob w0 n L3 [SF L L3 B Bs [] []] Inv (D.map some++[none]) (Oo As 0 us) i dj o:=by
    intro i dj o hd ho hi p hpi hpd v Fx a' w' Bx hinv hs
    obtain ⟨hcl,rfl⟩:=hinv
    have hjm:=hdl1 dj (Vo hd)
    rw [Qhf D v dj fun j hj=>by rw [hD]; exact hjm j hj] at hs
    obtain ⟨h6,h7,_⟩:(SF L L3 B Bs [] []).holds w' (Q3 Ob (Bf p v)):=hs.facts _ (Y7.2 (.inr (by simp)))
    have hfact:∀ j∈dj,(dF As j (us.getD j .un) (v j)).holds w' (Q3 Ob (Bf p v)):=fun j hj=>by
      have:=hs.facts ((Oo As 0 us).getD j U2 (v j)) (Y7.2 (.inl (Ww.2 ⟨j,hj,rfl⟩)))
      rw [hS j (hjm j hj)] at this
      rw [hus j (hjm j hj)]
      exact this
    rcases Mq i c with hic | hic
    · have hop:=hget (l.take c) _ 0 hops i _ o (Ul hd) (by rw [Ei,if_pos hic]; exact ho)
      rw [Vl] at hop
      have hjn:=hdl2 i hic dj hd
      have hfacts:∀ j∈dj,ARep w' (Q3 Ob (Bf p v)) (v j) (us.getD j .un):=fun j hj=>by
        have:=hfact j hj
        unfold dF at this
        rw [hjn j hj] at this
        exact this
      have hdk:=U8 D i (by rw [hD]; exact hic)
      have hne:i≠c:=by omega
      have hpc:∀ u:Value,((c == i || p c)=true→(t == i || p t)=true∧(j == i || p j)=true):=fun _ hh=>by
        have hh:p c=true:=by simpa [Ne.symm hne] using hh
        obtain ⟨h8,h9⟩:=hcl hh
        simp [h8,h9]
      have hij:p c=true→i≠j:=fun hh e=>by subst e; rw [(hcl hh).2] at hpi; cases hpi
      unfold DOp at hop
      by_cases hit:i=t
      · subst hit
        rw [hft] at hop
        have hw:=hop K Ob w0 w' a' _ _ _ hs
        refine Wt hs.defers (fun _ _ ⟨_,hh⟩=>hh.defers) hw fun a2 w2 hh=>?_
        obtain ⟨g,h8⟩:=hh
        have hpc0:p c=false:=by
          cases hh:p c with
          | false=>rfl
          | true=>rw [(hcl hh).1] at hpi; cases hpi
        have e1:(i,T,cs).1=i:=rfl
        have hBf:Bf (fun j=>j == i || p j) (fun j=>if j=i then .pointer (some ⟨g,0,none⟩) else v j)=(g,Tag.ty T,cs)::Bf p v:=by
          have e2:hdB c i j T cs p v=[]:=by unfold hdB; rw [if_neg (by rw [hpi]; decide)]
          have e3:hdB c i j T cs (fun j=>j == i || p j) (fun j=>if j=i then .pointer (some ⟨g,0,none⟩) else v j)=[(g,Tag.ty T,cs)]:=by
            unfold hdB
            simp [hpc0,Ne.symm hne,gOf]
          show _++(T1 A2 _ _++Bs)=(g,Tag.ty T,cs)::(hdB c i j T cs p v++(T1 A2 p v++Bs))
          rw [e2,e3,Gy (As:=A2) p v _ htA]; rfl
        refine wpList_nil ⟨rfl,.pointer (some ⟨g,0,none⟩),_,⟨hpc undef,hBf.symm⟩,?_⟩
        rw [if_pos hdk.2,hdk.1,hS i hic]
        refine h8.drawEnd (by simp [Z0]) ?_
        unfold dF; rw [hft]; exact ⟨g,rfl⟩
      · rw [hfo i hit] at hop
        cases hf:Ys A2 i with
        |
         none =>
         rw [hf] at hop
         have hw:=AP.frame hop K Ob w0 w' a' (hdB c t j T cs p v++T1 A2 p v) Bs _ _ (by rw [P6]; exact hs) (by rw [P6]; exact Ft h6 hfacts) (by rw [P6]; exact h7)
         refine Wt hs.defers (fun _ _ ⟨_,hh,_⟩=>hh.defers) hw fun a2 w2 hh=>?_
         obtain ⟨x,h8,h9⟩:=hh
         rw [P6] at h8 h9
         have hBf:Bf (fun j=>j == i || p j) (fun j=>if j=i then x else v j)=Bf p v:=by
           show _++(T1 A2 _ _++Bs)=_
           rw [Qa0 x hit hne hij,Gy (As:=A2) p v x hf]
         refine wpList_nil ⟨rfl,x,Bf p v,⟨hpc x,hBf.symm⟩,?_⟩
         rw [if_pos hdk.2,hdk.1,hS i hic]
         rw [hus i hic] at h9
         refine h8.drawEnd (by simp [Z0]) ?_
         unfold dF; rw [hfo i hit,hf]; exact h9
        |
         some q =>
         obtain ⟨T',cs'⟩:=q
         rw [hf] at hop
         have hw:=hop K Ob w0 w' a' _ _ _ hs
         refine Wt hs.defers (fun _ _ ⟨_,hh⟩=>hh.defers) hw fun a2 w2 hh=>?_
         obtain ⟨g,h8⟩:=hh
         have hp:=Qc9 (As:=A2) p v g hnd1.2 hf hpi
         have hperm:(Bf (fun j=>j == i || p j) (fun j=>if j=i then .pointer (some ⟨g,0,none⟩) else v j)).Perm ((g,Tag.ty T',cs')::Bf p v):=by
           show (hdB c t j T cs _ _++(T1 A2 _ _++Bs)).Perm ((g,Tag.ty T',cs')::(hdB c t j T cs p v++(T1 A2 p v++Bs)))
           rw [Qa0 _ hit hne hij]
           refine ((hp.append_right Bs).append_left _).trans ?_
           exact qVo
         refine wpList_nil ⟨rfl,.pointer (some ⟨g,0,none⟩),_,⟨hpc undef,rfl⟩,?_⟩
         rw [if_pos hdk.2,hdk.1,hS i hic]
         have h9:=h8.perm hperm
         refine h9.drawEnd (by simp [Z0]) ?_
         unfold dF; rw [hfo i hit,hf]; exact ⟨g,rfl⟩
    · obtain rfl:i=c:=by omega
      rw [ho] at ho0
      injection ho0 with ho0
      subst ho0
      rw [hd] at hjs
      simp only [qXp,qYj] at hjs
      have hpt:=hpd t hjs.1
      have hpj:=hpd j hjs.2
      have ht1:=hfact t hjs.1
      unfold dF at ht1
      rw [hft] at ht1
      obtain ⟨g,hg⟩:∃ g,v t=.pointer (some ⟨g,0,none⟩):=ht1
      have hj1:=hfact j hjs.2
      unfold dF at hj1
      rw [hfo j hjt,hjA] at hj1
      have hj1:ARep w' (Q3 Ob (Bf p v)) (v j) (us.getD j .un):=hj1
      obtain ⟨hc2,_⟩:=Fq hj1 (huj _ (by rw [hus j hjc]; exact Xx _))
      have hBf:Bf p v=(g,Tag.ty T,cs)::(T1 A2 p v++Bs):=by
        show hdB i t j T cs p v++_=_
        unfold hdB
        rw [if_pos hpt,if_neg (by rw [hpi]; decide),hg]; rfl
      have hlx:Z0 (dj.map (fun j=>(D.getD j 0,v j))++L3) dp=some (v t):=by
        have:=Wf (D:=fun j=>D.getD j 0) (v:=v) (L:=L3) (ls:=dj) hjs.1 (fun x hx y hy e=>?_)
        · rw [V6,hDt] at this; exact this
        · exact hc.inj x (by have:=hjm x hx; omega) y (by have:=hjm y hy; omega) (U8 D x (by rw [hD]; exact hjm x hx)).2 (U8 D y (by rw [hD]; exact hjm y hy)).2 (by rw [(U8 D x (by rw [hD]; exact hjm x hx)).1,(U8 D y (by rw [hD]; exact hjm y hy)).1]; exact e)
      have hly:Z0 (dj.map (fun j=>(D.getD j 0,v j))++L3) dv=some (v j):=by
        have:=Wf (D:=fun j=>D.getD j 0) (v:=v) (L:=L3) (ls:=dj) hjs.2 (fun x hx y hy e=>?_)
        · rw [V6,hDj] at this; exact this
        · exact hc.inj x (by have:=hjm x hx; omega) y (by have:=hjm y hy; omega) (U8 D x (by rw [hD]; exact hjm x hx)).2 (U8 D y (by rw [hD]; exact hjm y hy)).2 (by rw [(U8 D x (by rw [hD]; exact hjm x hx)).1,(U8 D y (by rw [hD]; exact hjm y hy)).1]; exact e)
      have hyl:=Fj hyl
      have hvl:(v j).cells.toList.length=cs.length:=hc2.len.trans hyl
      rw [hBf] at hs
      refine Z3 (g:=g) (o:=0) (cs:=cs) (T':=T) hs 0 rfl (by show Z0 _ _=_; rw [hlx,hg]) (by show Z0 _ _=_; exact hly) hT0 rfl hvl (by rw [Nat.ble_eq]; omega) (C4.2 hc2.one) fun w2 h8=>?_
      rw [Qb3 _ _ hvl] at h8
      have hBf2:Bf (fun k=>k == i || p k) (fun k=>if k=i then undef else v k)=(g,Tag.ty T,(v j).cells.toList)::(T1 A2 p v++Bs):=by
        show hdB i t j T cs _ _++(T1 A2 _ _++Bs)=_
        have e2:Ys A2 i=none:=M6 fun x hx e=>by have:=hAs x hx; rw [Mo] at this; omega
        rw [Gy (As:=A2) p v _ e2]
        unfold hdB
        have e3:t≠i:=by omega
        have e4:j≠i:=by omega
        simp [hpt,e3,e4,hg,gOf]
      refine wpList_nil ⟨rfl,undef,_,⟨fun _=>by simp [hpt,hpj],rfl⟩,?_⟩
      have hE:dE (D.map some++[none]) i=false:=by rw [←hD]; exact Nt D
      rw [if_neg (by rw [hE]; decide),hBf2]
      have e5:(Oo As 0 us).getD i U2=U2:=by
        have hlen:∀ (us:List AV) (k:Nat),(Oo As k us).length=us.length:=by
          intro us
          induction us with
          | nil=>intro k; rfl
          | cons u us ih=>intro k; simp [Oo,ih]
        rw [V6,Eh (by rw [hlen,hU]; exact X2 _)]; rfl
      rw [e5]
      exact St.drawEnd0 (f:=U2 undef) (h8:St K Ob w0 w2 a' n _ (_++([SF L L3 B Bs [] []]++Fx)) _) trivial
  have hdrawops:∀ (js:List (List Nat)) (os:List Oper) (k:Nat),(∀ i dj o,js[i]? = some dj→os[i]? = some o→Hn P l.toArray K Ob w0 n L3 [SF L L3 B Bs [] []] Inv (D.map some++[none]) (Oo As 0 us) (k+i) dj o) →
      Np P l.toArray K Ob w0 n L3 [SF L L3 B Bs [] []] Inv (D.map some++[none]) (Oo As 0 us) k js os:=by
    intro js
    induction js with
    | nil=>intro os k _; cases os <;> trivial
    |
     cons dj js ih =>
     intro os k hall
     rcases os with _ | ⟨o,os⟩
     · trivial
     · refine ⟨by have:=hall 0 dj o rfl rfl; rwa [Mp] at this,ih os (k+1) fun i dj' o' hd ho=>?_⟩
       have:=hall (i+1) dj' o' (by simpa using hd) (by simpa using ho)
       rwa [show k+(i+1)=k+1+i from by omega] at this
  refine Qht hm (c+1) (D.map some++[none]) deps (Oo As 0 us) Inv hchk hst2 (fun w' hw'=>⟨fun hh=>by simp at hh,by show Bs=hdB _ _ _ _ _ _ _++_; unfold hdB; simp [T1]⟩) ?_ (hdrawops deps l 0 fun i dj o hd ho=>by
    rw [Vl]
    exact hone i dj o hd ho (by have:=(Uy.1 hd).1; rw [hc.deplen] at this; exact this)) fun p hp v a' w' Bx hinv hs=>?_
  · rw [C4]
    intro j hj
    have hjm:j<c+1:=Tu.1 hj
    rcases Mq j c with hjc | hjc
    · rw [(U8 D j (by rw [hD]; exact hjc)).1]
      have hmem:D.getD j 0∈D:=by rw [V6,Xx (by rw [hD]; exact hjc)]; exact qJa _
      have:=hnone _ hmem
      rw [qXo] at this
      rw [h1 _ this]; simp
    · obtain rfl:j=c:=by omega
      have hE:dE (D.map some++[none]) j=false:=by rw [←hD]; exact Nt D
      rw [hE]; rfl
  · obtain ⟨_,rfl⟩:=hinv
    have hdL:=Qnp D v
    rw [hD] at hdL
    rw [hdL] at hs
    let g:Nat→Nat:=fun j=>gOf (v j)
    have hfct:∀ i,(hi:i<c)→(dF As i (us.getD i .un) (v i)).holds w' (Q3 Ob (Bf p v)):=fun i hi=>by
      have:=hs.facts ((Oo As 0 us).getD i U2 (v i)) (Y7.2 (.inl (Ww.2 ⟨i,Tu.2 (by omega),rfl⟩)))
      rw [hS i hi] at this
      rw [hus i hi]
      exact this
    have hall:Bf p v=(g t,Tag.ty T,(v j).cells.toList)::(A2.map (fun x=>(g x.1,Tag.ty x.2.1,x.2.2))++Bs):=by
      show hdB c t j T cs p v++(T1 A2 p v++Bs)=_
      unfold hdB T1
      rw [if_pos (hp t (by omega)),if_pos (hp c (by omega)),qVt.2 fun x hx=>hp x.1 (by have:=hAs x hx; rw [Mo] at this; omega)]
      rfl
    have hf1:∀ k,k<D.length→Ys As (0+k)=none→ARep w' (Q3 Ob (Bf p v)) (v (0+k)) (us.getD k .un):=fun k hk hf=>by
      rw [Vl] at hf ⊢
      have:=hfct k (by omega)
      unfold dF at this
      rw [hf] at this
      exact this
    have hf2:∀ k,k<D.length→(Ys As (0+k)).isSome=true→v (0+k)=.pointer (some ⟨g (0+k),0,none⟩):=fun k hk hf=>by
      rw [Vl] at hf ⊢
      have:=hfct k (by omega)
      unfold dF at this
      cases hq:Ys As k with
      | none=>rw [hq] at hf; cases hf
      |
       some q =>
       rw [hq] at this
       obtain ⟨g',hg⟩:=this
       show v k=.pointer (some ⟨gOf (v k),0,none⟩)
       rw [hg]; rfl
    obtain ⟨h6,h7,_⟩:(SF L L3 B Bs [] []).holds w' (Q3 Ob (Bf p v)):=hs.facts _ (Y7.2 (.inr (by simp)))
    obtain ⟨L2,B2,hk1,hk2,hk3⟩:=k g
    have hlk:=C1 h6 hk1 hf1 hf2
    have hr:List.range' 0 D.length=List.range c:=by rw [List.range_eq_range',hD]
    rw [hr] at hlk
    simp only [qYg] at hlk
    have hj1:=hf1 j (by omega) (by rw [Vl,hfo j hjt]; exact hjA)
    rw [Vl] at hj1
    obtain ⟨hc2,_⟩:=Fq hj1 (huj _ (by rw [hus j hjc]; exact Xx _))
    have hB2:=Ik (w:=w') (O:=Q3 Ob (Bf p v)) hzl hk2 h7
    have hB3:BsRep w' (Q3 Ob (Bf p v)) (.blk (g t) T ys::(B2++B)) (Bf p v):=by
      have:BsRep w' (Q3 Ob (Bf p v)) (.blk (g t) T ys::(B2++B)) ((g t,Tag.ty T,(v j).cells.toList)::(A2.map (fun x=>(g x.1,Tag.ty x.2.1,x.2.2))++Bs)):=⟨[_],_,rfl,⟨_,rfl,hc2⟩,hB2⟩
      rwa [←hall] at this
    exact hk3 K Ob w0 w' a' _ ⟨_,Bf p v,hs.noFacts,hlk,hB3⟩ fun a2 w2 h=>h
end Orr

namespace Orr
open Go
variable {P:Program} {ops:Array Oper} {n:Nat} {rest:List Oper} {N:Sg→List OB→Prop} {L:Sg} {B:List OB}
def Qba:Nat→Nat→List LV→Option (List LV)
  |
   0,sz,x::l=>match x.isNil with
   | true=>some (.orow none sz 0 0::l)
   | false=>none
  |
   j+1,sz,x::l=>match Qba j sz l with
   | some r=>some (x::r)
   | none=>none
  | _,_,[]=>none
theorem Qfz {w:World} {O:Nat→Prop}:∀ {j sz:Nat} {xs ys:List LV} {vs:List Value},Qba j sz xs=some ys→XReps w O vs xs→XReps w O vs ys
  | _,_,[],_,_,h,_=>by simp [Qba] at h
  | _,_,_::_,_,[],_,h=>h.elim
  |
   0,sz,x::l,ys,v::vs,h,hr=>by
   simp only [Qba] at h
   split at h
   · rename_i e
     injection h with h; subst h
     have:x=.nils:=by cases x <;> first | rfl | (simp [LV.isNil] at e)
     subst this
     have hv:LRep w O v .nils:=hr.1
     cases hv
     exact ⟨⟨rfl,rfl,rfl⟩,hr.2⟩
   · cases h
  |
   j+1,sz,x::l,ys,v::vs,h,hr=>by
   simp only [Qba] at h
   split at h
   · rename_i r hq
     injection h with h; subst h
     exact ⟨hr.1,Qfz hq hr.2⟩
   · cases h
theorem Mv (i j E sz:Nat) {g:Nat} {T:TypeId} {xs ys:List LV} {B':List OB} (hi:Jr B i=some (.blk g T xs,B')) (hsz:Nat.blt 0 sz=true) (hj:Qba j sz xs=some ys)
    (k:AW P ops n rest N L (.blk g T ys::.row none E sz []::B')):AW P ops n rest N L B:=by
  intro K Ob w0 w a Q hs hQ
  rw [Mo] at hsz
  obtain ⟨L',Bo,Bs,h1,h2,⟨cs,rfl,h3⟩,h4⟩:=hs.front hi
  exact k _ _ _ _ _ _ ⟨L',[(g,Tag.ty T,cs)]++Bs,h1,h2,[(g,Tag.ty T,cs)],Bs,rfl,⟨cs,rfl,Qfz hj h3⟩,[],Bs,rfl,⟨hsz,rfl,rfl⟩,h4⟩ hQ
theorem G5 (i k j:Nat) {r:Option (Nat×Nat)} {E sz len g:Nat} {T:TypeId} {ls:List (List LV)} {xs ys:List LV} {B' B2:List OB} (hi:Jr B i=some (.row r E sz ls,B')) (hk:Jr B' k=some (.blk g T xs,B2))
    (hj:xs[j]? = some (.orow r sz 0 len)) (hys:xs.set j (.row ls)=ys) (hlen:len=ls.length) (h47:ls.length<140737488355328) (kk:AW P ops n rest N L (.blk g T ys::B2)):AW P ops n rest N L B:=by
  intro K Ob w0 w a Q hs hQ
  subst hlen hys
  obtain ⟨L',Bo,Bs,h1,h2,h3,h4⟩:=hs.front hi
  have hle:Le w (Q3 Ob (Bo++Bs)) w (Q3 Ob Bs):=⟨X2 _,fun _ _ _=>rfl,fun b _ ho=>ho.imp id fun hm=>by simp only [F6,Y7]; exact .inr hm⟩
  have conv:∀ v,XRep w (Q3 Ob Bs) v (.orow r sz 0 ls.length)→LRep w (Q3 Ob Bs) v (.row ls):=fun v hv=>by
    have hv2:ARep w (Q3 Ob (Bo++Bs)) v (.one (.orow r sz 0 ls.length)):=by
      rcases r with _ | ⟨g,c⟩ <;> exact hv
    have:=Qkq h1 h3 hv2 rfl (by omega) h47
    rw [qXf,qJu] at this
    exact this
  have h5:=h4.keep hle
  have h6:=Fd hle h2
  obtain ⟨hxk,rfl⟩:=Uu hk
  obtain ⟨Bo2,Bs2,hp,⟨cs,rfl,h7⟩,h8⟩:=h5.front hxk
  have ho:Q3 Ob Bs=Q3 Ob ([(g,Tag.ty T,cs)]++Bs2):=by
    funext b
    simp only [Q3]
    rw [show (b∈Bs.map (·.1))=(b∈([(g,Tag.ty T,cs)]++Bs2).map (·.1)) from propext ((hp.map _).mem_iff)]
  obtain ⟨v,hv,hvr⟩:=h7.get hj
  have h9:=conv v hvr
  have h10:XReps w (Q3 Ob Bs) cs (xs.set j (.row ls)):=by
    refine XReps.of (by rw [H6]; exact h7.len) fun q u x hu hx=>?_
    rw [qVd] at hx
    split at hx
    · rename_i e
      subst e
      split at hx <;> first | cases hx | skip
      rw [hv] at hu; injection hu with hu; subst hu
      exact LRep.x h9
    · exact h7.get' hu hx
  rw [ho] at h6 h8 h10
  exact kk _ _ _ _ _ _ ⟨L',[(g,Tag.ty T,cs)]++Bs2,h1.tailB.perm hp.symm,h6,[(g,Tag.ty T,cs)],Bs2,rfl,⟨cs,rfl,h10⟩,h8⟩ hQ
end Orr

namespace Orr
open Go Go.Proofs
theorem Qnw {p q:List Int} (h:¬p.length=0):R9 p q=p:=if_pos (by omega)
theorem Qnv {p q:List Int} (h:p.length=0):R9 p q=q:=if_neg (by omega)
set_option maxRecDepth 20000 in
theorem O2 {a b:Pt} {q:Rat} {c:List (List Int)} (ha:Rs a.c) (hb:Rs b.c) (hq:Qs 1000000 q):Za Tryz.prog 282 [.one (.int .i64 2),.agg [Zp ((zp [-(q).num,((q).den:Int)])),Kw c,dl ((dig ((q).num).natAbs)),sg ((q).num),dl ((dig (((q).den:Int)).natAbs)),sg (((q).den:Int)),dl ((dig ((q).num).natAbs)),sg ((q).num),dl ((dig (((q).den:Int)).natAbs)),sg (((q).den:Int))],.one (.row [[Zp ((X6 a.c.x a.c.d)),Zp ((X6 a.c.y a.c.d)),pl a.c.x,pl a.c.y,sg a.c.d,mg a.c.d,.int .i64 a.id],[Zp ((X6 b.c.x b.c.d)),Zp ((X6 b.c.y b.c.d)),pl b.c.x,pl b.c.y,sg b.c.d,mg b.c.d,.int .i64 b.id]])] (.tup [.agg [.int .i64 ((((Jg q a b))).kind),.int .i64 ((((Jg q a b))).i0),.int .i64 ((((Jg q a b))).i1),.int .i64 ((((Jg q a b))).i2),.int .i64 ((((Jg q a b))).i3),Zp ((zp ((Jg q a b)).p)),.int .i64 (((Jg q a b)).want),.row ([]),.bool false],.one (.bool true)]):=by
 refine X4 tt 0 [] Tryz.func282 Tryz.ntmps282 rfl rfl rfl ?_
 by_cases h0:(J2 b.c a.c).length=0
 ·have hei:=Qnv (q:=Yk b.c a.c) h0
  refine Qr tt 1 rfl ?_
  refine Zn (Qn qUf rfl rfl fun g1=>ko ?_)
  refine Qr tt 6 rfl ?_
  refine Qf tt 0 [] ((Qc rfl rfl (rfl) (Qw tt rfl rfl))) rfl ?_
  refine Qf tt 0 [] ((Qc rfl rfl (rfl) (Qw tt rfl rfl))) rfl ?_
  refine Qf tt 1 [] (Zw rfl (rfl) rfl rfl) rfl ?_
  refine Qf tt 0 [] ((Qc rfl rfl (rfl) (Qw tt rfl rfl))) rfl ?_
  refine Qf tt 0 [] ((Qc rfl rfl (rfl) (Qh (m:=2) Ue rfl (rfl) rfl))) rfl ?_
  refine Qf tt 0 [] ((Qc rfl rfl (rfl) (Qw tt rfl rfl))) rfl ?_
  refine Qf tt 0 [] ((Qc rfl rfl (rfl) (Qw tt rfl rfl))) rfl ?_
  refine Qf tt 0 [] ((Qc rfl rfl (rfl) (Qi (2) qUv Xw rfl rfl rfl rfl rfl rfl))) rfl ?_
  refine Qf tt 0 [] ((Qc rfl rfl (rfl) (Qw tt rfl rfl))) rfl ?_
  refine Qf tt 0 [] ((Qc rfl rfl (rfl) (Qw tt rfl rfl))) rfl ?_
  refine Qf tt 0 [] (Zw rfl (rfl) rfl rfl) rfl ?_
  refine Z8 tt 3 [] (rfl) rfl rfl ?_
  refine Zn (Qn qUf rfl rfl fun g2=>ko ?_)
  refine Xu tt 2 [0] rfl ?_
  refine Qf tt 1 [] (Qh (m:=2) Ue rfl (rfl) rfl) rfl ?_
  refine Gb 3 ?_
  refine J5 ?_
  refine Qr tt 1 rfl ?_
  refine Xh tt 5 [] (rfl) rfl rfl ?_
  refine Qf tt 4 [] (Qi (0) Ue Uf rfl rfl rfl rfl rfl rfl) rfl ?_
  refine Qf tt 1 [0] (Xa 0 Pq Xw rfl rfl rfl (by decide) rfl) rfl ?_
  refine Qf tt 1 [] (Zb (r:=((1:Nat):Int)) rfl rfl (rfl) rfl) rfl ?_
  refine Q8 ?_
  refine J5 ?_
  refine Qr tt 1 rfl ?_
  refine Xh tt 5 [] (rfl) rfl rfl ?_
  refine Qf tt 4 [] (Qi (1) Ue Uf rfl rfl rfl rfl rfl rfl) rfl ?_
  refine Qf tt 1 [0] (Xa 1 Pq Xw rfl rfl rfl (by decide) rfl) rfl ?_
  refine Qf tt 1 [] (Zb (r:=((2:Nat):Int)) rfl rfl (rfl) rfl) rfl ?_
  refine Q8 ?_
  refine J5 ?_
  refine Qr tt 1 rfl ?_
  refine Z8 tt 3 [] (rfl) rfl rfl ?_
  refine Z8 tt 2 [] (rfl) rfl rfl ?_
  refine Xh tt 0 [] (rfl) rfl rfl ?_
  refine Qy 8 Qp rfl rfl rfl ?_
  refine Qr tt 1 rfl ?_
  refine kd (Qi (1) Ue Uf rfl rfl rfl rfl rfl rfl) rfl ?_
  refine Qr tt 3 rfl ?_
  refine kd (Qi (0) Ue Uf rfl rfl rfl rfl rfl rfl) rfl ?_
  refine Qr tt 2 rfl ?_
  refine Qq tt rfl ?_
  refine kl tt 4 [0,0] qGn rfl rfl rfl (W5 (a:=b.c) (b:=a.c) (hb) (ha)) rfl rfl ?_
  refine Qf tt 1 [] (Qh (m:=((J2 b.c a.c)).length) Jy rfl (by rw [Q6,Ze]) rfl) rfl ?_
  refine Xh tt 0 [] (decide_eq_true (by simpa using h0)) rfl rfl ?_
  refine Qy 8 Qp rfl rfl rfl ?_
  refine Qr tt 1 rfl ?_
  refine kd (Qi (1) Ue Uf rfl rfl rfl rfl rfl rfl) rfl ?_
  refine Qr tt 3 rfl ?_
  refine kd (Qi (0) Ue Uf rfl rfl rfl rfl rfl rfl) rfl ?_
  refine Qr tt 2 rfl ?_
  refine Qq tt rfl ?_
  refine kl tt 5 [0,0] Tryz.func129 rfl rfl rfl (H0 (a:=b.c) (b:=a.c) (hb) (ha)) rfl rfl ?_
  refine kl tt 5 [0,0,1] qFy rfl rfl rfl (Kg (p:=(Yk b.c a.c)) (q:=q) (c:=c) (Q7 (G1 hb ha).1 (by omega)) (Xd (G1 hb ha).2 (by omega)) (hq)) rfl rfl ?_
  refine X5 (fun _ k_=>Vn (ys:=[.int .i64 2,.int .i64 a.id,.int .i64 b.id,.int .i64 0,.int .i64 0,Zp ((zp ((Yk b.c a.c)))),.int .i64 ((Fb (Yk b.c a.c) q)),.row ([]),.bool false]) 1 rfl rfl rfl (Qo k_)) rfl ?_
  exact kr2 tt [0] rfl (by simp only [Jg, *])
 have hei:=Qnw (q:=Yk b.c a.c) h0
 refine Qr tt 1 rfl ?_
 refine Zn (Qn qUf rfl rfl fun g3=>ko ?_)
 refine Qr tt 6 rfl ?_
 refine Qf tt 0 [] ((Qc rfl rfl (rfl) (Qw tt rfl rfl))) rfl ?_
 refine Qf tt 0 [] ((Qc rfl rfl (rfl) (Qw tt rfl rfl))) rfl ?_
 refine Qf tt 1 [] (Zw rfl (rfl) rfl rfl) rfl ?_
 refine Qf tt 0 [] ((Qc rfl rfl (rfl) (Qw tt rfl rfl))) rfl ?_
 refine Qf tt 0 [] ((Qc rfl rfl (rfl) (Qh (m:=2) Ue rfl (rfl) rfl))) rfl ?_
 refine Qf tt 0 [] ((Qc rfl rfl (rfl) (Qw tt rfl rfl))) rfl ?_
 refine Qf tt 0 [] ((Qc rfl rfl (rfl) (Qw tt rfl rfl))) rfl ?_
 refine Qf tt 0 [] ((Qc rfl rfl (rfl) (Qi (2) qUv Xw rfl rfl rfl rfl rfl rfl))) rfl ?_
 refine Qf tt 0 [] ((Qc rfl rfl (rfl) (Qw tt rfl rfl))) rfl ?_
 refine Qf tt 0 [] ((Qc rfl rfl (rfl) (Qw tt rfl rfl))) rfl ?_
 refine Qf tt 0 [] (Zw rfl (rfl) rfl rfl) rfl ?_
 refine Z8 tt 3 [] (rfl) rfl rfl ?_
 refine Zn (Qn qUf rfl rfl fun g4=>ko ?_)
 refine Xu tt 2 [0] rfl ?_
 refine Qf tt 1 [] (Qh (m:=2) Ue rfl (rfl) rfl) rfl ?_
 refine Gb 3 ?_
 refine J5 ?_
 refine Qr tt 1 rfl ?_
 refine Xh tt 5 [] (rfl) rfl rfl ?_
 refine Qf tt 4 [] (Qi (0) Ue Uf rfl rfl rfl rfl rfl rfl) rfl ?_
 refine Qf tt 1 [0] (Xa 0 Pq Xw rfl rfl rfl (by decide) rfl) rfl ?_
 refine Qf tt 1 [] (Zb (r:=((1:Nat):Int)) rfl rfl (rfl) rfl) rfl ?_
 refine Q8 ?_
 refine J5 ?_
 refine Qr tt 1 rfl ?_
 refine Xh tt 5 [] (rfl) rfl rfl ?_
 refine Qf tt 4 [] (Qi (1) Ue Uf rfl rfl rfl rfl rfl rfl) rfl ?_
 refine Qf tt 1 [0] (Xa 1 Pq Xw rfl rfl rfl (by decide) rfl) rfl ?_
 refine Qf tt 1 [] (Zb (r:=((2:Nat):Int)) rfl rfl (rfl) rfl) rfl ?_
 refine Q8 ?_
 refine J5 ?_
 refine Qr tt 1 rfl ?_
 refine Z8 tt 3 [] (rfl) rfl rfl ?_
 refine Z8 tt 2 [] (rfl) rfl rfl ?_
 refine Xh tt 0 [] (rfl) rfl rfl ?_
 refine Qy 8 Qp rfl rfl rfl ?_
 refine Qr tt 1 rfl ?_
 refine kd (Qi (1) Ue Uf rfl rfl rfl rfl rfl rfl) rfl ?_
 refine Qr tt 3 rfl ?_
 refine kd (Qi (0) Ue Uf rfl rfl rfl rfl rfl rfl) rfl ?_
 refine Qr tt 2 rfl ?_
 refine Qq tt rfl ?_
 refine kl tt 4 [0,0] qGn rfl rfl rfl (W5 (a:=b.c) (b:=a.c) (hb) (ha)) rfl rfl ?_
 refine Qf tt 1 [] (Qh (m:=((J2 b.c a.c)).length) Jy rfl (by rw [Q6,Ze]) rfl) rfl ?_
 refine Z8 tt 3 [0] (decide_eq_false (by simpa using h0)) rfl rfl ?_
 refine kl tt 5 [0,0,1] qFy rfl rfl rfl (Kg (p:=(J2 b.c a.c)) (q:=q) (c:=c) (Q7 (Uw hb ha).1 (by omega)) (Xd (Uw hb ha).2 (by omega)) (hq)) rfl rfl ?_
 refine X5 (fun _ k_=>Vn (ys:=[.int .i64 2,.int .i64 a.id,.int .i64 b.id,.int .i64 0,.int .i64 0,Zp ((zp ((J2 b.c a.c)))),.int .i64 ((Fb (J2 b.c a.c) q)),.row ([]),.bool false]) 1 rfl rfl rfl (Qo k_)) rfl ?_
 exact kr2 tt [0] rfl (by simp only [Jg, *])
set_option maxRecDepth 20000 in
theorem Qcp {a b:Pt} {q:Rat} {c:List (List Int)} (ha:Rs a.c) (hb:Rs b.c) (hq:Qs 1000000 q):Za Tryz.prog 221 [.one (.int .i64 2),.agg [Zp ((zp [-(q).num,((q).den:Int)])),Kw c,dl ((dig ((q).num).natAbs)),sg ((q).num),dl ((dig (((q).den:Int)).natAbs)),sg (((q).den:Int)),dl ((dig ((q).num).natAbs)),sg ((q).num),dl ((dig (((q).den:Int)).natAbs)),sg (((q).den:Int))],.one (.row [[Zp ((X6 a.c.x a.c.d)),Zp ((X6 a.c.y a.c.d)),pl a.c.x,pl a.c.y,sg a.c.d,mg a.c.d,.int .i64 a.id],[Zp ((X6 b.c.x b.c.d)),Zp ((X6 b.c.y b.c.d)),pl b.c.x,pl b.c.y,sg b.c.d,mg b.c.d,.int .i64 b.id]])] (.agg [.int .i64 ((((Jg q a b))).kind),.int .i64 ((((Jg q a b))).i0),.int .i64 ((((Jg q a b))).i1),.int .i64 ((((Jg q a b))).i2),.int .i64 ((((Jg q a b))).i3),Zp ((zp ((Jg q a b)).p)),.int .i64 (((Jg q a b)).want),.row ([]),.bool false]):=by
 refine X4 tt 1 [] Tryz.func221 Tryz.ntmps221 rfl rfl rfl ?_
 refine Zn (Qn qUf rfl rfl fun g1=>ko ?_)
 refine Qr tt 3 rfl ?_
 refine kl tt 3 [] Tryz.func282 rfl rfl rfl (O2 (q:=q) (c:=c) (a:=a) (b:=b) (ha) (hb) (hq)) rfl rfl ?_
 refine Zn (Qn qUf rfl rfl fun g2=>ko ?_)
 refine Xu tt 4 [0,0,1] rfl ?_
 exact Xp tt [1] rfl (rfl)
end Orr

namespace Orr
open Go Go.Proofs
theorem O1 {l:List Ct} (hl:l.length≤1000000):Za Tryz.prog 174 [.one (.row ([])),.one (Gl l)] (.one (Gl l)):=by
 refine X4 tt 2 [] Tryz.func174 Tryz.ntmps174 rfl rfl rfl ?_
 refine Qf tt 1 [] (Qh (m:=l.length) Ee rfl (Qbp _) rfl) rfl ?_
 refine Qj [0,1,8,9] rfl rfl ?_
 refine Zl (fun m L B=>∃ i,i≤l.length∧m=l.length-i∧L=[(0,.one (.row ([]))),(1,.one (Gl l)),(8,.one (.int .i64 (((l.length:Nat):Int)))),(9,.one (.int .i64 (((i:Nat):Int))))]∧B=[]) (m:=_) ⟨0,K6 _,rfl,rfl,rfl⟩ ?_
 rintro m L B ⟨i,hp0,hm,rfl,rfl⟩
 refine Qq tt rfl ?_
 by_cases hlt:i<l.length
 ·skip
  refine Qr tt 1 rfl ?_
  refine Xh tt 3 [] (decide_eq_true (by omega)) rfl rfl ?_
  refine Qf tt 1 [] (Qh (m:=([]).length) Ee rfl (rfl) rfl) rfl ?_
  refine Gb 1 ?_
  refine J5 ?_
  refine Qr tt 1 rfl ?_
  refine Z8 tt 0 [] (rfl) rfl rfl ?_
  refine Qf tt 1 [] (Zb (r:=((i+1:Nat):Int)) rfl rfl (Qm (by omega) (by omega)) rfl) rfl ?_
  refine Qj [0,1,8,9] rfl rfl ?_
  refine Q8 ?_
  refine ⟨_,?_,i+1,by omega,rfl,rfl,rfl⟩
  omega
 skip
 refine Qr tt 1 rfl ?_
 refine Z8 tt 2 [] (decide_eq_false (by omega)) rfl rfl ?_
 exact Xp tt [] rfl (rfl)
end Orr

namespace Orr
open Go
structure RawInt where
  b:Bool
  l:List Nat
structure RawPt where
  x:List RawInt
  y:List RawInt
  d:RawInt
  id:Int
abbrev Qip (z:RawInt):List LV:=[.bool z.b,Xv z.l]
def Y3 (l:List RawInt):LV:=.row (l.map Qip)
theorem Kk (l:List RawInt):Vq (Y3 l)=some l.length:=by simp [Vq,Y3]
abbrev rwp (z:RawPt):List LV:=[Y3 z.x,Y3 z.y,.bool z.d.b,Xv z.d.l,.int .i64 z.id]
def I7 (l:List RawPt):LV:=.row (l.map rwp)
theorem C7 (l:List RawPt):Vq (I7 l)=some l.length:=by simp [Vq,I7]
structure RawInt.Ok (z:RawInt):Prop where
  u:∀ u∈z.l,u<4294967296
structure RawPt.Ok (z:RawPt):Prop where
  x:∀ a∈z.x,a.Ok
  y:∀ a∈z.y,a.Ok
  d:z.d.Ok
  id:-9223372036854775808≤z.id∧z.id≤9223372036854775807
def RawInt.cut (z:RawInt):RawInt:=⟨z.b,z.l.take 1⟩
def J6 (most:Int) (z:RawInt):Int:=match z.l with
  | []=>0
  | u::_=>if z.b=true then -((u:Int) % (most+1)) else (u:Int) % (most+1)
theorem Ii {most:Int} (h:0≤most) (z:RawInt):-most≤J6 most z∧J6 most z≤most:=by
  unfold J6
  split
  · omega
  · rename_i u _ _
    have h1:=qXy (u:Int) (b:=most+1) (by omega)
    have h2:=qXs (u:Int) (b:=most+1) (by omega)
    split <;> omega
def Jw (most:Int) (l:List RawInt):List Int:=(l.take 3).map (J6 most)
def Z1 (most:Int) (x y:List RawInt) (d:RawInt):Crv:=⟨Jw most x,Jw most y,J6 3 d⟩
def Tc (most:Int) (z:RawPt):Pt:=⟨Z1 most z.x z.y z.d,z.id % 1000⟩
theorem Dy (most:Int) (l:List RawInt):(Jw most l).length≤3:=by unfold Jw; rw [Zr,Kd]; omega
theorem Bm {most:Int} {l:List RawInt} {i:Nat} {z:RawInt} (hi:i<3) (h:l[i]? = some z):Jw most (l.take (i+1))=Jw most (l.take i)++[J6 most z]:=by
  unfold Jw
  rw [qYq,qYq,qJv (by omega),qJv (by omega),qXq,h]
  simp
theorem Ye (most:Int) {l:List RawInt} {i:Nat} (h:l.length≤i∨3≤i):Jw most (l.take i)=Jw most l:=by
  unfold Jw
  rw [qYq]
  rcases Nat.le_total 3 i with h3 | h3
  · rw [Nb h3]
  · rcases h with h | h
    · rw [qJv h3,Y0 (l:=l) (i:=i) (by omega),Y0 (l:=l) (i:=3) (by omega)]
    · rw [qJv h3,show i=3 by omega]
theorem Dz {most:Int} {l:List RawInt} {z:Int} (hm:0≤most) (h:z∈Jw most l):-most≤z∧z≤most:=by
  obtain ⟨a,_,rfl⟩:=Ww.1 h
  exact Ii hm a
theorem Cn {most:Int} (hm:0≤most∧most≤999) (x y:List RawInt) (d:RawInt):Cs 10 3 (Z1 most x y d):=by
  have key:∀ z:Int,-999≤z∧z≤999→Xj z≤10:=fun z h=>Gg.2 (by omega)
  refine ⟨fun z hz=>?_,fun z hz=>?_,?_,Dy _ _,Dy _ _⟩
  · have:=Dz hm.1 hz; exact key _ (by omega)
  · have:=Dz hm.1 hz; exact key _ (by omega)
  · have:=Ii (most:=3) (by decide) d
    show Xj (J6 3 d)≤10
    exact key _ (by omega)
def K4 (n:Nat):List Pt→List Pt→List Pt
  | out,[]=>out
  | out,p::l=>if out.length<n then (if out.any (fun x=>decide (x.id=p.id))=true then K4 n out l else K4 n (out++[p]) l) else out
theorem Ta {n:Nat}:∀ (l out:List Pt) (p:Pt),(K4 n out l).length<n→(K4 n out l).any (fun x=>decide (x.id=p.id))=true→K4 n out (l++[p])=K4 n out l
  |
   [],out,p,h,ha=>by
   simp only [K4] at h ha
   show K4 n out [p]=out
   simp only [K4]
   rw [if_pos h,if_pos ha]
  |
   x::l,out,p,h,ha=>by
   show K4 n out (x::(l++[p]))=K4 n out (x::l)
   simp only [K4] at h ha ⊢
   split
   · rename_i h0
     rw [if_pos h0] at h ha
     split
     · rename_i h1
       rw [if_pos h1] at h ha
       exact Ta l out p h ha
     · rename_i h1
       rw [if_neg h1] at h ha
       exact Ta l _ p h ha
   · rfl
theorem H1 {n:Nat}:∀ (l out:List Pt) (p:Pt),(K4 n out l).length<n→(K4 n out l).any (fun x=>decide (x.id=p.id))=false→K4 n out (l++[p])=K4 n out l++[p]
  |
   [],out,p,h,ha=>by
   simp only [K4] at h ha
   show K4 n out [p]=out++[p]
   simp only [K4]
   rw [if_pos h,if_neg (by rw [ha]; simp)]
  |
   x::l,out,p,h,ha=>by
   show K4 n out (x::(l++[p]))=K4 n out (x::l)++[p]
   simp only [K4] at h ha ⊢
   split
   · rename_i h0
     rw [if_pos h0] at h ha
     split
     · rename_i h1
       rw [if_pos h1] at h ha
       exact H1 l out p h ha
     · rename_i h1
       rw [if_neg h1] at h ha
       exact H1 l _ p h ha
   · rename_i h0
     rw [if_neg h0] at h
     omega
theorem Cw {n:Nat}:∀ (l m out:List Pt),n≤(K4 n out l).length→K4 n out (l++m)=K4 n out l
  |
   [],m,out,h=>by
   simp only [K4] at h
   show K4 n out m=out
   match m with
   | []=>rfl
   | p::m=>simp only [K4]; rw [if_neg (by omega)]
  |
   x::l,m,out,h=>by
   show K4 n out (x::(l++m))=K4 n out (x::l)
   simp only [K4] at h ⊢
   split
   · rename_i h0
     rw [if_pos h0] at h
     split
     · rename_i h1
       rw [if_pos h1] at h
       exact Cw l m out h
     · rename_i h1
       rw [if_neg h1] at h
       exact Cw l m _ h
   · rfl
theorem Sm {n:Nat}:∀ (l out:List Pt),out.length≤n→(K4 n out l).length≤n
  | [],out,h=>h
  |
   x::l,out,h=>by
   simp only [K4]
   split
   · split
     · exact Sm l out h
     · exact Sm l _ (by rw [Fl]; show _+1≤_; omega)
   · exact h
theorem Bg {n:Nat}:∀ (l out:List Pt) {p:Pt},p∈K4 n out l→p∈out∨p∈l
  | [],out,p,h=>.inl h
  |
   x::l,out,p,h=>by
   simp only [K4] at h
   split at h
   · split at h
     · rcases Bg l out h with h | h
       · exact .inl h
       · exact .inr (Ge _ h)
     · rcases Bg l _ h with h | h
       · rcases Y7.1 h with h | h
         · exact .inl h
         · exact .inr (by rw [qZt.1 h]; exact Fm ..)
       · exact .inr (Ge _ h)
   · exact .inl h
def Jt (n:Nat) (most:Int) (zs:List RawPt):List Pt:=K4 n [] (zs.map (Tc most))
def Pt.nrm (p:Pt):Pt:=⟨p.c.norm,p.id⟩
end Orr

namespace Orr
open Go Go.Proofs
theorem Qtf (d:Nat) (x y:Int) (w:World):(Op.equalIn (d+1) 3 (.int .i64 x) (.int .i64 y)).run Tryz.prog w=.ok (decide (x=y)) w:=by
 simp [Op.equalIn,qWj]
 rfl
set_option maxRecDepth 20000 in
theorem Quf (d:Nat) (x0 x1 x2 x3 y0 y1 y2 y3:Int) (w:World):(Op.equalIn (d+1+1) 42 (.agg #[.int .i64 x0,.int .i64 x1,.int .i64 x2,.int .i64 x3]) (.agg #[.int .i64 y0,.int .i64 y1,.int .i64 y2,.int .i64 y3])).run Tryz.prog w=.ok (decide ([x0,x1,x2,x3]=[y0,y1,y2,y3])) w:=by
 rw [run_equalIn_array w (d+1) _ _ (n:=4) (e:=3) rfl rfl]
 rw [show List.range 4=[0,1,2,3] from rfl,show Tryz.prog.cellsOf 3=1 from rfl]
 simp [Op.eqItems,Go.part,S0,Qtf]
 by_cases h0:x0=y0 <;> by_cases h1:x1=y1 <;> by_cases h2:x2=y2 <;> by_cases h3:x3=y3 <;> simp [h0,h1,h2,h3]
set_option maxRecDepth 20000 in
theorem Qrd (d:Nat) (x x0 x1 x2 x3 y y0 y1 y2 y3:Int) (w:World):(Op.equalIn (d+1+1+1) 44 (.agg #[.int .i64 x,.int .i64 x0,.int .i64 x1,.int .i64 x2,.int .i64 x3]) (.agg #[.int .i64 y,.int .i64 y0,.int .i64 y1,.int .i64 y2,.int .i64 y3])).run Tryz.prog w=.ok (decide ([x,x0,x1,x2,x3]=[y,y0,y1,y2,y3])) w:=by
 rw [run_equalIn_struct w (d+1+1) 44 _ _ rfl Tryz.stoodInHeld44]
 have hf:(Tryz.prog.fieldsOf 44).toList=[{ name := "Kind",type:=3,offset:=0,embedded:=false,tag := "",pkgPath := "",byteOffset:=0 },{ name := "Ids",type:=42,offset:=1,embedded:=false,tag := "",pkgPath := "",byteOffset:=8 }]:=by simp [Program.fieldsOf,Tryz.underlying44]
 rw [hf]
 simp [Op.eqFields,Go.part,S0,Tryz.isAgg42,Tryz.sizeOf42,Xw,Qtf,Quf]
 by_cases h:x=y <;> by_cases h0:x0=y0 <;> by_cases h1:x1=y1 <;> by_cases h2:x2=y2 <;> by_cases h3:x3=y3 <;> simp [h,h0,h1,h2,h3]
theorem Qny (a b:List Int) (ha:a.length=5) (hb:b.length=5) (w:World):(Op.equal 44 (.agg (a.map (Value.int .i64)).toArray) (.agg (b.map (Value.int .i64)).toArray)).run Tryz.prog w=.ok (decide (a=b)) w:=by
 match a,ha,b,hb with
 | [x,x0,x1,x2,x3],_,[y,y0,y1,y2,y3],_=>exact Qrd 9997 x x0 x1 x2 x3 y y0 y1 y2 y3 w
theorem Oq {p q:List Int}:Za Tryz.prog 275 [.one (pl p),.one (pl q)] (.one (pl (R9 p q))):=by
 refine X4 tt 0 [] Tryz.func275 Tryz.ntmps275 rfl rfl rfl ?_
 by_cases h0:0<p.length
 ·skip
  refine Qr tt 2 rfl ?_
  refine Qf tt 1 [] (Qh (m:=p.length) Wr rfl (Y6 _) rfl) rfl ?_
  refine Xh tt 2 [] (decide_eq_true (by omega)) rfl rfl ?_
  exact Xp tt [] rfl (by rw [show R9 p q=p from if_pos h0])
 skip
 refine Qr tt 2 rfl ?_
 refine Qf tt 1 [] (Qh (m:=p.length) Wr rfl (Y6 _) rfl) rfl ?_
 refine Z8 tt 2 [] (decide_eq_false (by omega)) rfl rfl ?_
 exact Xp tt [] rfl (by rw [show R9 p q=q from if_neg h0])
theorem E3  : Za Tryz.prog 274 [.one (.int .i64 2)] (.one (.int .i64 2)):=by
 refine X4 tt 4 [] Tryz.func274 Tryz.ntmps274 rfl rfl rfl ?_
 refine Z8 tt 2 [] (rfl) rfl rfl ?_
 refine Xh tt 1 [] (rfl) rfl rfl ?_
 exact Xp tt [] rfl (rfl)
theorem Di {k i0 i1 i2 i3 l j0 j1 j2 j3:Int}:Za Tryz.prog 188 [.agg [.int .i64 k,.int .i64 i0,.int .i64 i1,.int .i64 i2,.int .i64 i3],.agg [.int .i64 l,.int .i64 j0,.int .i64 j1,.int .i64 j2,.int .i64 j3]] (.one (.bool (Gp [k,i0,i1,i2,i3] [l,j0,j1,j2,j3]))):=by
 refine X4 tt 8 [] Tryz.func188 Tryz.ntmps188 rfl rfl rfl ?_
 refine kif rfl (fun hb_if1=>?_) (fun hb_if1=>?_)
 ·try simp only [decide_eq_true_eq,decide_eq_false_iff_not,Vc,Vb] at hb_if1
  refine Qr tt 6 rfl ?_
  exact Xp tt [] rfl (by simp_all [Gp])
 try simp only [decide_eq_true_eq,decide_eq_false_iff_not,Vc,Vb] at hb_if1
 refine Qr tt 3 rfl ?_
 refine Gb 5 ?_
 refine J5 ?_
 refine Qr tt 1 rfl ?_
 refine Xh tt 1 [] (rfl) rfl rfl ?_
 refine Qf tt 5 [] (By 0 Pq Xw S0 rfl rfl rfl (by decide) rfl rfl) rfl ?_
 refine Qf tt 2 [] (Zo 0 Pq Xw rfl rfl rfl (by decide) rfl rfl) rfl ?_
 refine kif rfl (fun hb_if3=>?_) (fun hb_if3=>?_)
 ·try simp only [decide_eq_true_eq,decide_eq_false_iff_not,Vc,Vb] at hb_if3
  refine Qr tt 3 rfl ?_
  refine Qf tt 3 [] (Zo 0 Pq Xw rfl rfl rfl (by decide) rfl rfl) rfl ?_
  exact Xp tt [] rfl (by simp_all [Gp])
 try simp only [decide_eq_true_eq,decide_eq_false_iff_not,Vc,Vb] at hb_if3
 refine Qq tt rfl ?_
 refine Qf tt 1 [] (Zb (r:=((1:Nat):Int)) rfl rfl (rfl) rfl) rfl ?_
 refine Q8 ?_
 refine J5 ?_
 refine Qr tt 1 rfl ?_
 refine Xh tt 1 [] (rfl) rfl rfl ?_
 refine Qf tt 5 [] (By 1 Pq Xw S0 rfl rfl rfl (by decide) rfl rfl) rfl ?_
 refine Qf tt 2 [] (Zo 1 Pq Xw rfl rfl rfl (by decide) rfl rfl) rfl ?_
 refine kif rfl (fun hb_if3=>?_) (fun hb_if3=>?_)
 ·try simp only [decide_eq_true_eq,decide_eq_false_iff_not,Vc,Vb] at hb_if3
  refine Qr tt 3 rfl ?_
  refine Qf tt 3 [] (Zo 1 Pq Xw rfl rfl rfl (by decide) rfl rfl) rfl ?_
  exact Xp tt [] rfl (by simp_all [Gp])
 try simp only [decide_eq_true_eq,decide_eq_false_iff_not,Vc,Vb] at hb_if3
 refine Qq tt rfl ?_
 refine Qf tt 1 [] (Zb (r:=((2:Nat):Int)) rfl rfl (rfl) rfl) rfl ?_
 refine Q8 ?_
 refine J5 ?_
 refine Qr tt 1 rfl ?_
 refine Xh tt 1 [] (rfl) rfl rfl ?_
 refine Qf tt 5 [] (By 2 Pq Xw S0 rfl rfl rfl (by decide) rfl rfl) rfl ?_
 refine Qf tt 2 [] (Zo 2 Pq Xw rfl rfl rfl (by decide) rfl rfl) rfl ?_
 refine kif rfl (fun hb_if3=>?_) (fun hb_if3=>?_)
 ·try simp only [decide_eq_true_eq,decide_eq_false_iff_not,Vc,Vb] at hb_if3
  refine Qr tt 3 rfl ?_
  refine Qf tt 3 [] (Zo 2 Pq Xw rfl rfl rfl (by decide) rfl rfl) rfl ?_
  exact Xp tt [] rfl (by simp_all [Gp])
 try simp only [decide_eq_true_eq,decide_eq_false_iff_not,Vc,Vb] at hb_if3
 refine Qq tt rfl ?_
 refine Qf tt 1 [] (Zb (r:=((3:Nat):Int)) rfl rfl (rfl) rfl) rfl ?_
 refine Q8 ?_
 refine J5 ?_
 refine Qr tt 1 rfl ?_
 refine Xh tt 1 [] (rfl) rfl rfl ?_
 refine Qf tt 5 [] (By 3 Pq Xw S0 rfl rfl rfl (by decide) rfl rfl) rfl ?_
 refine Qf tt 2 [] (Zo 3 Pq Xw rfl rfl rfl (by decide) rfl rfl) rfl ?_
 refine kif rfl (fun hb_if3=>?_) (fun hb_if3=>?_)
 ·try simp only [decide_eq_true_eq,decide_eq_false_iff_not,Vc,Vb] at hb_if3
  refine Qr tt 3 rfl ?_
  refine Qf tt 3 [] (Zo 3 Pq Xw rfl rfl rfl (by decide) rfl rfl) rfl ?_
  exact Xp tt [] rfl (by simp_all [Gp])
 try simp only [decide_eq_true_eq,decide_eq_false_iff_not,Vc,Vb] at hb_if3
 refine Qq tt rfl ?_
 refine Qf tt 1 [] (Zb (r:=((4:Nat):Int)) rfl rfl (rfl) rfl) rfl ?_
 refine Q8 ?_
 refine J5 ?_
 refine Qr tt 1 rfl ?_
 refine Z8 tt 1 [] (rfl) rfl rfl ?_
 exact Xp tt [] rfl (by simp_all [Gp])
set_option maxRecDepth 20000 in
theorem Qch {a b:Pt} {q:Rat} (ha:Nml a.c) (hb:Nml b.c) (ca:Cb a.c) (cb:Cb b.c) (hq:Qb q):Za Tryz.prog 201 [.one (.int .i64 2),.agg [pl ([-q.num,(q.den:Int)]),sg q.num,mg q.num,sg ((q.den:Int)),mg ((q.den:Int)),sg q.num,mg q.num,sg ((q.den:Int)),mg ((q.den:Int))],.one (.row [[pl a.c.x,pl a.c.y,sg a.c.d,mg a.c.d,.int .i64 a.id],[pl b.c.x,pl b.c.y,sg b.c.d,mg b.c.d,.int .i64 b.id]])] (.tup [.agg [.int .i64 ((((Jg q a b))).kind),.int .i64 ((((Jg q a b))).i0),.int .i64 ((((Jg q a b))).i1),.int .i64 ((((Jg q a b))).i2),.int .i64 ((((Jg q a b))).i3),pl (((Jg q a b)).p),.int .i64 (((Jg q a b)).want)],.one (.int .i64 0)]):=by
 refine X4 tt 1 [] Tryz.func201 Tryz.ntmps201 rfl rfl rfl ?_
 refine Zn (Qn qUp rfl rfl fun g1=>ko ?_)
 refine Qr tt 2 rfl ?_
 refine Qf tt 1 [] (Qh (m:=2) V0 rfl (rfl) rfl) rfl ?_
 refine kl tt 1 [] Tryz.func274 rfl rfl rfl (E3) rfl rfl ?_
 refine Z8 tt 3 [] (rfl) rfl rfl ?_
 refine Zn (Qn qUp rfl rfl fun g2=>ko ?_)
 refine Xu tt 2 [0] rfl ?_
 refine Qf tt 1 [] (Qh (m:=2) V0 rfl (rfl) rfl) rfl ?_
 refine Gb 3 ?_
 refine J5 ?_
 refine Qr tt 1 rfl ?_
 refine Xh tt 1 [] (rfl) rfl rfl ?_
 refine Qf tt 1 [] (Qi (0) V0 Wb rfl rfl rfl rfl rfl rfl) rfl ?_
 refine Zn (Qn qWu rfl rfl fun g3=>ko ?_)
 refine Xu tt 7 [0,0] rfl ?_
 refine Qf tt 1 [1] (Xa 0 Pq Xw rfl rfl rfl (by decide) rfl) rfl ?_
 refine Qf tt 1 [] (Zb (r:=((1:Nat):Int)) rfl rfl (rfl) rfl) rfl ?_
 refine Q8 ?_
 refine J5 ?_
 refine Qr tt 1 rfl ?_
 refine Xh tt 1 [] (rfl) rfl rfl ?_
 refine Qf tt 1 [] (Qi (1) V0 Wb rfl rfl rfl rfl rfl rfl) rfl ?_
 refine Zn (Qn qWu rfl rfl fun g4=>ko ?_)
 refine Xu tt 7 [0,0] rfl ?_
 refine Qf tt 1 [2] (Xa 1 Pq Xw rfl rfl rfl (by decide) rfl) rfl ?_
 refine Qf tt 1 [] (Zb (r:=((2:Nat):Int)) rfl rfl (rfl) rfl) rfl ?_
 refine Q8 ?_
 refine J5 ?_
 refine Qr tt 1 rfl ?_
 refine Z8 tt 3 [] (rfl) rfl rfl ?_
 refine Z8 tt 2 [] (rfl) rfl rfl ?_
 refine Xh tt 0 [] (rfl) rfl rfl ?_
 refine Qy 17 Qp rfl rfl rfl ?_
 refine Qr tt 1 rfl ?_
 refine kd (Qi (1) V0 Wb rfl rfl rfl rfl rfl rfl) rfl ?_
 refine Qr tt 3 rfl ?_
 refine kd (Qi (0) V0 Wb rfl rfl rfl rfl rfl rfl) rfl ?_
 refine Qr tt 2 rfl ?_
 refine Yv tt 1 [] Tryz.func160 rfl rfl rfl (Nx (hb) (ha) (cb) (ca)) rfl rfl ?_
 refine kd (Qi (1) V0 Wb rfl rfl rfl rfl rfl rfl) rfl ?_
 refine Qr tt 3 rfl ?_
 refine kd (Qi (0) V0 Wb rfl rfl rfl rfl rfl rfl) rfl ?_
 refine Qr tt 2 rfl ?_
 refine Qq tt rfl ?_
 refine kl tt 0 [] Tryz.func159 rfl rfl rfl (Nz (hb) (ha) (cb) (ca)) rfl rfl ?_
 refine kl tt 5 [2,2] Tryz.func275 rfl rfl rfl (Oq) rfl rfl ?_
 refine kl tt 5 [2,2,3] Tryz.func99 rfl rfl rfl (E4 (Qar (Ip cb ca).1 (Iq cb ca).1) (hq)) rfl rfl ?_
 exact kr2 tt [3] rfl (rfl)
abbrev zCt:List LV:=[.int .i64 0,.int .i64 0,.int .i64 0,.int .i64 0,.int .i64 0,.nils,.int .i64 0]
theorem Qow {out:List Ct} {c x:Ct} {k:Nat} (h0:0<k) (hx:out[k-1]? = some x) (h:Yu c x=true):Te out c k=Te out c (k-1):=by
 obtain ⟨j,rfl⟩:∃ j,k=j+1:=⟨k-1,by omega⟩
 exact Qrz hx h
theorem Qma {out:List Ct} {c x:Ct} {k:Nat} (h0:0<k) (hx:out[k-1]? = some x) (h:Yu c x=false):Te out c k=k:=by
 obtain ⟨j,rfl⟩:∃ j,k=j+1:=⟨k-1,by omega⟩
 exact Qov hx h
theorem Qya {ls:List (List LV)} (h:∀ c∈ls,c.length=7) {k:Nat} (hk:k<ls.length):∃ a0 a1 a2 a3 a4 a5 a6,ls[k]? = some [a0,a1,a2,a3,a4,a5,a6]:=by
 have h1:=h ls[k] (qJa hk)
 rw [Xx hk]
 match hl:ls[k],h1 with
 | [a0,a1,a2,a3,a4,a5,a6],_=>exact ⟨a0,a1,a2,a3,a4,a5,a6,rfl⟩
theorem Qxi {O:List Ct} {z:List LV} (hz:z.length=7) {a b m e:Nat}:∀ c∈((O.map Gi++[z]).take a++((O.map Gi++[z]).drop b).take m++(O.map Gi++[z]).drop e),c.length=7:=by
 intro c hc
 have h1:c∈O.map Gi++[z]:=by
  rcases Y7.1 hc with hc | hc
  ·rcases Y7.1 hc with hc | hc
   ·exact Rx hc
   ·exact Pr (Rx hc)
  ·exact Pr hc
 rcases Y7.1 h1 with h1 | h1
 ·obtain ⟨x,_,rfl⟩:=Ww.1 h1; rfl
 rw [qZt.1 h1]; exact hz
theorem Quj {O:List Ct} {z:List LV} {c:Ct} {i k:Nat} (hO:O.length=i) (hk:k≤i) (hp:Te O c O.length=k) :
  ((O.map Gi++[z]).take (0+(k+1))++((O.map Gi++[z]).drop (0+k)).take (i-k)++(O.map Gi++[z]).drop (0+(k+1)+(i-k))).set (0+k) (Gi c)=(Cy O c).map Gi:=by
 simp only [Vl]
 rw [Qfn (O.map Gi) z (Gi c) (by rw [Zr]; omega) (by rw [Zr]; omega)]
 simp [Cy,hp,Ix,qJm]
set_option maxRecDepth 20000 in
theorem Dj {l:List Ct} (hl:∀ c∈l,Pb c.p) (hn:l.length≤1000000):Za Tryz.prog 110 [.one (cts l)] (.one (cts ((Z7 l)))):=by
 refine X4 tt 3 [] Tryz.func110 Tryz.ntmps110 rfl rfl rfl ?_
 refine Qf tt 1 [] (Qh (m:=l.length) qWb rfl (S3 _) rfl) rfl ?_
 refine X5 (fun _ k_=>Xy [3] 166 7 rfl (Zc rfl) rfl (Qo k_)) rfl ?_
 refine Qj [3,7,8,9] rfl rfl ?_
 refine Zl (fun m L B=>∃ i r,i≤l.length∧m=l.length-i∧L=[(3,.one (.orow r 7 0 i)),(7,.one (cts l)),(8,.one (.int .i64 (((l.length:Nat):Int)))),(9,.one (.int .i64 (((i:Nat):Int))))]∧B=[.row r 166 7 ((Z7 (l.take i)).map Gi)]) (m:=_) ⟨0,none,K6 _,rfl,rfl,rfl⟩ ?_
 rintro m L B ⟨i,r,hp0,hm,rfl,rfl⟩
 refine Qq tt rfl ?_
 by_cases hlt:i<l.length
 ·obtain ⟨c,hc⟩:∃ c,l[i]? = some c:=⟨_,Xx hlt⟩
  have hO:(Z7 (l.take i)).length=i:=by rw [Kz,Kd]; omega
  have hcp:=hl c (Vo hc)
  refine Qr tt 1 rfl ?_
  refine Xh tt 0 [] (decide_eq_true (by omega)) rfl rfl ?_
  refine Qf tt 1 [] (Qi (i) qWb qWy rfl rfl (rfl) (Qg hc) rfl rfl) rfl ?_
  refine Zn (Qn qUp rfl rfl fun g1=>ko ?_)
  refine Xu tt 2 [0] rfl ?_
  refine kw (Qh (m:=i) qWb rfl (rfl) rfl) ?_
  refine syp tt 1 [100002] [] rfl ?_
  refine Ml 1 (fun L B=>∃ k,k≤i∧Te (Z7 (l.take i)) c (Z7 (l.take i)).length=k∧L=[(3,.one (.orow r 7 0 i)),(5,.one (.ow g1 0)),(7,.one (cts l)),(8,.one (.int .i64 (((l.length:Nat):Int)))),(9,.one (.int .i64 (((i:Nat):Int)))),(6,.one (.int .i64 (((k:Nat):Int))))]∧B=[.blk g1 166 [.int .i64 c.kind,.int .i64 c.i0,.int .i64 c.i1,.int .i64 c.i2,.int .i64 c.i3,pl c.p,.int .i64 c.want],.row r 166 7 ((Z7 (l.take i)).map Gi)]) ?_ rfl ?_
  ·skip
   refine Qq tt rfl ?_
   refine Qj [3,5,7,8,9,6] rfl rfl ?_
   refine Zl (fun m L B=>∃ k,k≤i∧Te (Z7 (l.take i)) c k=Te (Z7 (l.take i)) c (Z7 (l.take i)).length∧m=k∧L=[(3,.one (.orow r 7 0 i)),(5,.one (.ow g1 0)),(7,.one (cts l)),(8,.one (.int .i64 (((l.length:Nat):Int)))),(9,.one (.int .i64 (((i:Nat):Int)))),(6,.one (.int .i64 (((k:Nat):Int))))]∧B=[.blk g1 166 [.int .i64 c.kind,.int .i64 c.i0,.int .i64 c.i1,.int .i64 c.i2,.int .i64 c.i3,pl c.p,.int .i64 c.want],.row r 166 7 ((Z7 (l.take i)).map Gi)]) (m:=_) ⟨i,X2 _,by rw [hO],rfl,rfl,rfl⟩ ?_
   rintro m L B ⟨k,hq0,hq1,hm,rfl,rfl⟩
   refine Qq tt rfl ?_
   rcases Hl k with h0 | h0
   ·have hpos:Te (Z7 (l.take i)) c (Z7 (l.take i)).length=k:=by rw [←hq1,h0]; rfl
    refine Qq tt rfl ?_
    refine Qy 11 Qp rfl rfl rfl ?_
    refine Qr tt 3 rfl ?_
    refine kd (Qk rfl rfl (decide_eq_false (by omega)) rfl) rfl ?_
    refine Qq tt rfl ?_
    refine kd (Qk rfl rfl (decide_eq_false (by omega)) rfl) rfl ?_
    refine Qq tt rfl ?_
    refine kd (Qk rfl rfl (decide_eq_false (by omega)) rfl) rfl ?_
    refine Qq tt rfl ?_
    refine kd (Qk rfl rfl (decide_eq_false (by omega)) rfl) rfl ?_
    refine Qq tt rfl ?_
    refine kd (Qk rfl rfl (decide_eq_false (by omega)) rfl) rfl ?_
    refine Qq tt rfl ?_
    refine kd (Qk rfl rfl (decide_eq_false (by omega)) rfl) rfl ?_
    refine Qq tt rfl ?_
    refine kd (Qk rfl rfl (decide_eq_false (by omega)) rfl) rfl ?_
    refine Qq tt rfl ?_
    refine kd (Qk rfl rfl (decide_eq_false (by omega)) rfl) rfl ?_
    refine Qq tt rfl ?_
    refine Qf tt 0 [] (Qk rfl rfl (decide_eq_false (by omega)) rfl) rfl ?_
    refine Qf tt 0 [] (Zw rfl (decide_eq_false (by omega)) rfl rfl) rfl ?_
    refine Z8 tt 0 [] (rfl) rfl rfl ?_
    refine Qj [3,5,7,8,9,6] rfl rfl ?_
    refine Q8 ?_
    exact ⟨k,hq0,hpos,rfl,rfl⟩
   obtain ⟨x,hx⟩:∃ x,(Z7 (l.take i))[k-1]? = some x:=⟨_,Xx (by omega)⟩
   cases hls:Yu c x
   refine Qq tt rfl ?_
   ·have hpos:Te (Z7 (l.take i)) c (Z7 (l.take i)).length=k:=by rw [←hq1,Qma h0 hx hls]
    refine Qq tt rfl ?_
    refine Qy 11 Qp rfl rfl rfl ?_
    refine Qr tt 3 rfl ?_
    refine kd ((Qc rfl rfl (decide_eq_true (by omega)) (Qw tt rfl rfl))) rfl ?_
    refine Qq tt rfl ?_
    refine kd ((Qc rfl rfl (decide_eq_true (by omega)) (Wv tt 0 rfl rfl))) rfl ?_
    refine Qq tt rfl ?_
    refine kd ((Qc rfl rfl (decide_eq_true (by omega)) (Qw tt rfl rfl))) rfl ?_
    refine Qq tt rfl ?_
    refine kd ((Qc rfl rfl (decide_eq_true (by omega)) (Qw tt rfl rfl))) rfl ?_
    refine Qq tt rfl ?_
    refine kd ((Qc rfl rfl (decide_eq_true (by omega)) (Z9 (r:=((k-1:Nat):Int)) rfl rfl (Qm (by omega) (by omega)) rfl))) rfl ?_
    refine Qq tt rfl ?_
    refine kd ((Qc rfl rfl (decide_eq_true (by omega)) (Zi (k-1) qWb qWy rfl rfl (rfl) (by omega) rfl))) rfl ?_
    refine Qq tt rfl ?_
    refine kd ((Qc rfl rfl (decide_eq_true (by omega)) (Qw tt rfl rfl))) rfl ?_
    refine Qq tt rfl ?_
    refine kd ((Qc rfl rfl (decide_eq_true (by omega)) (X7 1 qGf qFx rfl rfl (by rw [Vl]; exact Qg hx) rfl rfl rfl))) rfl ?_
    refine Qq tt rfl ?_
    refine Qf tt 0 [] ((Qc rfl rfl (decide_eq_true (by omega)) (Zu Tryz.func188 rfl rfl rfl rfl (Di) rfl))) rfl ?_
    refine Qf tt 0 [] (Zs rfl (decide_eq_true (by omega)) rfl rfl) rfl ?_
    refine Z8 tt 0 [] (hls) rfl rfl ?_
    refine Qj [3,5,7,8,9,6] rfl rfl ?_
    refine Q8 ?_
    exact ⟨k,hq0,hpos,rfl,rfl⟩
   skip
   refine Qq tt rfl ?_
   refine Qy 11 Qp rfl rfl rfl ?_
   refine Qr tt 3 rfl ?_
   refine kd ((Qc rfl rfl (decide_eq_true (by omega)) (Qw tt rfl rfl))) rfl ?_
   refine Qq tt rfl ?_
   refine kd ((Qc rfl rfl (decide_eq_true (by omega)) (Wv tt 0 rfl rfl))) rfl ?_
   refine Qq tt rfl ?_
   refine kd ((Qc rfl rfl (decide_eq_true (by omega)) (Qw tt rfl rfl))) rfl ?_
   refine Qq tt rfl ?_
   refine kd ((Qc rfl rfl (decide_eq_true (by omega)) (Qw tt rfl rfl))) rfl ?_
   refine Qq tt rfl ?_
   refine kd ((Qc rfl rfl (decide_eq_true (by omega)) (Z9 (r:=((k-1:Nat):Int)) rfl rfl (Qm (by omega) (by omega)) rfl))) rfl ?_
   refine Qq tt rfl ?_
   refine kd ((Qc rfl rfl (decide_eq_true (by omega)) (Zi (k-1) qWb qWy rfl rfl (rfl) (by omega) rfl))) rfl ?_
   refine Qq tt rfl ?_
   refine kd ((Qc rfl rfl (decide_eq_true (by omega)) (Qw tt rfl rfl))) rfl ?_
   refine Qq tt rfl ?_
   refine kd ((Qc rfl rfl (decide_eq_true (by omega)) (X7 1 qGf qFx rfl rfl (by rw [Vl]; exact Qg hx) rfl rfl rfl))) rfl ?_
   refine Qq tt rfl ?_
   refine Qf tt 0 [] ((Qc rfl rfl (decide_eq_true (by omega)) (Zu Tryz.func188 rfl rfl rfl rfl (Di) rfl))) rfl ?_
   refine Qf tt 0 [] (Zs rfl (decide_eq_true (by omega)) rfl rfl) rfl ?_
   refine Xh tt 1 [] (hls) rfl rfl ?_
   refine Qf tt 1 [] (Z9 (r:=((k-1:Nat):Int)) rfl rfl (Qm (by omega) (by omega)) rfl) rfl ?_
   refine Qj [3,5,7,8,9,6] rfl rfl ?_
   refine Q8 ?_
   refine ⟨_,?_,k-1,by omega,by rw [←hq1,Qow h0 hx hls],rfl,rfl,rfl⟩
   omega
  rintro L B ⟨k,hp0,hp1,rfl,rfl⟩
  refine Qq tt rfl ?_
  skip
  skip
  refine Qr tt 3 rfl ?_
  refine Zn (Zg (ls2:=((Z7 (l.take i)).map Gi++[zCt])) (m2:=i+1) 1 qWb qWb Tryz.typeInfo166 rfl rfl qWy qUp rfl rfl rfl rfl rfl rfl rfl (by rw [Zr]; omega) (Js rfl) (Jx rfl) (by show _+1<_; omega) (by rw [Y0 (by rw [Zr]; omega)]) (rfl) fun r2=>ko ?_)
  refine Qr tt 1 rfl ?_
  refine Qy 7 Qp rfl rfl rfl ?_
  refine Qr tt 2 rfl ?_
  refine kd (Zb (r:=((k+1:Nat):Int)) rfl rfl (Qm (by omega) (by omega)) rfl) rfl ?_
  refine kd (Wg (k+1) qWb qWy rfl rfl (rfl) (by omega) rfl) rfl ?_
  refine Qr tt 2 rfl ?_
  refine kd (Wg (k) qWb qWy rfl rfl (rfl) (by omega) rfl) rfl ?_
  refine Qq tt rfl ?_
  refine Qq tt rfl ?_
  refine Zn (Qji (m':=i-k) (ls2:=(((Z7 (l.take i)).map Gi++[zCt]).take (0+(k+1))++(((Z7 (l.take i)).map Gi++[zCt]).drop (0+k)).take (i-k)++((Z7 (l.take i)).map Gi++[zCt]).drop (0+(k+1)+(i-k)))) 0 qWb qWy rfl rfl rfl rfl (by simp; omega) (by simp; omega) (by simp) (by show min _ _=_; omega) (rfl) rfl (ko ?_))
  refine Qq tt rfl ?_
  refine Qy 10 Qp rfl rfl rfl ?_
  refine Xu tt 6 [1,1] rfl ?_
  refine Yv tt 3 [1] qUd rfl rfl rfl (Wl hcp.t (qZu hcp.l (by decide)) (Q7 hcp.b (by omega))) rfl rfl ?_
  refine Qq tt rfl ?_
  refine kw (Zi (k) qWb qWy rfl rfl (rfl) (by omega) rfl) ?_
  obtain ⟨z0,z1,z2,z3,z4,z5,z6,hz⟩:=Qya (k:=0+k) (Qxi (O:=(Z7 (l.take i))) (z:=zCt) (a:=0+(k+1)) (b:=0+k) (m:=i-k) (e:=0+(k+1)+(i-k)) rfl) (by simp; omega)
  refine Zn (Jp (ls2:=((Cy (Z7 (l.take i)) c).map Gi)) 0 qWy rfl rfl rfl rfl rfl rfl (hz) rfl (Quj hO hp0 hp1) (ko ?_))
  refine Qq tt rfl ?_
  refine Qf tt 1 [] (Zb (r:=((i+1:Nat):Int)) rfl rfl (Qm (by omega) (by omega)) rfl) rfl ?_
  refine X5 (fun _ k_=>Jq 0 rfl (by rw [←Qix hc]) (Qo k_)) rfl ?_
  refine Qj [3,7,8,9] rfl rfl ?_
  refine Yt 1 rfl rfl ?_
  refine Q8 ?_
  refine ⟨_,?_,i+1,r2,by omega,rfl,rfl,rfl⟩
  omega
 have hO:(Z7 (l.take i)).length=i:=by rw [Kz,Kd]; omega
 have hi:l.take i=l:=Y0 (by omega)
 refine Qr tt 1 rfl ?_
 refine Z8 tt 2 [] (decide_eq_false (by omega)) rfl rfl ?_
 refine X5 (fun _ k_=>Xe 0 [2] rfl (Zc rfl) (by rw [Zr,hO]) (by rw [Zr,hO]; omega) rfl (Qo k_)) rfl ?_
 exact Xp tt [] rfl (by rw [hi]; rfl)
end Orr

namespace Orr
open Go Go.Proofs
theorem Qce {q:Rat} (hq:Qs 1073741823 q):Za Tryz.prog 271 [.one (.row [[pl ([-q.num,(q.den:Int)]),sg q.num,mg q.num,sg ((q.den:Int)),mg ((q.den:Int)),sg q.num,mg q.num,sg ((q.den:Int)),mg ((q.den:Int))]])] (.tup [.agg [pl ([-q.num,(q.den:Int)]),sg q.num,mg q.num,sg ((q.den:Int)),mg ((q.den:Int)),sg q.num,mg q.num,sg ((q.den:Int)),mg ((q.den:Int))],.one (.bool true)]):=by
 refine X4 tt 0 [] Tryz.func271 Tryz.ntmps271 rfl rfl rfl ?_
 refine Zn (Qn qFe rfl rfl fun g1=>ko ?_)
 refine Qr tt 2 rfl ?_
 refine Qf tt 1 [] (Qh (m:=1) qGh rfl (rfl) rfl) rfl ?_
 refine Z8 tt 1 [] (rfl) rfl rfl ?_
 refine Qf tt 1 [] (Qi (0) qGh qWp rfl rfl rfl rfl rfl rfl) rfl ?_
 refine Zn (Qn qFe rfl rfl fun g2=>ko ?_)
 refine Xu tt 2 [0] rfl ?_
 refine Qf tt 0 [] (Uv 1 qGh qWp rfl rfl rfl (X2 1) (Js rfl) (l':=[]) rfl rfl) rfl ?_
 refine Qf tt 1 [] (Qh (m:=0) qGh rfl (rfl) rfl) rfl ?_
 refine Gb 1 ?_
 refine J5 ?_
 refine Qr tt 1 rfl ?_
 refine Z8 tt 1 [0] (rfl) rfl rfl ?_
 refine kl tt 2 [1] Tryz.func315 rfl rfl rfl (Qcf (hq.mono (by omega))) rfl rfl ?_
 exact kr2 tt [1] rfl (rfl)
abbrev ofW (c:Ct):List LV:=[.int .i64 c.kind,.int .i64 c.i0,.int .i64 c.i1,.int .i64 c.i2,.int .i64 c.i3,pl c.p,.int .i64 c.want,.bool false,.bool false,.row [],.bool false,.row [],.bool false,.row [],.bool false,.row [],.bool false,.row []]
def T4 (l:List Ct):LV:=.row (l.map ofW)
theorem Qge (l:List Ct):Vq (T4 l)=some l.length:=by simp [Vq,T4]
set_option maxRecDepth 20000 in
theorem Qhi {g T:Nat} {ys:List LV} {ev:Int} {n0 n1 n2 n3 n4 n5 n6 n7 n8:LV} {b:Bool} {ws:List Ct} {x:Ct} {q:Rat} (hn:ws.length≤1000000):Us Tryz.prog 270 [.one (.ow g 0),.agg [.int .i64 x.kind,.int .i64 x.i0,.int .i64 x.i1,.int .i64 x.i2,.int .i64 x.i3,pl x.p,.int .i64 x.want],.agg [pl ([-q.num,(q.den:Int)]),sg q.num,mg q.num,sg ((q.den:Int)),mg ((q.den:Int)),sg q.num,mg q.num,sg ((q.den:Int)),mg ((q.den:Int))]] [.blk g T ((.bool b)::n0::n1::n2::n3::n4::n5::n6::n7::n8::(T4 ws)::(.int .i64 ev)::ys)] fun r B=>r=.agg [.int .i64 x.kind,.int .i64 x.i0,.int .i64 x.i1,.int .i64 x.i2,.int .i64 x.i3,pl x.p,.int .i64 x.want,.bool false,.bool false,.row ([]),.bool false,.row ([]),.bool false,.row ([]),.bool false,.row ([]),.bool false,.row ([])]∧B=[.blk g T ((.bool b)::n0::n1::n2::n3::n4::n5::n6::n7::n8::(T4 ws)::(.int .i64 ev)::ys)]:=by
 refine X4 tt 2 [] Tryz.func270 Tryz.ntmps270 rfl rfl rfl ?_
 refine Zn (Qn qUw rfl rfl fun g1=>ko ?_)
 refine Xu tt 4 [1] rfl ?_
 refine Qf tt 1 [] (Qh (m:=ws.length) qUg rfl (Qge _) rfl) rfl ?_
 refine Qj [4,5,6,12,13,14] rfl rfl ?_
 refine Zl (fun m L B=>∃ i,i≤ws.length∧m=ws.length-i∧L=[(4,.one (.sh [.int .i64 x.kind,.int .i64 x.i0,.int .i64 x.i1,.int .i64 x.i2,.int .i64 x.i3,pl x.p,.int .i64 x.want])),(5,.one (.sh [pl ([-q.num,(q.den:Int)]),sg q.num,mg q.num,sg ((q.den:Int)),mg ((q.den:Int)),sg q.num,mg q.num,sg ((q.den:Int)),mg ((q.den:Int))])),(6,.one (.ow g1 0)),(12,.one (T4 ws)),(13,.one (.int .i64 (((ws.length:Nat):Int)))),(14,.one (.int .i64 (((i:Nat):Int))))]∧B=[.blk g1 196 [.int .i64 0,.int .i64 0,.int .i64 0,.int .i64 0,.int .i64 0,.nils,.int .i64 0,.bool false,.bool false,.nils,.bool false,.nils,.bool false,.nils,.bool false,.nils,.bool false,.nils],.blk g T ((.bool b)::n0::n1::n2::n3::n4::n5::n6::n7::n8::(T4 ws)::(.int .i64 ev)::ys)]) (m:=_) ⟨0,K6 _,rfl,rfl,rfl⟩ ?_
 rintro m L B ⟨i,hp0,hm,rfl,rfl⟩
 refine Qq tt rfl ?_
 by_cases hlt:i<ws.length
 ·obtain ⟨w,hw⟩:∃ w,ws[i]? = some w:=⟨_,Xx hlt⟩
  by_cases ht:([w.kind,w.i0,w.i1,w.i2,w.i3]:List Int)=[x.kind,x.i0,x.i1,x.i2,x.i3]
  refine Qq tt rfl ?_
  ·skip
   refine Qr tt 1 rfl ?_
   refine Xh tt 0 [] (decide_eq_true (by omega)) rfl rfl ?_
   refine Qf tt 1 [] (Qi (i) qUg qFl rfl rfl (rfl) (Qg hw) rfl rfl) rfl ?_
   refine Zn (Qn qUw rfl rfl fun g2=>ko ?_)
   refine Xu tt 6 [0,0] rfl ?_
   refine Qf tt 1 [] (Qth (r:=(!decide (([w.kind,w.i0,w.i1,w.i2,w.i3]:List Int)=[x.kind,x.i0,x.i1,x.i2,x.i3]))) [w.kind,w.i0,w.i1,w.i2,w.i3] [x.kind,x.i0,x.i1,x.i2,x.i3] Tryz.eqGuardType44 (Qny _ _ rfl rfl) rfl rfl rfl rfl (rfl) rfl) rfl ?_
   refine Qf tt 0 [] ((Qc rfl rfl (by rw [decide_eq_true ht] <;> rfl) (Qw tt rfl rfl))) rfl ?_
   refine Qf tt 0 [] ((Qc rfl rfl (by rw [decide_eq_true ht] <;> rfl) (Wv tt 0 rfl rfl))) rfl ?_
   refine Qf tt 0 [] ((Qc rfl rfl (by rw [decide_eq_true ht] <;> rfl) (Qw tt rfl rfl))) rfl ?_
   refine Qf tt 1 [] (Zw rfl (by rw [decide_eq_true ht] <;> rfl) rfl rfl) rfl ?_
   refine Qf tt 0 [] (Qk rfl rfl (rfl) rfl) rfl ?_
   refine Qf tt 0 [] (Qk rfl rfl (rfl) rfl) rfl ?_
   refine Qf tt 0 [] (Qk rfl rfl (rfl) rfl) rfl ?_
   refine Qf tt 0 [] (Qk rfl rfl (rfl) rfl) rfl ?_
   refine Qf tt 0 [] (Qk rfl rfl (rfl) rfl) rfl ?_
   refine Qf tt 0 [] (Qk rfl rfl (rfl) rfl) rfl ?_
   refine Qf tt 0 [] (Qk rfl rfl (rfl) rfl) rfl ?_
   refine Qf tt 0 [] (Zs rfl (rfl) rfl rfl) rfl ?_
   refine Xh tt 0 [] (rfl) rfl rfl ?_
   refine Qf tt 1 [] (Zb (r:=((i+1:Nat):Int)) rfl rfl (Qm (by omega) (by omega)) rfl) rfl ?_
   refine Qj [4,5,6,12,13,14] rfl rfl ?_
   refine Yt 0 rfl rfl ?_
   refine Q8 ?_
   refine ⟨_,?_,i+1,by omega,rfl,rfl,rfl⟩
   omega
  skip
  refine Qr tt 1 rfl ?_
  refine Xh tt 0 [] (decide_eq_true (by omega)) rfl rfl ?_
  refine Qf tt 1 [] (Qi (i) qUg qFl rfl rfl (rfl) (Qg hw) rfl rfl) rfl ?_
  refine Zn (Qn qUw rfl rfl fun g3=>ko ?_)
  refine Xu tt 6 [0,0] rfl ?_
  refine Qf tt 1 [] (Qth (r:=(!decide (([w.kind,w.i0,w.i1,w.i2,w.i3]:List Int)=[x.kind,x.i0,x.i1,x.i2,x.i3]))) [w.kind,w.i0,w.i1,w.i2,w.i3] [x.kind,x.i0,x.i1,x.i2,x.i3] Tryz.eqGuardType44 (Qny _ _ rfl rfl) rfl rfl rfl rfl (rfl) rfl) rfl ?_
  refine Qf tt 0 [] (Qk rfl rfl (by rw [decide_eq_false ht] <;> rfl) rfl) rfl ?_
  refine Qf tt 0 [] (Qk rfl rfl (by rw [decide_eq_false ht] <;> rfl) rfl) rfl ?_
  refine Qf tt 0 [] (Qk rfl rfl (by rw [decide_eq_false ht] <;> rfl) rfl) rfl ?_
  refine Qf tt 1 [] (Zs rfl (by rw [decide_eq_false ht] <;> rfl) rfl rfl) rfl ?_
  refine Qf tt 0 [] (Qk rfl rfl (rfl) rfl) rfl ?_
  refine Qf tt 0 [] (Qk rfl rfl (rfl) rfl) rfl ?_
  refine Qf tt 0 [] (Qk rfl rfl (rfl) rfl) rfl ?_
  refine Qf tt 0 [] (Qk rfl rfl (rfl) rfl) rfl ?_
  refine Qf tt 0 [] (Qk rfl rfl (rfl) rfl) rfl ?_
  refine Qf tt 0 [] (Qk rfl rfl (rfl) rfl) rfl ?_
  refine Qf tt 0 [] (Qk rfl rfl (rfl) rfl) rfl ?_
  refine Qf tt 0 [] (Zs rfl (rfl) rfl rfl) rfl ?_
  refine Xh tt 0 [] (rfl) rfl rfl ?_
  refine Qf tt 1 [] (Zb (r:=((i+1:Nat):Int)) rfl rfl (Qm (by omega) (by omega)) rfl) rfl ?_
  refine Qj [4,5,6,12,13,14] rfl rfl ?_
  refine Yt 0 rfl rfl ?_
  refine Q8 ?_
  refine ⟨_,?_,i+1,by omega,rfl,rfl,rfl⟩
  omega
 skip
 refine Qr tt 1 rfl ?_
 refine Z8 tt 3 [0] (decide_eq_false (by omega)) rfl rfl ?_
 refine Tr ?_
 exact ⟨_,[0],_,I6 Tryz.results270 (Qks 0 Tryz.isAgg196 qFl rfl rfl rfl rfl rfl),rfl,⟨rfl,rfl⟩⟩
set_option maxRecDepth 20000 in
theorem Qli {g T:Nat} {ys:List LV} {ev:Int} {n0 n1 n2 n3 n4 n5 n6 n7 n8:LV} {b later:Bool} {ws l:List Ct} {q:Rat} (hn:ws.length≤1000000) (hl:∀ c∈l,Pb c.p) (hm:l.length≤1000000) (hq:Qs 1073741823 q):Us Tryz.prog 195 [.one (.ow g 0),.agg [pl ([-q.num,(q.den:Int)]),sg q.num,mg q.num,sg ((q.den:Int)),mg ((q.den:Int)),sg q.num,mg q.num,sg ((q.den:Int)),mg ((q.den:Int))],.one (.bool later),.one (cts l)] [.blk g T ((.bool b)::n0::n1::n2::n3::n4::n5::n6::n7::n8::(T4 ws)::(.int .i64 ev)::ys)] fun r B=>r=.tup []∧B=[.blk g T ((.bool true)::(pl ([-q.num,(q.den:Int)]))::(sg q.num)::(mg q.num)::(sg ((q.den:Int)))::(mg ((q.den:Int)))::(sg q.num)::(mg q.num)::(sg ((q.den:Int)))::(mg ((q.den:Int)))::(T4 ((Z7 l)))::(.int .i64 ev)::ys)]:=by
 refine X4 tt 3 [] Tryz.func195 Tryz.ntmps195 rfl rfl rfl ?_
 refine kl tt 0 [] Tryz.func110 rfl rfl rfl (Dj (hl) (hm)) rfl rfl ?_
 refine Qf tt 1 [] (Qh (m:=((Z7 l)).length) qWb rfl (S3 _) rfl) rfl ?_
 refine X5 (fun _ k_=>Xy [8] 196 18 rfl (Zc rfl) rfl (Qo k_)) rfl ?_
 refine Qj [0,2,5,8,13,14,15] rfl rfl ?_
 refine Zl (fun m L B=>∃ i r,i≤(Z7 l).length∧m=(Z7 l).length-i∧L=[(0,.one (.ow g 0)),(2,.one (.bool later)),(5,.one (.sh [pl ([-q.num,(q.den:Int)]),sg q.num,mg q.num,sg ((q.den:Int)),mg ((q.den:Int)),sg q.num,mg q.num,sg ((q.den:Int)),mg ((q.den:Int))])),(8,.one (.orow r 18 0 i)),(13,.one (cts ((Z7 l)))),(14,.one (.int .i64 (((((Z7 l)).length:Nat):Int)))),(15,.one (.int .i64 (((i:Nat):Int))))]∧B=[.row r 196 18 (((Z7 l).take i).map ofW),.blk g T ((.bool b)::n0::n1::n2::n3::n4::n5::n6::n7::n8::(T4 ws)::(.int .i64 ev)::ys)]) (m:=_) ⟨0,none,K6 _,rfl,rfl,rfl⟩ ?_
 rintro m L B ⟨i,r,hp0,hm,rfl,rfl⟩
 refine Qq tt rfl ?_
 by_cases hlt:i<(Z7 l).length
 ·obtain ⟨c,hc⟩:∃ c,(Z7 l)[i]? = some c:=⟨_,Xx hlt⟩
  have hsl:=Kz l
  refine Qr tt 1 rfl ?_
  refine Xh tt 0 [] (decide_eq_true (by omega)) rfl rfl ?_
  refine Qf tt 1 [] (Qi (i) qWb qWy rfl rfl (rfl) (Qg hc) rfl rfl) rfl ?_
  refine Zn (Qn qUp rfl rfl fun g1=>ko ?_)
  refine Xu tt 3 [0,0] rfl ?_
  refine Zn (Qn qUw rfl rfl fun g2=>ko ?_)
  refine Xu tt 2 [0] rfl ?_
  refine kif rfl (fun hb_if2=>?_) (fun hb_if2=>?_)
  ·try simp only [decide_eq_true_eq,decide_eq_false_iff_not,Vc,Vb] at hb_if2
   refine Xu tt 3 [1] rfl ?_
   refine Yi 3 rfl rfl ?_
   refine Zn (Yh (Bin:=[.blk g T ((.bool b)::n0::n1::n2::n3::n4::n5::n6::n7::n8::(T4 ws)::(.int .i64 ev)::ys)]) Tryz.func270 rfl rfl rfl rfl (Qhi (by omega)) rfl fun r_ B_ hr_=>ko ?_)
   obtain ⟨rfl,rfl⟩:=hr_
   refine Xu tt 2 [1] rfl ?_
   refine X5 (fun _ k_=>Vn (ys:=[.int .i64 c.kind,.int .i64 c.i0,.int .i64 c.i1,.int .i64 c.i2,.int .i64 c.i3,pl c.p,.int .i64 c.want,.bool false,.bool false,.row ([]),.bool false,.row ([]),.bool false,.row ([]),.bool false,.row ([]),.bool false,.row ([])]) 1 rfl rfl rfl (Qo k_)) rfl ?_
   refine Xu tt 2 [0] rfl ?_
   refine Zn (Zg (ls2:=(((Z7 l).take (i+1)).map ofW)) (m2:=i+1) 3 qUg qUg Tryz.typeInfo196 rfl rfl qFl qUw rfl rfl rfl rfl rfl rfl rfl (by rw [Zr,Kd]; omega) (Js rfl) (Jx rfl) (by show _+1<_; omega) (by rw [Y0 (by rw [Zr,Kd]; omega),qXq,hc,F6]; rfl) (rfl) fun r3=>ko ?_)
   refine Qr tt 1 rfl ?_
   refine Qf tt 1 [] (Zb (r:=((i+1:Nat):Int)) rfl rfl (Qm (by omega) (by omega)) rfl) rfl ?_
   refine Qj [0,2,5,8,13,14,15] rfl rfl ?_
   refine Yt 1 rfl rfl ?_
   refine Yt 2 rfl rfl ?_
   refine Q8 ?_
   refine ⟨_,?_,i+1,r3,by omega,rfl,rfl,rfl⟩
   omega
  try simp only [decide_eq_true_eq,decide_eq_false_iff_not,Vc,Vb] at hb_if2
  refine Qr tt 1 rfl ?_
  refine X5 (fun _ k_=>Vn (ys:=[.int .i64 c.kind,.int .i64 c.i0,.int .i64 c.i1,.int .i64 c.i2,.int .i64 c.i3,pl c.p,.int .i64 c.want,.bool false,.bool false,.row ([]),.bool false,.row ([]),.bool false,.row ([]),.bool false,.row ([]),.bool false,.row ([])]) 0 rfl rfl rfl (Qo k_)) rfl ?_
  refine Xu tt 2 [0] rfl ?_
  refine Zn (Zg (ls2:=(((Z7 l).take (i+1)).map ofW)) (m2:=i+1) 2 qUg qUg Tryz.typeInfo196 rfl rfl qFl qUw rfl rfl rfl rfl rfl rfl rfl (by rw [Zr,Kd]; omega) (Js rfl) (Jx rfl) (by show _+1<_; omega) (by rw [Y0 (by rw [Zr,Kd]; omega),qXq,hc,F6]; rfl) (rfl) fun r4=>ko ?_)
  refine Qr tt 1 rfl ?_
  refine Qf tt 1 [] (Zb (r:=((i+1:Nat):Int)) rfl rfl (Qm (by omega) (by omega)) rfl) rfl ?_
  refine Qj [0,2,5,8,13,14,15] rfl rfl ?_
  refine Yt 1 rfl rfl ?_
  refine Yt 1 rfl rfl ?_
  refine Q8 ?_
  refine ⟨_,?_,i+1,r4,by omega,rfl,rfl,rfl⟩
  omega
 have hsl:=Kz l
 have hi:(Z7 l).take i=Z7 l:=Y0 (by omega)
 refine X5 (fun _ k_=>Xe (L2:=_) 0 [8] rfl (Zc rfl) (by rw [Zr,hi]; omega) (by rw [Zr,hi]; omega) rfl (Qo k_)) rfl ?_
 refine X5 (fun _ k_=>Xs 8 (y:=.one (T4 (Z7 l))) rfl (by rw [hi]; rfl) (Qo k_)) rfl ?_
 refine Qr tt 1 rfl ?_
 refine Z8 tt 3 [] (decide_eq_false (by omega)) rfl rfl ?_
 refine kl tt 15 [0,0,0] Tryz.func271 rfl rfl rfl (Qce (hq)) rfl rfl ?_
 refine Qn8 ?_
 exact ⟨_,[],_,Qpl Tryz.results195 ,rfl,⟨rfl,rfl⟩⟩
set_option maxRecDepth 20000 in
theorem Qcj {g T:Nat} {ys:List LV} {ev:Int} {n0 n1 n2 n3 n4 n5 n6 n7 n8:LV} {ws l:List Ct} {q:Rat} (hn:ws.length≤1000000) (hl:∀ c∈l,Pb c.p) (hm:l.length≤1000000) (hq:Qs 1073741823 q):Us Tryz.prog 116 [.one (.ow g 0),.agg [pl ([-q.num,(q.den:Int)]),sg q.num,mg q.num,sg ((q.den:Int)),mg ((q.den:Int)),sg q.num,mg q.num,sg ((q.den:Int)),mg ((q.den:Int))],.one (cts l)] [.blk g T ((.bool false)::n0::n1::n2::n3::n4::n5::n6::n7::n8::(T4 ws)::(.int .i64 ev)::ys)] fun r B=>r=.tup []∧B=[.blk g T ((.bool true)::(pl ([-q.num,(q.den:Int)]))::(sg q.num)::(mg q.num)::(sg ((q.den:Int)))::(mg ((q.den:Int)))::(sg q.num)::(mg q.num)::(sg ((q.den:Int)))::(mg ((q.den:Int)))::(T4 ((Z7 l)))::(.int .i64 ev)::ys)]:=by
 refine X4 tt 1 [] Tryz.func116 Tryz.ntmps116 rfl rfl rfl ?_
 refine Qy 16 Qp rfl rfl rfl ?_
 refine Xu tt 7 [0] rfl ?_
 refine kd (Qk rfl rfl (rfl) rfl) rfl ?_
 refine Qq tt rfl ?_
 refine kd (Qk rfl rfl (rfl) rfl) rfl ?_
 refine Qq tt rfl ?_
 refine kd (Qk rfl rfl (rfl) rfl) rfl ?_
 refine Qq tt rfl ?_
 refine kd (Qk rfl rfl (rfl) rfl) rfl ?_
 refine Qq tt rfl ?_
 refine kd (Qk rfl rfl (rfl) rfl) rfl ?_
 refine Qq tt rfl ?_
 refine kd (Qk rfl rfl (rfl) rfl) rfl ?_
 refine Qq tt rfl ?_
 refine kd (Qk rfl rfl (rfl) rfl) rfl ?_
 refine Qq tt rfl ?_
 refine kd (Zw rfl (rfl) rfl rfl) rfl ?_
 refine Qr tt 1 rfl ?_
 refine Qq tt rfl ?_
 refine Zn (Yh (Bin:=[.blk g T ((.bool false)::n0::n1::n2::n3::n4::n5::n6::n7::n8::(T4 ws)::(.int .i64 ev)::ys)]) Tryz.func195 rfl rfl rfl rfl (Qli hn hl hm hq) rfl fun r_ B_ hr_=>ko ?_)
 obtain ⟨rfl,rfl⟩:=hr_
 refine Qq tt rfl ?_
 refine Qn8 ?_
 exact ⟨_,[],_,Qpl Tryz.results116 ,rfl,⟨rfl,rfl⟩⟩
set_option maxRecDepth 20000 in
theorem T9 {g T:Nat} {ys:List LV} {ev:Int} {n0 n1 n2 n3 n4 n5 n6 n7 n8:LV} {b:Bool} {ws:List Ct} (hn:ws.length≤1000000) (hl:∀ c∈ws,Pb c.p):Us Tryz.prog 40 [.one (.ow g 0)] [.blk g T ((.bool b)::n0::n1::n2::n3::n4::n5::n6::n7::n8::(T4 ws)::(.int .i64 ev)::ys)] fun r B=>r=.one (cts ((Z7 ws)))∧B=[.blk g T ((.bool b)::n0::n1::n2::n3::n4::n5::n6::n7::n8::(T4 ws)::(.int .i64 ev)::ys)]:=by
 refine X4 tt 6 [0] Tryz.func40 Tryz.ntmps40 rfl rfl rfl ?_
 refine Qf tt 1 [] (Qh (m:=ws.length) qUg rfl (Qge _) rfl) rfl ?_
 refine X5 (fun _ k_=>Xy [3] 166 7 rfl (Zc rfl) rfl (Qo k_)) rfl ?_
 refine Qj [3,9,10,11] rfl rfl ?_
 refine Zl (fun m L B=>∃ i r,i≤ws.length∧m=ws.length-i∧L=[(3,.one (.orow r 7 0 i)),(9,.one (T4 ws)),(10,.one (.int .i64 (((ws.length:Nat):Int)))),(11,.one (.int .i64 (((i:Nat):Int))))]∧B=[.row r 166 7 ((ws.take i).map Gi),.blk g T ((.bool b)::n0::n1::n2::n3::n4::n5::n6::n7::n8::(T4 ws)::(.int .i64 ev)::ys)]) (m:=_) ⟨0,none,K6 _,rfl,rfl,rfl⟩ ?_
 rintro m L B ⟨i,r,hp0,hm,rfl,rfl⟩
 refine Qq tt rfl ?_
 by_cases hlt:i<ws.length
 ·obtain ⟨c,hc⟩:∃ c,ws[i]? = some c:=⟨_,Xx hlt⟩
  refine Qr tt 1 rfl ?_
  refine Xh tt 0 [] (decide_eq_true (by omega)) rfl rfl ?_
  refine Qf tt 1 [] (Qi (i) qUg qFl rfl rfl (rfl) (Qg hc) rfl rfl) rfl ?_
  refine Zn (Qn qUw rfl rfl fun g1=>ko ?_)
  refine Xu tt 5 [0,0] rfl ?_
  refine Zn (Zg (ls2:=((ws.take (i+1)).map Gi)) (m2:=i+1) 1 qWb qWb Tryz.typeInfo166 rfl rfl qWy qUp rfl rfl rfl rfl rfl rfl rfl (by rw [Zr,Kd]; omega) (Js rfl) (Jx rfl) (by show _+1<_; omega) (by rw [Y0 (by rw [Zr,Kd]; omega),qXq,hc,F6]; rfl) (rfl) fun r2=>ko ?_)
  refine Qr tt 1 rfl ?_
  refine Qf tt 1 [] (Zb (r:=((i+1:Nat):Int)) rfl rfl (Qm (by omega) (by omega)) rfl) rfl ?_
  refine Qj [3,9,10,11] rfl rfl ?_
  refine Yt 1 rfl rfl ?_
  refine Q8 ?_
  refine ⟨_,?_,i+1,r2,by omega,rfl,rfl,rfl⟩
  omega
 have hi:ws.take i=ws:=Y0 (by omega)
 refine X5 (fun _ k_=>Xe (L2:=_) 0 [3] rfl (Zc rfl) (by rw [Zr,hi]; omega) (by rw [Zr,hi]; omega) rfl (Qo k_)) rfl ?_
 refine X5 (fun _ k_=>Xs 3 (y:=.one (cts ws)) rfl (by rw [hi]; rfl) (Qo k_)) rfl ?_
 refine Qr tt 1 rfl ?_
 refine Z8 tt 1 [] (decide_eq_false (by omega)) rfl rfl ?_
 refine kl tt 1 [] Tryz.func110 rfl rfl rfl (Dj (hl) (hn)) rfl rfl ?_
 refine Tr ?_
 exact ⟨_,[],_,I6 Tryz.results40 (Kb rfl rfl),rfl,⟨rfl,rfl⟩⟩
end Orr

namespace Orr
def Wj (l:List Pt):Prop:=l.Pairwise fun a b=>a.id<b.id
theorem Qri (id:Int):has [] id=false:=rfl
theorem Qfl (p:Pt) (l:List Pt) (id:Int):has (p::l) id=if p.id<id then has l id else decide (p.id=id):=by
  by_cases h:p.id<id
  · rw [if_pos h]; unfold has; simp only [pos]; rw [if_pos h]; simp
  · rw [if_neg h]; unfold has; simp only [pos]; rw [if_neg h]; simp
theorem Qo0 (p:Pt) (l:List Pt) (q:Pt):put (p::l) q=if p.id<q.id then p::put l q else q::p::l:=by
  unfold put
  simp only [pos]
  split <;> simp
theorem Qc1:∀ {l:List Pt} {id:Int},Wj l→(has l id=true↔∃ p∈l,p.id=id)
  | [],id,_=>by simp [Qri]
  |
   p::l,id,h=>by
   have h1:=qXu.1 h
   rw [Qfl]
   split
   · rename_i hlt
     rw [Qc1 h1.2]
     constructor
     · rintro ⟨x,hx,e⟩; exact ⟨x,Ge _ hx,e⟩
     · rintro ⟨x,hx,e⟩
       rcases Vw.1 hx with rfl | hx
       · omega
       · exact ⟨x,hx,e⟩
   · rename_i hge
     rw [decide_eq_true_iff]
     constructor
     · intro e; exact ⟨p,Fm ..,e⟩
     · rintro ⟨x,hx,e⟩
       rcases Vw.1 hx with rfl | hx
       · exact e
       · have:=h1.1 x hx; omega
theorem Iv:∀ {l:List Pt} {q:Pt},Wj l→has l q.id=false→Wj (put l q)
  | [],q,_,_=>by simp [put,pos,Wj]
  |
   p::l,q,h,hn=>by
   have h1:=qXu.1 h
   rw [Qfl] at hn
   rw [Qo0]
   split
   · rename_i hlt
     rw [if_pos hlt] at hn
     refine qXu.2 ⟨fun x hx=>?_,Iv h1.2 hn⟩
     rcases Qdi hx with rfl | hx
     · exact hlt
     · exact h1.1 x hx
   · rename_i hge
     rw [if_neg hge,decide_eq_false_iff_not] at hn
     refine qXu.2 ⟨fun x hx=>?_,h⟩
     rcases Vw.1 hx with rfl | hx
     · omega
     · have:=h1.1 x hx; omega
theorem Qj3 {l:List Pt} {q p:Pt} (h:p=q∨p∈l):p∈put l q:=by
  unfold put
  rcases h with rfl | h
  · simp
  · rw [←Iy (pos l q.id) l] at h
    simp only [Y7,Vw] at h ⊢
    rcases h with h | h
    · exact .inl h
    · exact .inr (.inr h)
theorem Qoz {l:List Pt} {q:Pt} (h:l.length<6):Tf l q=if has l q.id=true then 6 else 0:=by
  unfold Tf
  split
  · rfl
  · rw [if_neg (by omega)]
theorem Qa8:∀ (qs acc:List Pt),Wj acc→acc.length+qs.length≤6 →
    ((Jk acc qs).2=0∧Wj (Jk acc qs).1∧(Jk acc qs).1.length=acc.length+qs.length∧qs.Pairwise (fun a b=>a.id≠b.id)∧∀ q∈qs,∀ p∈acc,p.id≠q.id) ∨
    ((Jk acc qs).2=6∧¬(qs.Pairwise (fun a b=>a.id≠b.id)∧∀ q∈qs,∀ p∈acc,p.id≠q.id))
  | [],acc,hs,_=>.inl ⟨rfl,hs,rfl,List.Pairwise.nil,fun _ h=>absurd h (by simp)⟩
  |
   q::qs,acc,hs,hl=>by
   simp only [qXe] at hl
   have he:=Qoz (l:=acc) (q:=q) (by omega)
   simp only [Jk]
   cases hh:has acc q.id with
   |
    true =>
    rw [hh,if_pos rfl] at he
    rw [he,if_neg (by decide)]
    obtain ⟨p,hp,e⟩:=(Qc1 hs).1 hh
    exact .inr ⟨rfl,fun h=>h.2 q (Fm ..) p hp e⟩
   |
    false =>
    rw [hh,if_neg (by decide)] at he
    rw [he,if_pos rfl]
    have hno:∀ p∈acc,p.id≠q.id:=fun p hp e=>by
      have:=(Qc1 hs).2 ⟨p,hp,e⟩
      rw [hh] at this; cases this
    have hpl:=Ed acc q
    rcases Qa8 qs (put acc q) (Iv hs hh) (by omega) with ⟨h1,h2,h3,h4,h5⟩ | ⟨h1,h2⟩
    · refine .inl ⟨h1,h2,by simp only [qXe]; omega,qXu.2 ⟨fun x hx=>h5 x hx q (Qj3 (.inl rfl)),h4⟩,fun x hx p hp=>?_⟩
      rcases Vw.1 hx with rfl | hx
      · exact hno p hp
      · exact h5 x hx p (Qj3 (.inr hp))
    · refine .inr ⟨h1,fun h=>h2 ⟨(qXu.1 h.1).2,fun x hx p hp=>?_⟩⟩
      rcases Qdi hp with rfl | hp
      · exact (qXu.1 h.1).1 x hx
      · exact h.2 x (Ge _ hx) p hp
theorem Ql4 {qs:List Pt} (hl:qs.length≤6) :
    ((Jk [] qs).2=0∧Wj (Jk [] qs).1∧(Jk [] qs).1.length=qs.length∧qs.Pairwise (fun a b=>a.id≠b.id))∨((Jk [] qs).2=6∧¬qs.Pairwise (fun a b=>a.id≠b.id)):=by
  rcases Qa8 qs [] List.Pairwise.nil (by simpa using hl) with ⟨h1,h2,h3,h4,_⟩ | ⟨h1,h2⟩
  · exact .inl ⟨h1,h2,by simpa using h3,h4⟩
  · exact .inr ⟨h1,fun h=>h2 ⟨h,fun _ _ _ hp=>absurd hp (by simp)⟩⟩
end Orr

namespace Orr
open Go Go.Proofs
theorem I9 {α β:Type} (f:α→β) (l:List α) (x:α):l.map f++[f x]=(l++[x]).map f:=by simp
theorem Qgk {α:Type} (l:List α) (x:α):l.length+1=(l++[x]).length:=by simp
abbrev Df (l:List Pt):Prop:=∀ a∈l,Nml a.c∧Cb a.c
theorem Qfy:∀ (qs acc:List Pt) {p:Pt},p∈(Jk acc qs).1→p∈qs∨p∈acc
 | [],acc,p,h=>.inr h
 |
  q::qs,acc,p,h=>by
  simp only [Jk] at h
  split at h
  ·rcases Qfy qs _ h with h | h
   ·exact .inl (Ge _ h)
   ·rcases Qdi h with rfl | h
    ·exact .inl (Fm ..)
    ·exact .inr h
  ·cases h
theorem qs_0:Qs 1 (Qz 0 0):=by
 unfold Qz
 exact Qs.divInt (by decide) (by decide) (by decide)
theorem Qhx {x y:Int} (hx:-9223372036854775808≤x∧x≤9223372036854775807) (hy:-9223372036854775808≤y∧y≤9223372036854775807):Nml (Tw x y)∧Cb (Tw x y) :=
 ⟨Crv.nml _,((Qer hx hy).norm (by decide)).mono (by omega) (by omega)⟩
theorem Qp8 {v n:Int} (hn:0<n) (h:v.tmod n<0):v.tmod n+n=v % n:=by
 have h1:=Int.tmod_eq_emod (a:=v) (b:=n)
 have h2:=qXy v (b:=n) (by omega)
 have h3:=qXs v hn
 rw [h1] at h ⊢
 split at h <;> split <;> omega
theorem Qp9 {v n:Int} (hn:0<n) (h:¬v.tmod n<0):v.tmod n=v % n:=by
 have h1:=Int.tmod_eq_emod (a:=v) (b:=n)
 have h2:=qXy v (b:=n) (by omega)
 have h3:=qXs v hn
 rw [h1] at h ⊢
 split at h <;> split <;> omega
theorem W4 {v n:Int} (hv:-9223372036854775808≤v∧v≤9223372036854775807) (hn:0<n∧n≤1000000):Za Tryz.prog 18 [.one (.int .i64 v),.one (.int .i64 n)] (.one (.int .i64 ((v % n)))):=by
 refine X4 tt 0 [] Tryz.func18 Tryz.ntmps18 rfl rfl rfl ?_
 have hlt:=Int.tmod_lt_of_pos v hn.1
 have hgt:-n<v.tmod n:=by have:=Int.tmod_eq_emod (a:=v) (b:=n); have:=qXy v (b:=n) (by omega); have:=qXs v hn.1; split at * <;> omega
 by_cases h0:v.tmod n<0
 ·skip
  refine Qr tt 3 rfl ?_
  refine Z8 tt 2 [] (decide_eq_false (by omega)) rfl rfl ?_
  refine Qf tt 3 [] (Gr (r:=(v.tmod n)) rfl rfl (by omega) (rfl) rfl) rfl ?_
  refine Xh tt 2 [] (decide_eq_true h0) rfl rfl ?_
  refine Qf tt 3 [] (Zb (r:=(v % n)) rfl rfl (by rw [Qp8 hn.1 h0]; exact Xq (by have:=qXy v (b:=n) (by omega); omega) (by have:=qXs v hn.1; omega)) rfl) rfl ?_
  exact Xp tt [] rfl (rfl)
 skip
 refine Qr tt 3 rfl ?_
 refine Z8 tt 2 [] (decide_eq_false (by omega)) rfl rfl ?_
 refine Qf tt 3 [] (Gr (r:=(v.tmod n)) rfl rfl (by omega) (rfl) rfl) rfl ?_
 refine Z8 tt 2 [] (decide_eq_false h0) rfl rfl ?_
 exact Xp tt [] rfl (by rw [Qp9 hn.1 h0])
end Orr

namespace Orr
open Go Go.Proofs
theorem Qp7 (l:List Nat):l.take (min l.length 1)=l.take 1:=by
 cases l with
 | nil=>rfl
 | cons a l=>rw [show min (a::l).length 1=1 by rw [qXe]; omega]
theorem Qex {l:List Nat}:Za Tryz.prog 213 [.one (Xv l),.one (.int .i64 1)] (.one (Xv (l.take 1))):=by
 refine X4 tt 3 [] Tryz.func213 Tryz.ntmps213 rfl rfl rfl ?_
 refine Qf tt 1 [] (Qh (m:=l.length) Jc rfl (by simp [Vq,Xv]) rfl) rfl ?_
 refine Qf tt 0 [] (Qxo (r:=((min l.length 1:Nat):Int)) rfl rfl (by split <;> omega) rfl) rfl ?_
 refine Qf tt 1 [] (Yc (min l.length 1) Jc Y4 rfl rfl rfl (by rw [Zr]; exact Nat.min_le_left _ _) (Jj l (fun _=>rfl)) (l':=(l.take 1).map fun (x:Nat)=>[.int .u32 (x:Int)]) (by rw [←Ix,Qp7]) rfl) rfl ?_
 exact Xp tt [] rfl (rfl)
theorem Dl {z:RawInt}:Za Tryz.prog 136 [.agg [.bool z.b,Xv z.l],.one (.int .i64 1)] (.agg [.bool ((RawInt.cut z).b),Xv (RawInt.cut z).l]):=by
 refine X4 tt 1 [] Tryz.func136 Tryz.ntmps136 rfl rfl rfl ?_
 refine Zn (Qn Ko rfl rfl fun g1=>ko ?_)
 refine Qq tt rfl ?_
 refine Qy 6 Qp rfl rfl rfl ?_
 refine Qr tt 5 rfl ?_
 refine Yv tt 2 [0] Tryz.func213 rfl rfl rfl (Qex) rfl rfl ?_
 exact Xp tt [0] rfl (rfl)
def T7 (l:List RawInt):List RawInt:=(l.take 3).map RawInt.cut
theorem Qlh {l:List RawInt} {i:Nat} {z:RawInt} (hi:i<3) (h:l[i]? = some z):T7 (l.take (i+1))=T7 (l.take i)++[z.cut]:=by
 unfold T7
 rw [qYq,qYq,qJv (by omega),qJv (by omega),qXq,h]
 simp
theorem Qeu {l:List RawInt} {i:Nat} (h:l.length≤i∨3≤i):T7 (l.take i)=T7 l:=by
 unfold T7
 rw [qYq]
 rcases Nat.le_total 3 i with h3 | h3
 ·rw [Nb h3]
 rcases h with h | h
 ·rw [qJv h3,Y0 (l:=l) (i:=i) (by omega),Y0 (l:=l) (i:=3) (by omega)]
 rw [qJv h3,show i=3 by omega]
theorem Qno (l:List RawInt) {i:Nat} (h:i≤l.length) (h3:i≤3):(T7 (l.take i)).length=i:=by
 unfold T7; rw [Zr,Kd,Kd]; omega
theorem Bl (m:Int) (l:List RawInt) {i:Nat} (h:i≤l.length) (h3:i≤3):(Jw m (l.take i)).length=i:=by
 unfold Jw; rw [Zr,Kd,Kd]; omega
theorem Ma {l:List RawInt}:Za Tryz.prog 135 [.one (Y3 l),.one (.int .i64 3),.one (.int .i64 1)] (.one (Y3 ((T7 l)))):=by
 refine X4 tt 3 [] Tryz.func135 Tryz.ntmps135 rfl rfl rfl ?_
 refine X5 (fun _ k_=>Xy [7] 55 2 rfl (Zc rfl) rfl (Qo k_)) rfl ?_
 refine Qj [0,1,2,7,8] rfl rfl ?_
 refine Zl (fun m L B=>∃ i r,i≤l.length∧i≤3∧m=3-i∧L=[(0,.one (Y3 l)),(1,.one (.int .i64 3)),(2,.one (.int .i64 1)),(7,.one (.orow r 2 0 i)),(8,.one (.int .i64 (((i:Nat):Int))))]∧B=[.row r 55 2 ((T7 (l.take i)).map Qip)]) (m:=_) ⟨0,none,K6 _,K6 _,rfl,rfl,rfl⟩ ?_
 rintro m L B ⟨i,r,hp0,hp1,hm,rfl,rfl⟩
 refine Qq tt rfl ?_
 have hO:=Qno l hp0 hp1
 by_cases hlt:i<l.length
 ·by_cases h3:i<3
  refine Qq tt rfl ?_
  ·obtain ⟨z,hz⟩:∃ z,l[i]? = some z:=⟨_,Xx hlt⟩
   refine Qr tt 2 rfl ?_
   refine Qf tt 2 [] (Qh (m:=l.length) Wr rfl (Kk _) rfl) rfl ?_
   refine Qf tt 0 [] ((Qc rfl rfl (decide_eq_true (by omega)) (Qw tt rfl rfl))) rfl ?_
   refine Qf tt 0 [] ((Qc rfl rfl (decide_eq_true (by omega)) (Qw tt rfl rfl))) rfl ?_
   refine Qf tt 0 [] ((Qc rfl rfl (decide_eq_true (by omega)) (Qw tt rfl rfl))) rfl ?_
   refine Qf tt 0 [] (Zs rfl (decide_eq_true (by omega)) rfl rfl) rfl ?_
   refine Xh tt 3 [] (decide_eq_true (by omega)) rfl rfl ?_
   refine Qf tt 2 [] (Qi (i) Wr Yf rfl rfl (rfl) (Qg hz) rfl rfl) rfl ?_
   refine kl tt 1 [] Tryz.func136 rfl rfl rfl (Dl) rfl rfl ?_
   refine Zn (Zg (ls2:=(T7 (l.take (i+1))).map Qip) (m2:=i+1) 0 Wr Wr qWq rfl rfl Yf Ko rfl rfl rfl rfl rfl rfl rfl (by rw [Zr,hO]; omega) (Js rfl) (Jx rfl) (by show _+1<_; omega) (by rw [Y0 (by rw [Zr,hO]; exact X2 _),Qlh (by omega) hz,F6]; rfl) (rfl) fun r1=>ko ?_)
   refine Qr tt 2 rfl ?_
   refine Qf tt 1 [] (Zb (r:=((i+1:Nat):Int)) rfl rfl (Qm (by omega) (by omega)) rfl) rfl ?_
   refine Qj [0,1,2,7,8] rfl rfl ?_
   refine Q8 ?_
   refine ⟨_,?_,i+1,r1,by omega,by omega,rfl,rfl,rfl⟩
   omega
  have hend:l.length≤i∨3≤i:=.inr (by omega)
  refine Qr tt 2 rfl ?_
  refine Qf tt 2 [] (Qh (m:=l.length) Wr rfl (Kk _) rfl) rfl ?_
  refine Qf tt 0 [] ((Qc rfl rfl (decide_eq_true (by omega)) (Qw tt rfl rfl))) rfl ?_
  refine Qf tt 0 [] ((Qc rfl rfl (decide_eq_true (by omega)) (Qw tt rfl rfl))) rfl ?_
  refine Qf tt 0 [] ((Qc rfl rfl (decide_eq_true (by omega)) (Qw tt rfl rfl))) rfl ?_
  refine Qf tt 0 [] (Zs rfl (decide_eq_true (by omega)) rfl rfl) rfl ?_
  refine Z8 tt 2 [] (decide_eq_false (by omega)) rfl rfl ?_
  refine X5 (fun _ k_=>Xe 0 [6] rfl (Zc rfl) (by rw [Zr,hO]) (by rw [Zr,hO]; omega) rfl (Qo k_)) rfl ?_
  exact Xp tt [] rfl (by rw [Qeu hend]; rfl)
 have hend:l.length≤i∨3≤i:=.inl (by omega)
 refine Qr tt 2 rfl ?_
 refine Qf tt 2 [] (Qh (m:=l.length) Wr rfl (Kk _) rfl) rfl ?_
 refine Qf tt 0 [] (Qk rfl rfl (decide_eq_false (by omega)) rfl) rfl ?_
 refine Qf tt 0 [] (Qk rfl rfl (decide_eq_false (by omega)) rfl) rfl ?_
 refine Qf tt 0 [] (Qk rfl rfl (decide_eq_false (by omega)) rfl) rfl ?_
 refine Qf tt 0 [] (Zw rfl (decide_eq_false (by omega)) rfl rfl) rfl ?_
 refine Z8 tt 2 [] (rfl) rfl rfl ?_
 refine X5 (fun _ k_=>Xe 0 [6] rfl (Zc rfl) (by rw [Zr,hO]) (by rw [Zr,hO]; omega) rfl (Qo k_)) rfl ?_
 exact Xp tt [] rfl (by rw [Qeu hend]; rfl)
set_option maxRecDepth 20000 in
theorem Ov {x y:List RawInt} {d:RawInt}:Za Tryz.prog 72 [.agg [Y3 x,Y3 y,.bool d.b,Xv d.l],.one (.int .i64 3),.one (.int .i64 1)] (.agg [Y3 ((T7 x)),Y3 ((T7 y)),.bool ((RawInt.cut d).b),Xv (RawInt.cut d).l]):=by
 refine X4 tt 1 [] Tryz.func72 Tryz.ntmps72 rfl rfl rfl ?_
 refine Zn (Qn qWw rfl rfl fun g1=>ko ?_)
 refine Qq tt rfl ?_
 refine Qy 13 Qp rfl rfl rfl ?_
 refine Qr tt 4 rfl ?_
 refine Yv tt 4 [] Tryz.func135 rfl rfl rfl (Ma) rfl rfl ?_
 refine Yv tt 3 [] Tryz.func135 rfl rfl rfl (Ma) rfl rfl ?_
 refine Qq tt rfl ?_
 refine kl tt 2 [0] Tryz.func136 rfl rfl rfl (Dl) rfl rfl ?_
 exact Xp tt [0] rfl (rfl)
theorem Qur {α:Type} (l:List α):l=[]∨∃ u m,l=u::m:=by cases l with
 | nil=>exact .inl rfl
 | cons u m=>exact .inr ⟨u,m,rfl⟩
theorem Qgz {u:Nat} (h:u<4294967296):IntKind.i64.wrap ((u:Nat):Int)=((u:Nat):Int):=Xq (by omega) (by omega)
theorem G7 {z:RawInt} {most:Int} (hz:z.Ok) (hmo:0≤most∧most≤999):Za Tryz.prog 137 [.agg [.bool z.b,Xv z.l],.one (.int .i64 most)] (.agg [sg ((J6 most z)),mg ((J6 most z))]):=by
 refine X4 tt 0 [] Tryz.func137 Tryz.ntmps137 rfl rfl rfl ?_
 rcases Qur z.l with hl | ⟨u,l,hl⟩
 ·have hli:J6 most z=0:=by unfold J6; rw [hl]
  refine Qr tt 1 rfl ?_
  refine Zn (Qn Ko rfl rfl fun g1=>ko ?_)
  refine Qr tt 2 rfl ?_
  refine Qf tt 1 [] (Qh (m:=z.l.length) Jc rfl (by simp [Vq,Xv]) rfl) rfl ?_
  refine Xh tt 2 [0] (decide_eq_true (by rw [hl]; rfl)) rfl rfl ?_
  refine X5 (fun _ k_=>Vn (ys:=[.bool false,.row []]) 0 rfl rfl rfl (Qo k_)) rfl ?_
  exact Xp tt [0] rfl (by rw [hli,Qc8]; rfl)
 have hu:u<4294967296:=hz.u u (by rw [hl]; exact Fm ..)
 have hr1:=qXy (u:Int) (b:=most+1) (by omega)
 have hr2:=qXs (u:Int) (b:=most+1) (by omega)
 cases hb:z.b
 refine Qq tt rfl ?_
 ·have hli:J6 most z=(u:Int) % (most+1):=by unfold J6; rw [hl]; show (if z.b=true then _ else _)=_; rw [hb]; rfl
  refine Qr tt 1 rfl ?_
  refine Zn (Qn Ko rfl rfl fun g2=>ko ?_)
  refine Qr tt 2 rfl ?_
  refine Qf tt 1 [] (Qh (m:=z.l.length) Jc rfl (by simp [Vq,Xv]) rfl) rfl ?_
  refine Z8 tt 2 [] (decide_eq_false (by rw [hl]; simp; omega)) rfl rfl ?_
  refine Qf tt 1 [] (Qi (0) Jc Y4 rfl rfl (rfl) (by rw [hl]; rfl) rfl rfl) rfl ?_
  refine Qf tt 1 [] (Gz (r:=((u:Nat):Int)) Uo qWj rfl (Qgz hu) rfl) rfl ?_
  refine Qf tt 0 [] (Zb (r:=(most+1)) rfl rfl (Qm rfl (by omega)) rfl) rfl ?_
  refine Qf tt 3 [] (Gr (r:=((u:Int) % (most+1))) rfl rfl (by omega) (by rw [Int.tmod_eq_emod_of_nonneg (by omega)]) rfl) rfl ?_
  refine Z8 tt 1 [] (rfl) rfl rfl ?_
  refine kl tt 0 [] qWv rfl rfl rfl (Yq (n:=(((u:Int) % (most+1)))) (by omega)) rfl rfl ?_
  refine kl tt 1 [0] qGb rfl rfl rfl (Rg (z:=((u:Int) % (most+1))) (Xd (Gg.2 (show (((u:Int) % (most+1))).natAbs<2^10 by omega)) (by decide))) rfl rfl ?_
  exact Xp tt [0] rfl (by rw [hli])
 have hli:J6 most z=-((u:Int) % (most+1)):=by unfold J6; rw [hl]; show (if z.b=true then _ else _)=_; rw [hb]; rfl
 refine Qr tt 1 rfl ?_
 refine Zn (Qn Ko rfl rfl fun g3=>ko ?_)
 refine Qr tt 2 rfl ?_
 refine Qf tt 1 [] (Qh (m:=z.l.length) Jc rfl (by simp [Vq,Xv]) rfl) rfl ?_
 refine Z8 tt 2 [] (decide_eq_false (by rw [hl]; simp; omega)) rfl rfl ?_
 refine Qf tt 1 [] (Qi (0) Jc Y4 rfl rfl (rfl) (by rw [hl]; rfl) rfl rfl) rfl ?_
 refine Qf tt 1 [] (Gz (r:=((u:Nat):Int)) Uo qWj rfl (Qgz hu) rfl) rfl ?_
 refine Qf tt 0 [] (Zb (r:=(most+1)) rfl rfl (Qm rfl (by omega)) rfl) rfl ?_
 refine Qf tt 3 [] (Gr (r:=((u:Int) % (most+1))) rfl rfl (by omega) (by rw [Int.tmod_eq_emod_of_nonneg (by omega)]) rfl) rfl ?_
 refine Xh tt 1 [] (rfl) rfl rfl ?_
 refine Qf tt 2 [] (Qti (r:=(-(((u:Int) % (most+1))))) rfl (Qm rfl (by omega)) rfl) rfl ?_
 refine kl tt 0 [] qWv rfl rfl rfl (Yq (n:=((-(((u:Int) % (most+1)))))) (by omega)) rfl rfl ?_
 refine kl tt 1 [0] qGb rfl rfl rfl (Rg (z:=(-((u:Int) % (most+1)))) (Xd (Gg.2 (show ((-((u:Int) % (most+1)))).natAbs<2^10 by omega)) (by decide))) rfl rfl ?_
 exact Xp tt [0] rfl (by rw [hli])
set_option maxRecDepth 20000 in
theorem E5 {x y:List RawInt} {d:RawInt} {most:Int} (hx:∀ a∈x,a.Ok) (hy:∀ a∈y,a.Ok) (hd:d.Ok) (hmo:0≤most∧most≤999):Za Tryz.prog 73 [.agg [Y3 x,Y3 y,.bool d.b,Xv d.l],.one (.int .i64 most)] (.agg [pl (((Z1 most x y d)).x),pl (((Z1 most x y d)).y),sg (((Z1 most x y d)).d),mg (((Z1 most x y d)).d)]):=by
 refine X4 tt 1 [] Tryz.func73 Tryz.ntmps73 rfl rfl rfl ?_
 refine Zn (Qn qWw rfl rfl fun g1=>ko ?_)
 refine Qr tt 2 rfl ?_
 refine kl tt 1 [] Tryz.func137 rfl rfl rfl (G7 (z:=d) (most:=3) (hd) (by decide)) rfl rfl ?_
 refine Zn (Qn qWw rfl rfl fun g2=>ko ?_)
 refine syp tt 2 [100000] [0] rfl ?_
 refine Ml 1 (fun L B=>L=[(1,.one (.int .i64 most)),(2,.one (.sh [Y3 x,Y3 y,.bool d.b,Xv d.l])),(4,.one (.ow g1 0)),(5,.one (.ow g2 0))]∧B=[.blk g2 74 [pl ((Jw most x)),.nils,sg ((J6 3 d)),mg ((J6 3 d))],.blk g1 74 [.nils,.nils,.bool false,.nils]]) ?_ rfl ?_
 ·skip
  refine Qq tt rfl ?_
  refine X5 (fun _ k_=>Mv 0 0 55 2 rfl rfl rfl (Qo k_)) rfl ?_
  refine Qj [1,2,4,5,6] rfl rfl ?_
  refine Zl (fun m L B=>∃ i r,i≤x.length∧i≤3∧m=3-i∧L=[(1,.one (.int .i64 most)),(2,.one (.sh [Y3 x,Y3 y,.bool d.b,Xv d.l])),(4,.one (.ow g1 0)),(5,.one (.ow g2 0)),(6,.one (.int .i64 (((i:Nat):Int))))]∧B=[.blk g2 74 [.orow r 2 0 i,.nils,sg ((J6 3 d)),mg ((J6 3 d))],.row r 55 2 ((Jw most (x.take i)).map W9),.blk g1 74 [.nils,.nils,.bool false,.nils]]) (m:=_) ⟨0,none,K6 _,K6 _,rfl,rfl,rfl⟩ ?_
  rintro m L B ⟨i,r,hp0,hp1,hm,rfl,rfl⟩
  refine Qq tt rfl ?_
  have hO:=Bl most x hp0 hp1
  by_cases hlt:i<x.length
  ·by_cases h3:i<3
   refine Qq tt rfl ?_
   ·obtain ⟨z,hz⟩:∃ z,x[i]? = some z:=⟨_,Xx hlt⟩
    refine Qr tt 3 rfl ?_
    refine Qf tt 2 [] (Qh (m:=x.length) Wr rfl (Kk _) rfl) rfl ?_
    refine Qf tt 0 [] ((Qc rfl rfl (decide_eq_true (by omega)) (Qw tt rfl rfl))) rfl ?_
    refine Qf tt 0 [] ((Qc rfl rfl (decide_eq_true (by omega)) (Qw tt rfl rfl))) rfl ?_
    refine Qf tt 0 [] (Zs rfl (decide_eq_true (by omega)) rfl rfl) rfl ?_
    refine Xh tt 0 [] (decide_eq_true (by omega)) rfl rfl ?_
    refine Qy 10 Qp rfl rfl rfl ?_
    refine Xu tt 5 [0] rfl ?_
    refine kd (Qi (i) Wr Yf rfl rfl (rfl) (Qg hz) rfl rfl) rfl ?_
    refine Qr tt 2 rfl ?_
    refine Yv tt 1 [] Tryz.func137 rfl rfl rfl (G7 (z:=z) (most:=most) ((hx z (Vo hz))) (hmo)) rfl rfl ?_
    refine Qq tt rfl ?_
    refine Zn (Zg (ls2:=(Jw most (x.take (i+1))).map W9) (m2:=i+1) 1 Wr Wr qWq rfl rfl Yf Ko rfl rfl rfl rfl rfl rfl rfl (by rw [Zr,hO]; omega) (Js rfl) (Jx rfl) (by show _+1<_; omega) (by rw [Y0 (by rw [Zr,hO]; exact X2 _),Bm (by omega) hz,F6]; rfl) (rfl) fun r3=>ko ?_)
    refine Xu tt 3 [1] rfl ?_
    refine Qf tt 1 [] (Zb (r:=((i+1:Nat):Int)) rfl rfl (Qm (by omega) (by omega)) rfl) rfl ?_
    refine Qj [1,2,4,5,6] rfl rfl ?_
    refine Yi 2 rfl rfl ?_
    refine Yi 1 rfl rfl ?_
    refine Yi 2 rfl rfl ?_
    refine Q8 ?_
    refine ⟨_,?_,i+1,r3,by omega,by omega,rfl,rfl,rfl⟩
    omega
   have hend:x.length≤i∨3≤i:=.inr (by omega)
   refine Qr tt 3 rfl ?_
   refine Qf tt 2 [] (Qh (m:=x.length) Wr rfl (Kk _) rfl) rfl ?_
   refine Qf tt 0 [] ((Qc rfl rfl (decide_eq_true (by omega)) (Qw tt rfl rfl))) rfl ?_
   refine Qf tt 0 [] ((Qc rfl rfl (decide_eq_true (by omega)) (Qw tt rfl rfl))) rfl ?_
   refine Qf tt 0 [] (Zs rfl (decide_eq_true (by omega)) rfl rfl) rfl ?_
   refine Z8 tt 0 [] (decide_eq_false (by omega)) rfl rfl ?_
   refine X5 (fun _ k_=>Jq (ls':=(Jw most x).map W9) 1 rfl (by rw [Ye most hend]) (Qo k_)) rfl ?_
   refine X5 (fun _ k_=>G5 0 0 0 rfl rfl rfl rfl (by rw [Zr,←Ye most hend,hO]) (by rw [Zr,←Ye most hend,hO]; omega) (Qo k_)) rfl ?_
   refine Qj [1,2,4,5] rfl rfl ?_
   refine Q8 ?_
   exact ⟨rfl,rfl⟩
  have hend:x.length≤i∨3≤i:=.inl (by omega)
  refine Qr tt 3 rfl ?_
  refine Qf tt 2 [] (Qh (m:=x.length) Wr rfl (Kk _) rfl) rfl ?_
  refine Qf tt 0 [] (Qk rfl rfl (decide_eq_false (by omega)) rfl) rfl ?_
  refine Qf tt 0 [] (Qk rfl rfl (decide_eq_false (by omega)) rfl) rfl ?_
  refine Qf tt 0 [] (Zw rfl (decide_eq_false (by omega)) rfl rfl) rfl ?_
  refine Z8 tt 0 [] (rfl) rfl rfl ?_
  refine X5 (fun _ k_=>Jq (ls':=(Jw most x).map W9) 1 rfl (by rw [Ye most hend]) (Qo k_)) rfl ?_
  refine X5 (fun _ k_=>G5 0 0 0 rfl rfl rfl rfl (by rw [Zr,←Ye most hend,hO]) (by rw [Zr,←Ye most hend,hO]; omega) (Qo k_)) rfl ?_
  refine Qj [1,2,4,5] rfl rfl ?_
  refine Q8 ?_
  exact ⟨rfl,rfl⟩
 rintro L B ⟨rfl,rfl⟩
 refine Qq tt rfl ?_
 skip
 skip
 refine syp tt 1 [100002] [] rfl ?_
 refine Ml 1 (fun L B=>L=[(1,.one (.int .i64 most)),(2,.one (.sh [Y3 x,Y3 y,.bool d.b,Xv d.l])),(4,.one (.ow g1 0)),(5,.one (.ow g2 0))]∧B=[.blk g2 74 [pl ((Jw most x)),pl ((Jw most y)),sg ((J6 3 d)),mg ((J6 3 d))],.blk g1 74 [.nils,.nils,.bool false,.nils]]) ?_ rfl ?_
 ·skip
  refine Qq tt rfl ?_
  refine X5 (fun _ k_=>Mv 0 1 55 2 rfl rfl rfl (Qo k_)) rfl ?_
  refine Qj [1,2,4,5,7] rfl rfl ?_
  refine Zl (fun m L B=>∃ i r,i≤y.length∧i≤3∧m=3-i∧L=[(1,.one (.int .i64 most)),(2,.one (.sh [Y3 x,Y3 y,.bool d.b,Xv d.l])),(4,.one (.ow g1 0)),(5,.one (.ow g2 0)),(7,.one (.int .i64 (((i:Nat):Int))))]∧B=[.blk g2 74 [pl ((Jw most x)),.orow r 2 0 i,sg ((J6 3 d)),mg ((J6 3 d))],.row r 55 2 ((Jw most (y.take i)).map W9),.blk g1 74 [.nils,.nils,.bool false,.nils]]) (m:=_) ⟨0,none,K6 _,K6 _,rfl,rfl,rfl⟩ ?_
  rintro m L B ⟨i,r,hp0,hp1,hm,rfl,rfl⟩
  refine Qq tt rfl ?_
  have hO:=Bl most y hp0 hp1
  by_cases hlt:i<y.length
  ·by_cases h3:i<3
   refine Qq tt rfl ?_
   ·obtain ⟨z,hz⟩:∃ z,y[i]? = some z:=⟨_,Xx hlt⟩
    refine Qr tt 3 rfl ?_
    refine Qf tt 2 [] (Qh (m:=y.length) Wr rfl (Kk _) rfl) rfl ?_
    refine Qf tt 0 [] ((Qc rfl rfl (decide_eq_true (by omega)) (Qw tt rfl rfl))) rfl ?_
    refine Qf tt 0 [] ((Qc rfl rfl (decide_eq_true (by omega)) (Qw tt rfl rfl))) rfl ?_
    refine Qf tt 0 [] (Zs rfl (decide_eq_true (by omega)) rfl rfl) rfl ?_
    refine Xh tt 0 [] (decide_eq_true (by omega)) rfl rfl ?_
    refine Qy 10 Qp rfl rfl rfl ?_
    refine Xu tt 5 [0] rfl ?_
    refine kd (Qi (i) Wr Yf rfl rfl (rfl) (Qg hz) rfl rfl) rfl ?_
    refine Qr tt 2 rfl ?_
    refine Yv tt 1 [] Tryz.func137 rfl rfl rfl (G7 (z:=z) (most:=most) ((hy z (Vo hz))) (hmo)) rfl rfl ?_
    refine Qq tt rfl ?_
    refine Zn (Zg (ls2:=(Jw most (y.take (i+1))).map W9) (m2:=i+1) 1 Wr Wr qWq rfl rfl Yf Ko rfl rfl rfl rfl rfl rfl rfl (by rw [Zr,hO]; omega) (Js rfl) (Jx rfl) (by show _+1<_; omega) (by rw [Y0 (by rw [Zr,hO]; exact X2 _),Bm (by omega) hz,F6]; rfl) (rfl) fun r4=>ko ?_)
    refine Xu tt 3 [1] rfl ?_
    refine Qf tt 1 [] (Zb (r:=((i+1:Nat):Int)) rfl rfl (Qm (by omega) (by omega)) rfl) rfl ?_
    refine Qj [1,2,4,5,7] rfl rfl ?_
    refine Yi 2 rfl rfl ?_
    refine Yi 1 rfl rfl ?_
    refine Yi 2 rfl rfl ?_
    refine Q8 ?_
    refine ⟨_,?_,i+1,r4,by omega,by omega,rfl,rfl,rfl⟩
    omega
   have hend:y.length≤i∨3≤i:=.inr (by omega)
   refine Qr tt 3 rfl ?_
   refine Qf tt 2 [] (Qh (m:=y.length) Wr rfl (Kk _) rfl) rfl ?_
   refine Qf tt 0 [] ((Qc rfl rfl (decide_eq_true (by omega)) (Qw tt rfl rfl))) rfl ?_
   refine Qf tt 0 [] ((Qc rfl rfl (decide_eq_true (by omega)) (Qw tt rfl rfl))) rfl ?_
   refine Qf tt 0 [] (Zs rfl (decide_eq_true (by omega)) rfl rfl) rfl ?_
   refine Z8 tt 0 [] (decide_eq_false (by omega)) rfl rfl ?_
   refine X5 (fun _ k_=>Jq (ls':=(Jw most y).map W9) 1 rfl (by rw [Ye most hend]) (Qo k_)) rfl ?_
   refine X5 (fun _ k_=>G5 0 0 1 rfl rfl rfl rfl (by rw [Zr,←Ye most hend,hO]) (by rw [Zr,←Ye most hend,hO]; omega) (Qo k_)) rfl ?_
   refine Qj [1,2,4,5] rfl rfl ?_
   refine Q8 ?_
   exact ⟨rfl,rfl⟩
  have hend:y.length≤i∨3≤i:=.inl (by omega)
  refine Qr tt 3 rfl ?_
  refine Qf tt 2 [] (Qh (m:=y.length) Wr rfl (Kk _) rfl) rfl ?_
  refine Qf tt 0 [] (Qk rfl rfl (decide_eq_false (by omega)) rfl) rfl ?_
  refine Qf tt 0 [] (Qk rfl rfl (decide_eq_false (by omega)) rfl) rfl ?_
  refine Qf tt 0 [] (Zw rfl (decide_eq_false (by omega)) rfl rfl) rfl ?_
  refine Z8 tt 0 [] (rfl) rfl rfl ?_
  refine X5 (fun _ k_=>Jq (ls':=(Jw most y).map W9) 1 rfl (by rw [Ye most hend]) (Qo k_)) rfl ?_
  refine X5 (fun _ k_=>G5 0 0 1 rfl rfl rfl rfl (by rw [Zr,←Ye most hend,hO]) (by rw [Zr,←Ye most hend,hO]; omega) (Qo k_)) rfl ?_
  refine Qj [1,2,4,5] rfl rfl ?_
  refine Q8 ?_
  exact ⟨rfl,rfl⟩
 rintro L B ⟨rfl,rfl⟩
 refine Qq tt rfl ?_
 skip
 skip
 refine Xu tt 2 [0,1] rfl ?_
 exact Xp tt [1] rfl (rfl)
end Orr

namespace Orr
open Go Go.Proofs
abbrev gP (l:List RawPt) (n:Nat) (most:Int) (i:Nat):List Pt:=K4 n [] ((l.take i).map (Tc most))
abbrev rnp (p:Pt):List LV:=I0 (Pt.nrm p)
theorem Qxg {l:List RawPt} {n i:Nat} {most:Int} {z:RawPt} (hz:l[i]? = some z) (hn:(gP l n most i).length<n) (ha:(gP l n most i).any (fun x=>decide (x.id=z.id % 1000))=true):gP l n most (i+1)=gP l n most i:=by
 unfold gP
 rw [qXq,hz,qYh,F6]
 exact Ta _ _ _ hn ha
theorem Quh {l:List RawPt} {n i:Nat} {most:Int} {z:RawPt} (hz:l[i]? = some z) (hn:(gP l n most i).length<n) (ha:(gP l n most i).any (fun x=>decide (x.id=z.id % 1000))=false):gP l n most (i+1)=gP l n most i++[Tc most z]:=by
 unfold gP
 rw [qXq,hz,qYh,F6]
 exact H1 _ _ _ hn ha
theorem Qn2 {l:List RawPt} {n i:Nat} {most:Int} (h:l.length≤i∨n≤(gP l n most i).length):gP l n most i=Jt n most l:=by
 unfold Jt
 rcases h with h | h
 ·unfold gP; rw [Y0 h]
 have:=Cw _ ((l.drop i).map (Tc most)) [] h
 rw [←F6,Iy] at this
 exact this.symm
theorem Qug (l:List RawPt) (n:Nat) (most:Int) (i:Nat):(gP l n most i).length≤n:=Sm _ _ (K6 _)
theorem Qnj {O:List Pt} {k:Nat} {x:Pt} {id:Int} (h:O[k]? = some x):(O.take (k+1)).any (fun y=>decide (y.id=id))=((O.take k).any (fun y=>decide (y.id=id)) || decide (x.id=id)):=by
 rw [qXq,h,qYh,List.any_append]; simp
set_option maxRecDepth 20000 in
theorem Lc {l:List RawPt} (hl:∀ z∈l,z.Ok) (hn:l.length≤140737488355327):Us Tryz.prog 15 [.one (I7 l),.one (.int .i64 4)] [] fun R B=>∃ r1 r2,R=.tup [.one (.orow r1 5 0 (Jt 4 20 l).length),.one (.orow r2 7 0 (Jt 4 20 l).length)]∧B=[.row r1 76 5 ((Jt 4 20 l).map Wp),.row r2 100 7 ((Jt 4 20 l).map rnp)]:=by
 refine X4 tt 5 [] Tryz.func15 Tryz.ntmps15 rfl rfl rfl ?_
 refine X5 (fun _ k_=>Xy [7] 100 7 rfl (Zc rfl) rfl (Qo k_)) rfl ?_
 refine X5 (fun _ k_=>Xy [6] 76 5 rfl (Zc rfl) rfl (Qo k_)) rfl ?_
 refine Qj [0,1,6,7,8] rfl rfl ?_
 refine Zl (fun m L B=>∃ i r1 r2,i≤l.length∧m=l.length-i∧L=[(0,.one (I7 l)),(1,.one (.int .i64 4)),(6,.one (.orow r1 5 0 ((gP l 4 20 i).length))),(7,.one (.orow r2 7 0 ((gP l 4 20 i).length))),(8,.one (.int .i64 (((i:Nat):Int))))]∧B=[.row r1 76 5 ((gP l 4 20 i).map Wp),.row r2 100 7 ((gP l 4 20 i).map rnp)]) (m:=_) ⟨0,none,none,K6 _,rfl,rfl,rfl⟩ ?_
 rintro m L B ⟨i,r1,r2,hp0,hm,rfl,rfl⟩
 refine Qq tt rfl ?_
 have hgl:=Qug l 4 20 i
 by_cases hlt:i<l.length
 ·by_cases h3:(gP l 4 20 i).length<4
  refine Qq tt rfl ?_
  ·obtain ⟨z,hz⟩:∃ z,l[i]? = some z:=⟨_,Xx hlt⟩
   have hzo:=hl z (Vo hz)
   have hidr:=qXy z.id (b:=1000) (by omega)
   have hidl:=qXs z.id (b:=1000) (by omega)
   refine Qr tt 2 rfl ?_
   refine Qf tt 2 [] (Qh (m:=l.length) V0 rfl (C7 _) rfl) rfl ?_
   refine Qf tt 0 [] ((Qc rfl rfl (decide_eq_true (by omega)) (Qw tt rfl rfl))) rfl ?_
   refine Qf tt 0 [] ((Qc rfl rfl (decide_eq_true (by omega)) (Qh (m:=(gP l 4 20 i).length) V0 rfl (rfl) rfl))) rfl ?_
   refine Qf tt 0 [] ((Qc rfl rfl (decide_eq_true (by omega)) (Qw tt rfl rfl))) rfl ?_
   refine Qf tt 0 [] ((Qc rfl rfl (decide_eq_true (by omega)) (Qw tt rfl rfl))) rfl ?_
   refine Qf tt 0 [] (Zs rfl (decide_eq_true (by omega)) rfl rfl) rfl ?_
   refine Xh tt 0 [] (decide_eq_true (by omega)) rfl rfl ?_
   refine kc (U3 Qp 14 [24,25,26,27,28,29,30,31,32,33,34,35,36,9] [[],[],[0,1],[2],[3],[4],[],[],[6,7],[8],[9],[10],[5,11],[]] [.one (I7 l),.one (.int .i64 (((i:Nat):Int))),.one (.sh [Y3 z.x,Y3 z.y,.bool z.d.b,Xv z.d.l,.int .i64 z.id]),.one (.sh [Y3 z.x,Y3 z.y,.bool z.d.b,Xv z.d.l,.int .i64 z.id]),.agg [Y3 z.x,Y3 z.y,.bool z.d.b,Xv z.d.l],.agg [Y3 ((T7 z.x)),Y3 ((T7 z.y)),.bool ((RawInt.cut z.d).b),Xv (RawInt.cut z.d).l],.one (I7 l),.one (.int .i64 (((i:Nat):Int))),.one (.sh [Y3 z.x,Y3 z.y,.bool z.d.b,Xv z.d.l,.int .i64 z.id]),.one (.sh [.int .i64 z.id]),.one (.int .i64 z.id),.one (.int .i64 ((z.id % 1000))),.agg [Y3 ((T7 z.x)),Y3 ((T7 z.y)),.bool ((RawInt.cut z.d).b),Xv (RawInt.cut z.d).l,.int .i64 ((z.id % 1000))],.un] [(13,76,[.slice none 0 0,.slice none 0 0,.bool false,.slice none 0 0,.int .i64 0])] [[.nils,.nils,.bool false,.nils,.int .i64 0]] rfl rfl rfl (by decide) ⟨rfl,trivial⟩ rfl ⟨Qv rfl rfl,Qv rfl rfl,Qi (i) V0 Wb rfl rfl (rfl) (Qg hz) rfl rfl,J0 Qrf rfl rfl rfl,Zq Tryz.isAgg74 Tryz.sizeOf74 rfl rfl rfl rfl,Zu Tryz.func72 rfl rfl rfl rfl (Ov) rfl,Qv rfl rfl,Qv rfl rfl,Qi (i) V0 Wb rfl rfl (rfl) (Qg hz) rfl rfl,J0 Bb rfl rfl rfl,Zq S0 Xw rfl rfl rfl rfl,Zu Tryz.func18 rfl rfl rfl rfl (W4 (hzo.id) (by omega)) rfl,F5 (Qw7) rfl rfl rfl rfl,Vr qWu rfl,trivial⟩ fun g1=>⟨_,_,rfl,rfl,kn ?_⟩)
   refine Xu tt 3 [0] rfl ?_
   refine Z8 tt 2 [] (rfl) rfl rfl ?_
   refine Xh tt 2 [] (rfl) rfl rfl ?_
   refine Qf tt 2 [] (Qi (i) V0 Wb rfl rfl (rfl) (Qg hz) rfl rfl) rfl ?_
   refine kl tt 4 [0] Tryz.func73 rfl rfl rfl (E5 (x:=z.x) (y:=z.y) (d:=z.d) (most:=20) (hzo.x) (hzo.y) (hzo.d) (by decide)) rfl rfl ?_
   refine Qf tt 1 [] (Qh (m:=(gP l 4 20 i).length) V0 rfl (rfl) rfl) rfl ?_
   refine Qj [0,1,6,7,8,9,56,10,57] rfl rfl ?_
   refine Yi 0 rfl rfl ?_
   refine Yi 2 rfl rfl ?_
   refine Yi 2 rfl rfl ?_
   refine Zl (fun m L B=>∃ k b,k≤(gP l 4 20 i).length∧b=(((gP l 4 20 i).take k).any fun y=>decide (y.id=z.id % 1000))∧m=(gP l 4 20 i).length-k∧L=[(0,.one (I7 l)),(1,.one (.int .i64 4)),(6,.one (.orow r1 5 0 ((gP l 4 20 i).length))),(7,.one (.orow r2 7 0 ((gP l 4 20 i).length))),(8,.one (.int .i64 (((i:Nat):Int)))),(9,.one (.ow ((g1 13)) 0)),(56,.one (.int .i64 ((((gP l 4 20 i).length:Nat):Int)))),(10,.one (.bool b)),(57,.one (.int .i64 (((k:Nat):Int))))]∧B=[.row r1 76 5 ((gP l 4 20 i).map Wp),.row r2 100 7 ((gP l 4 20 i).map rnp),.blk (g1 13) 76 [pl (((Z1 20 z.x z.y z.d)).x),pl (((Z1 20 z.x z.y z.d)).y),sg (((Z1 20 z.x z.y z.d)).d),mg (((Z1 20 z.x z.y z.d)).d),.int .i64 ((z.id % 1000))]]) (m:=_) ⟨0,false,K6 _,rfl,rfl,rfl,rfl⟩ ?_
   rintro m L B ⟨k,b,hq0,hq1,hm,rfl,rfl⟩
   refine Qq tt rfl ?_
   by_cases hk:k<(gP l 4 20 i).length
   ·obtain ⟨x,hx⟩:∃ x,(gP l 4 20 i)[k]? = some x:=⟨_,Xx hk⟩
    have hany:=Qnj (id:=z.id % 1000) hx
    rcases Bool.eq_false_or_eq_true b with hb | hb
    refine Qq tt rfl ?_
    ·have hnx:true=(((gP l 4 20 i).take (k+1)).any fun y=>decide (y.id=z.id % 1000)):=by rw [hany,←hq1,hb]; rfl
     refine Qr tt 1 rfl ?_
     refine Xh tt 2 [] (decide_eq_true (by omega)) rfl rfl ?_
     refine Qy 9 Qp rfl rfl rfl ?_
     refine Qr tt 2 rfl ?_
     refine kd (Qk rfl rfl (hb) rfl) rfl ?_
     refine Qq tt rfl ?_
     refine kd (Qk rfl rfl (hb) rfl) rfl ?_
     refine Qq tt rfl ?_
     refine kd (Qk rfl rfl (hb) rfl) rfl ?_
     refine Qq tt rfl ?_
     refine kd (Qk rfl rfl (hb) rfl) rfl ?_
     refine Qq tt rfl ?_
     refine kd (Qk rfl rfl (hb) rfl) rfl ?_
     refine Qq tt rfl ?_
     refine kd (Qk rfl rfl (hb) rfl) rfl ?_
     refine Qq tt rfl ?_
     refine kd (Qk rfl rfl (hb) rfl) rfl ?_
     refine Qq tt rfl ?_
     refine Qf tt 0 [] (Qk rfl rfl (hb) rfl) rfl ?_
     refine Qf tt 1 [] (Zs rfl (hb) rfl rfl) rfl ?_
     refine Qf tt 1 [] (Zb (r:=((k+1:Nat):Int)) rfl rfl (Qm (by omega) (by omega)) rfl) rfl ?_
     refine Qj [0,1,6,7,8,9,56,10,57] rfl rfl ?_
     refine Q8 ?_
     refine ⟨_,?_,k+1,true,by omega,hnx,rfl,rfl,rfl⟩
     omega
    have hnx:decide (x.id=z.id % 1000)=(((gP l 4 20 i).take (k+1)).any fun y=>decide (y.id=z.id % 1000)):=by rw [hany,←hq1,hb]; rfl
    refine Qr tt 1 rfl ?_
    refine Xh tt 2 [] (decide_eq_true (by omega)) rfl rfl ?_
    refine Qy 9 Qp rfl rfl rfl ?_
    refine Qr tt 2 rfl ?_
    refine kd ((Qc rfl rfl (hb) (Qw tt rfl rfl))) rfl ?_
    refine Qq tt rfl ?_
    refine kd ((Qc rfl rfl (hb) (Qw tt rfl rfl))) rfl ?_
    refine Qq tt rfl ?_
    refine kd ((Qc rfl rfl (hb) (Zi (k) V0 Wb rfl rfl (rfl) (by omega) rfl))) rfl ?_
    refine Qq tt rfl ?_
    refine kd ((Qc rfl rfl (hb) (Qw tt rfl rfl))) rfl ?_
    refine Qq tt rfl ?_
    refine kd ((Qc rfl rfl (hb) (X7 0 S0 Xw rfl rfl (by rw [Vl]; exact Qg hx) rfl rfl rfl))) rfl ?_
    refine Qq tt rfl ?_
    refine kd ((Qc rfl rfl (hb) (Qw tt rfl rfl))) rfl ?_
    refine Qq tt rfl ?_
    refine kd ((Qc rfl rfl (hb) (Wv tt 2 rfl rfl))) rfl ?_
    refine Qq tt rfl ?_
    refine Qf tt 0 [] ((Qc rfl rfl (hb) (Qw tt rfl rfl))) rfl ?_
    refine Qf tt 1 [] (Zw rfl (hb) rfl rfl) rfl ?_
    refine Qf tt 1 [] (Zb (r:=((k+1:Nat):Int)) rfl rfl (Qm (by omega) (by omega)) rfl) rfl ?_
    refine Qj [0,1,6,7,8,9,56,10,57] rfl rfl ?_
    refine Q8 ?_
    refine ⟨_,?_,k+1,(decide (x.id=((z.id % 1000)))),by omega,hnx,rfl,rfl,rfl⟩
    omega
   have hbe:b=((gP l 4 20 i).any fun y=>decide (y.id=z.id % 1000)):=by rw [hq1,Y0 (by omega)]
   rcases Bool.eq_false_or_eq_true b with hb | hb
   refine Qq tt rfl ?_
   ·have hgi:=Qxg hz h3 (hbe ▸ hb)
    have hgl2:(gP l 4 20 (i+1)).length=(gP l 4 20 i).length:=by rw [hgi]
    refine Qr tt 1 rfl ?_
    refine Z8 tt 2 [] (decide_eq_false (by omega)) rfl rfl ?_
    refine Z8 tt 1 [] (by rw [hb]; rfl) rfl rfl ?_
    refine Qf tt 1 [] (Zb (r:=((i+1:Nat):Int)) rfl rfl (Qm (by omega) (by omega)) rfl) rfl ?_
    refine X5 (fun _ k_=>Jq (ls':=(gP l 4 20 (i+1)).map rnp) 1 rfl (by rw [hgi]) (Qo k_)) rfl ?_
    refine X5 (fun _ k_=>Xs 7 (y:=.one (.orow r2 7 0 (gP l 4 20 (i+1)).length)) rfl (by rw [hgi]) (Qo k_)) rfl ?_
    refine X5 (fun _ k_=>Jq (ls':=(gP l 4 20 (i+1)).map Wp) 1 rfl (by rw [hgi]) (Qo k_)) rfl ?_
    refine X5 (fun _ k_=>Xs 6 (y:=.one (.orow r1 5 0 (gP l 4 20 (i+1)).length)) rfl (by rw [hgi]) (Qo k_)) rfl ?_
    refine Qj [0,1,6,7,8] rfl rfl ?_
    refine Yt 2 rfl rfl ?_
    refine Q8 ?_
    refine ⟨_,?_,i+1,r1,r2,by omega,rfl,rfl,rfl⟩
    omega
   have hgi:=Quh hz h3 (hbe ▸ hb)
   refine Qr tt 1 rfl ?_
   refine Z8 tt 2 [] (decide_eq_false (by omega)) rfl rfl ?_
   refine Xh tt 0 [] (by rw [hb]; rfl) rfl rfl ?_
   refine kc (Kl Qp 8 [74,75,76,77,78,79,80,81] [[],[],[1],[0,2],[],[],[5],[6]] [.one (.orow r1 5 0 ((gP l 4 20 i).length)),.agg [pl (((Z1 20 z.x z.y z.d)).x),pl (((Z1 20 z.x z.y z.d)).y),sg (((Z1 20 z.x z.y z.d)).d),mg (((Z1 20 z.x z.y z.d)).d),.int .i64 ((z.id % 1000))],.one (.row [[pl (((Z1 20 z.x z.y z.d)).x),pl (((Z1 20 z.x z.y z.d)).y),sg (((Z1 20 z.x z.y z.d)).d),mg (((Z1 20 z.x z.y z.d)).d),.int .i64 ((z.id % 1000))]]),.un,.one (.orow r2 7 0 ((gP l 4 20 i).length)),.agg [pl (((Z1 20 z.x z.y z.d)).x),pl (((Z1 20 z.x z.y z.d)).y),sg (((Z1 20 z.x z.y z.d)).d),mg (((Z1 20 z.x z.y z.d)).d),.int .i64 ((z.id % 1000))],.agg [Zp ((X6 (Crv.norm (Z1 20 z.x z.y z.d)).x (Crv.norm (Z1 20 z.x z.y z.d)).d)),Zp ((X6 (Crv.norm (Z1 20 z.x z.y z.d)).y (Crv.norm (Z1 20 z.x z.y z.d)).d)),pl ((Crv.norm (Z1 20 z.x z.y z.d)).x),pl ((Crv.norm (Z1 20 z.x z.y z.d)).y),sg ((Crv.norm (Z1 20 z.x z.y z.d)).d),mg ((Crv.norm (Z1 20 z.x z.y z.d)).d),.int .i64 ((z.id % 1000))],.one (.row [[Zp ((X6 (Crv.norm (Z1 20 z.x z.y z.d)).x (Crv.norm (Z1 20 z.x z.y z.d)).d)),Zp ((X6 (Crv.norm (Z1 20 z.x z.y z.d)).y (Crv.norm (Z1 20 z.x z.y z.d)).d)),pl ((Crv.norm (Z1 20 z.x z.y z.d)).x),pl ((Crv.norm (Z1 20 z.x z.y z.d)).y),sg ((Crv.norm (Z1 20 z.x z.y z.d)).d),mg ((Crv.norm (Z1 20 z.x z.y z.d)).d),.int .i64 ((z.id % 1000))]])] 3 (fun u B=>∃ r',u=.one (.orow r' 5 0 ((gP l 4 20 i).length+1))∧B=[.row r' 76 5 ((((gP l 4 20 i)++[Tc 20 z]).map Wp)),.row r2 100 7 ((gP l 4 20 i).map rnp),.blk (g1 13) 76 [pl (((Z1 20 z.x z.y z.d)).x),pl (((Z1 20 z.x z.y z.d)).y),sg (((Z1 20 z.x z.y z.d)).d),mg (((Z1 20 z.x z.y z.d)).d),.int .i64 ((z.id % 1000))]]) rfl rfl rfl rfl ⟨Qv rfl rfl,Xb 2 qUo Wb rfl rfl rfl rfl rfl,Rm V0 Wb qWu rfl rfl rfl rfl rfl rfl rfl rfl rfl rfl,?_,Qv rfl rfl,Xb 2 qUo Wb rfl rfl rfl rfl rfl,Zu Tryz.func74 rfl rfl rfl rfl (Me (k:=Z1 20 z.x z.y z.d) (id:=z.id % 1000) ((Cn (by decide) z.x z.y z.d).mono (by omega) (by omega))) rfl,Rm Ue Uf qWh rfl rfl rfl rfl rfl rfl rfl rfl rfl rfl,trivial⟩ ?_ ?_)
   ·refine Km fun N k_=>?_
    refine Zg (ls2:=(((gP l 4 20 i)++[Tc 20 z]).map Wp)) (m2:=(gP l 4 20 i).length+1) 0 V0 V0 Tryz.typeInfo76 rfl rfl Wb qWu rfl rfl rfl rfl rfl rfl rfl (by rw [Zr]; exact X2 _) (Js rfl) (Jx rfl) (by show _+1<_; omega) (by rw [Y0 (by rw [Zr]; exact X2 _),F6]; rfl) (rfl) fun r2=>?_
    exact Qo (k_ _ _ ⟨_,rfl,rfl⟩)
   ·rintro u_ B_ ⟨r3_,rfl,rfl⟩
    exact ⟨Qv rfl rfl,Xb 2 qUo Wb rfl rfl rfl rfl rfl,Rm V0 Wb qWu rfl rfl rfl rfl rfl rfl rfl rfl rfl rfl,trivial,Qv rfl rfl,Xb 2 qUo Wb rfl rfl rfl rfl rfl,Zu Tryz.func74 rfl rfl rfl rfl (Me (k:=Z1 20 z.x z.y z.d) (id:=z.id % 1000) ((Cn (by decide) z.x z.y z.d).mono (by omega) (by omega))) rfl,Rm Ue Uf qWh rfl rfl rfl rfl rfl rfl rfl rfl rfl rfl,trivial⟩
   rintro u_ B_ ⟨r3_,rfl,rfl⟩
   refine ⟨_,rfl,kn ?_⟩
   refine Qq tt rfl ?_
   refine Zn (Zg (ls2:=(((gP l 4 20 i)++[Tc 20 z]).map rnp)) (m2:=(gP l 4 20 i).length+1) 1 Ue Ue Tryz.typeInfo100 rfl rfl Uf qWh rfl rfl rfl rfl rfl rfl rfl (by rw [Zr]; exact X2 _) (Js rfl) (Jx rfl) (by show _+1<_; omega) (by rw [Y0 (by rw [Zr]; exact X2 _),F6]; rfl) (rfl) fun r3=>ko ?_)
   refine Qr tt 3 rfl ?_
   refine Qf tt 1 [] (Zb (r:=((i+1:Nat):Int)) rfl rfl (Qm (by omega) (by omega)) rfl) rfl ?_
   refine X5 (fun _ k_=>Jq (ls':=(gP l 4 20 (i+1)).map rnp) 0 rfl (by rw [hgi]) (Qo k_)) rfl ?_
   refine X5 (fun _ k_=>Xs 7 (y:=.one (.orow r3 7 0 (gP l 4 20 (i+1)).length)) rfl (by rw [hgi]; rw [Fl]; rfl) (Qo k_)) rfl ?_
   refine X5 (fun _ k_=>Jq (ls':=(gP l 4 20 (i+1)).map Wp) 1 rfl (by rw [hgi]) (Qo k_)) rfl ?_
   refine X5 (fun _ k_=>Xs 6 (y:=.one (.orow r3_ 5 0 (gP l 4 20 (i+1)).length)) rfl (by rw [hgi]; rw [Fl]; rfl) (Qo k_)) rfl ?_
   refine Qj [0,1,6,7,8] rfl rfl ?_
   refine Yt 2 rfl rfl ?_
   refine Q8 ?_
   refine ⟨_,?_,i+1,r3_,r3,by omega,rfl,rfl,rfl⟩
   omega
  have hfin:=Qn2 (l:=l) (n:=4) (most:=20) (i:=i) (.inr (by omega))
  refine Qr tt 2 rfl ?_
  refine Qf tt 2 [] (Qh (m:=l.length) V0 rfl (C7 _) rfl) rfl ?_
  refine Qf tt 0 [] ((Qc rfl rfl (decide_eq_true (by omega)) (Qw tt rfl rfl))) rfl ?_
  refine Qf tt 0 [] ((Qc rfl rfl (decide_eq_true (by omega)) (Qh (m:=(gP l 4 20 i).length) V0 rfl (rfl) rfl))) rfl ?_
  refine Qf tt 0 [] ((Qc rfl rfl (decide_eq_true (by omega)) (Qw tt rfl rfl))) rfl ?_
  refine Qf tt 0 [] ((Qc rfl rfl (decide_eq_true (by omega)) (Qw tt rfl rfl))) rfl ?_
  refine Qf tt 0 [] (Zs rfl (decide_eq_true (by omega)) rfl rfl) rfl ?_
  refine Z8 tt 4 [] (decide_eq_false (by omega)) rfl rfl ?_
  refine Tr ?_
  exact ⟨_,[],_,Qgh Tryz.results15 (Kb rfl rfl) (Kb rfl rfl),rfl,⟨r1,r2,by rw [hfin]; rfl,by rw [hfin]⟩⟩
 have hfin:=Qn2 (l:=l) (n:=4) (most:=20) (i:=i) (.inl (by omega))
 refine Qr tt 2 rfl ?_
 refine Qf tt 2 [] (Qh (m:=l.length) V0 rfl (C7 _) rfl) rfl ?_
 refine Qf tt 0 [] (Qk rfl rfl (decide_eq_false (by omega)) rfl) rfl ?_
 refine Qf tt 0 [] (Qk rfl rfl (decide_eq_false (by omega)) rfl) rfl ?_
 refine Qf tt 0 [] (Qk rfl rfl (decide_eq_false (by omega)) rfl) rfl ?_
 refine Qf tt 0 [] (Qk rfl rfl (decide_eq_false (by omega)) rfl) rfl ?_
 refine Qf tt 0 [] (Zw rfl (decide_eq_false (by omega)) rfl rfl) rfl ?_
 refine Z8 tt 4 [] (rfl) rfl rfl ?_
 refine Tr ?_
 exact ⟨_,[],_,Qgh Tryz.results15 (Kb rfl rfl) (Kb rfl rfl),rfl,⟨r1,r2,by rw [hfin]; rfl,by rw [hfin]⟩⟩
end Orr

namespace Orr
open Go
def Pt.m5 (p:Pt):Pt:=⟨p.c,p.id % 5⟩
def Il (O:List Pt) (i:Nat):List Pt:=(O.take i).map Pt.m5++O.drop i
theorem Qfv (O:List Pt):Il O 0=O:=by simp [Il]
theorem Pp (O:List Pt) (i:Nat):(Il O i).length=O.length:=by
  unfold Il; rw [Fl,Zr,Kd,Na]; omega
theorem Qrp {O:List Pt} {i:Nat} {p:Pt} (h:O[i]? = some p):(Il O i).set i p.m5=Il O (i+1):=by
  have hi:=(Uy.1 h).1
  have hl:((O.take i).map Pt.m5).length=i:=by rw [Zr,Kd]; omega
  unfold Il
  rw [List.set_append,if_neg (by omega),hl,qJz,qXq,h,qYh,F6,P6]
  congr 1
  rw [qZw hi]
  have:O[i]=p:=by
    have:=(Uy.1 h).2
    exact this
  rfl
theorem Ec {O:List Pt} {i:Nat} {p:Pt} (h:O[i]? = some p):(Il O i)[i]? = some p:=by
  have hi:=(Uy.1 h).1
  have hl:((O.take i).map Pt.m5).length=i:=by rw [Zr,Kd]; omega
  unfold Il
  rw [qXh (by omega),hl,qJz,qXj]
  exact h
theorem Qj4 {O:List Pt} {i k:Nat} {p:Pt} (hk:k<i) (h:O[k]? = some p):(Il O i)[k]? = some p.m5:=by
  have hi:=(Uy.1 h).1
  unfold Il
  rw [qZy (by rw [Zr,Kd]; omega),S1,Ei,if_pos hk,h]; rfl
theorem Qfu {O:List Pt} {e i:Nat} (h:e≤i) (hi:i≤O.length):(Il O i).take e=(O.take e).map Pt.m5:=by
  unfold Il
  rw [qVb (by rw [Zr,Kd]; omega),←Ix,qYq,Nb h]
def T6 (O:List Pt) (e:Nat):List Pt:=(O.take e).map Pt.m5
def Co (O:List Pt) (e:Nat):List Pt:=(T6 O e).map Pt.nrm
def Om (l:List Pt):Prop:=l.Pairwise fun a b=>a.id≠b.id
theorem Qlf {O:List Pt} {i:Nat} {p:Pt} (h:O[i]? = some p):T6 O (i+1)=T6 O i++[p.m5]:=by
  unfold T6; rw [qXq,h,qYh,F6]; rfl
theorem Qln {O:List Pt} {i:Nat} {p:Pt} (h:O[i]? = some p) (hd:Om (T6 O i)) (hn:∀ k x,k<i→O[k]? = some x→x.m5.id≠p.m5.id):Om (T6 O (i+1)):=by
  rw [Qlf h]
  refine qVn.2 ⟨hd,List.pairwise_singleton _ _,fun a ha b hb=>?_⟩
  rw [qZt.1 hb]
  obtain ⟨x,hx,rfl⟩:=Ww.1 ha
  obtain ⟨k,hk,rfl⟩:=List.mem_iff_getElem.1 hx
  rw [Kd] at hk
  rw [List.getElem_take]
  exact hn k _ (by omega) (Xx (by omega))
theorem Qak {O:List Pt} {e:Nat} (h:Om (T6 O e)):Om (Co O e):=List.Pairwise.map Pt.nrm (fun _ _ h=>h) h
theorem D0 (O:List Pt) (e:Nat):(Co O e).length=(T6 O e).length:=by unfold Co; rw [Zr]
theorem Qes {O:List Pt} {e:Nat} (h:e≤O.length):(T6 O e).length=e:=by unfold T6; rw [Zr,Kd]; omega
def Qqv (p:Pt):Prop:=Cs 10 3 p.c
theorem Qa6 {n:Nat} {most:Int} (hm:0≤most∧most≤999) {l:List RawPt}:∀ p∈Jt n most l,Qqv p:=fun p hp=>by
  rcases Bg _ _ hp with h | h
  · cases h
  · obtain ⟨z,_,rfl⟩:=Ww.1 h
    exact Cn hm _ _ _
theorem Qet {O:List Pt} (h:∀ p∈O,Qqv p) (e:Nat):∀ p∈T6 O e,Qqv p:=fun p hp=>by
  obtain ⟨x,hx,rfl⟩:=Ww.1 hp
  exact h x (Rx hx)
theorem Qjr {O:List Pt} (h:∀ p∈O,Qqv p) (e:Nat):∀ p∈Co O e,Nml p.c∧Cs 10 3 p.c:=fun p hp=>by
  obtain ⟨x,hx,rfl⟩:=Ww.1 hp
  exact ⟨x.c.nml,(Qet h e x hx).norm (by decide)⟩
theorem Qa2 {s n:Nat}:∀ {l:List Pt},(∀ p∈l,Cs s n p.c)→IsPts s n (l.map Wp) (l.map Pt.nrm)
  | [],_=>trivial
  | p::l,h=>⟨⟨p.c.x.map W9,p.c.y.map W9,_,_,_,_,p.c.d,rfl,Y2 _,Y2 _,Zm _,h p (Fm ..),rfl⟩,Qa2 fun x hx=>h x (Ge _ hx)⟩
theorem Qbw:∀ {l m:List Pt},Wj l→Wj m→(∀ x,x∈l↔x∈m)→l=m
  | [],[],_,_,_=>rfl
  | [],b::m,_,_,h=>absurd ((h b).2 (Fm ..)) (by simp)
  | a::l,[],_,_,h=>absurd ((h a).1 (Fm ..)) (by simp)
  |
   a::l,b::m,h1,h2,h=>by
   have h1':=qXu.1 h1
   have h2':=qXu.1 h2
   have hab:a=b:=by
     rcases Vw.1 ((h a).1 (Fm ..)) with e | e
     · exact e
     · rcases Vw.1 ((h b).2 (Fm ..)) with e2 | e2
       · exact e2.symm
       · have:=h2'.1 a e; have:=h1'.1 b e2; omega
   subst hab
   congr 1
   refine Qbw h1'.2 h2'.2 fun x=>⟨fun hx=>?_,fun hx=>?_⟩
   · rcases Vw.1 ((h x).1 (Ge _ hx)) with e | e
     · have:=h1'.1 x hx; rw [e] at this; omega
     · exact e
   · rcases Vw.1 ((h x).2 (Ge _ hx)) with e | e
     · have:=h2'.1 x hx; rw [e] at this; omega
     · exact e
theorem Ca {l:List Pt} (h:Om l):Wj (Zf V9 l):=by
  have h1:=Qcc l
  have h2:Om (Zf V9 l):=(Tn (lt:=V9) l).pairwise_iff (fun h=>h.symm) |>.2 h
  exact (h1.and h2).imp fun ⟨a,b⟩=>by omega
theorem Qo1 (l:List Pt) (q:Pt):(put l q).Perm (q::l):=by
  unfold put
  exact List.perm_middle.trans (by rw [Iy])
theorem Qa9:∀ (qs acc:List Pt),(Jk acc qs).2=0→(Jk acc qs).1.Perm (qs++acc)
  | [],acc,_=>List.Perm.refl _
  |
   q::qs,acc,h=>by
   simp only [Jk] at h ⊢
   split
   · rename_i h0
     rw [if_pos h0] at h
     refine (Qa9 qs _ h).trans ?_
     exact ((Qo1 acc q).append_left qs).trans qVo
   · rename_i h0
     rw [if_neg h0] at h
     exact absurd h h0
theorem Ql5 {qs:List Pt} (hl:qs.length≤6) (hd:Om qs):(Jk [] qs).2=0∧(Jk [] qs).1=Zf V9 qs:=by
  rcases Ql4 hl with ⟨h1,h2,_,_⟩ | ⟨_,h2⟩
  · refine ⟨h1,Qbw h2 (Ca hd) fun x=>?_⟩
    have h3:=Qa9 qs [] h1
    rw [qXg] at h3
    rw [h3.mem_iff,Ps]
  · exact absurd hd h2
end Orr

namespace Orr
open Go
def Ty (q:Rat) (a b:Pt):Pt×Pt:=if Dh q a b=true then (a,b) else (b,a)
def Rp (q:Rat):Nat→List Pt→List Pt×List (Pt×Pt)
  | 0,l=>(l,[])
  |
   k+1,l=>if l.length<2 then (l,[]) else
   match (Rp q k (l.take ((l.length+1) / 2))).1,(Rp q k (l.drop ((l.length+1) / 2))).1 with
   | a::_,b::_=>([(Ty q a b).1],(Rp q k (l.take ((l.length+1) / 2))).2++(Rp q k (l.drop ((l.length+1) / 2))).2++[Ty q a b])
   | _,_=>([],[])
theorem Fv (q:Rat):∀ (k:Nat) (l:List Pt),l.length≤k→Rp q k l=Rp q l.length l
  | 0,l,h=>by rw [show l.length=0 by omega]
  |
   k+1,l,h=>by
   cases hl:l.length with
   | zero=>simp [Rp,hl]
   |
    succ m =>
    simp only [Rp]
    by_cases h2:l.length<2
    · rw [if_pos h2,if_pos h2]
    · rw [if_neg h2,if_neg h2]
      have h3:(l.take ((l.length+1) / 2)).length≤m:=by rw [Kd]; omega
      have h4:(l.drop ((l.length+1) / 2)).length≤m:=by rw [Na]; omega
      rw [Fv q k (l.take ((l.length+1) / 2)) (by omega),Fv q k (l.drop ((l.length+1) / 2)) (by omega),Fv q m (l.take ((l.length+1) / 2)) h3,Fv q m (l.drop ((l.length+1) / 2)) h4]
termination_by k=>k
def Qx (q:Rat) (l:List Pt):List Pt×List (Pt×Pt):=Rp q l.length l
theorem Kn (q:Rat) {l:List Pt} (h:l.length<2):Qx q l=(l,[]):=by
  unfold Qx
  cases hl:l.length with
  | zero=>rfl
  | succ m=>simp only [Rp]; rw [if_pos h]
theorem G0 (q:Rat) {l:List Pt} (h:¬l.length<2) {a b:Pt} (ha:(Qx q (l.take ((l.length+1) / 2))).1=[a]) (hb:(Qx q (l.drop ((l.length+1) / 2))).1=[b]) :
    Qx q l=([(Ty q a b).1],(Qx q (l.take ((l.length+1) / 2))).2++(Qx q (l.drop ((l.length+1) / 2))).2++[Ty q a b]):=by
  unfold Qx at ha hb ⊢
  obtain ⟨m,hm⟩:∃ m,l.length=m+1:=⟨l.length-1,by omega⟩
  have h3:(l.take ((l.length+1) / 2)).length≤m:=by rw [Kd]; omega
  have h4:(l.drop ((l.length+1) / 2)).length≤m:=by rw [Na]; omega
  rw [←Fv q m _ h3] at ha ⊢
  rw [←Fv q m _ h4] at hb ⊢
  rw [show Rp q l.length l=Rp q (m+1) l by rw [hm]]
  simp only [Rp]
  rw [if_neg h,ha,hb]
theorem Vv (q:Rat):∀ (k:Nat) (l:List Pt),l.length≤k→0<l.length→∃ a,(Qx q l).1=[a]∧a∈l∧∀ m∈(Qx q l).2,m.1∈l∧m.2∈l
  | 0,l,h,h0=>by omega
  |
   k+1,l,h,h0=>by
   by_cases h2:l.length<2
   · rw [Kn q h2]
     match l,h0,h2 with
     | [a],_,_=>exact ⟨a,rfl,by simp,by simp⟩
   · obtain ⟨a,ha,hal,ham⟩:=Vv q k (l.take ((l.length+1) / 2)) (by rw [Kd]; omega) (by rw [Kd]; omega)
     obtain ⟨b,hb,hbl,hbm⟩:=Vv q k (l.drop ((l.length+1) / 2)) (by rw [Na]; omega) (by rw [Na]; omega)
     rw [G0 q h2 ha hb]
     have hd:(Ty q a b).1∈l∧(Ty q a b).2∈l:=by
       unfold Ty; split
       · exact ⟨Rx hal,Pr hbl⟩
       · exact ⟨Pr hbl,Rx hal⟩
     refine ⟨_,rfl,hd.1,fun m hm=>?_⟩
     rcases Y7.1 hm with hm | hm
     · rcases Y7.1 hm with hm | hm
       · exact ⟨Rx (ham m hm).1,Rx (ham m hm).2⟩
       · exact ⟨Pr (hbm m hm).1,Pr (hbm m hm).2⟩
     · rw [qZt.1 hm]; exact hd
theorem Vz (q:Rat):∀ (k:Nat) (l:List Pt),l.length≤k→(Qx q l).2.length≤l.length-1
  | 0,l,h=>by rw [Kn q (by omega)]; simp
  |
   k+1,l,h=>by
   by_cases h2:l.length<2
   · rw [Kn q h2]; simp
   · obtain ⟨a,ha,_⟩:=Vv q l.length (l.take ((l.length+1) / 2)) (by rw [Kd]; omega) (by rw [Kd]; omega)
     obtain ⟨b,hb,_⟩:=Vv q l.length (l.drop ((l.length+1) / 2)) (by rw [Na]; omega) (by rw [Na]; omega)
     rw [G0 q h2 ha hb]
     have h3:=Vz q k (l.take ((l.length+1) / 2)) (by rw [Kd]; omega)
     have h4:=Vz q k (l.drop ((l.length+1) / 2)) (by rw [Na]; omega)
     rw [Kd] at h3
     rw [Na] at h4
     simp only [Fl,List.length_singleton]
     omega
abbrev Bw (m:Pt×Pt):List LV:=[pl m.1.c.x,pl m.1.c.y,sg m.1.c.d,mg m.1.c.d,.int .i64 m.1.id,pl m.2.c.x,pl m.2.c.y,sg m.2.c.d,mg m.2.c.d,.int .i64 m.2.id]
def Mj (l:List (Pt×Pt)):LV:=.row (l.map Bw)
theorem Qgc (l:List (Pt×Pt)):Vq (Mj l)=some l.length:=by simp [Vq,Mj]
end Orr
