/- ARaw APts BeginL APair AvDrawSE DrawW AvDrawW RatOkL ABeg21 PevL LeastL ALaw21 AvDrawMD AvMap AvArr -/
import Derived.Test.YtaffmkgbfgjgeaaGreatPart08
import Derived.Test.YtaffmkgbfgjgeaaGreatPart05
import Derived.Test.YtaffmkgbfgjgeaaGreatPart00
import Derived.Test.YtaffmkgbfgjgeaaGreatPart02
import Derived.Test.YtaffmkgbfgjgeaaGreatPart04
import Derived.Test.YtaffmkgbfgjgeaaGreatPart06
import Derived.Test.YtaffmkgbfgjgeaaGreatPart07
import Derived.MapKept
set_option linter.all false

namespace Orr
open Go Go.Proofs
theorem Qrz (l:List Nat):l.take (min l.length 1)=l.take 1:=by
 cases l with
 | nil=>rfl
 | cons a l=>rw [show min (a::l).length 1=1 by rw [qZy]; omega]
theorem Qhq {l:List Nat}:Q8 Tryz.prog 213 [.one (Xy l),.one (.int .i64 1)] (.one (Xy (l.take 1))):=by
 refine X2 tt 3 [] Tryz.func213 Tryz.ntmps213 rfl rfl rfl ?_
 refine Qf tt 1 [] (Qj (m:=l.length) Jd rfl (by simp [We,Xy]) rfl) rfl ?_
 refine Qf tt 0 [] (Qz2 (r:=((min l.length 1:Nat):Int)) rfl rfl (by split <;> omega) rfl) rfl ?_
 refine Qf tt 1 [] (Fd (min l.length 1) Jd Y7 rfl rfl rfl (by rw [Zw]; exact Nat.min_le_left _ _) (Vu l (fun _=>rfl)) (l':=(l.take 1).map fun (x:Nat)=>[.int .u32 (x:Int)]) (by rw [←qXu,Qrz]) rfl) rfl ?_
 exact Xq tt [] rfl (rfl)
theorem Lb {z:RawInt}:Q8 Tryz.prog 136 [.agg [.bool z.b,Xy z.l],.one (.int .i64 1)] (.agg [.bool ((RawInt.cut z).b),Xy (RawInt.cut z).l]):=by
 refine X2 tt 1 [] Tryz.func136 Tryz.ntmps136 rfl rfl rfl ?_
 refine Zn (Ql Ko rfl rfl fun g1=>ko ?_)
 refine Qw tt rfl ?_
 refine Qx 6 Qp rfl rfl rfl ?_
 refine Qr tt 5 rfl ?_
 refine Ye tt 2 [0] Tryz.func213 rfl rfl rfl (Qhq) rfl rfl ?_
 exact Xq tt [0] rfl (rfl)
def Pj (l:List RawInt):List RawInt:=(l.take 3).map RawInt.cut
theorem Qon {l:List RawInt} {i:Nat} {z:RawInt} (hi:i<3) (h:l[i]? = some z):Pj (l.take (i+1))=Pj (l.take i)++[z.cut]:=by
 unfold Pj
 rw [qYr,qYr,qJy (by omega),qJy (by omega),qJa,h]
 simp
theorem Qhv {l:List RawInt} {i:Nat} (h:l.length≤i∨3≤i):Pj (l.take i)=Pj l:=by
 unfold Pj
 rw [qYr]
 rcases Nat.le_total 3 i with h3 | h3
 ·rw [Nm h3]
 rcases h with h | h
 ·rw [qJy h3,Vh (l:=l) (i:=i) (by omega),Vh (l:=l) (i:=3) (by omega)]
 rw [qJy h3,show i=3 by omega]
theorem Qr0 (l:List RawInt) {i:Nat} (h:i≤l.length) (h3:i≤3):(Pj (l.take i)).length=i:=by
 unfold Pj; rw [Zw,Uk,Uk]; omega
theorem Cz (m:Int) (l:List RawInt) {i:Nat} (h:i≤l.length) (h3:i≤3):(J0 m (l.take i)).length=i:=by
 unfold J0; rw [Zw,Uk,Uk]; omega
theorem M5 {l:List RawInt}:Q8 Tryz.prog 135 [.one (Y4 l),.one (.int .i64 3),.one (.int .i64 1)] (.one (Y4 ((Pj l)))):=by
 refine X2 tt 3 [] Tryz.func135 Tryz.ntmps135 rfl rfl rfl ?_
 refine X5 (fun _ k_=>X9 [7] 55 2 rfl (Zg rfl) rfl (Qo k_)) rfl ?_
 refine Qk [0,1,2,7,8] rfl rfl ?_
 refine Zj (fun m L B=>∃ i r,i≤l.length∧i≤3∧m=3-i∧L=[(0,.one (Y4 l)),(1,.one (.int .i64 3)),(2,.one (.int .i64 1)),(7,.one (.orow r 2 0 i)),(8,.one (.int .i64 (((i:Nat):Int))))]∧B=[.row r 55 2 ((Pj (l.take i)).map Qj4)]) (m:=_) ⟨0,none,K7 _,K7 _,rfl,rfl,rfl⟩ ?_
 rintro m L B ⟨i,r,hp0,hp1,hm,rfl,rfl⟩
 refine Qw tt rfl ?_
 have hO:=Qr0 l hp0 hp1
 by_cases hlt:i<l.length
 ·by_cases h3:i<3
  refine Qw tt rfl ?_
  ·obtain ⟨z,hz⟩:∃ z,l[i]? = some z:=⟨_,Xv hlt⟩
   refine Qr tt 2 rfl ?_
   refine Qf tt 2 [] (Qj (m:=l.length) Kr rfl (Kz _) rfl) rfl ?_
   refine Qf tt 0 [] ((Qd rfl rfl (decide_eq_true (by omega)) (Qv tt rfl rfl))) rfl ?_
   refine Qf tt 0 [] ((Qd rfl rfl (decide_eq_true (by omega)) (Qv tt rfl rfl))) rfl ?_
   refine Qf tt 0 [] ((Qd rfl rfl (decide_eq_true (by omega)) (Qv tt rfl rfl))) rfl ?_
   refine Qf tt 0 [] (Zp rfl (decide_eq_true (by omega)) rfl rfl) rfl ?_
   refine Xf tt 3 [] (decide_eq_true (by omega)) rfl rfl ?_
   refine Qf tt 2 [] (Qi (i) Kr J6 rfl rfl (rfl) (Qg hz) rfl rfl) rfl ?_
   refine kl tt 1 [] Tryz.func136 rfl rfl rfl (Lb) rfl rfl ?_
   refine Zn (Zo (ls2:=(Pj (l.take (i+1))).map Qj4) (m2:=i+1) 0 Kr Kr qWr rfl rfl J6 Ko rfl rfl rfl rfl rfl rfl rfl (by rw [Zw,hO]; omega) (Yh rfl) (Ya rfl) (by show _+1<_; omega) (by rw [Vh (by rw [Zw,hO]; exact Ji _),Qon (by omega) hz,G2]; rfl) (rfl) fun r1=>ko ?_)
   refine Qr tt 2 rfl ?_
   refine Qf tt 1 [] (Q6 (r:=((i+1:Nat):Int)) rfl rfl (Qm (by omega) (by omega)) rfl) rfl ?_
   refine Qk [0,1,2,7,8] rfl rfl ?_
   refine Q7 ?_
   refine ⟨_,?_,i+1,r1,by omega,by omega,rfl,rfl,rfl⟩
   omega
  have hend:l.length≤i∨3≤i:=.inr (by omega)
  refine Qr tt 2 rfl ?_
  refine Qf tt 2 [] (Qj (m:=l.length) Kr rfl (Kz _) rfl) rfl ?_
  refine Qf tt 0 [] ((Qd rfl rfl (decide_eq_true (by omega)) (Qv tt rfl rfl))) rfl ?_
  refine Qf tt 0 [] ((Qd rfl rfl (decide_eq_true (by omega)) (Qv tt rfl rfl))) rfl ?_
  refine Qf tt 0 [] ((Qd rfl rfl (decide_eq_true (by omega)) (Qv tt rfl rfl))) rfl ?_
  refine Qf tt 0 [] (Zp rfl (decide_eq_true (by omega)) rfl rfl) rfl ?_
  refine Xb tt 2 [] (decide_eq_false (by omega)) rfl rfl ?_
  refine X5 (fun _ k_=>Xm 0 [6] rfl (Zg rfl) (by rw [Zw,hO]) (by rw [Zw,hO]; omega) rfl (Qo k_)) rfl ?_
  exact Xq tt [] rfl (by rw [Qhv hend]; rfl)
 have hend:l.length≤i∨3≤i:=.inl (by omega)
 refine Qr tt 2 rfl ?_
 refine Qf tt 2 [] (Qj (m:=l.length) Kr rfl (Kz _) rfl) rfl ?_
 refine Qf tt 0 [] (Qh rfl rfl (decide_eq_false (by omega)) rfl) rfl ?_
 refine Qf tt 0 [] (Qh rfl rfl (decide_eq_false (by omega)) rfl) rfl ?_
 refine Qf tt 0 [] (Qh rfl rfl (decide_eq_false (by omega)) rfl) rfl ?_
 refine Qf tt 0 [] (Zu rfl (decide_eq_false (by omega)) rfl rfl) rfl ?_
 refine Xb tt 2 [] (rfl) rfl rfl ?_
 refine X5 (fun _ k_=>Xm 0 [6] rfl (Zg rfl) (by rw [Zw,hO]) (by rw [Zw,hO]; omega) rfl (Qo k_)) rfl ?_
 exact Xq tt [] rfl (by rw [Qhv hend]; rfl)
set_option maxRecDepth 20000 in
theorem Qa4 {x y:List RawInt} {d:RawInt}:Q8 Tryz.prog 72 [.agg [Y4 x,Y4 y,.bool d.b,Xy d.l],.one (.int .i64 3),.one (.int .i64 1)] (.agg [Y4 ((Pj x)),Y4 ((Pj y)),.bool ((RawInt.cut d).b),Xy (RawInt.cut d).l]):=by
 refine X2 tt 1 [] Tryz.func72 Tryz.ntmps72 rfl rfl rfl ?_
 refine Zn (Ql qWx rfl rfl fun g1=>ko ?_)
 refine Qw tt rfl ?_
 refine Qx 13 Qp rfl rfl rfl ?_
 refine Qr tt 4 rfl ?_
 refine Ye tt 4 [] Tryz.func135 rfl rfl rfl (M5) rfl rfl ?_
 refine Ye tt 3 [] Tryz.func135 rfl rfl rfl (M5) rfl rfl ?_
 refine Qw tt rfl ?_
 refine kl tt 2 [0] Tryz.func136 rfl rfl rfl (Lb) rfl rfl ?_
 exact Xq tt [0] rfl (rfl)
theorem Qw8 {α:Type} (l:List α):l=[]∨∃ u m,l=u::m:=by cases l with
 | nil=>exact .inl rfl
 | cons u m=>exact .inr ⟨u,m,rfl⟩
theorem Qgw {u:Nat} (h:u<4294967296):IntKind.i64.wrap ((u:Nat):Int)=((u:Nat):Int):=Xz (by omega) (by omega)
theorem H4 {z:RawInt} {most:Int} (hz:z.Ok) (hmo:0≤most∧most≤999):Q8 Tryz.prog 137 [.agg [.bool z.b,Xy z.l],.one (.int .i64 most)] (.agg [sg ((Yc most z)),mg ((Yc most z))]):=by
 refine X2 tt 0 [] Tryz.func137 Tryz.ntmps137 rfl rfl rfl ?_
 rcases Qw8 z.l with hl | ⟨u,l,hl⟩
 ·have hli:Yc most z=0:=by unfold Yc; rw [hl]
  refine Qr tt 1 rfl ?_
  refine Zn (Ql Ko rfl rfl fun g1=>ko ?_)
  refine Qr tt 2 rfl ?_
  refine Qf tt 1 [] (Qj (m:=z.l.length) Jd rfl (by simp [We,Xy]) rfl) rfl ?_
  refine Xf tt 2 [0] (decide_eq_true (by rw [hl]; rfl)) rfl rfl ?_
  refine X5 (fun _ k_=>Jp (ys:=[.bool false,.row []]) 0 rfl rfl rfl (Qo k_)) rfl ?_
  exact Xq tt [0] rfl (by rw [hli,Qfj]; rfl)
 have hu:u<4294967296:=hz.u u (by rw [hl]; exact Ub ..)
 have hr1:=qJc (u:Int) (b:=most+1) (by omega)
 have hr2:=qXs (u:Int) (b:=most+1) (by omega)
 cases hb:z.b
 refine Qw tt rfl ?_
 ·have hli:Yc most z=(u:Int) % (most+1):=by unfold Yc; rw [hl]; show (if z.b=true then _ else _)=_; rw [hb]; rfl
  refine Qr tt 1 rfl ?_
  refine Zn (Ql Ko rfl rfl fun g2=>ko ?_)
  refine Qr tt 2 rfl ?_
  refine Qf tt 1 [] (Qj (m:=z.l.length) Jd rfl (by simp [We,Xy]) rfl) rfl ?_
  refine Xb tt 2 [] (decide_eq_false (by rw [hl]; simp; omega)) rfl rfl ?_
  refine Qf tt 1 [] (Qi (0) Jd Y7 rfl rfl (rfl) (by rw [hl]; rfl) rfl rfl) rfl ?_
  refine Qf tt 1 [] (Hf (r:=((u:Nat):Int)) Uy qWm rfl (Qgw hu) rfl) rfl ?_
  refine Qf tt 0 [] (Q6 (r:=(most+1)) rfl rfl (Qm rfl (by omega)) rfl) rfl ?_
  refine Qf tt 3 [] (G9 (r:=((u:Int) % (most+1))) rfl rfl (by omega) (by rw [Int.tmod_eq_emod_of_nonneg (by omega)]) rfl) rfl ?_
  refine Xb tt 1 [] (rfl) rfl rfl ?_
  refine kl tt 0 [] qWv rfl rfl rfl (Yt (n:=(((u:Int) % (most+1)))) (by omega)) rfl rfl ?_
  refine kl tt 1 [0] qGc rfl rfl rfl (Te (z:=((u:Int) % (most+1))) (Xa (G7.2 (show (((u:Int) % (most+1))).natAbs<2^10 by omega)) (by decide))) rfl rfl ?_
  exact Xq tt [0] rfl (by rw [hli])
 have hli:Yc most z=-((u:Int) % (most+1)):=by unfold Yc; rw [hl]; show (if z.b=true then _ else _)=_; rw [hb]; rfl
 refine Qr tt 1 rfl ?_
 refine Zn (Ql Ko rfl rfl fun g3=>ko ?_)
 refine Qr tt 2 rfl ?_
 refine Qf tt 1 [] (Qj (m:=z.l.length) Jd rfl (by simp [We,Xy]) rfl) rfl ?_
 refine Xb tt 2 [] (decide_eq_false (by rw [hl]; simp; omega)) rfl rfl ?_
 refine Qf tt 1 [] (Qi (0) Jd Y7 rfl rfl (rfl) (by rw [hl]; rfl) rfl rfl) rfl ?_
 refine Qf tt 1 [] (Hf (r:=((u:Nat):Int)) Uy qWm rfl (Qgw hu) rfl) rfl ?_
 refine Qf tt 0 [] (Q6 (r:=(most+1)) rfl rfl (Qm rfl (by omega)) rfl) rfl ?_
 refine Qf tt 3 [] (G9 (r:=((u:Int) % (most+1))) rfl rfl (by omega) (by rw [Int.tmod_eq_emod_of_nonneg (by omega)]) rfl) rfl ?_
 refine Xf tt 1 [] (rfl) rfl rfl ?_
 refine Qf tt 2 [] (Qvv (r:=(-(((u:Int) % (most+1))))) rfl (Qm rfl (by omega)) rfl) rfl ?_
 refine kl tt 0 [] qWv rfl rfl rfl (Yt (n:=((-(((u:Int) % (most+1)))))) (by omega)) rfl rfl ?_
 refine kl tt 1 [0] qGc rfl rfl rfl (Te (z:=(-((u:Int) % (most+1)))) (Xa (G7.2 (show ((-((u:Int) % (most+1)))).natAbs<2^10 by omega)) (by decide))) rfl rfl ?_
 exact Xq tt [0] rfl (by rw [hli])
set_option maxRecDepth 20000 in
theorem Oj {x y:List RawInt} {d:RawInt} {most:Int} (hx:∀ a∈x,a.Ok) (hy:∀ a∈y,a.Ok) (hd:d.Ok) (hmo:0≤most∧most≤999):Q8 Tryz.prog 73 [.agg [Y4 x,Y4 y,.bool d.b,Xy d.l],.one (.int .i64 most)] (.agg [pl (((Z5 most x y d)).x),pl (((Z5 most x y d)).y),sg (((Z5 most x y d)).d),mg (((Z5 most x y d)).d)]):=by
 refine X2 tt 1 [] Tryz.func73 Tryz.ntmps73 rfl rfl rfl ?_
 refine Zn (Ql qWx rfl rfl fun g1=>ko ?_)
 refine Qr tt 2 rfl ?_
 refine kl tt 1 [] Tryz.func137 rfl rfl rfl (H4 (z:=d) (most:=3) (hd) (by decide)) rfl rfl ?_
 refine Zn (Ql qWx rfl rfl fun g2=>ko ?_)
 refine syp tt 2 [100000] [0] rfl ?_
 refine Cu 1 (fun L B=>L=[(1,.one (.int .i64 most)),(2,.one (.sh [Y4 x,Y4 y,.bool d.b,Xy d.l])),(4,.one (.ow g1 0)),(5,.one (.ow g2 0))]∧B=[.blk g2 74 [pl ((J0 most x)),.nils,sg ((Yc 3 d)),mg ((Yc 3 d))],.blk g1 74 [.nils,.nils,.bool false,.nils]]) ?_ rfl ?_
 ·skip
  refine Qw tt rfl ?_
  refine X5 (fun _ k_=>Nj 0 0 55 2 rfl rfl rfl (Qo k_)) rfl ?_
  refine Qk [1,2,4,5,6] rfl rfl ?_
  refine Zj (fun m L B=>∃ i r,i≤x.length∧i≤3∧m=3-i∧L=[(1,.one (.int .i64 most)),(2,.one (.sh [Y4 x,Y4 y,.bool d.b,Xy d.l])),(4,.one (.ow g1 0)),(5,.one (.ow g2 0)),(6,.one (.int .i64 (((i:Nat):Int))))]∧B=[.blk g2 74 [.orow r 2 0 i,.nils,sg ((Yc 3 d)),mg ((Yc 3 d))],.row r 55 2 ((J0 most (x.take i)).map Wy),.blk g1 74 [.nils,.nils,.bool false,.nils]]) (m:=_) ⟨0,none,K7 _,K7 _,rfl,rfl,rfl⟩ ?_
  rintro m L B ⟨i,r,hp0,hp1,hm,rfl,rfl⟩
  refine Qw tt rfl ?_
  have hO:=Cz most x hp0 hp1
  by_cases hlt:i<x.length
  ·by_cases h3:i<3
   refine Qw tt rfl ?_
   ·obtain ⟨z,hz⟩:∃ z,x[i]? = some z:=⟨_,Xv hlt⟩
    refine Qr tt 3 rfl ?_
    refine Qf tt 2 [] (Qj (m:=x.length) Kr rfl (Kz _) rfl) rfl ?_
    refine Qf tt 0 [] ((Qd rfl rfl (decide_eq_true (by omega)) (Qv tt rfl rfl))) rfl ?_
    refine Qf tt 0 [] ((Qd rfl rfl (decide_eq_true (by omega)) (Qv tt rfl rfl))) rfl ?_
    refine Qf tt 0 [] (Zp rfl (decide_eq_true (by omega)) rfl rfl) rfl ?_
    refine Xf tt 0 [] (decide_eq_true (by omega)) rfl rfl ?_
    refine Qx 10 Qp rfl rfl rfl ?_
    refine Xd tt 5 [0] rfl ?_
    refine kd (Qi (i) Kr J6 rfl rfl (rfl) (Qg hz) rfl rfl) rfl ?_
    refine Qr tt 2 rfl ?_
    refine Ye tt 1 [] Tryz.func137 rfl rfl rfl (H4 (z:=z) (most:=most) ((hx z (Y6 hz))) (hmo)) rfl rfl ?_
    refine Qw tt rfl ?_
    refine Zn (Zo (ls2:=(J0 most (x.take (i+1))).map Wy) (m2:=i+1) 1 Kr Kr qWr rfl rfl J6 Ko rfl rfl rfl rfl rfl rfl rfl (by rw [Zw,hO]; omega) (Yh rfl) (Ya rfl) (by show _+1<_; omega) (by rw [Vh (by rw [Zw,hO]; exact Ji _),Cd (by omega) hz,G2]; rfl) (rfl) fun r3=>ko ?_)
    refine Xd tt 3 [1] rfl ?_
    refine Qf tt 1 [] (Q6 (r:=((i+1:Nat):Int)) rfl rfl (Qm (by omega) (by omega)) rfl) rfl ?_
    refine Qk [1,2,4,5,6] rfl rfl ?_
    refine Zx 2 rfl rfl ?_
    refine Zx 1 rfl rfl ?_
    refine Zx 2 rfl rfl ?_
    refine Q7 ?_
    refine ⟨_,?_,i+1,r3,by omega,by omega,rfl,rfl,rfl⟩
    omega
   have hend:x.length≤i∨3≤i:=.inr (by omega)
   refine Qr tt 3 rfl ?_
   refine Qf tt 2 [] (Qj (m:=x.length) Kr rfl (Kz _) rfl) rfl ?_
   refine Qf tt 0 [] ((Qd rfl rfl (decide_eq_true (by omega)) (Qv tt rfl rfl))) rfl ?_
   refine Qf tt 0 [] ((Qd rfl rfl (decide_eq_true (by omega)) (Qv tt rfl rfl))) rfl ?_
   refine Qf tt 0 [] (Zp rfl (decide_eq_true (by omega)) rfl rfl) rfl ?_
   refine Xb tt 0 [] (decide_eq_false (by omega)) rfl rfl ?_
   refine X5 (fun _ k_=>Jx (ls':=(J0 most x).map Wy) 1 rfl (by rw [Yi most hend]) (Qo k_)) rfl ?_
   refine X5 (fun _ k_=>T5 0 0 0 rfl rfl rfl rfl (by rw [Zw,←Yi most hend,hO]) (by rw [Zw,←Yi most hend,hO]; omega) (Qo k_)) rfl ?_
   refine Qk [1,2,4,5] rfl rfl ?_
   refine Q7 ?_
   exact ⟨rfl,rfl⟩
  have hend:x.length≤i∨3≤i:=.inl (by omega)
  refine Qr tt 3 rfl ?_
  refine Qf tt 2 [] (Qj (m:=x.length) Kr rfl (Kz _) rfl) rfl ?_
  refine Qf tt 0 [] (Qh rfl rfl (decide_eq_false (by omega)) rfl) rfl ?_
  refine Qf tt 0 [] (Qh rfl rfl (decide_eq_false (by omega)) rfl) rfl ?_
  refine Qf tt 0 [] (Zu rfl (decide_eq_false (by omega)) rfl rfl) rfl ?_
  refine Xb tt 0 [] (rfl) rfl rfl ?_
  refine X5 (fun _ k_=>Jx (ls':=(J0 most x).map Wy) 1 rfl (by rw [Yi most hend]) (Qo k_)) rfl ?_
  refine X5 (fun _ k_=>T5 0 0 0 rfl rfl rfl rfl (by rw [Zw,←Yi most hend,hO]) (by rw [Zw,←Yi most hend,hO]; omega) (Qo k_)) rfl ?_
  refine Qk [1,2,4,5] rfl rfl ?_
  refine Q7 ?_
  exact ⟨rfl,rfl⟩
 rintro L B ⟨rfl,rfl⟩
 refine Qw tt rfl ?_
 skip
 skip
 refine syp tt 1 [100002] [] rfl ?_
 refine Cu 1 (fun L B=>L=[(1,.one (.int .i64 most)),(2,.one (.sh [Y4 x,Y4 y,.bool d.b,Xy d.l])),(4,.one (.ow g1 0)),(5,.one (.ow g2 0))]∧B=[.blk g2 74 [pl ((J0 most x)),pl ((J0 most y)),sg ((Yc 3 d)),mg ((Yc 3 d))],.blk g1 74 [.nils,.nils,.bool false,.nils]]) ?_ rfl ?_
 ·skip
  refine Qw tt rfl ?_
  refine X5 (fun _ k_=>Nj 0 1 55 2 rfl rfl rfl (Qo k_)) rfl ?_
  refine Qk [1,2,4,5,7] rfl rfl ?_
  refine Zj (fun m L B=>∃ i r,i≤y.length∧i≤3∧m=3-i∧L=[(1,.one (.int .i64 most)),(2,.one (.sh [Y4 x,Y4 y,.bool d.b,Xy d.l])),(4,.one (.ow g1 0)),(5,.one (.ow g2 0)),(7,.one (.int .i64 (((i:Nat):Int))))]∧B=[.blk g2 74 [pl ((J0 most x)),.orow r 2 0 i,sg ((Yc 3 d)),mg ((Yc 3 d))],.row r 55 2 ((J0 most (y.take i)).map Wy),.blk g1 74 [.nils,.nils,.bool false,.nils]]) (m:=_) ⟨0,none,K7 _,K7 _,rfl,rfl,rfl⟩ ?_
  rintro m L B ⟨i,r,hp0,hp1,hm,rfl,rfl⟩
  refine Qw tt rfl ?_
  have hO:=Cz most y hp0 hp1
  by_cases hlt:i<y.length
  ·by_cases h3:i<3
   refine Qw tt rfl ?_
   ·obtain ⟨z,hz⟩:∃ z,y[i]? = some z:=⟨_,Xv hlt⟩
    refine Qr tt 3 rfl ?_
    refine Qf tt 2 [] (Qj (m:=y.length) Kr rfl (Kz _) rfl) rfl ?_
    refine Qf tt 0 [] ((Qd rfl rfl (decide_eq_true (by omega)) (Qv tt rfl rfl))) rfl ?_
    refine Qf tt 0 [] ((Qd rfl rfl (decide_eq_true (by omega)) (Qv tt rfl rfl))) rfl ?_
    refine Qf tt 0 [] (Zp rfl (decide_eq_true (by omega)) rfl rfl) rfl ?_
    refine Xf tt 0 [] (decide_eq_true (by omega)) rfl rfl ?_
    refine Qx 10 Qp rfl rfl rfl ?_
    refine Xd tt 5 [0] rfl ?_
    refine kd (Qi (i) Kr J6 rfl rfl (rfl) (Qg hz) rfl rfl) rfl ?_
    refine Qr tt 2 rfl ?_
    refine Ye tt 1 [] Tryz.func137 rfl rfl rfl (H4 (z:=z) (most:=most) ((hy z (Y6 hz))) (hmo)) rfl rfl ?_
    refine Qw tt rfl ?_
    refine Zn (Zo (ls2:=(J0 most (y.take (i+1))).map Wy) (m2:=i+1) 1 Kr Kr qWr rfl rfl J6 Ko rfl rfl rfl rfl rfl rfl rfl (by rw [Zw,hO]; omega) (Yh rfl) (Ya rfl) (by show _+1<_; omega) (by rw [Vh (by rw [Zw,hO]; exact Ji _),Cd (by omega) hz,G2]; rfl) (rfl) fun r4=>ko ?_)
    refine Xd tt 3 [1] rfl ?_
    refine Qf tt 1 [] (Q6 (r:=((i+1:Nat):Int)) rfl rfl (Qm (by omega) (by omega)) rfl) rfl ?_
    refine Qk [1,2,4,5,7] rfl rfl ?_
    refine Zx 2 rfl rfl ?_
    refine Zx 1 rfl rfl ?_
    refine Zx 2 rfl rfl ?_
    refine Q7 ?_
    refine ⟨_,?_,i+1,r4,by omega,by omega,rfl,rfl,rfl⟩
    omega
   have hend:y.length≤i∨3≤i:=.inr (by omega)
   refine Qr tt 3 rfl ?_
   refine Qf tt 2 [] (Qj (m:=y.length) Kr rfl (Kz _) rfl) rfl ?_
   refine Qf tt 0 [] ((Qd rfl rfl (decide_eq_true (by omega)) (Qv tt rfl rfl))) rfl ?_
   refine Qf tt 0 [] ((Qd rfl rfl (decide_eq_true (by omega)) (Qv tt rfl rfl))) rfl ?_
   refine Qf tt 0 [] (Zp rfl (decide_eq_true (by omega)) rfl rfl) rfl ?_
   refine Xb tt 0 [] (decide_eq_false (by omega)) rfl rfl ?_
   refine X5 (fun _ k_=>Jx (ls':=(J0 most y).map Wy) 1 rfl (by rw [Yi most hend]) (Qo k_)) rfl ?_
   refine X5 (fun _ k_=>T5 0 0 1 rfl rfl rfl rfl (by rw [Zw,←Yi most hend,hO]) (by rw [Zw,←Yi most hend,hO]; omega) (Qo k_)) rfl ?_
   refine Qk [1,2,4,5] rfl rfl ?_
   refine Q7 ?_
   exact ⟨rfl,rfl⟩
  have hend:y.length≤i∨3≤i:=.inl (by omega)
  refine Qr tt 3 rfl ?_
  refine Qf tt 2 [] (Qj (m:=y.length) Kr rfl (Kz _) rfl) rfl ?_
  refine Qf tt 0 [] (Qh rfl rfl (decide_eq_false (by omega)) rfl) rfl ?_
  refine Qf tt 0 [] (Qh rfl rfl (decide_eq_false (by omega)) rfl) rfl ?_
  refine Qf tt 0 [] (Zu rfl (decide_eq_false (by omega)) rfl rfl) rfl ?_
  refine Xb tt 0 [] (rfl) rfl rfl ?_
  refine X5 (fun _ k_=>Jx (ls':=(J0 most y).map Wy) 1 rfl (by rw [Yi most hend]) (Qo k_)) rfl ?_
  refine X5 (fun _ k_=>T5 0 0 1 rfl rfl rfl rfl (by rw [Zw,←Yi most hend,hO]) (by rw [Zw,←Yi most hend,hO]; omega) (Qo k_)) rfl ?_
  refine Qk [1,2,4,5] rfl rfl ?_
  refine Q7 ?_
  exact ⟨rfl,rfl⟩
 rintro L B ⟨rfl,rfl⟩
 refine Qw tt rfl ?_
 skip
 skip
 refine Xd tt 2 [0,1] rfl ?_
 exact Xq tt [1] rfl (rfl)
end Orr

namespace Orr
open Go Go.Proofs
abbrev gP (l:List RawPt) (n:Nat) (most:Int) (i:Nat):List Pt:=Wg n [] ((l.take i).map (To most))
abbrev rnp (p:Pt):List LV:=rpt (Pt.nrm p)
theorem Qz9 {l:List RawPt} {n i:Nat} {most:Int} {z:RawPt} (hz:l[i]? = some z) (hn:(gP l n most i).length<n) (ha:(gP l n most i).any (fun x=>decide (x.id=z.id % 1000))=true):gP l n most (i+1)=gP l n most i:=by
 unfold gP
 rw [qJa,hz,qVd,G2]
 exact Ts _ _ _ hn ha
theorem Qxk {l:List RawPt} {n i:Nat} {most:Int} {z:RawPt} (hz:l[i]? = some z) (hn:(gP l n most i).length<n) (ha:(gP l n most i).any (fun x=>decide (x.id=z.id % 1000))=false):gP l n most (i+1)=gP l n most i++[To most z]:=by
 unfold gP
 rw [qJa,hz,qVd,G2]
 exact Rr _ _ _ hn ha
theorem Qp2 {l:List RawPt} {n i:Nat} {most:Int} (h:l.length≤i∨n≤(gP l n most i).length):gP l n most i=Jw n most l:=by
 unfold Jw
 rcases h with h | h
 ·unfold gP; rw [Vh h]
 have:=Dh _ ((l.drop i).map (To most)) [] h
 rw [←G2,qZk] at this
 exact this.symm
theorem Qxp (l:List RawPt) (n:Nat) (most:Int) (i:Nat):(gP l n most i).length≤n:=Ss _ _ (K7 _)
theorem Qra {O:List Pt} {k:Nat} {x:Pt} {id:Int} (h:O[k]? = some x):(O.take (k+1)).any (fun y=>decide (y.id=id))=((O.take k).any (fun y=>decide (y.id=id)) || decide (x.id=id)):=by
 rw [qJa,h,qVd,List.any_append]; simp
set_option maxRecDepth 20000 in
theorem Ef {l:List RawPt} (hl:∀ z∈l,z.Ok) (hn:l.length≤140737488355327):Wt Tryz.prog 15 [.one (I0 l),.one (.int .i64 4)] [] fun R B=>∃ r1 r2,R=.tup [.one (.orow r1 5 0 (Jw 4 20 l).length),.one (.orow r2 7 0 (Jw 4 20 l).length)]∧B=[.row r1 76 5 ((Jw 4 20 l).map Ui),.row r2 100 7 ((Jw 4 20 l).map rnp)]:=by
 refine X2 tt 5 [] Tryz.func15 Tryz.ntmps15 rfl rfl rfl ?_
 refine X5 (fun _ k_=>X9 [7] 100 7 rfl (Zg rfl) rfl (Qo k_)) rfl ?_
 refine X5 (fun _ k_=>X9 [6] 76 5 rfl (Zg rfl) rfl (Qo k_)) rfl ?_
 refine Qk [0,1,6,7,8] rfl rfl ?_
 refine Zj (fun m L B=>∃ i r1 r2,i≤l.length∧m=l.length-i∧L=[(0,.one (I0 l)),(1,.one (.int .i64 4)),(6,.one (.orow r1 5 0 ((gP l 4 20 i).length))),(7,.one (.orow r2 7 0 ((gP l 4 20 i).length))),(8,.one (.int .i64 (((i:Nat):Int))))]∧B=[.row r1 76 5 ((gP l 4 20 i).map Ui),.row r2 100 7 ((gP l 4 20 i).map rnp)]) (m:=_) ⟨0,none,none,K7 _,rfl,rfl,rfl⟩ ?_
 rintro m L B ⟨i,r1,r2,hp0,hm,rfl,rfl⟩
 refine Qw tt rfl ?_
 have hgl:=Qxp l 4 20 i
 by_cases hlt:i<l.length
 ·by_cases h3:(gP l 4 20 i).length<4
  refine Qw tt rfl ?_
  ·obtain ⟨z,hz⟩:∃ z,l[i]? = some z:=⟨_,Xv hlt⟩
   have hzo:=hl z (Y6 hz)
   have hidr:=qJc z.id (b:=1000) (by omega)
   have hidl:=qXs z.id (b:=1000) (by omega)
   refine Qr tt 2 rfl ?_
   refine Qf tt 2 [] (Qj (m:=l.length) Wn rfl (Dt _) rfl) rfl ?_
   refine Qf tt 0 [] ((Qd rfl rfl (decide_eq_true (by omega)) (Qv tt rfl rfl))) rfl ?_
   refine Qf tt 0 [] ((Qd rfl rfl (decide_eq_true (by omega)) (Qj (m:=(gP l 4 20 i).length) Wn rfl (rfl) rfl))) rfl ?_
   refine Qf tt 0 [] ((Qd rfl rfl (decide_eq_true (by omega)) (Qv tt rfl rfl))) rfl ?_
   refine Qf tt 0 [] ((Qd rfl rfl (decide_eq_true (by omega)) (Qv tt rfl rfl))) rfl ?_
   refine Qf tt 0 [] (Zp rfl (decide_eq_true (by omega)) rfl rfl) rfl ?_
   refine Xf tt 0 [] (decide_eq_true (by omega)) rfl rfl ?_
   refine kc (Ul Qp 14 [24,25,26,27,28,29,30,31,32,33,34,35,36,9] [[],[],[0,1],[2],[3],[4],[],[],[6,7],[8],[9],[10],[5,11],[]] [.one (I0 l),.one (.int .i64 (((i:Nat):Int))),.one (.sh [Y4 z.x,Y4 z.y,.bool z.d.b,Xy z.d.l,.int .i64 z.id]),.one (.sh [Y4 z.x,Y4 z.y,.bool z.d.b,Xy z.d.l,.int .i64 z.id]),.agg [Y4 z.x,Y4 z.y,.bool z.d.b,Xy z.d.l],.agg [Y4 ((Pj z.x)),Y4 ((Pj z.y)),.bool ((RawInt.cut z.d).b),Xy (RawInt.cut z.d).l],.one (I0 l),.one (.int .i64 (((i:Nat):Int))),.one (.sh [Y4 z.x,Y4 z.y,.bool z.d.b,Xy z.d.l,.int .i64 z.id]),.one (.sh [.int .i64 z.id]),.one (.int .i64 z.id),.one (.int .i64 ((z.id % 1000))),.agg [Y4 ((Pj z.x)),Y4 ((Pj z.y)),.bool ((RawInt.cut z.d).b),Xy (RawInt.cut z.d).l,.int .i64 ((z.id % 1000))],.un] [(13,76,[.slice none 0 0,.slice none 0 0,.bool false,.slice none 0 0,.int .i64 0])] [[.nils,.nils,.bool false,.nils,.int .i64 0]] rfl rfl rfl (by decide) ⟨rfl,trivial⟩ rfl ⟨Zd rfl rfl,Zd rfl rfl,Qi (i) Wn F4 rfl rfl (rfl) (Qg hz) rfl rfl,J2 Qui rfl rfl rfl,Zz qFr qFk rfl rfl rfl rfl,Zs Tryz.func72 rfl rfl rfl rfl (Qa4) rfl,Zd rfl rfl,Zd rfl rfl,Qi (i) Wn F4 rfl rfl (rfl) (Qg hz) rfl rfl,J2 Bj rfl rfl rfl,Zz Lw Js rfl rfl rfl rfl,Zs Tryz.func18 rfl rfl rfl rfl (Us (hzo.id) (by omega)) rfl,Qlz (Qy2) rfl rfl rfl rfl,Vl qWi rfl,trivial⟩ fun g1=>⟨_,_,rfl,rfl,kn ?_⟩)
   refine Xd tt 3 [0] rfl ?_
   refine Xb tt 2 [] (rfl) rfl rfl ?_
   refine Xf tt 2 [] (rfl) rfl rfl ?_
   refine Qf tt 2 [] (Qi (i) Wn F4 rfl rfl (rfl) (Qg hz) rfl rfl) rfl ?_
   refine kl tt 4 [0] Tryz.func73 rfl rfl rfl (Oj (x:=z.x) (y:=z.y) (d:=z.d) (most:=20) (hzo.x) (hzo.y) (hzo.d) (by decide)) rfl rfl ?_
   refine Qf tt 1 [] (Qj (m:=(gP l 4 20 i).length) Wn rfl (rfl) rfl) rfl ?_
   refine Qk [0,1,6,7,8,9,56,10,57] rfl rfl ?_
   refine Zx 0 rfl rfl ?_
   refine Zx 2 rfl rfl ?_
   refine Zx 2 rfl rfl ?_
   refine Zj (fun m L B=>∃ k b,k≤(gP l 4 20 i).length∧b=(((gP l 4 20 i).take k).any fun y=>decide (y.id=z.id % 1000))∧m=(gP l 4 20 i).length-k∧L=[(0,.one (I0 l)),(1,.one (.int .i64 4)),(6,.one (.orow r1 5 0 ((gP l 4 20 i).length))),(7,.one (.orow r2 7 0 ((gP l 4 20 i).length))),(8,.one (.int .i64 (((i:Nat):Int)))),(9,.one (.ow ((g1 13)) 0)),(56,.one (.int .i64 ((((gP l 4 20 i).length:Nat):Int)))),(10,.one (.bool b)),(57,.one (.int .i64 (((k:Nat):Int))))]∧B=[.row r1 76 5 ((gP l 4 20 i).map Ui),.row r2 100 7 ((gP l 4 20 i).map rnp),.blk (g1 13) 76 [pl (((Z5 20 z.x z.y z.d)).x),pl (((Z5 20 z.x z.y z.d)).y),sg (((Z5 20 z.x z.y z.d)).d),mg (((Z5 20 z.x z.y z.d)).d),.int .i64 ((z.id % 1000))]]) (m:=_) ⟨0,false,K7 _,rfl,rfl,rfl,rfl⟩ ?_
   rintro m L B ⟨k,b,hq0,hq1,hm,rfl,rfl⟩
   refine Qw tt rfl ?_
   by_cases hk:k<(gP l 4 20 i).length
   ·obtain ⟨x,hx⟩:∃ x,(gP l 4 20 i)[k]? = some x:=⟨_,Xv hk⟩
    have hany:=Qra (id:=z.id % 1000) hx
    rcases Bool.eq_false_or_eq_true b with hb | hb
    refine Qw tt rfl ?_
    ·have hnx:true=(((gP l 4 20 i).take (k+1)).any fun y=>decide (y.id=z.id % 1000)):=by rw [hany,←hq1,hb]; rfl
     refine Qr tt 1 rfl ?_
     refine Xf tt 2 [] (decide_eq_true (by omega)) rfl rfl ?_
     refine Qx 9 Qp rfl rfl rfl ?_
     refine Qr tt 2 rfl ?_
     refine kd (Qh rfl rfl (hb) rfl) rfl ?_
     refine Qw tt rfl ?_
     refine kd (Qh rfl rfl (hb) rfl) rfl ?_
     refine Qw tt rfl ?_
     refine kd (Qh rfl rfl (hb) rfl) rfl ?_
     refine Qw tt rfl ?_
     refine kd (Qh rfl rfl (hb) rfl) rfl ?_
     refine Qw tt rfl ?_
     refine kd (Qh rfl rfl (hb) rfl) rfl ?_
     refine Qw tt rfl ?_
     refine kd (Qh rfl rfl (hb) rfl) rfl ?_
     refine Qw tt rfl ?_
     refine kd (Qh rfl rfl (hb) rfl) rfl ?_
     refine Qw tt rfl ?_
     refine Qf tt 0 [] (Qh rfl rfl (hb) rfl) rfl ?_
     refine Qf tt 1 [] (Zp rfl (hb) rfl rfl) rfl ?_
     refine Qf tt 1 [] (Q6 (r:=((k+1:Nat):Int)) rfl rfl (Qm (by omega) (by omega)) rfl) rfl ?_
     refine Qk [0,1,6,7,8,9,56,10,57] rfl rfl ?_
     refine Q7 ?_
     refine ⟨_,?_,k+1,true,by omega,hnx,rfl,rfl,rfl⟩
     omega
    have hnx:decide (x.id=z.id % 1000)=(((gP l 4 20 i).take (k+1)).any fun y=>decide (y.id=z.id % 1000)):=by rw [hany,←hq1,hb]; rfl
    refine Qr tt 1 rfl ?_
    refine Xf tt 2 [] (decide_eq_true (by omega)) rfl rfl ?_
    refine Qx 9 Qp rfl rfl rfl ?_
    refine Qr tt 2 rfl ?_
    refine kd ((Qd rfl rfl (hb) (Qv tt rfl rfl))) rfl ?_
    refine Qw tt rfl ?_
    refine kd ((Qd rfl rfl (hb) (Qv tt rfl rfl))) rfl ?_
    refine Qw tt rfl ?_
    refine kd ((Qd rfl rfl (hb) (Zr (k) Wn F4 rfl rfl (rfl) (by omega) rfl))) rfl ?_
    refine Qw tt rfl ?_
    refine kd ((Qd rfl rfl (hb) (Qv tt rfl rfl))) rfl ?_
    refine Qw tt rfl ?_
    refine kd ((Qd rfl rfl (hb) (Yo 0 Lw Js rfl rfl (by rw [Vy]; exact Qg hx) rfl rfl rfl))) rfl ?_
    refine Qw tt rfl ?_
    refine kd ((Qd rfl rfl (hb) (Qv tt rfl rfl))) rfl ?_
    refine Qw tt rfl ?_
    refine kd ((Qd rfl rfl (hb) (F0 tt 2 rfl rfl))) rfl ?_
    refine Qw tt rfl ?_
    refine Qf tt 0 [] ((Qd rfl rfl (hb) (Qv tt rfl rfl))) rfl ?_
    refine Qf tt 1 [] (Zu rfl (hb) rfl rfl) rfl ?_
    refine Qf tt 1 [] (Q6 (r:=((k+1:Nat):Int)) rfl rfl (Qm (by omega) (by omega)) rfl) rfl ?_
    refine Qk [0,1,6,7,8,9,56,10,57] rfl rfl ?_
    refine Q7 ?_
    refine ⟨_,?_,k+1,(decide (x.id=((z.id % 1000)))),by omega,hnx,rfl,rfl,rfl⟩
    omega
   have hbe:b=((gP l 4 20 i).any fun y=>decide (y.id=z.id % 1000)):=by rw [hq1,Vh (by omega)]
   rcases Bool.eq_false_or_eq_true b with hb | hb
   refine Qw tt rfl ?_
   ·have hgi:=Qz9 hz h3 (hbe ▸ hb)
    have hgl2:(gP l 4 20 (i+1)).length=(gP l 4 20 i).length:=by rw [hgi]
    refine Qr tt 1 rfl ?_
    refine Xb tt 2 [] (decide_eq_false (by omega)) rfl rfl ?_
    refine Xb tt 1 [] (by rw [hb]; rfl) rfl rfl ?_
    refine Qf tt 1 [] (Q6 (r:=((i+1:Nat):Int)) rfl rfl (Qm (by omega) (by omega)) rfl) rfl ?_
    refine X5 (fun _ k_=>Jx (ls':=(gP l 4 20 (i+1)).map rnp) 1 rfl (by rw [hgi]) (Qo k_)) rfl ?_
    refine X5 (fun _ k_=>Jf 7 (y:=.one (.orow r2 7 0 (gP l 4 20 (i+1)).length)) rfl (by rw [hgi]) (Qo k_)) rfl ?_
    refine X5 (fun _ k_=>Jx (ls':=(gP l 4 20 (i+1)).map Ui) 1 rfl (by rw [hgi]) (Qo k_)) rfl ?_
    refine X5 (fun _ k_=>Jf 6 (y:=.one (.orow r1 5 0 (gP l 4 20 (i+1)).length)) rfl (by rw [hgi]) (Qo k_)) rfl ?_
    refine Qk [0,1,6,7,8] rfl rfl ?_
    refine Y2 2 rfl rfl ?_
    refine Q7 ?_
    refine ⟨_,?_,i+1,r1,r2,by omega,rfl,rfl,rfl⟩
    omega
   have hgi:=Qxk hz h3 (hbe ▸ hb)
   refine Qr tt 1 rfl ?_
   refine Xb tt 2 [] (decide_eq_false (by omega)) rfl rfl ?_
   refine Xf tt 0 [] (by rw [hb]; rfl) rfl rfl ?_
   refine kc (S0 Qp 8 [74,75,76,77,78,79,80,81] [[],[],[1],[0,2],[],[],[5],[6]] [.one (.orow r1 5 0 ((gP l 4 20 i).length)),.agg [pl (((Z5 20 z.x z.y z.d)).x),pl (((Z5 20 z.x z.y z.d)).y),sg (((Z5 20 z.x z.y z.d)).d),mg (((Z5 20 z.x z.y z.d)).d),.int .i64 ((z.id % 1000))],.one (.row [[pl (((Z5 20 z.x z.y z.d)).x),pl (((Z5 20 z.x z.y z.d)).y),sg (((Z5 20 z.x z.y z.d)).d),mg (((Z5 20 z.x z.y z.d)).d),.int .i64 ((z.id % 1000))]]),.un,.one (.orow r2 7 0 ((gP l 4 20 i).length)),.agg [pl (((Z5 20 z.x z.y z.d)).x),pl (((Z5 20 z.x z.y z.d)).y),sg (((Z5 20 z.x z.y z.d)).d),mg (((Z5 20 z.x z.y z.d)).d),.int .i64 ((z.id % 1000))],.agg [Zm ((X3 (Crv.norm (Z5 20 z.x z.y z.d)).x (Crv.norm (Z5 20 z.x z.y z.d)).d)),Zm ((X3 (Crv.norm (Z5 20 z.x z.y z.d)).y (Crv.norm (Z5 20 z.x z.y z.d)).d)),pl ((Crv.norm (Z5 20 z.x z.y z.d)).x),pl ((Crv.norm (Z5 20 z.x z.y z.d)).y),sg ((Crv.norm (Z5 20 z.x z.y z.d)).d),mg ((Crv.norm (Z5 20 z.x z.y z.d)).d),.int .i64 ((z.id % 1000))],.one (.row [[Zm ((X3 (Crv.norm (Z5 20 z.x z.y z.d)).x (Crv.norm (Z5 20 z.x z.y z.d)).d)),Zm ((X3 (Crv.norm (Z5 20 z.x z.y z.d)).y (Crv.norm (Z5 20 z.x z.y z.d)).d)),pl ((Crv.norm (Z5 20 z.x z.y z.d)).x),pl ((Crv.norm (Z5 20 z.x z.y z.d)).y),sg ((Crv.norm (Z5 20 z.x z.y z.d)).d),mg ((Crv.norm (Z5 20 z.x z.y z.d)).d),.int .i64 ((z.id % 1000))]])] 3 (fun u B=>∃ r',u=.one (.orow r' 5 0 ((gP l 4 20 i).length+1))∧B=[.row r' 76 5 ((((gP l 4 20 i)++[To 20 z]).map Ui)),.row r2 100 7 ((gP l 4 20 i).map rnp),.blk (g1 13) 76 [pl (((Z5 20 z.x z.y z.d)).x),pl (((Z5 20 z.x z.y z.d)).y),sg (((Z5 20 z.x z.y z.d)).d),mg (((Z5 20 z.x z.y z.d)).d),.int .i64 ((z.id % 1000))]]) rfl rfl rfl rfl ⟨Zd rfl rfl,Jm 2 qUs F4 rfl rfl rfl rfl rfl,Qhx Wn F4 qWi rfl rfl rfl rfl rfl rfl rfl rfl rfl rfl,?_,Zd rfl rfl,Jm 2 qUs F4 rfl rfl rfl rfl rfl,Zs Tryz.func74 rfl rfl rfl rfl (M6 (k:=Z5 20 z.x z.y z.d) (id:=z.id % 1000) ((Dc (by decide) z.x z.y z.d).mono (by omega) (by omega))) rfl,Qhx Vc Kn qWh rfl rfl rfl rfl rfl rfl rfl rfl rfl rfl,trivial⟩ ?_ ?_)
   ·refine Rz fun N k_=>?_
    refine Zo (ls2:=(((gP l 4 20 i)++[To 20 z]).map Ui)) (m2:=(gP l 4 20 i).length+1) 0 Wn Wn Tryz.typeInfo76 rfl rfl F4 qWi rfl rfl rfl rfl rfl rfl rfl (by rw [Zw]; exact Ji _) (Yh rfl) (Ya rfl) (by show _+1<_; omega) (by rw [Vh (by rw [Zw]; exact Ji _),G2]; rfl) (rfl) fun r2=>?_
    exact Qo (k_ _ _ ⟨_,rfl,rfl⟩)
   ·rintro u_ B_ ⟨r3_,rfl,rfl⟩
    exact ⟨Zd rfl rfl,Jm 2 qUs F4 rfl rfl rfl rfl rfl,Qhx Wn F4 qWi rfl rfl rfl rfl rfl rfl rfl rfl rfl rfl,trivial,Zd rfl rfl,Jm 2 qUs F4 rfl rfl rfl rfl rfl,Zs Tryz.func74 rfl rfl rfl rfl (M6 (k:=Z5 20 z.x z.y z.d) (id:=z.id % 1000) ((Dc (by decide) z.x z.y z.d).mono (by omega) (by omega))) rfl,Qhx Vc Kn qWh rfl rfl rfl rfl rfl rfl rfl rfl rfl rfl,trivial⟩
   rintro u_ B_ ⟨r3_,rfl,rfl⟩
   refine ⟨_,rfl,kn ?_⟩
   refine Qw tt rfl ?_
   refine Zn (Zo (ls2:=(((gP l 4 20 i)++[To 20 z]).map rnp)) (m2:=(gP l 4 20 i).length+1) 1 Vc Vc Tryz.typeInfo100 rfl rfl Kn qWh rfl rfl rfl rfl rfl rfl rfl (by rw [Zw]; exact Ji _) (Yh rfl) (Ya rfl) (by show _+1<_; omega) (by rw [Vh (by rw [Zw]; exact Ji _),G2]; rfl) (rfl) fun r3=>ko ?_)
   refine Qr tt 3 rfl ?_
   refine Qf tt 1 [] (Q6 (r:=((i+1:Nat):Int)) rfl rfl (Qm (by omega) (by omega)) rfl) rfl ?_
   refine X5 (fun _ k_=>Jx (ls':=(gP l 4 20 (i+1)).map rnp) 0 rfl (by rw [hgi]) (Qo k_)) rfl ?_
   refine X5 (fun _ k_=>Jf 7 (y:=.one (.orow r3 7 0 (gP l 4 20 (i+1)).length)) rfl (by rw [hgi]; rw [H7]; rfl) (Qo k_)) rfl ?_
   refine X5 (fun _ k_=>Jx (ls':=(gP l 4 20 (i+1)).map Ui) 1 rfl (by rw [hgi]) (Qo k_)) rfl ?_
   refine X5 (fun _ k_=>Jf 6 (y:=.one (.orow r3_ 5 0 (gP l 4 20 (i+1)).length)) rfl (by rw [hgi]; rw [H7]; rfl) (Qo k_)) rfl ?_
   refine Qk [0,1,6,7,8] rfl rfl ?_
   refine Y2 2 rfl rfl ?_
   refine Q7 ?_
   refine ⟨_,?_,i+1,r3_,r3,by omega,rfl,rfl,rfl⟩
   omega
  have hfin:=Qp2 (l:=l) (n:=4) (most:=20) (i:=i) (.inr (by omega))
  refine Qr tt 2 rfl ?_
  refine Qf tt 2 [] (Qj (m:=l.length) Wn rfl (Dt _) rfl) rfl ?_
  refine Qf tt 0 [] ((Qd rfl rfl (decide_eq_true (by omega)) (Qv tt rfl rfl))) rfl ?_
  refine Qf tt 0 [] ((Qd rfl rfl (decide_eq_true (by omega)) (Qj (m:=(gP l 4 20 i).length) Wn rfl (rfl) rfl))) rfl ?_
  refine Qf tt 0 [] ((Qd rfl rfl (decide_eq_true (by omega)) (Qv tt rfl rfl))) rfl ?_
  refine Qf tt 0 [] ((Qd rfl rfl (decide_eq_true (by omega)) (Qv tt rfl rfl))) rfl ?_
  refine Qf tt 0 [] (Zp rfl (decide_eq_true (by omega)) rfl rfl) rfl ?_
  refine Xb tt 4 [] (decide_eq_false (by omega)) rfl rfl ?_
  refine Re ?_
  exact ⟨_,[],_,Qpm Tryz.results15 (V6 rfl rfl) (V6 rfl rfl),rfl,⟨r1,r2,by rw [hfin]; rfl,by rw [hfin]⟩⟩
 have hfin:=Qp2 (l:=l) (n:=4) (most:=20) (i:=i) (.inl (by omega))
 refine Qr tt 2 rfl ?_
 refine Qf tt 2 [] (Qj (m:=l.length) Wn rfl (Dt _) rfl) rfl ?_
 refine Qf tt 0 [] (Qh rfl rfl (decide_eq_false (by omega)) rfl) rfl ?_
 refine Qf tt 0 [] (Qh rfl rfl (decide_eq_false (by omega)) rfl) rfl ?_
 refine Qf tt 0 [] (Qh rfl rfl (decide_eq_false (by omega)) rfl) rfl ?_
 refine Qf tt 0 [] (Qh rfl rfl (decide_eq_false (by omega)) rfl) rfl ?_
 refine Qf tt 0 [] (Zu rfl (decide_eq_false (by omega)) rfl rfl) rfl ?_
 refine Xb tt 4 [] (rfl) rfl rfl ?_
 refine Re ?_
 exact ⟨_,[],_,Qpm Tryz.results15 (V6 rfl rfl) (V6 rfl rfl),rfl,⟨r1,r2,by rw [hfin]; rfl,by rw [hfin]⟩⟩
end Orr

namespace Orr
open Go
def Pt.m5 (p:Pt):Pt:=⟨p.c,p.id % 5⟩
def Or (O:List Pt) (i:Nat):List Pt:=(O.take i).map Pt.m5++O.drop i
theorem Qhf (O:List Pt):Or O 0=O:=by simp [Or]
theorem Py (O:List Pt) (i:Nat):(Or O i).length=O.length:=by
  unfold Or; rw [H7,Zw,Uk,E5]; omega
theorem Qta {O:List Pt} {i:Nat} {p:Pt} (h:O[i]? = some p):(Or O i).set i p.m5=Or O (i+1):=by
  have hi:=(Wz.1 h).1
  have hl:((O.take i).map Pt.m5).length=i:=by rw [Zw,Uk]; omega
  unfold Or
  rw [List.set_append,if_neg (by omega),hl,qYa,qJa,h,qVd,G2,N1]
  congr 1
  rw [qZt hi]
  have:O[i]=p:=by
    have:=(Wz.1 h).2
    exact this
  rfl
theorem Ak {O:List Pt} {i:Nat} {p:Pt} (h:O[i]? = some p):(Or O i)[i]? = some p:=by
  have hi:=(Wz.1 h).1
  have hl:((O.take i).map Pt.m5).length=i:=by rw [Zw,Uk]; omega
  unfold Or
  rw [qXj (by omega),hl,qYa,qXe]
  exact h
theorem Qlo {O:List Pt} {i k:Nat} {p:Pt} (hk:k<i) (h:O[k]? = some p):(Or O i)[k]? = some p.m5:=by
  have hi:=(Wz.1 h).1
  unfold Or
  rw [qXa (by rw [Zw,Uk]; omega),Sd,Ei,if_pos hk,h]; rfl
theorem Qhk {O:List Pt} {e i:Nat} (h:e≤i) (hi:i≤O.length):(Or O i).take e=(O.take e).map Pt.m5:=by
  unfold Or
  rw [qVh (by rw [Zw,Uk]; omega),←qXu,qYr,Nm h]
def Po (O:List Pt) (e:Nat):List Pt:=(O.take e).map Pt.m5
def Dy (O:List Pt) (e:Nat):List Pt:=(Po O e).map Pt.nrm
def Qat (l:List Pt):Prop:=l.Pairwise fun a b=>a.id≠b.id
theorem Qn4 {O:List Pt} {i:Nat} {p:Pt} (h:O[i]? = some p):Po O (i+1)=Po O i++[p.m5]:=by
  unfold Po; rw [qJa,h,qVd,G2]; rfl
theorem Qnm {O:List Pt} {i:Nat} {p:Pt} (h:O[i]? = some p) (hd:Qat (Po O i)) (hn:∀ k x,k<i→O[k]? = some x→x.m5.id≠p.m5.id):Qat (Po O (i+1)):=by
  rw [Qn4 h]
  refine qYb.2 ⟨hd,List.pairwise_singleton _ _,fun a ha b hb=>?_⟩
  rw [qZw.1 hb]
  obtain ⟨x,hx,rfl⟩:=Wa.1 ha
  obtain ⟨k,hk,rfl⟩:=List.mem_iff_getElem.1 hx
  rw [Uk] at hk
  rw [List.getElem_take]
  exact hn k _ (by omega) (Xv (by omega))
theorem Qc9 {O:List Pt} {e:Nat} (h:Qat (Po O e)):Qat (Dy O e):=List.Pairwise.map Pt.nrm (fun _ _ h=>h) h
theorem Lj (O:List Pt) (e:Nat):(Dy O e).length=(Po O e).length:=by unfold Dy; rw [Zw]
theorem Qgb {O:List Pt} {e:Nat} (h:e≤O.length):(Po O e).length=e:=by unfold Po; rw [Zw,Uk]; omega
def Qth (p:Pt):Prop:=Cs 10 3 p.c
theorem Qcz {n:Nat} {most:Int} (hm:0≤most∧most≤999) {l:List RawPt}:∀ p∈Jw n most l,Qth p:=fun p hp=>by
  rcases N9 _ _ hp with h | h
  · cases h
  · obtain ⟨z,_,rfl⟩:=Wa.1 h
    exact Dc hm _ _ _
theorem Qh9 {O:List Pt} (h:∀ p∈O,Qth p) (e:Nat):∀ p∈Po O e,Qth p:=fun p hp=>by
  obtain ⟨x,hx,rfl⟩:=Wa.1 hp
  exact h x (N6 hx)
theorem Qlq {O:List Pt} (h:∀ p∈O,Qth p) (e:Nat):∀ p∈Dy O e,Mv p.c∧Cs 10 3 p.c:=fun p hp=>by
  obtain ⟨x,hx,rfl⟩:=Wa.1 hp
  exact ⟨x.c.nml,(Qh9 h e x hx).norm (by decide)⟩
theorem Qcn {s n:Nat}:∀ {l:List Pt},(∀ p∈l,Cs s n p.c)→IsPts s n (l.map Ui) (l.map Pt.nrm)
  | [],_=>trivial
  | p::l,h=>⟨⟨p.c.x.map Wy,p.c.y.map Wy,_,_,_,_,p.c.d,rfl,Y5 _,Y5 _,Zc _,h p (Ub ..),rfl⟩,Qcn fun x hx=>h x (W0 _ hx)⟩
theorem Qb8:∀ {l m:List Pt},V0 l→V0 m→(∀ x,x∈l↔x∈m)→l=m
  | [],[],_,_,_=>rfl
  | [],b::m,_,_,h=>absurd ((h b).2 (Ub ..)) (by simp)
  | a::l,[],_,_,h=>absurd ((h a).1 (Ub ..)) (by simp)
  |
   a::l,b::m,h1,h2,h=>by
   have h1':=qXc.1 h1
   have h2':=qXc.1 h2
   have hab:a=b:=by
     rcases Vb.1 ((h a).1 (Ub ..)) with e | e
     · exact e
     · rcases Vb.1 ((h b).2 (Ub ..)) with e2 | e2
       · exact e2.symm
       · have:=h2'.1 a e; have:=h1'.1 b e2; omega
   subst hab
   congr 1
   refine Qb8 h1'.2 h2'.2 fun x=>⟨fun hx=>?_,fun hx=>?_⟩
   · rcases Vb.1 ((h x).1 (W0 _ hx)) with e | e
     · have:=h1'.1 x hx; rw [e] at this; omega
     · exact e
   · rcases Vb.1 ((h x).2 (W0 _ hx)) with e | e
     · have:=h2'.1 x hx; rw [e] at this; omega
     · exact e
theorem Bt {l:List Pt} (h:Qat l):V0 (Xe Vt l):=by
  have h1:=Qel l
  have h2:Qat (Xe Vt l):=(N3 (lt:=Vt) l).pairwise_iff (fun h=>h.symm) |>.2 h
  exact (h1.and h2).imp fun ⟨a,b⟩=>by omega
theorem Qq7 (l:List Pt) (q:Pt):(put l q).Perm (q::l):=by
  unfold put
  exact List.perm_middle.trans (by rw [qZk])
theorem Qdb:∀ (qs acc:List Pt),(J1 acc qs).2=0→(J1 acc qs).1.Perm (qs++acc)
  | [],acc,_=>List.Perm.refl _
  |
   q::qs,acc,h=>by
   simp only [J1] at h ⊢
   split
   · rename_i h0
     rw [if_pos h0] at h
     refine (Qdb qs _ h).trans ?_
     exact ((Qq7 acc q).append_left qs).trans List.perm_middle
   · rename_i h0
     rw [if_neg h0] at h
     exact absurd h h0
theorem Qns {qs:List Pt} (hl:qs.length≤6) (hd:Qat qs):(J1 [] qs).2=0∧(J1 [] qs).1=Xe Vt qs:=by
  rcases Qog hl with ⟨h1,h2,_,_⟩ | ⟨_,h2⟩
  · refine ⟨h1,Qb8 h2 (Bt hd) fun x=>?_⟩
    have h3:=Qdb qs [] h1
    rw [qXh] at h3
    rw [h3.mem_iff,Mh]
  · exact absurd hd h2
def U8:List Pt→Int→Int
  | [],_=>-1
  | p::l,id=>if p.id=id then 0 else if U8 l id<0 then -1 else U8 l id+1
theorem Qpu:∀ (l:List Pt) (id:Int),U8 l id<0→U8 l id=-1
  | [],_,_=>rfl
  |
   p::l,id,h=>by
   simp only [U8] at h ⊢
   split
   · rename_i h0; rw [if_pos h0] at h; omega
   · rename_i h0; rw [if_neg h0] at h
     split
     · rfl
     · rename_i h1; rw [if_neg h1] at h; omega
theorem Qnp {M:List Pt} {i:Nat} {x:Pt} {id:Int} (hx:M[i]? = some x) (h:x.id=id):U8 (M.drop i) id+(if U8 (M.drop i) id<0 then 0 else (i:Int))=(i:Int):=by
  have hi:=(Wz.1 hx).1
  have e:M.drop i=x::M.drop (i+1):=by
    rw [qZt hi,(Wz.1 hx).2]
  rw [e]
  simp only [U8,if_pos h]
  simp
theorem Qkx {M:List Pt} {i:Nat} {x:Pt} {id:Int} (hx:M[i]? = some x) (h:¬x.id=id):U8 (M.drop i) id+(if U8 (M.drop i) id<0 then 0 else (i:Int))=U8 (M.drop (i+1)) id+(if U8 (M.drop (i+1)) id<0 then 0 else ((i+1:Nat):Int)):=by
  have hi:=(Wz.1 hx).1
  have e:M.drop i=x::M.drop (i+1):=by
    rw [qZt hi,(Wz.1 hx).2]
  rw [e]
  have h2:=Qpu (M.drop (i+1)) id
  simp only [U8,if_neg h]
  split
  · rename_i h3
    rw [h2 h3]
    simp
  · rename_i h3
    rw [if_neg (by omega)]
    push_cast
    omega
end Orr

namespace Orr
open Go Go.Proofs
theorem Ql6 {p:List Int} (h:p.length≤16∧Bd 2097153 p):(U2 p p).length<274877906944∧Bd 4294967295 (U2 p p):=by
 have:=Bg p p
 exact ⟨by omega,Qz (Am (u:=5) h.2 h.2 (by omega)) (by omega)⟩
theorem Bh {a b:Crv} (ha:Mv a) (hb:Mv b) (ca:Cb a) (cb:Cb b):Q8 Tryz.prog 173 [.agg [pl a.x,pl a.y,sg a.d,mg a.d],.agg [pl b.x,pl b.y,sg b.d,mg b.d]] (.one (pl (Va a b))):=by
 refine X2 tt 3 [] Tryz.func173 Tryz.ntmps173 rfl rfl rfl ?_
 refine Qx 5 Qp rfl rfl rfl ?_
 refine Qr tt 2 rfl ?_
 refine Ye tt 2 [] Tryz.func159 rfl rfl rfl (Qdj (ha) (hb) (ca) (cb)) rfl rfl ?_
 refine Qw tt rfl ?_
 refine kl tt 4 [] Tryz.func160 rfl rfl rfl (Qfk (ha) (hb) (ca) (cb)) rfl rfl ?_
 refine kl tt 2 [] Tryz.func237 rfl rfl rfl (Ou ((Fu ca cb).1.t) ((Fu ca cb).1.t) (B9 (Fu ca cb).2.1 (by decide)) (B9 (Fu ca cb).2.1 (by decide)) ((Fu ca cb).2.2) ((Fu ca cb).2.2) (by decide)) rfl rfl ?_
 refine kl tt 0 [] Tryz.func237 rfl rfl rfl (Ou ((Fr ca cb).1.t) ((Fr ca cb).1.t) (B9 (Fr ca cb).2.1 (by decide)) (B9 (Fr ca cb).2.1 (by decide)) ((Fr ca cb).2.2) ((Fr ca cb).2.2) (by decide)) rfl rfl ?_
 refine kl tt 1 [] Tryz.func236 rfl rfl rfl (Qjz ((Ql6 (Fu ca cb).2).1) ((Ql6 (Fr ca cb).2).1) ((Ql6 (Fu ca cb).2).2) ((Ql6 (Fr ca cb).2).2)) rfl rfl ?_
 exact Xq tt [] rfl (rfl)
set_option maxRecDepth 20000 in
theorem Hn {a b c d:Crv} (ha:Mv a) (hb:Mv b) (hc:Mv c) (hd:Mv d) (ca:Cb a) (cb:Cb b) (cc:Cb c) (cd:Cb d):Q8 Tryz.prog 100 [.agg [pl a.x,pl a.y,sg a.d,mg a.d],.agg [pl b.x,pl b.y,sg b.d,mg b.d],.agg [pl c.x,pl c.y,sg c.d,mg c.d],.agg [pl d.x,pl d.y,sg d.d,mg d.d]] (.one (pl (Xj a b c d))):=by
 refine X2 tt 5 [] Tryz.func100 Tryz.ntmps100 rfl rfl rfl ?_
 refine kc (Ul Qp 16 [11,12,13,14,15,16,17,18,19,20,21,22,23,24,9,10] [[],[0],[1],[],[3],[4],[2,5],[],[7],[8],[],[10],[11],[9,12],[],[]] [.agg [pl a.x,pl a.y,sg a.d,mg a.d],.agg [pl a.x,pl a.y,sg a.d,mg a.d],.agg [sg a.d,mg a.d],.agg [pl b.x,pl b.y,sg b.d,mg b.d],.agg [pl b.x,pl b.y,sg b.d,mg b.d],.agg [sg b.d,mg b.d],.agg [sg (a.d*b.d),mg (a.d*b.d)],.agg [pl c.x,pl c.y,sg c.d,mg c.d],.agg [pl c.x,pl c.y,sg c.d,mg c.d],.agg [sg c.d,mg c.d],.agg [pl d.x,pl d.y,sg d.d,mg d.d],.agg [pl d.x,pl d.y,sg d.d,mg d.d],.agg [sg d.d,mg d.d],.agg [sg (c.d*d.d),mg (c.d*d.d)],.un,.un] [(14,55,[.bool false,.slice none 0 0]),(15,55,[.bool false,.slice none 0 0])] [[.bool false,.nils],[.bool false,.nils]] rfl rfl rfl (by decide) ⟨rfl,rfl,trivial⟩ rfl ⟨Zz qFr qFk rfl rfl rfl rfl,Zs qFg rfl rfl rfl rfl (Kt (ha) (ca.mono (by omega) (by omega))) rfl,Bu (Ep) rfl rfl rfl rfl,Zz qFr qFk rfl rfl rfl rfl,Zs qFg rfl rfl rfl rfl (Kt (hb) (cb.mono (by omega) (by omega))) rfl,Bu (Ep) rfl rfl rfl rfl,Zs qUi rfl rfl rfl rfl (J3 (Zc _) (Zc _) (Xa ca.d (by omega)) (Xa cb.d (by omega))) rfl,Zz qFr qFk rfl rfl rfl rfl,Zs qFg rfl rfl rfl rfl (Kt (hc) (cc.mono (by omega) (by omega))) rfl,Bu (Ep) rfl rfl rfl rfl,Zz qFr qFk rfl rfl rfl rfl,Zs qFg rfl rfl rfl rfl (Kt (hd) (cd.mono (by omega) (by omega))) rfl,Bu (Ep) rfl rfl rfl rfl,Zs qUi rfl rfl rfl rfl (J3 (Zc _) (Zc _) (Xa cc.d (by omega)) (Xa cd.d (by omega))) rfl,Vl Ko rfl,Vl Ko rfl,trivial⟩ fun g1=>⟨_,_,rfl,rfl,kn ?_⟩)
 refine Xd tt 2 [0,1] rfl ?_
 refine Qx 12 Qp rfl rfl rfl ?_
 refine Qr tt 2 rfl ?_
 refine Ye tt 2 [0,0] Tryz.func173 rfl rfl rfl (Bh (hc) (hd) (cc) (cd)) rfl rfl ?_
 refine Ye tt 0 [] qUi rfl rfl rfl (J3 (Zc _) (Zc _) (Xa (Ao ca cb) (by decide)) (Xa (Ao ca cb) (by decide))) rfl rfl ?_
 refine Ye tt 2 [] qGa rfl rfl rfl (W5 (B9 (Uu cc cd).2.1 (by decide)) (Qz (Uu cc cd).2.2 (by decide)) (Xa (Mf ca cb) (by decide))) rfl rfl ?_
 refine Ye tt 2 [1,1] Tryz.func173 rfl rfl rfl (Bh (ha) (hb) (ca) (cb)) rfl rfl ?_
 refine Qw tt rfl ?_
 refine kl tt 0 [] qUi rfl rfl rfl (J3 (Zc _) (Zc _) (Xa (Ao cc cd) (by decide)) (Xa (Ao cc cd) (by decide))) rfl rfl ?_
 refine kl tt 0 [] qGa rfl rfl rfl (W5 (B9 (Uu ca cb).2.1 (by decide)) (Qz (Uu ca cb).2.2 (by decide)) (Xa (Mf cc cd) (by decide))) rfl rfl ?_
 refine kl tt 1 [] Tryz.func171 rfl rfl rfl (Nu (B9 (Xa (Z6 _ _) (Uu cc cd).2.1) (by decide)) (B9 (Xa (Z6 _ _) (Uu ca cb).2.1) (by decide)) (Qz (Xo (Uu cc cd).2.2 (Mf ca cb)) (by decide)) (Qz (Xo (Uu ca cb).2.2 (Mf cc cd)) (by decide))) rfl rfl ?_
 exact Xq tt [] rfl (rfl)
set_option maxRecDepth 20000 in
theorem Ll {a b c d:Pt} {q:Rat} (ha:Mv a.c) (hb:Mv b.c) (hc:Mv c.c) (hd:Mv d.c) (ca:Cb a.c) (cb:Cb b.c) (cc:Cb c.c) (cd:Cb d.c) (hq:Qb q):Q8 Tryz.prog 201 [.one (.int .i64 5),.agg [pl ([-q.num,(q.den:Int)]),sg q.num,mg q.num,sg ((q.den:Int)),mg ((q.den:Int)),sg q.num,mg q.num,sg ((q.den:Int)),mg ((q.den:Int))],.one (.row [[pl a.c.x,pl a.c.y,sg a.c.d,mg a.c.d,.int .i64 a.id],[pl b.c.x,pl b.c.y,sg b.c.d,mg b.c.d,.int .i64 b.id],[pl c.c.x,pl c.c.y,sg c.c.d,mg c.c.d,.int .i64 c.id],[pl d.c.x,pl d.c.y,sg d.c.d,mg d.c.d,.int .i64 d.id]])] (.tup [.agg [.int .i64 ((((X4 q a b c d))).kind),.int .i64 ((((X4 q a b c d))).i0),.int .i64 ((((X4 q a b c d))).i1),.int .i64 ((((X4 q a b c d))).i2),.int .i64 ((((X4 q a b c d))).i3),pl (((X4 q a b c d)).p),.int .i64 (((X4 q a b c d)).want)],.one (.int .i64 0)]):=by
 refine X2 tt 1 [] Tryz.func201 Tryz.ntmps201 rfl rfl rfl ?_
 refine Zn (Ql qUc rfl rfl fun g1=>ko ?_)
 refine Qr tt 2 rfl ?_
 refine Qf tt 1 [] (Qj (m:=4) Wn rfl (rfl) rfl) rfl ?_
 refine kl tt 1 [] Tryz.func274 rfl rfl rfl (I4) rfl rfl ?_
 refine Xb tt 3 [] (rfl) rfl rfl ?_
 refine Zn (Ql qUc rfl rfl fun g2=>ko ?_)
 refine Xd tt 2 [0] rfl ?_
 refine Qf tt 1 [] (Qj (m:=4) Wn rfl (rfl) rfl) rfl ?_
 refine H1 5 ?_
 refine J7 ?_
 refine Qr tt 1 rfl ?_
 refine Xf tt 1 [] (rfl) rfl rfl ?_
 refine Qf tt 1 [] (Qi (0) Wn F4 rfl rfl rfl rfl rfl rfl) rfl ?_
 refine Zn (Ql qWi rfl rfl fun g3=>ko ?_)
 refine Xd tt 7 [0,0] rfl ?_
 refine Qf tt 1 [1] (V2 0 Sm Js rfl rfl rfl (by decide) rfl) rfl ?_
 refine Qf tt 1 [] (Q6 (r:=((1:Nat):Int)) rfl rfl (rfl) rfl) rfl ?_
 refine Q7 ?_
 refine J7 ?_
 refine Qr tt 1 rfl ?_
 refine Xf tt 1 [] (rfl) rfl rfl ?_
 refine Qf tt 1 [] (Qi (1) Wn F4 rfl rfl rfl rfl rfl rfl) rfl ?_
 refine Zn (Ql qWi rfl rfl fun g4=>ko ?_)
 refine Xd tt 7 [0,0] rfl ?_
 refine Qf tt 1 [2] (V2 1 Sm Js rfl rfl rfl (by decide) rfl) rfl ?_
 refine Qf tt 1 [] (Q6 (r:=((2:Nat):Int)) rfl rfl (rfl) rfl) rfl ?_
 refine Q7 ?_
 refine J7 ?_
 refine Qr tt 1 rfl ?_
 refine Xf tt 1 [] (rfl) rfl rfl ?_
 refine Qf tt 1 [] (Qi (2) Wn F4 rfl rfl rfl rfl rfl rfl) rfl ?_
 refine Zn (Ql qWi rfl rfl fun g5=>ko ?_)
 refine Xd tt 7 [0,0] rfl ?_
 refine Qf tt 1 [3] (V2 2 Sm Js rfl rfl rfl (by decide) rfl) rfl ?_
 refine Qf tt 1 [] (Q6 (r:=((3:Nat):Int)) rfl rfl (rfl) rfl) rfl ?_
 refine Q7 ?_
 refine J7 ?_
 refine Qr tt 1 rfl ?_
 refine Xf tt 1 [] (rfl) rfl rfl ?_
 refine Qf tt 1 [] (Qi (3) Wn F4 rfl rfl rfl rfl rfl rfl) rfl ?_
 refine Zn (Ql qWi rfl rfl fun g6=>ko ?_)
 refine Xd tt 7 [0,0] rfl ?_
 refine Qf tt 1 [4] (V2 3 Sm Js rfl rfl rfl (by decide) rfl) rfl ?_
 refine Qf tt 1 [] (Q6 (r:=((4:Nat):Int)) rfl rfl (rfl) rfl) rfl ?_
 refine Q7 ?_
 refine J7 ?_
 refine Qr tt 1 rfl ?_
 refine Xb tt 3 [] (rfl) rfl rfl ?_
 refine Xb tt 2 [] (rfl) rfl rfl ?_
 refine Xb tt 2 [] (rfl) rfl rfl ?_
 refine Xb tt 2 [] (rfl) rfl rfl ?_
 refine Xb tt 0 [] (rfl) rfl rfl ?_
 refine Qx 16 Qp rfl rfl rfl ?_
 refine Qr tt 1 rfl ?_
 refine kd (Qi (0) Wn F4 rfl rfl rfl rfl rfl rfl) rfl ?_
 refine Qr tt 3 rfl ?_
 refine kd (Qi (1) Wn F4 rfl rfl rfl rfl rfl rfl) rfl ?_
 refine Qr tt 3 rfl ?_
 refine kd (Qi (2) Wn F4 rfl rfl rfl rfl rfl rfl) rfl ?_
 refine Qr tt 3 rfl ?_
 refine kd (Qi (3) Wn F4 rfl rfl rfl rfl rfl rfl) rfl ?_
 refine Qr tt 2 rfl ?_
 refine Qw tt rfl ?_
 refine kl tt 5 [4,4] Tryz.func100 rfl rfl rfl (Hn (ha) (hb) (hc) (hd) (ca) (cb) (cc) (cd)) rfl rfl ?_
 refine kl tt 5 [4,4,5] Tryz.func99 rfl rfl rfl (Nn (Tq ca cb cc cd) (hq)) rfl rfl ?_
 exact kr2 tt [5] rfl (by simp only [X4])
set_option maxRecDepth 20000 in
theorem Qmq {l:List Pt} {fid:Nat} {post:List LV} {fn:Func} {I:List (Pt×Pt)→List OB→Prop} {B0:List OB} (hfn:Tryz.prog.funcs[fid]? = some fn) (hnm:(fn.name == "runtime.NumGoroutine")=false) (hbd:fn.body.isNone=false) (hl:l.length≤1000)
  (hstep:∀ (ps:List (Pt×Pt)) (c d:Pt) (B:List OB),c∈l→d∈l→ps.length<l.length*l.length→I ps B→Wt Tryz.prog fid ([].map AV.one++[.agg (Ui c),.agg (Ui d)]++post.map .one) B fun R B'=>R=.tup []∧I (ps++[(c,d)]) B')
  (h0:I [] B0):Wt Tryz.prog 198 [.one (Um l),.one (.ofn fid [] post)] B0 fun R B'=>R=.tup []∧I (Q9 l) B':=by
 refine X2 tt 1 [] Tryz.func198 Tryz.ntmps198 rfl rfl rfl ?_
 refine Qf tt 1 [] (Qj (m:=l.length) Wn rfl (Kl _) rfl) rfl ?_
 refine Qk [0,1,8,9,10] rfl rfl ?_
 refine Zj (fun m L B=>∃ i B1,i≤l.length∧I (Qu i l) B1∧m=l.length-i∧L=[(0,.one (Um l)),(1,.one (.ofn fid [] post)),(8,.one (Um l)),(9,.one (.int .i64 (((l.length:Nat):Int)))),(10,.one (.int .i64 (((i:Nat):Int))))]∧B=B1) (m:=_) ⟨0,B0,K7 _,h0,rfl,rfl,rfl⟩ ?_
 rintro m L B ⟨i,B1,hp0,hp1,hm,rfl,hBe⟩
 obtain rfl:=hBe.symm
 refine Qw tt rfl ?_
 by_cases hlt:i<l.length
 ·obtain ⟨c,hc⟩:∃ c,l[i]? = some c:=⟨_,Xv hlt⟩
  refine Qr tt 1 rfl ?_
  refine Xf tt 1 [] (decide_eq_true (by omega)) rfl rfl ?_
  refine Qf tt 1 [] (Qi (i) Wn F4 rfl rfl (rfl) (Qg hc) rfl rfl) rfl ?_
  refine Zn (Ql qWi rfl rfl fun g1=>ko ?_)
  refine Xd tt 4 [0] rfl ?_
  refine kw (Q6 (r:=((i+1:Nat):Int)) rfl rfl (Qm (by omega) (by omega)) rfl) ?_
  refine Qf tt 0 [] (Dz (i+1) Wn F4 rfl rfl rfl (by rw [Zw]; omega) (Vu l (fun _=>rfl)) (l':=(l.drop (i+1)).map Ui) (by rw [List.map_drop]) rfl) rfl ?_
  refine Qf tt 1 [] (Qj (m:=((l.drop (i+1))).length) Wn rfl (Kl _) rfl) rfl ?_
  refine Qk [0,1,5,8,9,10,18,19,20] rfl rfl ?_
  refine Zj (fun m L B=>∃ j B2,j≤(l.drop (i+1)).length∧I (Qu i l++((l.drop (i+1)).take j).map (fun y=>(c,y))) B2∧m=(l.drop (i+1)).length-j∧L=[(0,.one (Um l)),(1,.one (.ofn fid [] post)),(5,.one (.ow g1 0)),(8,.one (Um l)),(9,.one (.int .i64 (((l.length:Nat):Int)))),(10,.one (.int .i64 (((i:Nat):Int)))),(18,.one (Um ((l.drop (i+1))))),(19,.one (.int .i64 (((((l.drop (i+1))).length:Nat):Int)))),(20,.one (.int .i64 (((j:Nat):Int))))]∧B=.blk g1 76 [pl c.c.x,pl c.c.y,sg c.c.d,mg c.c.d,.int .i64 c.id]::B2) (m:=_) ⟨0,B1,K7 _,by simpa using hp1,rfl,rfl,rfl⟩ ?_
  rintro m L B ⟨j,B2,hq0,hq1,hm,rfl,rfl⟩
  refine Qw tt rfl ?_
  by_cases h2:j<(l.drop (i+1)).length
  ·have hdl:(l.drop (i+1)).length≤1000:=by rw [E5]; omega
   obtain ⟨d,hd⟩:∃ d,(l.drop (i+1))[j]? = some d:=⟨_,Xv h2⟩
   refine Qr tt 1 rfl ?_
   refine Xf tt 0 [] (decide_eq_true (by omega)) rfl rfl ?_
   refine Qf tt 1 [] (Qi (j) Wn F4 rfl rfl (rfl) (Qg hd) rfl rfl) rfl ?_
   refine Zn (Ql qWi rfl rfl fun g2=>ko ?_)
   refine Xd tt 4 [0,1,0] rfl ?_
   refine X5 (fun _ k_=>Qlm (A:=[.blk g2 76 [pl d.c.x,pl d.c.y,sg d.c.d,mg d.c.d,.int .i64 d.id],.blk g1 76 [pl c.c.x,pl c.c.y,sg c.c.d,mg c.c.d,.int .i64 c.id]]) (C:=B2) (Qo k_)) rfl ?_
   refine Zn (Qom rfl hfn hnm hbd rfl rfl (hstep _ c d B2 (Y6 hc) (Eg (Y6 hd)) (Qka hlt h2) hq1) rfl fun r_ B3 hr_=>ko ?_)
   obtain ⟨rfl,hB3⟩:=hr_
   refine X5 (fun _ k_=>Qlm (A:=B3) (C:=[.blk g2 76 [pl d.c.x,pl d.c.y,sg d.c.d,mg d.c.d,.int .i64 d.id],.blk g1 76 [pl c.c.x,pl c.c.y,sg c.c.d,mg c.c.d,.int .i64 c.id]]) (Qo k_)) rfl ?_
   refine Qw tt rfl ?_
   refine Qf tt 1 [] (Q6 (r:=((j+1:Nat):Int)) rfl rfl (Qm (by omega) (by omega)) rfl) rfl ?_
   refine Qk [0,1,5,8,9,10,18,19,20] rfl rfl ?_
   refine Y2 0 rfl rfl ?_
   refine Q7 ?_
   refine ⟨_,?_,j+1,_,by omega,by rw [D1 hd,G2,←N1]; exact hB3,rfl,rfl,rfl⟩
   omega
  skip
  refine Qr tt 1 rfl ?_
  refine Xb tt 0 [] (decide_eq_false (by omega)) rfl rfl ?_
  refine Qf tt 1 [] (Q6 (r:=((i+1:Nat):Int)) rfl rfl (Qm (by omega) (by omega)) rfl) rfl ?_
  refine Qk [0,1,8,9,10] rfl rfl ?_
  refine Y2 0 rfl rfl ?_
  refine Q7 ?_
  refine ⟨_,?_,i+1,_,by omega,by rw [G0 l i c hc,←Vh (l:=l.drop (i+1)) (i:=j) (by omega)]; exact hq1,rfl,rfl,rfl⟩
  omega
 have hi:i=l.length:=by omega
 refine Qr tt 1 rfl ?_
 refine Xb tt 0 [] (decide_eq_false (by omega)) rfl rfl ?_
 exact ⟨_,[],_,Cw Tryz.results198,rfl,rfl,by rw [hi] at hp1; exact hp1⟩
theorem Fb {a b:Pt} (h:B6 [a,b]):Mv a.c∧Mv b.c∧Cb a.c∧Cb b.c:=⟨(h a (by simp)).1,(h b (by simp)).1,(h a (by simp)).2,(h b (by simp)).2⟩
set_option maxRecDepth 20000 in
theorem Qa3 {ga gb:Nat} {s:Pt×Pt} {c d:Pt} {q:Rat} (g1:B6 [s.1,s.2]) (gc:Mv c.c∧Cb c.c) (gd:Mv d.c∧Cb d.c) (hq:Qb q):Wt Tryz.prog 199 [.agg [pl c.c.x,pl c.c.y,sg c.c.d,mg c.c.d,.int .i64 c.id],.agg [pl d.c.x,pl d.c.y,sg d.c.d,mg d.c.d,.int .i64 d.id],.one (.ow ga 0),.one (.ow gb 0),.one (.sh [pl ([-q.num,(q.den:Int)]),sg q.num,mg q.num,sg ((q.den:Int)),mg ((q.den:Int)),sg q.num,mg q.num,sg ((q.den:Int)),mg ((q.den:Int))])] [.blk ga 76 [pl s.1.c.x,pl s.1.c.y,sg s.1.c.d,mg s.1.c.d,.int .i64 s.1.id],.blk gb 76 [pl s.2.c.x,pl s.2.c.y,sg s.2.c.d,mg s.2.c.d,.int .i64 s.2.id]] fun R B=>R=.tup []∧B=[.blk ga 76 [pl ((((Vi q s (c,d)).1).c).x),pl ((((Vi q s (c,d)).1).c).y),sg ((((Vi q s (c,d)).1).c).d),mg ((((Vi q s (c,d)).1).c).d),.int .i64 (((Vi q s (c,d)).1).id)],.blk gb 76 [pl ((((Vi q s (c,d)).2).c).x),pl ((((Vi q s (c,d)).2).c).y),sg ((((Vi q s (c,d)).2).c).d),mg ((((Vi q s (c,d)).2).c).d),.int .i64 (((Vi q s (c,d)).2).id)]]:=by
 refine X2 tt 0 [] Tryz.func199 Tryz.ntmps199 rfl rfl rfl ?_
 by_cases hf:Kx (Xj s.1.c s.2.c c.c d.c) q<0
 ·have hn:Vi q s (c,d)=(c,d):=if_pos hf
  refine Qr tt 2 rfl ?_
  refine Qx 10 Qp rfl rfl rfl ?_
  refine Xd tt 8 [0,1] rfl ?_
  refine Ye tt 1 [] Tryz.func100 rfl rfl rfl (Hn ((Fb g1).1) ((Fb g1).2.1) (gc.1) (gd.1) ((Fb g1).2.2.1) ((Fb g1).2.2.2) (gc.2) (gd.2)) rfl rfl ?_
  refine Qw tt rfl ?_
  refine kl tt 1 [] Tryz.func99 rfl rfl rfl (Nn (Tq (Fb g1).2.2.1 (Fb g1).2.2.2 gc.2 gd.2) (hq)) rfl rfl ?_
  refine Xf tt 0 [] (decide_eq_true hf) rfl rfl ?_
  refine kc (Iy Qp 2 [19,20] [[],[],[0]] [.agg [pl c.c.x,pl c.c.y,sg c.c.d,mg c.c.d,.int .i64 c.id],.agg [pl d.c.x,pl d.c.y,sg d.c.d,mg d.c.d,.int .i64 d.id]] (fun B=>B=[.blk ga 76 [pl c.c.x,pl c.c.y,sg c.c.d,mg c.c.d,.int .i64 c.id],.blk gb 76 [pl s.2.c.x,pl s.2.c.y,sg s.2.c.d,mg s.2.c.d,.int .i64 s.2.id]]) rfl rfl rfl rfl ⟨Zz qUs F4 rfl rfl rfl rfl,Zz qUs F4 rfl rfl rfl rfl,trivial⟩ ?_ ?_ ?_)
  ·intro js_ hj_
   have hj_:some [0]=some js_:=hj_
   injection hj_ with hj_
   subst hj_
   refine P5 fun N k_=>?_
   refine P0 0 F4 rfl rfl rfl rfl rfl rfl rfl ?_
   exact Qo (k_ _ rfl)
  ·rintro B_ rfl
   exact ⟨Zz qUs F4 rfl rfl rfl rfl,Zz qUs F4 rfl rfl rfl rfl,trivial⟩
  rintro B_ rfl
  refine ⟨_,rfl,kn ?_⟩
  refine Xd tt 1 [1] rfl ?_
  refine L9 ?_
  exact ⟨_,[],_,Cw Tryz.results199 ,rfl,⟨rfl,by rw [hn]⟩⟩
 have hn:Vi q s (c,d)=s:=if_neg hf
 refine Qr tt 2 rfl ?_
 refine Qx 10 Qp rfl rfl rfl ?_
 refine Xd tt 8 [0,1] rfl ?_
 refine Ye tt 1 [] Tryz.func100 rfl rfl rfl (Hn ((Fb g1).1) ((Fb g1).2.1) (gc.1) (gd.1) ((Fb g1).2.2.1) ((Fb g1).2.2.2) (gc.2) (gd.2)) rfl rfl ?_
 refine Qw tt rfl ?_
 refine kl tt 1 [] Tryz.func99 rfl rfl rfl (Nn (Tq (Fb g1).2.2.1 (Fb g1).2.2.2 gc.2 gd.2) (hq)) rfl rfl ?_
 refine Xb tt 0 [] (decide_eq_false hf) rfl rfl ?_
 refine L9 ?_
 exact ⟨_,[],_,Cw Tryz.results199 ,rfl,⟨rfl,by rw [hn]⟩⟩
def Mx (q:Rat) (s m:Pt×Pt) (ws:List Ct):List Ct:=if Ww s m=true then ws++[X4 q s.1 s.2 m.1 m.2] else ws
theorem Qrv (q:Rat) (s m:Pt×Pt) (ps:List (Pt×Pt)):Mx q s m (Ka q s ps)=Ka q s (ps++[m]):=by
 unfold Mx
 split
 ·rename_i h; rw [Qlw h]
 rename_i h; rw [Qlu (by simpa using h)]
set_option maxRecDepth 20000 in
theorem Qba {ga gb go:Nat} {r:Option (Nat×Nat)} {s:Pt×Pt} {c d:Pt} {q:Rat} {ws:List Ct} (g1:B6 [s.1,s.2]) (gc:Mv c.c∧Cb c.c) (gd:Mv d.c∧Cb d.c) (hq:Qb q) (hw:ws.length≤1000000):Wt Tryz.prog 200 [.agg [pl c.c.x,pl c.c.y,sg c.c.d,mg c.c.d,.int .i64 c.id],.agg [pl d.c.x,pl d.c.y,sg d.c.d,mg d.c.d,.int .i64 d.id],.one (.ow ga 0),.one (.ow gb 0),.one (.sh [pl ([-q.num,(q.den:Int)]),sg q.num,mg q.num,sg ((q.den:Int)),mg ((q.den:Int)),sg q.num,mg q.num,sg ((q.den:Int)),mg ((q.den:Int))]),.one (.ow go 0)] [.row r 166 7 (ws.map Fj),.blk ga 76 [pl s.1.c.x,pl s.1.c.y,sg s.1.c.d,mg s.1.c.d,.int .i64 s.1.id],.blk gb 76 [pl s.2.c.x,pl s.2.c.y,sg s.2.c.d,mg s.2.c.d,.int .i64 s.2.id],.blk go 48 [.orow r 7 0 ws.length]] fun R B=>R=.tup []∧∃ r',B=[.row r' 166 7 ((Mx q s (c,d) ws).map Fj),.blk ga 76 [pl s.1.c.x,pl s.1.c.y,sg s.1.c.d,mg s.1.c.d,.int .i64 s.1.id],.blk gb 76 [pl s.2.c.x,pl s.2.c.y,sg s.2.c.d,mg s.2.c.d,.int .i64 s.2.id],.blk go 48 [.orow r' 7 0 ((Mx q s (c,d) ws).length)]]:=by
 refine X2 tt 0 [] Tryz.func200 Tryz.ntmps200 rfl rfl rfl ?_
 by_cases h1:c.id=s.1.id
 ·by_cases h3:d.id=s.2.id
  refine Qw tt rfl ?_
  ·have hn:Mx q s (c,d) ws=ws:=by unfold Mx; rw [if_neg (by simp [Ww, *])]
   refine Xd tt 8 [1] rfl ?_
   refine Qf tt 0 [] ((Qd rfl rfl (decide_eq_false (fun h=>h h1)) (Qv tt rfl rfl))) rfl ?_
   refine Qf tt 0 [] ((Qd rfl rfl (decide_eq_false (fun h=>h h1)) (Qv tt rfl rfl))) rfl ?_
   refine Qf tt 0 [] ((Qd rfl rfl (decide_eq_false (fun h=>h h1)) (Qv tt rfl rfl))) rfl ?_
   refine Qf tt 0 [] ((Qd rfl rfl (decide_eq_false (fun h=>h h1)) (F0 tt 2 rfl rfl))) rfl ?_
   refine Qf tt 0 [] ((Qd rfl rfl (decide_eq_false (fun h=>h h1)) (Qv tt rfl rfl))) rfl ?_
   refine Qf tt 0 [] (Zu rfl (decide_eq_false (fun h=>h h1)) rfl rfl) rfl ?_
   refine Xb tt 0 [] (decide_eq_false (fun h=>h h3)) rfl rfl ?_
   refine L9 ?_
   exact ⟨_,[],_,Cw Tryz.results200 ,rfl,⟨rfl,r,by rw [hn]⟩⟩
  have hn:Mx q s (c,d) ws=ws++[X4 q s.1 s.2 c d]:=by unfold Mx; rw [if_pos (by simp [Ww, *])]
  refine Xd tt 8 [1] rfl ?_
  refine Qf tt 0 [] ((Qd rfl rfl (decide_eq_false (fun h=>h h1)) (Qv tt rfl rfl))) rfl ?_
  refine Qf tt 0 [] ((Qd rfl rfl (decide_eq_false (fun h=>h h1)) (Qv tt rfl rfl))) rfl ?_
  refine Qf tt 0 [] ((Qd rfl rfl (decide_eq_false (fun h=>h h1)) (Qv tt rfl rfl))) rfl ?_
  refine Qf tt 0 [] ((Qd rfl rfl (decide_eq_false (fun h=>h h1)) (F0 tt 2 rfl rfl))) rfl ?_
  refine Qf tt 0 [] ((Qd rfl rfl (decide_eq_false (fun h=>h h1)) (Qv tt rfl rfl))) rfl ?_
  refine Qf tt 0 [] (Zu rfl (decide_eq_false (fun h=>h h1)) rfl rfl) rfl ?_
  refine Xf tt 6 [1,2] (decide_eq_true h3) rfl rfl ?_
  refine kl tt 3 [] Tryz.func201 rfl rfl rfl (Ll ((Fb g1).1) ((Fb g1).2.1) (gc.1) (gd.1) ((Fb g1).2.2.1) ((Fb g1).2.2.2) (gc.2) (gd.2) (hq)) rfl rfl ?_
  refine Zn (Ql qUc rfl rfl fun g1=>ko ?_)
  refine Xd tt 5 [0,4,0] rfl ?_
  refine Zn (Zo (ls2:=((ws++[X4 q s.1 s.2 c d]).map Fj)) (m2:=ws.length+1) 1 qWe qWe Tryz.typeInfo166 rfl rfl qWw qUc rfl rfl rfl rfl rfl rfl rfl (by rw [Zw]; exact Ji _) (Yh rfl) (Ya rfl) (by show _+1<_; omega) (by rw [Vh (by rw [Zw]; exact Ji _)]; exact Qhn Fj _ _) (rfl) fun r2=>ko ?_)
  refine Xd tt 1 [4] rfl ?_
  refine L9 ?_
  exact ⟨_,[1],_,Cw Tryz.results200 ,rfl,⟨rfl,_,by rw [hn,H7]; rfl⟩⟩
 have hn:Mx q s (c,d) ws=ws++[X4 q s.1 s.2 c d]:=by unfold Mx; rw [if_pos (by simp [Ww, *])]
 refine Xd tt 8 [1] rfl ?_
 refine Qf tt 0 [] (Qh rfl rfl (decide_eq_true h1) rfl) rfl ?_
 refine Qf tt 0 [] (Qh rfl rfl (decide_eq_true h1) rfl) rfl ?_
 refine Qf tt 0 [] (Qh rfl rfl (decide_eq_true h1) rfl) rfl ?_
 refine Qf tt 0 [] (Qh rfl rfl (decide_eq_true h1) rfl) rfl ?_
 refine Qf tt 0 [] (Qh rfl rfl (decide_eq_true h1) rfl) rfl ?_
 refine Qf tt 0 [] (Zp rfl (decide_eq_true h1) rfl rfl) rfl ?_
 refine Xf tt 6 [1,2] (rfl) rfl rfl ?_
 refine kl tt 3 [] Tryz.func201 rfl rfl rfl (Ll ((Fb g1).1) ((Fb g1).2.1) (gc.1) (gd.1) ((Fb g1).2.2.1) ((Fb g1).2.2.2) (gc.2) (gd.2) (hq)) rfl rfl ?_
 refine Zn (Ql qUc rfl rfl fun g3=>ko ?_)
 refine Xd tt 5 [0,4,0] rfl ?_
 refine Zn (Zo (ls2:=((ws++[X4 q s.1 s.2 c d]).map Fj)) (m2:=ws.length+1) 1 qWe qWe Tryz.typeInfo166 rfl rfl qWw qUc rfl rfl rfl rfl rfl rfl rfl (by rw [Zw]; exact Ji _) (Yh rfl) (Ya rfl) (by show _+1<_; omega) (by rw [Vh (by rw [Zw]; exact Ji _)]; exact Qhn Fj _ _) (rfl) fun r4=>ko ?_)
 refine Xd tt 1 [4] rfl ?_
 refine L9 ?_
 exact ⟨_,[1],_,Cw Tryz.results200 ,rfl,⟨rfl,_,by rw [hn,H7]; rfl⟩⟩
theorem Nw (q:Rat) {l m:List Pt} {a b:Pt} (h:l=a::b::m):Rw q l=[(Z3 q (a,b) (Q9 l)).1,(Z3 q (a,b) (Q9 l)).2]∧Yn q l=Ka q (Z3 q (a,b) (Q9 l)) (Q9 l):=by
 subst h
 simp only [Rw,Yn,and_self]
def Qwr (ga gb:Nat) (s:Pt×Pt):List OB:=[.blk ga 76 (Ui s.1),.blk gb 76 (Ui s.2)]
def Qwu (ga gb go:Nat) (s:Pt×Pt) (ws:List Ct) (B:List OB):Prop:=∃ r,B=[.row r 166 7 (ws.map Fj),.blk ga 76 (Ui s.1),.blk gb 76 (Ui s.2),.blk go 48 [.orow r 7 0 ws.length]]
theorem Qb4 {q:Rat} {l m:List Pt} {a b:Pt} (h:l=a::b::m) (hl:B6 l) {ps:List (Pt×Pt)} (hps:∀ x∈ps,x.1∈l∧x.2∈l):B6 [(Z3 q (a,b) ps).1,(Z3 q (a,b) ps).2]:=by
 have hm:=Rk q (l:=l) ps (a,b) ⟨by rw [h]; simp,by rw [h]; simp⟩ hps
 intro x hx
 simp only [Vb,Nx,or_false] at hx
 rcases hx with rfl | rfl
 ·exact hl _ hm.1
 exact hl _ hm.2
set_option maxRecDepth 20000 in
theorem Qeb {g:Nat} {c0 c1 c2 c3 c4 c5 c6 c7 c8 c9 c10 c11 y1:LV} {l:List Pt} {q:Rat} (hq:Qb q) (hl:B6 l) (hn:l.length≤1000):Wt Tryz.prog 117 [.one (.ow g 0),.agg [pl ([-q.num,(q.den:Int)]),sg q.num,mg q.num,sg ((q.den:Int)),mg ((q.den:Int)),sg q.num,mg q.num,sg ((q.den:Int)),mg ((q.den:Int))]] [.blk g 108 [c0,c1,c2,c3,c4,c5,c6,c7,c8,c9,c10,c11,Um l,y1]] fun r B=>r=.one (cts ((Yn q l)))∧B=[.blk g 108 [c0,c1,c2,c3,c4,c5,c6,c7,c8,c9,c10,c11,Um l,Um ((Rw q l))]]:=by
 refine X2 tt 0 [] Tryz.func117 Tryz.ntmps117 rfl rfl rfl ?_
 by_cases h2:l.length<2
 ·skip
  refine Xd tt 6 [0] rfl ?_
  refine kl tt 6 [0] Tryz.func197 rfl rfl rfl (Ck) rfl rfl ?_
  refine Qf tt 1 [] (Qj (m:=l.length) Wn rfl (Kl _) rfl) rfl ?_
  refine Xf tt 1 [] (decide_eq_true (by omega)) rfl rfl ?_
  obtain ⟨hP,hC⟩:=Qde q h2
  refine X5 (fun _ k_=>Qjd 0 13 rfl rfl rfl (Qo k_)) rfl ?_
  refine Re ?_
  exact ⟨_,[],_,Qb0 Tryz.results117 (V6 rfl rfl),rfl,⟨by rw [hC]; rfl,by rw [hP]; rfl⟩⟩
 obtain ⟨a,b,m,hl2⟩:=Qi8 h2
 have ha:l[0]? = some a:=by rw [hl2]; rfl
 have hb:l[1]? = some b:=by rw [hl2]; rfl
 obtain ⟨hP,hC⟩:=Nw q hl2
 have hnn:l.length*l.length≤1000*1000:=qXr hn hn
 have hpl:(Q9 l).length≤l.length*l.length:=Gm _ _
 refine Xd tt 6 [0] rfl ?_
 refine kl tt 6 [0] Tryz.func197 rfl rfl rfl (Ck) rfl rfl ?_
 refine Qf tt 1 [] (Qj (m:=l.length) Wn rfl (Kl _) rfl) rfl ?_
 refine Xb tt 0 [] (decide_eq_false (by omega)) rfl rfl ?_
 refine kc (Qcc Qp 8 6 2 76 76 6 22 [.slice none 0 0,.slice none 0 0,.bool false,.slice none 0 0,.int .i64 0] [pl a.c.x,pl a.c.y,sg a.c.d,mg a.c.d,.int .i64 a.id] [20,21,22,23,24,25,6,7] [[],[0],[1],[],[3],[4],[],[],[2,6]] [.one (Um l),.one (.sh [pl a.c.x,pl a.c.y,sg a.c.d,mg a.c.d,.int .i64 a.id]),.agg [pl a.c.x,pl a.c.y,sg a.c.d,mg a.c.d,.int .i64 a.id],.one (Um l),.one (.sh [pl b.c.x,pl b.c.y,sg b.c.d,mg b.c.d,.int .i64 b.id]),.agg [pl b.c.x,pl b.c.y,sg b.c.d,mg b.c.d,.int .i64 b.id],.un,.un] [(7,76,[.slice none 0 0,.slice none 0 0,.bool false,.slice none 0 0,.int .i64 0])] [[.nils,.nils,.bool false,.nils,.int .i64 0]] rfl rfl rfl (by decide) ⟨rfl,trivial⟩ rfl rfl rfl rfl rfl rfl F4 rfl rfl rfl ⟨Zd rfl rfl,Qi (0) Wn F4 rfl rfl (rfl) (Qg ha) rfl rfl,Zz qUs F4 rfl rfl rfl rfl,Zd rfl rfl,Qi (1) Wn F4 rfl rfl (rfl) (Qg hb) rfl rfl,Zz qUs F4 rfl rfl rfl rfl,Vl qWi rfl,Vl qWi rfl,trivial⟩ fun g1=>⟨_,_,rfl,rfl,kn ?_⟩)
 refine Xd tt 2 [1] rfl ?_
 refine kw (L4 rfl rfl rfl rfl rfl rfl rfl) ?_
 refine Zx 1 rfl rfl ?_
 refine Zx 1 rfl rfl ?_
 refine Zn (Vs (Bin:=[.blk (g1 6) 76 [pl a.c.x,pl a.c.y,sg a.c.d,mg a.c.d,.int .i64 a.id],.blk (g1 7) 76 [pl b.c.x,pl b.c.y,sg b.c.d,mg b.c.d,.int .i64 b.id]]) Tryz.func198 rfl rfl rfl rfl (Qmq (I:=fun ps B=>(∀ x∈ps,x.1∈l∧x.2∈l)∧B=Qwr ((g1 6)) ((g1 7)) (Z3 q (a,b) ps)) Tryz.func199 rfl rfl (by omega) (fun ps c d B hc hd hlen hB=>?_) ⟨fun _ hx=>absurd hx (by simp),rfl⟩) rfl fun r_ B_ hr_=>ko ?_)
 ·obtain ⟨hps,rfl⟩:=hB
  have hg:=Qb4 (q:=q) hl2 hl hps
  have h1:=Qa3 (ga:=(g1 6)) (gb:=(g1 7)) hg (hl c hc) (hl d hd) hq
  rw [←Tr] at h1
  intro Ob W vs Bi h2 h3 h4 h5
  refine (h1 Ob W vs Bi h2 h3 h4 h5).mono fun e w' ⟨v,r,Bo,Bq,e1,⟨e2,e3⟩,e4⟩=>⟨v,r,Bo,Bq,e1,⟨e2,fun x hx=>?_,e3⟩,e4⟩
  rcases Yz.1 hx with hx | hx
  ·exact hps x hx
  rw [qZw.1 hx]; exact ⟨hc,hd⟩
 obtain ⟨rfl,-,rfl⟩:=hr_
 refine Xd tt 7 [0,1,2] rfl ?_
 refine Zn (Ql Tryz.zeroValue48 rfl rfl fun g2=>ko ?_)
 refine X5 (fun _ k_=>Nj 0 0 166 7 rfl rfl rfl (Qo k_)) rfl ?_
 refine Qr tt 1 rfl ?_
 refine kw (L4 rfl rfl rfl rfl rfl rfl rfl) ?_
 refine Zx 3 rfl rfl ?_
 refine Zx 3 rfl rfl ?_
 refine Zx 3 rfl rfl ?_
 refine Zn (Vs (Bin:=[.row none 166 7 ([]),.blk (g1 6) 76 [pl ((((Z3 q (a,b) (Q9 l)).1).c).x),pl ((((Z3 q (a,b) (Q9 l)).1).c).y),sg ((((Z3 q (a,b) (Q9 l)).1).c).d),mg ((((Z3 q (a,b) (Q9 l)).1).c).d),.int .i64 (((Z3 q (a,b) (Q9 l)).1).id)],.blk (g1 7) 76 [pl ((((Z3 q (a,b) (Q9 l)).2).c).x),pl ((((Z3 q (a,b) (Q9 l)).2).c).y),sg ((((Z3 q (a,b) (Q9 l)).2).c).d),mg ((((Z3 q (a,b) (Q9 l)).2).c).d),.int .i64 (((Z3 q (a,b) (Q9 l)).2).id)],.blk g2 48 [.orow none 7 0 0]]) Tryz.func198 rfl rfl rfl rfl (Qmq (I:=fun ps B=>(∀ x∈ps,x.1∈l∧x.2∈l)∧Qwu ((g1 6)) ((g1 7)) g2 (Z3 q (a,b) (Q9 l)) (Ka q (Z3 q (a,b) (Q9 l)) ps) B) Tryz.func200 rfl rfl (by omega) (fun ps c d B hc hd hlen hB=>?_) ⟨fun _ hx=>absurd hx (by simp),none,rfl⟩) rfl fun r_ B_ hr_=>ko ?_)
 ·obtain ⟨hps,r,rfl⟩:=hB
  have hg:=Qb4 (q:=q) (ps:=Q9 l) hl2 hl (V4 l.length l)
  have hws:(Ka q (Z3 q (a,b) (Q9 l)) ps).length≤1000000:=Xa (R9 _ _ _) (by omega)
  have h1:=Qba (ga:=(g1 6)) (gb:=(g1 7)) (go:=g2) (r:=r) hg (hl c hc) (hl d hd) hq hws
  rw [Qrv] at h1
  intro Ob W vs Bi h2 h3 h4 h5
  refine (h1 Ob W vs Bi h2 h3 h4 h5).mono fun e w' ⟨v,r,Bo,Bq,e1,⟨e2,r7,e3⟩,e4⟩=>⟨v,r,Bo,Bq,e1,⟨e2,fun x hx=>?_,r7,e3⟩,e4⟩
  rcases Yz.1 hx with hx | hx
  ·exact hps x hx
  rw [qZw.1 hx]; exact ⟨hc,hd⟩
 obtain ⟨rfl,-,r5,rfl⟩:=hr_
 refine Xd tt 2 [3] rfl ?_
 refine X5 (fun _ k_=>Xm (L2:=_) 0 [4] rfl (Zg rfl) (by rw [Zw]) (by rw [Zw]; exact B9 (R9 _ _ _) (by omega)) rfl (Qo k_)) rfl ?_
 refine X5 (fun _ k_=>Jf 4 (y:=.one (cts (Yn q l))) rfl (by rw [hC]; rfl) (Qo k_)) rfl ?_
 refine Re ?_
 exact ⟨_,[0,0,0],_,Qb0 Tryz.results117 (V6 rfl rfl),rfl,⟨rfl,by rw [hP]; rfl⟩⟩
set_option maxRecDepth 20000 in
theorem Qab {b1 b2:Bool} {l1 l2:List Nat} {n d:Int} {zs:List (List LV)} {qs:List Pt} (h1:Y1 (.bool b1) (Xy l1) n) (h2:Y1 (.bool b2) (Xy l2) d) (hn:Xh n≤4294967295) (hd:Xh d≤4294967295) (hq:Qb (Q3 n d)) (hz:IsPts 4294967294 1073741824 zs qs) (hg:B6 qs) (hl:qs.length≤6) (he:(J1 [] qs).2=0):Wt Tryz.prog 46 [.agg [.bool b1,Xy l1,.bool b2,Xy l2],.one (.row zs)] [] fun R B=>∃ g,R=.tup [.one (.ow g 0),.one (.int .i64 0)]∧B=[.blk g 108 [.bool true,pl ([-((Q3 n d)).num,(((Q3 n d)).den:Int)]),sg ((((Q3 n d))).num),mg ((((Q3 n d))).num),sg (((((Q3 n d))).den:Int)),mg (((((Q3 n d))).den:Int)),sg ((((Q3 n d))).num),mg ((((Q3 n d))).num),sg (((((Q3 n d))).den:Int)),mg (((((Q3 n d))).den:Int)),Ms ((Z9 (Yn ((Q3 n d)) ((J1 [] qs).1)))),.int .i64 0,Um ((J1 [] qs).1),Um ((Rw ((Q3 n d)) ((J1 [] qs).1)))]]:=by
 refine X2 tt 0 [] Tryz.func46 Tryz.ntmps46 rfl rfl rfl ?_
 have hgl:B6 (J1 [] qs).1:=fun a ha=>hg a ((Qgl qs [] ha).resolve_right (by simp))
 have hln:=Qh5 qs
 have hcl:=Qpj ((Q3 n d)) ((J1 [] qs).1) (by omega)
 skip
 refine Qr tt 4 rfl ?_
 refine kl tt 3 [] Tryz.func114 rfl rfl rfl (Qgq hz hl) rfl rfl ?_
 refine Zn (Ql qUy rfl rfl fun g1=>ko ?_)
 refine Xd tt 4 [0] rfl ?_
 refine Xb tt 2 [0] (decide_eq_false (fun h=>h he)) rfl rfl ?_
 refine Zn (Y0 rfl rfl rfl fun g2=>ko ?_)
 refine Qr tt 2 rfl ?_
 refine kw (Zs Tryz.func115 rfl rfl rfl rfl (Qqu h1 h2 hn hd (hq.mono (by omega))) rfl) ?_
 refine Zn (Ql qFc rfl rfl fun g3=>ko ?_)
 refine Xd tt 1 [0] rfl ?_
 refine kc (S0 Qp 7 [23,24,25,26,27,28,29] [[],[0],[1],[],[],[],[4,5]] [.one (.ow g2 0),.one (.ow g2 0),.one (.ow g2 0),.agg [pl ([-((Q3 n d)).num,(((Q3 n d)).den:Int)]),sg ((((Q3 n d))).num),mg ((((Q3 n d))).num),sg (((((Q3 n d))).den:Int)),mg (((((Q3 n d))).den:Int)),sg ((((Q3 n d))).num),mg ((((Q3 n d))).num),sg (((((Q3 n d))).den:Int)),mg (((((Q3 n d))).den:Int))],.one (.ow g2 0),.agg [pl ([-((Q3 n d)).num,(((Q3 n d)).den:Int)]),sg ((((Q3 n d))).num),mg ((((Q3 n d))).num),sg (((((Q3 n d))).den:Int)),mg (((((Q3 n d))).den:Int)),sg ((((Q3 n d))).num),mg ((((Q3 n d))).num),sg (((((Q3 n d))).den:Int)),mg (((((Q3 n d))).den:Int))],.un] 6 (fun u B=>u=.one (cts ((Yn ((Q3 n d)) ((J1 [] qs).1))))∧B=[.blk g2 108 [.bool false,.nils,.bool false,.nils,.bool false,.nils,.bool false,.nils,.bool false,.nils,.nils,.int .i64 0,Um ((J1 [] qs).1),Um ((Rw ((Q3 n d)) ((J1 [] qs).1)))],.blk g3 59 [pl ([-((Q3 n d)).num,(((Q3 n d)).den:Int)]),sg ((((Q3 n d))).num),mg ((((Q3 n d))).num),sg (((((Q3 n d))).den:Int)),mg (((((Q3 n d))).den:Int)),sg ((((Q3 n d))).num),mg ((((Q3 n d))).num),sg (((((Q3 n d))).den:Int)),mg (((((Q3 n d))).den:Int))],.blk g1 106 [Um ((J1 [] qs).1)]]) rfl rfl rfl rfl ⟨Zd rfl rfl,Kv rfl rfl rfl,W8 Cx rfl rfl,Jm 0 qFz qFa rfl rfl rfl rfl rfl,Zd rfl rfl,Jm 0 qFz qFa rfl rfl rfl rfl rfl,?_,trivial⟩ ?_ ?_)
 ·refine Rz fun N k_=>?_
  refine Qam 1 rfl ?_
  refine Vs (Bin:=[.blk g2 108 [.bool false,.nils,.bool false,.nils,.bool false,.nils,.bool false,.nils,.bool false,.nils,.nils,.int .i64 0,Um ((J1 [] qs).1),.nils]]) Tryz.func117 rfl rfl rfl rfl (Qeb hq hgl (by omega)) rfl fun r_ B_ hr_=>?_
  obtain ⟨rfl,rfl⟩:=hr_
  exact Qo (k_ _ _ ⟨rfl,rfl⟩)
 ·rintro u_ B_ ⟨rfl,rfl⟩
  exact ⟨Zd rfl rfl,Kv rfl rfl rfl,W8 Cx rfl rfl,Jm 1 qFz qFa rfl rfl rfl rfl rfl,Zd rfl rfl,Jm 1 qFz qFa rfl rfl rfl rfl rfl,trivial,trivial⟩
 rintro u_ B_ ⟨rfl,rfl⟩
 refine ⟨_,rfl,kn ?_⟩
 refine Qw tt rfl ?_
 refine X5 (fun _ k_=>Jp (ys:=[.bool false,.row ([]),.bool false,.row ([]),.bool false,.row ([]),.bool false,.row ([]),.bool false,.row ([]),Ms ([]),.int .i64 0,Um ((J1 [] qs).1),Um ((Rw ((Q3 n d)) ((J1 [] qs).1)))]) 0 rfl rfl rfl (Qo k_)) rfl ?_
 refine Zn (Vs (Bin:=[.blk g2 108 [.bool false,.row ([]),.bool false,.row ([]),.bool false,.row ([]),.bool false,.row ([]),.bool false,.row ([]),Ms ([]),.int .i64 0,Um ((J1 [] qs).1),Um ((Rw ((Q3 n d)) ((J1 [] qs).1)))]]) Tryz.func116 rfl rfl rfl rfl (Qd2 (ws:=[]) (by simp) (Qf1 _ hgl) (by omega) (hq.mono (by omega))) rfl fun r_ B_ hr_=>ko ?_)
 obtain ⟨rfl,rfl⟩:=hr_
 refine Qr tt 3 rfl ?_
 refine Qp9 ?_
 exact ⟨_,[1,1],_,Qpm Tryz.results46 (V6 rfl rfl) (V6 rfl rfl),rfl,_,rfl,rfl⟩
set_option maxRecDepth 20000 in
theorem Qah {g:Nat} {c0 c1 c2 c3 c4 c5 c6 c7 c8 c9 c10 c11 y0:LV} {u v:Pt}:Wt Tryz.prog 35 [.one (.ow g 0)] [.blk g 108 [c0,c1,c2,c3,c4,c5,c6,c7,c8,c9,c10,c11,y0,Um ([u,v])]] fun r B=>r=.tup [.one (.int .i64 u.id),.one (.int .i64 v.id),.one (.bool true)]∧B=[.blk g 108 [c0,c1,c2,c3,c4,c5,c6,c7,c8,c9,c10,c11,y0,Um ([u,v])]]:=by
 refine X2 tt 7 [0] Tryz.func35 Tryz.ntmps35 rfl rfl rfl ?_
 refine Qf tt 1 [] (Qj (m:=([u,v]).length) Wn rfl (Kl _) rfl) rfl ?_
 refine Xb tt 0 [] (rfl) rfl rfl ?_
 refine Qx 15 Qp rfl rfl rfl ?_
 refine Xd tt 4 [0] rfl ?_
 refine kd (Qi (0) Wn F4 rfl rfl (rfl) (Qg rfl) rfl rfl) rfl ?_
 refine Xd tt 6 [0] rfl ?_
 refine kd (Qi (1) Wn F4 rfl rfl (rfl) (Qg rfl) rfl rfl) rfl ?_
 refine Qr tt 3 rfl ?_
 refine Qr tt 2 rfl ?_
 refine Re ?_
 exact ⟨_,[],_,Qr4 Tryz.results35 (V6 rfl rfl) (V6 rfl rfl) (V6 rfl rfl),rfl,⟨rfl,rfl⟩⟩
end Orr





namespace Orr
open Go
variable {P:Program} {ops:Array Oper} {n:Nat} {L:Sg} {B:List OB} {Q:Exit→Sg→List OB→Prop}
def WOps (P:Program) (ops:Array Oper) (n:Nat) (L L0:Sg) (B:List OB) (D:List Nat) (us:List AV) (rd:List Nat):Nat→List Sg→List Oper→Prop
  | i,dep::deps,o::os=>AP P ops n o (D.getD i 0) (us.getD i .un) (dep++(match rd.contains i with | true=>L | false=>L0)) B∧WOps P ops n L L0 B D us rd (i+1) deps os
  | _,_,_=>True
theorem WOps.get {L0:Sg} {D:List Nat} {us:List AV} {rd:List Nat}:∀ {os:List Oper} {ds:List Sg} {k:Nat},WOps P ops n L L0 B D us rd k ds os→∀ (i:Nat) dep o,ds[i]? = some dep→os[i]? = some o→AP P ops n o (D.getD (k+i) 0) (us.getD (k+i) .un) (dep++(match rd.contains (k+i) with | true=>L | false=>L0)) B
  | [],_,_,_,i,_,_,_,ho=>by simp at ho
  | _::_,[],_,_,i,_,_,hd,_=>by simp at hd
  | o::os,dp::ds,k,h,0,dep,o',hd,ho=>by simp at hd ho; subst hd; subst ho; exact h.1
  |
   o::os,dp::ds,k,h,i+1,dep,o',hd,ho=>by
   have:=WOps.get h.2 i dep o' (by simpa using hd) (by simpa using ho)
   rw [show k+(i+1)=k+1+i from by omega]
   exact this
theorem Qjr {ws:List Nat}:∀ {L:Sg} {t:Nat} {x:AV},lk (L.filter fun p => !ws.contains p.1) t=some x→ws.contains t=false∧lk L t=some x
  | [],t,x,h=>(nomatch (show none=some x from h))
  |
   (s,u)::L,t,x,h=>by
   cases hs:ws.contains s with
   |
    true =>
    rw [qXn (by simp only [hs]; decide)] at h
    obtain ⟨h1,h2⟩:=Qjr h
    refine ⟨h1,?_⟩
    simp only [lk]
    cases e:Nat.beq t s
    · exact h2
    · have:=Fg e; subst this; rw [hs] at h1; cases h1
   |
    false =>
    rw [qXm (by simp only [hs]; decide)] at h
    simp only [lk] at h ⊢
    cases e:Nat.beq t s <;> rw [e] at h
    · exact Qjr h
    · have:=Fg e; subst this; exact ⟨hs,h⟩
theorem Bp {ws:List Nat} {t:Nat} (ht:ws.contains t=false):∀ {L:List (Nat×Value)},Z1 (L.filter fun p => !ws.contains p.1) t=Z1 L t
  | []=>rfl
  |
   (s,u)::L=>by
   cases hs:ws.contains s with
   |
    true =>
    rw [qXn (by simp only [hs]; decide),Bp ht]
    simp only [Z1]
    cases e:Nat.beq t s
    · rfl
    · have:=Fg e; subst this; rw [hs] at ht; cases ht
   |
    false =>
    rw [qXm (by simp only [hs]; decide)]
    simp only [Z1]
    cases e:Nat.beq t s
    · exact Bp ht
    · rfl
theorem Al {ws:List Nat} {t:Nat} (ht:ws.contains t=true):∀ {L:List (Nat×Value)},Z1 (L.filter fun p => !ws.contains p.1) t=none
  | []=>rfl
  |
   (s,u)::L=>by
   cases hs:ws.contains s with
   | true=>rw [qXn (by simp only [hs]; decide)]; exact Al ht
   |
    false =>
    rw [qXm (by simp only [hs]; decide)]
    simp only [Z1]
    cases e:Nat.beq t s
    · exact Al ht
    · have:=Fg e; subst this; rw [hs] at ht; cases ht
theorem Qqi {id:Nat} {l:List Oper} (hm:P.follows .mixedOrders=true) (m:Nat) (D:List Nat) (deps:List (List Nat)) (us:List AV) (rd ws:List Nat) {L2 L0:Sg} (hchk:Kc l m (D.map some) deps=true)
    (hDm:(Nat.beq D.length m && Nat.beq us.length m && deps.all fun js=>js.all fun j=>Nat.blt j m)=true) (hnone:(D.all fun t=>ws.contains t || (lk L t).isNone)=true)
    (hrd:((List.range m).all fun j => !ws.contains (D.getD j 0) || rd.all fun i=>(Wj l j).contains i)=true) (hL0:(L.filter fun p => !ws.contains p.1)=L0)
    (hops:WOps P l.toArray n L L0 B D us rd 0 (depsOf D us deps) (l.take m))
    (hz:C2 D us L=some L2) (k:AW P l.toArray n (l.drop m) (fun L B=>Q .normal L B) L2 B):AC P n (.region id l.toArray true) Q L B:=by
  subst hL0
  rintro K Ob w0 w a ⟨L',Bs,h,hL,hB⟩
  simp only [qXk,Bv] at hDm hnone hrd
  obtain ⟨⟨hD,hU⟩,hdl⟩:=hDm
  have hD:=Fg hD
  have hU:=Fg hU
  have hdl:∀ js∈deps,∀ j∈js,j<m:=fun js hj j hjj=>by have:=hdl js hj j hjj; rwa [Mc] at this
  obtain ⟨L3,h1,h2,h3⟩:=only L hL
  have hst:St K Ob w0 w a n L3 [] Bs:={ h with slots:=fun t v hv=>h.slots t v (h2 t v hv) }
  have hst2:=hst.add (f:=SF L L3 [] [] [] []) ⟨h3,rfl,trivial⟩
  have hc:=Hr hchk
  let Lf:Nat→List (Nat×Value):=fun i=>match rd.contains i with | true=>L3 | false=>L3.filter fun p => !ws.contains p.1
  have hLf:∀ i t v,Z1 (Lf i) t=some v→Z1 L3 t=some v:=by
    intro i t v hv
    simp only [Lf] at hv
    split at hv
    · exact hv
    · cases hw:ws.contains t with
      | true=>rw [Al hw] at hv; cases hv
      | false=>rwa [Bp hw] at hv
  have hLn:∀ i,i<m→∀ j,j<m→dE (D.map some) j=true→i∈Wj l j∨Z1 (Lf i) (dd (D.map some) j)=none:=by
    intro i _ j hj _
    rw [(Wi D j (by rw [hD]; exact hj)).1]
    have hmem:D.getD j 0∈D:=by rw [Ve,Xv (by rw [hD]; exact hj)]; exact qJd _
    have hn:=hnone _ hmem
    simp only [qVw] at hn
    cases hw:ws.contains (D.getD j 0) with
    |
     false =>
     rw [hw] at hn
     have hn:=hn.resolve_left (by decide)
     rw [qXq] at hn
     refine .inr ?_
     cases e:Z1 (Lf i) (D.getD j 0) with
     | none=>rfl
     | some v=>have:=hLf i _ _ e; rw [h1 _ hn] at this; cases this
    |
     true =>
     simp only [Lf]
     cases hr:rd.contains i with
     | false=>exact .inr (Al hw)
     |
      true =>
      have h5:=hrd j (Ru.2 hj)
      rw [hw] at h5
      simp only [Bool.not_true,Bool.false_or,Bv] at h5
      exact .inl (qYi.1 (h5 i (qYi.1 hr)))
  have hdrawops:∀ (js:List (List Nat)) (os:List Oper) (k:Nat),(∀ i dj o,js[i]? = some dj→os[i]? = some o→k+i<m→AP P l.toArray n o (D.getD (k+i) 0) (us.getD (k+i) .un) (dj.map (fun j=>(D.getD j 0,us.getD j .un))++(match rd.contains (k+i) with | true=>L | false=>L.filter fun p => !ws.contains p.1)) B∧∀ j∈dj,j<m)→k+js.length=m →
      DrawOpsW P l.toArray K Ob w0 n Lf [SF L L3 [] [] [] []] (fun _ _ w Bs=>BsRep w (Qy Ob Bs) B Bs) (D.map some) (us.map Gz) k js os:=by
    intro js
    induction js with
    | nil=>intro os k _ _; cases os <;> trivial
    |
     cons dj js ih =>
     intro os k hall hlen
     rcases os with _ | ⟨o,os⟩
     · trivial
     · refine ⟨?_,ih os (k+1) (fun i dj' o' hd ho hlt=>?_) (by simp at hlen ⊢; omega)⟩
       · intro p _ _ v Fx a' w' Bs hinv hs
         obtain ⟨hap,hjm⟩:=hall 0 dj o rfl rfl (by simp at hlen; omega)
         rw [Mr] at hap
         have hkm:k<m:=by simp at hlen; omega
         rw [Gq D v dj fun j hj=>by rw [hD]; exact hjm j hj] at hs
         have hfacts:∀ j∈dj,ARep w' (Qy Ob Bs) (v j) (us.getD j .un):=fun j hj=>by
           have:=hs.facts ((us.map Gz).getD j Uq (v j)) (Yz.2 (.inl (Wa.2 ⟨j,hj,rfl⟩)))
           rw [Ve,Sd,Xv (by rw [hU]; exact hjm j hj)] at this
           rw [Ve,Xv (by rw [hU]; exact hjm j hj)]
           exact this
         obtain ⟨h6,_,_⟩:(SF L L3 [] [] [] []).holds w' (Qy Ob Bs):=hs.facts _ (Yz.2 (.inr (by simp)))
         have h6':∀ t x,lk (match rd.contains k with | true=>L | false=>L.filter fun p => !ws.contains p.1) t=some x→∃ y,Z1 (Lf k) t=some y∧ARep w' (Qy Ob Bs) y x:=by
           intro t x hx
           simp only [Lf]
           split at hx
           · exact h6 t x hx
           · obtain ⟨hw,hx⟩:=Qjr hx
             obtain ⟨y,hy,hr⟩:=h6 t x hx
             exact ⟨y,by rw [Bp hw]; exact hy,hr⟩
         have hs2:=hs.add (f:=SF [] [] B Bs [] []) ⟨fun t x (hh:none=some x)=>(nomatch hh),hinv,trivial⟩
         have hw:=hap K Ob w0 w' a' Bs _ _ hs2 (Ug h6' hfacts) hinv
         refine K0 hs.defers (fun _ _ ⟨_,hh,_⟩=>hh.defers) hw fun a2 w2 hh=>?_
         obtain ⟨x,h8,h9⟩:=hh
         obtain ⟨_,h10,_⟩:=h8.fact 0 rfl
         refine wpList_nil ⟨rfl,x,Bs,h10,?_⟩
         have hdk:=Wi D k (by rw [hD]; exact hkm)
         have e5:(us.map Gz).getD k Uq=Gz (us[k]'(by rw [hU]; exact hkm)):=by
           rw [Ve,Sd,Xv (by rw [hU]; exact hkm)]; rfl
         rw [if_pos hdk.2,hdk.1,e5]
         rw [Ve (l:=us),Xv (by rw [hU]; exact hkm)] at h9
         have h8:St K Ob w0 w2 a2 n _ ((SF [] [] B Bs [] []::List.map (fun j=>(List.map Gz us).getD j Uq (v j)) dj)++([SF L L3 [] [] [] []]++Fx)) Bs:=h8
         exact h8.drawEnd (by simp [Z1]) h9
       · have:=hall (i+1) dj' o' (by simpa using hd) (by simpa using ho) (by omega)
         rw [show k+(i+1)=k+1+i from by omega] at this
         exact this
  have hap0:DrawOpsW P l.toArray K Ob w0 n Lf [SF L L3 [] [] [] []] (fun _ _ w Bs=>BsRep w (Qy Ob Bs) B Bs) (D.map some) (us.map Gz) 0 deps l:=by
    refine hdrawops deps l 0 (fun i dj o hd ho hlt=>⟨?_,hdl dj (Y6 hd)⟩) (by rw [Vy]; exact hc.deplen)
    exact hops.get i _ o (Wo hd) (by rw [Ei,if_pos (by omega)]; exact ho)
  refine Qqm hm m (D.map some) deps (us.map Gz) _ hchk hst2 (fun w' hw'=>hB.keep (Ac hw' _)) hLn hLf hap0 fun p _ v a' w' Bs hinv hs=>?_
  rw [Gq D v _ fun j hj=>by rw [hD]; exact Ru.1 hj] at hs
  have hfacts:∀ j∈List.range m,ARep w' (Qy Ob Bs) (v j) (us.getD j .un):=fun j hj=>by
    have hjm:=Ru.1 hj
    have:=hs.facts ((us.map Gz).getD j Uq (v j)) (Yz.2 (.inl (Wa.2 ⟨j,hj,rfl⟩)))
    rw [Ve,Sd,Xv (by rw [hU]; exact hjm)] at this
    rw [Ve,Xv (by rw [hU]; exact hjm)]
    exact this
  obtain ⟨h6,_,_⟩:(SF L L3 [] [] [] []).holds w' (Qy Ob Bs):=hs.facts _ (Yz.2 (.inr (by simp)))
  obtain ⟨_,rfl⟩:=P3 hz
  have hzip:D.zip us=(List.range m).map fun j=>(D.getD j 0,us.getD j .un):=by
    apply qYt
    · simp [hD,hU]
    · intro i h1 h2
      simp at h1 h2 ⊢
      have e1:D[i]? = some D[i]:=Xv (by omega)
      have e2:us[i]? = some us[i]:=Xv (by omega)
      simp [e1,e2]
  rw [hzip] at k
  exact k K Ob w0 w' a' _ ⟨_,Bs,hs.noFacts,Ug h6 hfacts,hinv⟩ fun a2 w2 h=>h
end Orr

namespace Orr
theorem Ta (f:Nat→Int):Ut 1 f=trim [f 0]:=rfl
theorem Ov (f:Nat→Int):Ut 2 f=trim [f 0,f 1]:=rfl
theorem Cg (x:Int):trim [x]=if x=0 then [] else [x]:=rfl
theorem Qce (x y:Int):trim [x,y]=if y=0 then trim [x] else [x,y]:=by
  simp only [trim]; split <;> split <;> simp_all
theorem bd1 {s:Nat} {x:Int} (h:Xh x≤s):Bd s [x]:=fun z hz=>by simp at hz; subst hz; exact h
theorem bd2 {s:Nat} {x y:Int} (h:Xh x≤s) (h':Xh y≤s):Bd s [x,y]:=fun z hz=>by
  simp only [Vb,Nx,or_false] at hz
  rcases hz with rfl | rfl <;> assumption
section
variable {x d:Int} (hd:0<d) (hg:Int.gcd x d=1) (hx:Xh x≤1000000) (hs:Xh d≤1000000)
theorem b1 {s:Nat} (h:1≤s):Bd s [1]:=bd1 (Xa (show Xh 1≤1 by decide) h)
include hd in
theorem C4 (hg:Int.gcd x d=1):Vv [x,d]=[x,d]:=by
  have hc:Fe [x,d]=1:=by
    have h1:Qf5 [x,d]=1:=by
      show Int.gcd (Int.gcd ((0:Nat):Int) x:Nat) d=1
      rw [show Int.gcd ((0:Nat):Int) x=x.natAbs by simp,show Int.gcd ((x.natAbs:Nat):Int) d=Int.gcd x d by simp [Int.gcd],hg]
    unfold Fe
    rw [if_neg (show ¬Q0 [x,d]<0 from by show ¬d<0; omega),h1]; rfl
  unfold Vv
  rw [hc]
  show Ut 2 _=_
  rw [Ov,Qce]
  show (if d / 1=0 then _ else [x / 1,d / 1])=_
  rw [Int.ediv_one,if_neg (by omega),Int.ediv_one]
theorem Qq2:Vv [1]=[1]:=by decide
include hd in
theorem O2:Vv [d]=[1]:=by
  have hc:Fe [d]=d:=by
    have h1:((Qf5 [d]:Nat):Int)=d:=by
      show ((Int.gcd ((0:Nat):Int) d:Nat):Int)=d
      simp; omega
    unfold Fe
    rw [if_neg (show ¬Q0 [d]<0 from by show ¬d<0; omega),h1]
  unfold Vv
  rw [hc]
  show Ut 1 _=_
  rw [Ta,Cg]
  show (if d / d=0 then _ else [d / d])=_
  rw [Int.ediv_self (by omega)]; rfl
include hd in
theorem Qfg:Uj [x,d]=[d]:=by
  show Ut 1 _=_
  rw [Ta,Cg]
  show (if d*1=0 then _ else [d*1])=_
  rw [Int.mul_one,if_neg (by omega)]
include hd hx hs in
theorem Qfx:∃ m,RRun [1] m [x,d] []:=by
  have h1:Qgi [x,d] [1]=trim [x]:=by
    show Ut 2 _=_
    rw [Ov,Qce]
    have e1:Uh [x,d] [1] 1=0:=by
      show d*1-(if 1≤1 then B7 [x,d] [1]*1 else 0)=0
      have:B7 [x,d] [1]=d:=by unfold B7; rw [if_neg (by decide)]; rfl
      rw [this]; simp
    have e0:Uh [x,d] [1] 0=x:=by
      show x*1-(if 1≤0 then _ else 0)=x
      simp
    rw [e1,if_pos rfl,e0]
  have hb:Bd 9000000 [x,d]:=bd2 (by omega) (by omega)
  by_cases h0:x=0
  · refine ⟨1,.step (by show 1≤2; decide) (by show 2≤1000; decide) hb (b1 (by decide)) ?_⟩
    rw [h1,h0]
    exact .stop (by decide)
  · refine ⟨2,.step (by show 1≤2; decide) (by show 2≤1000; decide) hb (b1 (by decide)) ?_⟩
    rw [h1,Cg,if_neg h0]
    refine .step (Ji 1) (by show 1≤1000; decide) (bd1 (by omega)) (b1 (by decide)) ?_
    have h2:Qgi [x] [1]=[]:=by
      show Ut 1 _=_
      rw [Ta,Cg]
      have e0:Uh [x] [1] 0=0:=by
        show x*1-(if 0≤0 then B7 [x] [1]*1 else 0)=0
        have:B7 [x] [1]=x:=by unfold B7; rw [if_neg (by decide)]; rfl
        rw [this]; simp
      rw [e0,if_pos rfl]
    rw [h2]
    exact .stop (by decide)
include hd hx hs in
theorem Qq6:∃ m,GRun m [x,d] [1] [1]:=by
  obtain ⟨m,h⟩:=Qfx hd hx hs
  exact ⟨1,.step (by decide) (by decide) (b1 (by decide)) h (by decide) Qiw rfl (by rw [show Vv []=[] by decide]; exact .stop _)⟩
theorem Qm3 (c:Int):Si [c] [c]=[]:=by
  show Ut 1 _=_
  rw [Ta,Cg]
  show (if c-c=0 then _ else _)=_
  rw [if_pos (by omega)]
include hd hx hs in
theorem Ql2:DOk [x,d] [1] [x,d]:=by
  refine ⟨by decide,by decide,by show 2≤1000; decide,b1 (by decide),[x,d],[],?_⟩
  have hpl:Q0 [x,d] / Q0 [1]=d:=by show d / 1=d; rw [Int.ediv_one]
  have hsc:Xx [1] d=[d]:=by
    show Ut 1 _=_
    rw [Ta,Cg]
    show (if 1*d=0 then _ else [1*d])=_
    rw [Int.one_mul,if_neg (by omega)]
  have hsub:Si [x,d] (G6 1 [d])=trim [x]:=by
    show Ut 2 _=_
    rw [Ov,Qce]
    show (if d-d=0 then trim [x-0] else _)=_
    rw [if_pos (by omega),Int.sub_zero]
  have hb:Bd 9000000 [x,d]:=bd2 (by omega) (by omega)
  have ht:trim [x,d]=[x,d]:=by rw [Qce,if_neg (by omega)]
  by_cases h0:x=0
  · refine ⟨1,hb,by show 2≤1000; decide,?_,ht.symm⟩
    refine .step (by show 1≤2; decide) (by show 2≤1000; decide) hb (by decide) (by show (1:Int)∣d; exact Int.one_dvd d) (by show 1<2; decide) ?_
    rw [hpl,hsc,show [x,d].length-[(1:Int)].length=1 from rfl,hsub,Cg,if_pos h0]
    show DRun [1] 0 [] [0,d] [x,d] []
    rw [h0]; exact .stop (by decide)
  · refine ⟨2,hb,by show 2≤1000; decide,?_,ht.symm⟩
    refine .step (by show 1≤2; decide) (by show 2≤1000; decide) hb (by decide) (by show (1:Int)∣d; exact Int.one_dvd d) (by show 1<2; decide) ?_
    rw [hpl,hsc,show [x,d].length-[(1:Int)].length=1 from rfl,hsub,Cg,if_neg h0]
    refine .step (by show 1≤1; decide) (by show 1≤1000; decide) (bd1 (by omega)) (by decide) (by show (1:Int)∣x; exact Int.one_dvd x) (by show 0<2; decide) ?_
    have hpl2:Q0 [x] / Q0 [1]=x:=by show x / 1=x; rw [Int.ediv_one]
    have hsc2:Xx [1] x=[x]:=by
      show Ut 1 _=_
      rw [Ta,Cg]
      show (if 1*x=0 then _ else [1*x])=_
      rw [Int.one_mul,if_neg h0]
    rw [hpl2,hsc2,show [x].length-[(1:Int)].length=0 from rfl,show G6 0 [x]=[x] from rfl,Qm3]
    exact .stop (by decide)
theorem Qtu:DOk [1] [1] [1]:=by
  refine ⟨by decide,by decide,by decide,b1 (by decide),[1],[],1,b1 (by decide),by decide,?_,by decide⟩
  refine .step (by decide) (by decide) (b1 (by decide)) (by decide) (by decide) (by decide) ?_
  exact .stop (by decide)
include hd hg hx hs in
theorem Qr6:FRun [x,d] 1 (fun _=>[x,d]):=by
  obtain ⟨m,hm⟩:=Qq6 (x:=x) hd hx hs
  refine ⟨⟨1,[[x,d],[1]],?_,rfl,?_⟩,by decide⟩
  · rw [C4 hd hg]
    refine .step (by show 1<2; decide) (by show 2≤1000; decide) (by show trim [x,d]=[x,d]; rw [Qce,if_neg (by omega)]) (by show Bd 9000000 [x,d]; exact bd2 (by omega) (by omega)) ?_ ?_ (by show 1≤1000; decide) (m:=m) (g:=[1]) ?_
    · show Bd 9000000 (Uj [x,d])
      rw [Qfg hd]; exact bd1 (by omega)
    · show GRun m (Vv [x,d]) (Vv (Uj [x,d])) [1]
      rw [C4 hd hg,Qfg hd,O2 hd]; exact hm
    · exact .stop (by show 1≤1; decide)
  · intro k hk
    have:k=0:=by omega
    subst this
    exact ⟨[x,d],[1],[x,d],Ql2 hd hx hs,Qtu,by rw [C4 hd hg,Qq2]; exact Ql2 hd hx hs,(C4 hd hg).symm⟩
theorem Qnn {p:List Int} (hp:Yu p) (h0:0<p.length):U2 [1] p=p:=by
  refine Sx (Qb9 _ _) hp fun k=>?_
  unfold U2
  rw [if_neg (by
   rintro (h | h); · cases h
   · omega),P7]
  show (Fz [1] p (List.replicate (1+p.length-1) 0) 1).getD k 0=_
  simp only [Fz]
  rw [Dn _ _ _ _ _ _ (by simp),Km]
  split
  · show 0+1*p.getD (k-0) 0=_
    rw [qYf]; omega
  · rename_i h
    rw [Ve,Eu (by omega)]; rfl
include hd hg hx hs in
theorem Qoc:ChRun [x,d] [x,d] [[x,d],[1]]:=by
  obtain ⟨m,hm⟩:=Qfx (x:=x) hd hx hs
  have ht:Yu [x,d]:=by show trim [x,d]=_; rw [Qce,if_neg (by omega)]
  refine ⟨⟨1,fun _=>[x,d],Qr6 hd hg hx hs,?_,?_⟩,⟨1,?_⟩,bd2 (by omega) (by omega),by show 2≤1000; decide,by show 2≤1000; decide⟩
  · intro i hi
    have:i=0:=by omega
    subst this
    exact ⟨b1 (by decide),by show 1≤1000; decide,bd2 (by omega) (by omega),by show 2≤1000; decide⟩
  · show [x,d]=U2 [1] [x,d]
    rw [Qnn ht (by show 0<2; decide)]
  · have hz:Gl (Uj [x,d])=[1]:=by
      rw [Qfg hd]
      unfold Gl
      rw [if_neg (show ¬Q0 [d]<0 from by show ¬d<0; omega),O2 hd]
    rw [hz]
    refine .step (by decide) (by decide) (b1 (by decide)) (m:=m) (r:=[]) hm rfl Qiw (by decide) (by show 0<1; decide) (by show 1≤1000; decide) ?_
    exact .stop (by decide)
end
theorem Qzc {q:Rat} (h:Qs 1000000 q):Qh4 q [[-q.num,(q.den:Int)],[1]]:=by
  refine ⟨[-q.num,(q.den:Int)],Qoc (Ql5 q) ?_ (by rw [Xk]; exact h.1) h.2⟩
  rw [Int.neg_gcd]
  have:=q.reduced
  unfold Nat.Coprime at this
  simpa [Int.gcd] using this
end Orr

namespace Orr
open Go Go.Proofs
theorem Qtc {n:Nat} {most:Int} {l:List RawPt}:∀ p∈Jw n most l,0≤p.id∧p.id<1000:=fun p hp=>by
 rcases N9 _ _ hp with h | h
 ·cases h
 ·obtain ⟨z,_,rfl⟩:=Wa.1 h
  exact ⟨qJc _ (by omega),qXs _ (by omega)⟩
theorem Qrn (O:List Pt) (e:Nat):(Dy O e).map rpt=(Po O e).map rnp:=by unfold Dy; rw [List.map_map]; rfl
abbrev Qe (n d:Int):Rat:=Q3 (n % 61-30) (1+d % 6)
theorem Qco (n d:Int):Qs 100 (Qe n d):=by
 have h1:=qJc n (b:=61) (by omega)
 have h2:=qXs n (b:=61) (by omega)
 have h3:=qJc d (b:=6) (by omega)
 have h4:=qXs d (b:=6) (by omega)
 unfold Qe Q3
 rw [if_neg (by omega)]
 exact Qs.divInt (Xa (G7.2 (show (n % 61-30).natAbs<2^10 by omega)) (by decide)) (Xa (G7.2 (show (1+d % 6).natAbs<2^10 by omega)) (by decide)) (by decide)
theorem Qa0 {n d:Int} (hn:-9223372036854775808≤n∧n≤9223372036854775807) (hd:-9223372036854775808≤d∧d≤9223372036854775807):Q8 Tryz.prog 76 [.one (.int .i64 n),.one (.int .i64 d)] (.agg [dl ((dig (((Qe n d)).num).natAbs)),sg (((Qe n d)).num),dl ((dig ((((Qe n d)).den:Int)).natAbs)),sg ((((Qe n d)).den:Int))]):=by
 refine X2 tt 0 [] Tryz.func76 Tryz.ntmps76 rfl rfl rfl ?_
 have h1:=qJc n (b:=61) (by omega)
 have h2:=qXs n (b:=61) (by omega)
 have h3:=qJc d (b:=6) (by omega)
 have h4:=qXs d (b:=6) (by omega)
 skip
 refine Qw tt rfl ?_
 refine Zn (Ql Sl rfl rfl fun g1=>ko ?_)
 refine Qr tt 1 rfl ?_
 refine kl tt 0 [] Tryz.func18 rfl rfl rfl (Us (hn) (by decide)) rfl rfl ?_
 refine Qf tt 1 [] (Xs (r:=(((n % 61))-30)) rfl rfl (Qm rfl (by omega)) rfl) rfl ?_
 refine kl tt 0 [] Tryz.func18 rfl rfl rfl (Us (hd) (by decide)) rfl rfl ?_
 refine Qf tt 0 [] (Q6 (r:=(1+((d % 6)))) rfl rfl (Qm rfl (by omega)) rfl) rfl ?_
 refine kl tt 1 [0] qGd rfl rfl rfl (P9 (n:=((((n % 61))-30))) (d:=((1+((d % 6))))) (by omega) (by omega)) rfl rfl ?_
 exact Xq tt [0] rfl (rfl)
set_option maxRecDepth 20000 in
theorem Iw {g:Nat} {M:List Pt} {w:List Ct} {q:Rat} {c:List (List Int)} (hq:Qs 1000000 q) (hC:Qh4 q c) (hw:w.length≤1000000) (h:Q8 Tryz.prog 147 [.one (Kq M),.agg [Zm ((zp [-(q).num,((q).den:Int)])),Kk c,dl ((dig ((q).num).natAbs)),sg ((q).num),dl ((dig (((q).den:Int)).natAbs)),sg (((q).den:Int)),dl ((dig ((q).num).natAbs)),sg ((q).num),dl ((dig (((q).den:Int)).natAbs)),sg (((q).den:Int))]] (.one (Fl w))):Wt Tryz.prog 101 [.one (.ow g 0)] [.blk g 93 [Kq M,dl ((dig ((q).num).natAbs)),sg ((q).num),dl ((dig (((q).den:Int)).natAbs)),sg (((q).den:Int)),.nils,.nils,.nils,.bool false,.nils,.bool false,.nils,.bool false,.nils,.bool false,.nils,.int .i64 0,.nils]] fun r B=>r=.tup []∧B=[.blk g 93 [Kq M,dl ((dig ((q).num).natAbs)),sg ((q).num),dl ((dig (((q).den:Int)).natAbs)),sg (((q).den:Int)),Zm ((zp [-(q).num,((q).den:Int)])),Kk c,dl ((dig ((q).num).natAbs)),sg ((q).num),dl ((dig (((q).den:Int)).natAbs)),sg (((q).den:Int)),dl ((dig ((q).num).natAbs)),sg ((q).num),dl ((dig (((q).den:Int)).natAbs)),sg (((q).den:Int)),Fl w,.int .i64 0,.nils]]:=by
 refine X2 tt 6 [0] Tryz.func101 Tryz.ntmps101 rfl rfl rfl ?_
 refine kl tt 8 [0,0] Tryz.func38 rfl rfl rfl (So hq hC) rfl rfl ?_
 refine Qx 17 Qp rfl rfl rfl ?_
 refine Xd tt 15 [0,0,0] rfl ?_
 refine Ye tt 0 [] Tryz.func17 rfl rfl rfl (O9 h) rfl rfl ?_
 refine Ye tt 4 [0] Tryz.func174 rfl rfl rfl (Qav (hw)) rfl rfl ?_
 refine L9 ?_
 exact ⟨_,[],_,Cw Tryz.results101 ,rfl,⟨rfl,rfl⟩⟩
set_option maxRecDepth 20000 in
theorem Bb {g:Nat} {M:List Pt} {ys:List LV} {id:Int} (hM:M.length≤1000000):Wt Tryz.prog 37 [.one (.ow g 0),.one (.int .i64 id)] [.blk g 93 ((Kq M)::ys)] fun r B=>r=.one (.int .i64 ((U8 M id)))∧B=[.blk g 93 ((Kq M)::ys)]:=by
 refine X2 tt 5 [0] Tryz.func37 Tryz.ntmps37 rfl rfl rfl ?_
 refine Qf tt 1 [] (Qj (m:=M.length) Vc rfl (Xu _) rfl) rfl ?_
 refine Qk [0,1,10,11] rfl rfl ?_
 refine Zj (fun m L B=>∃ i,i≤M.length∧U8 M id=U8 (M.drop i) id+(if U8 (M.drop i) id<0 then 0 else (i:Int))∧m=M.length-i∧L=[(0,.one (.ow g 0)),(1,.one (.int .i64 id)),(10,.one (.int .i64 (((M.length:Nat):Int)))),(11,.one (.int .i64 (((i:Nat):Int))))]∧B=[.blk g 93 ((Kq M)::ys)]) (m:=_) ⟨0,K7 _,by rw [qXf]; split <;> simp,rfl,rfl,rfl⟩ ?_
 rintro m L B ⟨i,hp0,hp1,hm,rfl,rfl⟩
 refine Qw tt rfl ?_
 by_cases hlt:i<M.length
 ·obtain ⟨x,hx⟩:∃ x,M[i]? = some x:=⟨_,Xv hlt⟩
  by_cases hid:x.id=id
  refine Qw tt rfl ?_
  ·skip
   refine Qr tt 1 rfl ?_
   refine Xf tt 7 [0] (decide_eq_true (by omega)) rfl rfl ?_
   refine Qf tt 4 [] (Qi (i) Vc Kn rfl rfl (rfl) (Qg hx) rfl rfl) rfl ?_
   refine Xf tt 2 [] (decide_eq_true hid) rfl rfl ?_
   refine Re ?_
   exact ⟨_,[],_,Qb0 Tryz.results37 (V6 rfl rfl),rfl,⟨by rw [hp1,Qnp hx hid]; rfl,rfl⟩⟩
  skip
  refine Qr tt 1 rfl ?_
  refine Xf tt 7 [0] (decide_eq_true (by omega)) rfl rfl ?_
  refine Qf tt 4 [] (Qi (i) Vc Kn rfl rfl (rfl) (Qg hx) rfl rfl) rfl ?_
  refine Xb tt 0 [] (decide_eq_false hid) rfl rfl ?_
  refine Qf tt 1 [] (Q6 (r:=((i+1:Nat):Int)) rfl rfl (Qm (by omega) (by omega)) rfl) rfl ?_
  refine Qk [0,1,10,11] rfl rfl ?_
  refine Q7 ?_
  refine ⟨_,?_,i+1,by omega,by rw [hp1]; exact Qkx hx hid,rfl,rfl,rfl⟩
  omega
 have hi:i=M.length:=by omega
 refine Qr tt 1 rfl ?_
 refine Xb tt 1 [] (decide_eq_false (by omega)) rfl rfl ?_
 refine Re ?_
 exact ⟨_,[],_,Qb0 Tryz.results37 (V6 rfl rfl),rfl,⟨by rw [hp1,hi,List.drop_length]; rfl,rfl⟩⟩
set_option maxRecDepth 20000 in
theorem Qaz {l:List RawPt} {n d:Int} {c:List (List Int)} (hl:∀ z∈l,z.Ok) (hln:l.length≤140737488355327) (hn:-9223372036854775808≤n∧n≤9223372036854775807) (hd:-9223372036854775808≤d∧d≤9223372036854775807) (hRC:Qh4 (Qe n d) c) (hCert:∀ e,e≤(Jw 4 20 l).length→Qat (Po (Jw 4 20 l) e)→∃ w:List Ct,w.length≤1000000∧Q8 Tryz.prog 147 [.one (Kq ((Xe Vt (Dy (Jw 4 20 l) e)))),.agg [Zm ((zp [-((Qe n d)).num,(((Qe n d)).den:Int)])),Kk c,dl ((dig (((Qe n d)).num).natAbs)),sg (((Qe n d)).num),dl ((dig ((((Qe n d)).den:Int)).natAbs)),sg ((((Qe n d)).den:Int)),dl ((dig (((Qe n d)).num).natAbs)),sg (((Qe n d)).num),dl ((dig ((((Qe n d)).den:Int)).natAbs)),sg ((((Qe n d)).den:Int))]] (.one (Fl w))):Wt Tryz.prog 34 [.one (I0 l),.one (.int .i64 n),.one (.int .i64 d)] [] fun R B=>∃ M g gp w,M.length≤4∧V0 M∧(∀ x∈M,Mv x.c∧Cs 10 3 x.c)∧w.length≤1000000∧R=.tup [.one (.ow g 0),.one (.ow gp 0),.one (.bool true)]∧B=[.blk g 108 [.bool true,pl ([-((Qe n d)).num,(((Qe n d)).den:Int)]),sg ((((Qe n d))).num),mg ((((Qe n d))).num),sg (((((Qe n d))).den:Int)),mg (((((Qe n d))).den:Int)),sg ((((Qe n d))).num),mg ((((Qe n d))).num),sg (((((Qe n d))).den:Int)),mg (((((Qe n d))).den:Int)),Ms ((Z9 (Yn ((Qe n d)) M))),.int .i64 0,Um M,Um ((Rw ((Qe n d)) M))],.blk gp 93 [Kq M,dl ((dig (((Qe n d)).num).natAbs)),sg (((Qe n d)).num),dl ((dig ((((Qe n d)).den:Int)).natAbs)),sg ((((Qe n d)).den:Int)),Zm ((zp [-((Qe n d)).num,(((Qe n d)).den:Int)])),Kk c,dl ((dig (((Qe n d)).num).natAbs)),sg (((Qe n d)).num),dl ((dig ((((Qe n d)).den:Int)).natAbs)),sg ((((Qe n d)).den:Int)),dl ((dig (((Qe n d)).num).natAbs)),sg (((Qe n d)).num),dl ((dig ((((Qe n d)).den:Int)).natAbs)),sg ((((Qe n d)).den:Int)),Fl w,.int .i64 0,.nils]]:=by
 refine X2 tt 0 [] Tryz.func34 Tryz.ntmps34 rfl rfl rfl ?_
 have hOl:=Qcz (n:=4) (most:=20) (by decide) (l:=l)
 have hOn:(Jw 4 20 l).length≤4:=Ss _ _ (K7 _)
 have hOid:∀ p∈(Jw 4 20 l),0≤p.id∧p.id<1000:=Qtc
 skip
 refine Qr tt 4 rfl ?_
 refine Zn (Vs (Bin:=[]) Tryz.func15 rfl rfl rfl rfl (Ef hl hln) rfl fun r_ B_ hr_=>ko ?_)
 obtain ⟨r1,r2,rfl,rfl⟩:=hr_
 refine Qr tt 6 rfl ?_
 refine kw (Qj (m:=(Jw 4 20 l).length) Wn rfl (rfl) rfl) ?_
 refine syp tt 1 [100000] [] rfl ?_
 refine Cu 1 (fun L B=>∃ e ls1 ls2,e≤(Jw 4 20 l).length∧Qat (Po (Jw 4 20 l) e)∧ls1.length=(Jw 4 20 l).length∧ls2.length=(Jw 4 20 l).length∧ls1.take e=(Po (Jw 4 20 l) e).map Ui∧ls2.take e=(Po (Jw 4 20 l) e).map rnp∧L=[(1,.one (.int .i64 n)),(2,.one (.int .i64 d)),(9,.one (.orow r1 5 0 e)),(10,.one (.orow r2 7 0 e))]∧B=[.row r1 76 5 ls1,.row r2 100 7 ls2]) ?_ rfl ?_
 ·skip
  refine Qw tt rfl ?_
  refine X5 (fun _ k_=>Jx (ls':=(Or (Jw 4 20 l) 0).map rnp) 1 rfl (by rw [Qhf]) (Qo k_)) rfl ?_
  refine X5 (fun _ k_=>Jx (ls':=(Or (Jw 4 20 l) 0).map Ui) 1 rfl (by rw [Qhf]) (Qo k_)) rfl ?_
  refine Qk [1,2,9,10,22,23] rfl rfl ?_
  refine Zj (fun m L B=>∃ i,i≤(Jw 4 20 l).length∧Qat (Po (Jw 4 20 l) i)∧m=(Jw 4 20 l).length-i∧L=[(1,.one (.int .i64 n)),(2,.one (.int .i64 d)),(9,.one (.orow r1 5 0 ((Jw 4 20 l).length))),(10,.one (.orow r2 7 0 ((Jw 4 20 l).length))),(22,.one (.int .i64 ((((Jw 4 20 l).length:Nat):Int)))),(23,.one (.int .i64 (((i:Nat):Int))))]∧B=[.row r1 76 5 ((Or (Jw 4 20 l) i).map Ui),.row r2 100 7 ((Or (Jw 4 20 l) i).map rnp)]) (m:=_) ⟨0,K7 _,List.Pairwise.nil,rfl,rfl,rfl⟩ ?_
  rintro m L B ⟨i,ha0,ha1,hm,rfl,rfl⟩
  refine Qw tt rfl ?_
  have hml:=Py (Jw 4 20 l) i
  by_cases hlt:i<(Jw 4 20 l).length
  ·obtain ⟨p,hp⟩:∃ p,(Jw 4 20 l)[i]? = some p:=⟨_,Xv hlt⟩
   have hpid:=hOid p (Y6 hp)
   have hm1:=Qta hp
   have hml2:=Py (Jw 4 20 l) (i+1)
   have hm5:=Qlo (Nat.lt_succ_self i) hp
   refine Qr tt 1 rfl ?_
   refine Xf tt 2 [] (decide_eq_true (by omega)) rfl rfl ?_
   refine kc (Qcj Qp 18 [26,27,28,29,30,31,32,33,34,35,36,37,38,39,40,41,42,43] [[],[],[],[],[],[],[4,5],[6],[7],[8],[],[],[10,11],[12],[13],[14],[0,1],[16],[0,1,4,5,6,7,8,9,14,15,17]] [.one (.orow r1 5 0 ((Jw 4 20 l).length)),.one (.int .i64 (((i:Nat):Int))),.one (.orow r2 7 0 ((Jw 4 20 l).length)),.one (.int .i64 (((i:Nat):Int))),.one (.orow r1 5 0 ((Jw 4 20 l).length)),.one (.int .i64 (((i:Nat):Int))),.one (.oel r1 5 ((0+i)) 0),.one (.oel r1 5 ((0+i)) 4),.one (.int .i64 p.id),.one (.int .i64 ((p.id % 5))),.one (.orow r1 5 0 ((Jw 4 20 l).length)),.one (.int .i64 (((i:Nat):Int))),.one (.oel r1 5 ((0+i)) 0),.one (.oel r1 5 ((0+i)) 4),.one (.int .i64 p.id),.one (.int .i64 ((p.id % 5))),.one (.oel r1 5 ((0+i)) 0),.one (.oel r1 5 ((0+i)) 4)] (fun B=>B=[.row r1 76 5 ((Or (Jw 4 20 l) (i+1)).map Ui),.row r2 100 7 ((Or (Jw 4 20 l) i).map rnp)]) rfl rfl rfl rfl ⟨Zd rfl rfl,Zd rfl rfl,Zd rfl rfl,Zd rfl rfl,Zd rfl rfl,Zd rfl rfl,Zr (i) Wn F4 rfl rfl (rfl) (by omega) rfl,Sv Bj rfl rfl,Yo 0 Lw Js rfl rfl (by rw [Vy]; exact Qg (Ak hp)) rfl rfl rfl,Zs Tryz.func18 rfl rfl rfl rfl (Us (by omega) (by decide)) rfl,Zd rfl rfl,Zd rfl rfl,Zr (i) Wn F4 rfl rfl (rfl) (by omega) rfl,Sv Bj rfl rfl,Yo 0 Lw Js rfl rfl (by rw [Vy]; exact Qg (Ak hp)) rfl rfl rfl,Zs Tryz.func18 rfl rfl rfl rfl (Us (by omega) (by decide)) rfl,Zr (i) Wn F4 rfl rfl (rfl) (by omega) rfl,Sv Bj rfl rfl,trivial⟩ ?_ ?_ ?_)
   ·intro js_ hj_
    have hj_:some [0,1,4,5,6,7,8,9,14,15,17]=some js_:=hj_
    injection hj_ with hj_
    subst hj_
    refine P5 fun N k_=>?_
    refine Ju (ls2:=(Or (Jw 4 20 l) (i+1)).map Ui) 0 Js rfl rfl rfl rfl rfl rfl (by rw [Vy]; exact Qg (Ak hp)) rfl (by rw [Vy,←hm1,List.map_set]; rfl) ?_
    exact Qo (k_ _ rfl)
   ·rintro B_ rfl
    exact ⟨trivial,trivial,Zd rfl rfl,Zd rfl rfl,trivial,trivial,trivial,trivial,trivial,trivial,Zd rfl rfl,Zd rfl rfl,Zr (i) Wn F4 rfl rfl (rfl) (by omega) rfl,Sv Bj rfl rfl,trivial,trivial,Zr (i) Wn F4 rfl rfl (rfl) (by omega) rfl,trivial,trivial⟩
   rintro B_ rfl
   refine ⟨_,rfl,kn ?_⟩
   refine Qw tt rfl ?_
   refine Qf tt 1 [] (Zr (i) Vc Kn rfl rfl (rfl) (by omega) rfl) rfl ?_
   refine Zn (Ju (ls2:=(Or (Jw 4 20 l) (i+1)).map rnp) 1 Js rfl rfl rfl rfl rfl rfl (by rw [Vy]; exact Qg (Ak hp)) rfl (by rw [Vy,←hm1,List.map_set]; rfl) (ko ?_))
   refine Qr tt 1 rfl ?_
   refine Qk [1,2,9,10,11,22,23,12] rfl rfl ?_
   refine Zx 0 rfl rfl ?_
   refine Zx 1 rfl rfl ?_
   refine Zj (fun m L B=>∃ k,k≤i∧(∀ j x,j<k→(Jw 4 20 l)[j]? = some x→x.m5.id≠p.m5.id)∧m=i-k∧L=[(1,.one (.int .i64 n)),(2,.one (.int .i64 d)),(9,.one (.orow r1 5 0 ((Jw 4 20 l).length))),(10,.one (.orow r2 7 0 ((Jw 4 20 l).length))),(11,.one (.int .i64 (((i:Nat):Int)))),(22,.one (.int .i64 ((((Jw 4 20 l).length:Nat):Int)))),(23,.one (.int .i64 (((i:Nat):Int)))),(12,.one (.int .i64 (((k:Nat):Int))))]∧B=[.row r1 76 5 ((Or (Jw 4 20 l) (i+1)).map Ui),.row r2 100 7 ((Or (Jw 4 20 l) (i+1)).map rnp)]) (m:=_) ⟨0,K7 _,fun j x hj=>absurd hj (qKa _),rfl,rfl,rfl⟩ ?_
   rintro m L B ⟨k,hq0,hq1,hm,rfl,rfl⟩
   refine Qw tt rfl ?_
   by_cases hk:k<i
   ·obtain ⟨x,hx⟩:∃ x,(Jw 4 20 l)[k]? = some x:=⟨_,Xv (by omega)⟩
    have hx5:=Qlo (i:=i+1) (by omega) hx
    by_cases hid:x.m5.id=p.m5.id
    refine Qw tt rfl ?_
    ·have hle:i≤(Jw 4 20 l).length:=ha0
     have hdf:=ha1
     have hin:=Qhk (O:=(Jw 4 20 l)) (Nat.le_succ i) (show i+1≤_ by omega)
     refine Qr tt 3 rfl ?_
     refine Xf tt 0 [] (decide_eq_true (by omega)) rfl rfl ?_
     refine Qx 10 Qp rfl rfl rfl ?_
     refine Qr tt 2 rfl ?_
     refine kd (Zr (k) Wn F4 rfl rfl (rfl) (by omega) rfl) rfl ?_
     refine Qr tt 1 rfl ?_
     refine kd (Yo 0 Lw Js rfl rfl (by rw [Vy]; exact Qg hx5) rfl rfl rfl) rfl ?_
     refine Qr tt 2 rfl ?_
     refine kd (Zr (i) Wn F4 rfl rfl (rfl) (by omega) rfl) rfl ?_
     refine Qr tt 1 rfl ?_
     refine kd (Yo 0 Lw Js rfl rfl (by rw [Vy]; exact Qg hm5) rfl rfl rfl) rfl ?_
     refine Qr tt 1 rfl ?_
     refine Xf tt 0 [] (decide_eq_true hid) rfl rfl ?_
     refine kc (Qqi Qp 7 [62,63,64,65,66,67,9] [[],[],[0,1],[],[],[3,4],[2]] [.one (.orow r1 5 0 ((Jw 4 20 l).length)),.one (.int .i64 (((i:Nat):Int))),.one (.orow r1 5 0 i),.one (.orow r2 7 0 ((Jw 4 20 l).length)),.one (.int .i64 (((i:Nat):Int))),.one (.orow r2 7 0 i),.one (.orow r1 5 0 i)] [0] [9] rfl rfl rfl rfl rfl ⟨Zd rfl rfl,Zd rfl rfl,Gc i Wn F4 rfl rfl rfl (by omega) rfl,Zd rfl rfl,Zd rfl rfl,Gc i Vc Kn rfl rfl rfl (by omega) rfl,Qgs rfl rfl,trivial⟩ rfl (kn ?_))
     refine Qr tt 3 rfl ?_
     refine Qf tt 1 [] (Qj (m:=i) Wn rfl (rfl) rfl) rfl ?_
     refine Xf tt 0 [] (decide_eq_true (by omega)) rfl rfl ?_
     refine Qk [1,2,9,10] rfl rfl ?_
     refine Q7 ?_
     exact ⟨i,_,_,hle,hdf,by rw [Zw,Py],by rw [Zw,Py],by rw [←qXu,hin]; rfl,by rw [←qXu,hin]; rfl,rfl,rfl⟩
    skip
    refine Qr tt 3 rfl ?_
    refine Xf tt 0 [] (decide_eq_true (by omega)) rfl rfl ?_
    refine Qx 10 Qp rfl rfl rfl ?_
    refine Qr tt 2 rfl ?_
    refine kd (Zr (k) Wn F4 rfl rfl (rfl) (by omega) rfl) rfl ?_
    refine Qr tt 1 rfl ?_
    refine kd (Yo 0 Lw Js rfl rfl (by rw [Vy]; exact Qg hx5) rfl rfl rfl) rfl ?_
    refine Qr tt 2 rfl ?_
    refine kd (Zr (i) Wn F4 rfl rfl (rfl) (by omega) rfl) rfl ?_
    refine Qr tt 1 rfl ?_
    refine kd (Yo 0 Lw Js rfl rfl (by rw [Vy]; exact Qg hm5) rfl rfl rfl) rfl ?_
    refine Qr tt 1 rfl ?_
    refine Xb tt 1 [] (decide_eq_false hid) rfl rfl ?_
    refine Qf tt 1 [] (Q6 (r:=((k+1:Nat):Int)) rfl rfl (Qm (by omega) (by omega)) rfl) rfl ?_
    refine Qk [1,2,9,10,11,22,23,12] rfl rfl ?_
    refine Q7 ?_
    refine ⟨_,?_,k+1,by omega,fun j y hj hy=>by
     rcases Mp j k with hjk | hjk
     ·exact hq1 j y hjk hy
     ·obtain rfl:j=k:=by omega
      rw [hx] at hy; injection hy with hy; subst hy; exact hid,rfl,rfl,rfl⟩
    omega
   have hki:k=i:=by omega
   rw [hki] at hq1
   refine Qr tt 3 rfl ?_
   refine Xb tt 2 [] (decide_eq_false (by omega)) rfl rfl ?_
   refine Qf tt 1 [] (Qj (m:=(Jw 4 20 l).length) Wn rfl (rfl) rfl) rfl ?_
   refine Xb tt 0 [] (decide_eq_false (by omega)) rfl rfl ?_
   refine Qf tt 1 [] (Q6 (r:=((i+1:Nat):Int)) rfl rfl (Qm (by omega) (by omega)) rfl) rfl ?_
   refine Qk [1,2,9,10,22,23] rfl rfl ?_
   refine Q7 ?_
   refine ⟨_,?_,i+1,by omega,Qnm hp ha1 hq1,rfl,rfl,rfl⟩
   omega
  have hi:i=(Jw 4 20 l).length:=by omega
  have hle:i≤(Jw 4 20 l).length:=ha0
  have hdf:=ha1
  have hin:=Qhk (O:=(Jw 4 20 l)) (Ji i) ha0
  refine Qr tt 1 rfl ?_
  refine Xb tt 0 [] (decide_eq_false (by omega)) rfl rfl ?_
  refine X5 (fun _ k_=>Jf 9 (y:=.one (.orow r1 5 0 i)) rfl (by rw [hi]) (Qo k_)) rfl ?_
  refine X5 (fun _ k_=>Jf 10 (y:=.one (.orow r2 7 0 i)) rfl (by rw [hi]) (Qo k_)) rfl ?_
  refine Qk [1,2,9,10] rfl rfl ?_
  refine Q7 ?_
  exact ⟨i,_,_,hle,hdf,by rw [Zw,Py],by rw [Zw,Py],by rw [←qXu,hin]; rfl,by rw [←qXu,hin]; rfl,rfl,rfl⟩
 rintro L B ⟨e,ls1,ls2,hc0,hc1,hc2,hc3,hc4,hc5,rfl,rfl⟩
 refine Qw tt rfl ?_
 obtain ⟨w,hw,hdo⟩:=hCert e hc0 hc1
 have hcl:=Qgb hc0
 have hnl:=Lj (Jw 4 20 l) e
 have hsl:=W6 (lt:=Vt) (Dy (Jw 4 20 l) e)
 have hqs:=Qco n d
 obtain ⟨hn0,hn1⟩:=Qns (qs:=(Dy (Jw 4 20 l) e)) (by omega) (Qc9 hc1)
 have hok:=Qlq hOl e
 skip
 refine Qr tt 1 rfl ?_
 refine X5 (fun _ k_=>Qe3 1 [73] rfl (Zg rfl) (by omega) (by omega) (by rw [qXf,hc5,←Qrn]) rfl (Qo k_)) rfl ?_
 refine Qw tt rfl ?_
 refine kl tt 2 [] Tryz.func89 rfl rfl rfl (Hd (l:=(Dy (Jw 4 20 l) e)) (by omega)) rfl rfl ?_
 refine kl tt 1 [] Tryz.func76 rfl rfl rfl (Qa0 hn hd) rfl rfl ?_
 refine Zn (Y0 rfl rfl rfl fun g1=>ko ?_)
 refine Qr tt 2 rfl ?_
 refine Zn (Vs (Bin:=[.blk g1 93 [Kq ((Xe Vt (Dy (Jw 4 20 l) e))),dl ((dig (((Qe n d)).num).natAbs)),sg (((Qe n d)).num),dl ((dig ((((Qe n d)).den:Int)).natAbs)),sg ((((Qe n d)).den:Int)),.nils,.nils,.nils,.bool false,.nils,.bool false,.nils,.bool false,.nils,.bool false,.nils,.int .i64 0,.nils]]) Tryz.func101 rfl rfl rfl rfl (Iw (hqs.mono (by decide)) hRC hw hdo) rfl fun r_ B_ hr_=>ko ?_)
 obtain ⟨rfl,rfl⟩:=hr_
 refine Xd tt 4 [0] rfl ?_
 refine kl tt 1 [] Tryz.func83 rfl rfl rfl (Qor (a:=(Qe n d)) (hqs.mono (by decide))) rfl rfl ?_
 refine X5 (fun _ k_=>Qe3 1 [88] rfl (Zg rfl) (by omega) (by omega) (by rw [qXf,hc4]) rfl (Qo k_)) rfl ?_
 refine Zn (Vs (Bin:=[]) Tryz.func46 rfl rfl rfl rfl (Qab (qs:=(Dy (Jw 4 20 l) e)) (Zc _) (Zc _) (by have:=hqs.1; omega) (by have:=hqs.2; omega) (by rw [E8]; exact hqs.mono (by decide)) (Qcn fun x hx=>(Qh9 hOl e x hx).mono (by decide) (by decide)) (fun x hx=>⟨(hok x hx).1,(hok x hx).2.mono (by decide) (by decide)⟩) (by omega) hn0) rfl fun r_ B_ hr_=>ko ?_)
 obtain ⟨gs,rfl,rfl⟩:=hr_
 simp only [E8,hn1]
 refine Qr tt 10 rfl ?_
 refine Qf tt 0 [] ((Qd rfl rfl (rfl) (Qv tt rfl rfl))) rfl ?_
 refine Qf tt 0 [] ((Qd rfl rfl (rfl) (Qv tt rfl rfl))) rfl ?_
 refine Qf tt 3 [] (Zp rfl (rfl) rfl rfl) rfl ?_
 refine Re ?_
 exact ⟨_,[],_,Qr4 Tryz.results34 (V6 rfl rfl) (V6 rfl rfl) (V6 rfl rfl),rfl,⟨_,gs,g1,w,by omega,Bt (Qc9 hc1),fun x hx=>hok x (Mh.1 hx),hw,rfl,rfl⟩⟩
end Orr

namespace Orr
open Go
def C0:List Int→Rat→Rat
  | [],_=>0
  | a::p,t=>(a:Rat)+t*C0 p t
theorem Qkn (p:List Int) (t:Rat):C0 p t=((p.getD 0 0:Int):Rat)+t*C0 p.tail t:=by
  cases p with
  | nil=>show (0:Rat)=((0:Int):Rat)+t*0; grind
  | cons a p=>rfl
theorem Hi (p:List Int) (k:Nat):p.tail.getD k 0=p.getD (k+1) 0:=by
  cases p <;> simp
theorem Qe0 (c d:Int) (t:Rat):∀ (n:Nat) (p q r:List Int),p.length≤n→q.length≤n→r.length≤n→(∀ k,r.getD k 0=c*p.getD k 0+d*q.getD k 0)→C0 r t=(c:Rat)*C0 p t+(d:Rat)*C0 q t
  |
   0,p,q,r,hp,hq,hr,_=>by
   rw [Md (qVf.1 hp),Md (qVf.1 hq),Md (qVf.1 hr)]
   show (0:Rat)=_*0+_*0
   grind
  |
   n+1,p,q,r,hp,hq,hr,h=>by
   have ih:=Qe0 c d t n p.tail q.tail r.tail (by rw [qYu]; omega) (by rw [qYu]; omega) (by rw [qYu]; omega) fun k=>by
     rw [Hi,Hi,Hi]; exact h (k+1)
   rw [Qkn p,Qkn q,Qkn r,ih,h 0]
   push_cast
   grind
theorem T8 {p:List Int} {k:Nat} (h:p.length≤k):p.getD k 0=0:=by
  rw [Ve,Eu h]; rfl
theorem Qn2 (p q:List Int) (k:Nat):(Si p q).getD k 0=p.getD k 0-q.getD k 0:=by
  unfold Si
  rw [Fc]
  split
  · rfl
  · rename_i h; rw [T8 (p:=p) (by omega),T8 (p:=q) (by omega)]; rfl
theorem Qhe (p:List Int) (c:Int) (k:Nat):(Xx p c).getD k 0=p.getD k 0*c:=by
  unfold Xx
  rw [Fc]
  split
  · rfl
  · rename_i h; rw [T8 (p:=p) (by omega),Int.zero_mul]
theorem Qc7 (p:List Int) (k:Nat):(Uj p).getD k 0=p.getD (k+1) 0*((k+1:Nat):Int):=by
  unfold Uj
  rw [Fc]
  split
  · rfl
  · rename_i h; rw [T8 (p:=p) (by omega),Int.zero_mul]
theorem Qqg (p q:List Int) (t:Rat):C0 (Si p q) t=C0 p t-C0 q t:=by
  have:=Qe0 1 (-1) t (max (max p.length q.length) (Si p q).length) p q (Si p q) (by omega) (by omega) (by omega) fun k=>by rw [Qn2]; omega
  rw [this]; push_cast; grind
theorem Og (p:List Int) (c:Int) (t:Rat):C0 (Xx p c) t=C0 p t*(c:Rat):=by
  have:=Qe0 c 0 t (max p.length (Xx p c).length) p p (Xx p c) (by omega) (by omega) (by omega) fun k=>by rw [Qhe,Int.mul_comm]; omega
  rw [this]; push_cast; grind
def Gw (x:Rat):Int:=if x<0 then -1 else if 0<x then 1 else 0
theorem Qha (z d:Int):(z:Rat) / (d:Rat)=Rat.divInt z d:=by
  by_cases h:d=0
  · subst h; simp; grind
  · rw [qVu]; exact (Rat.divInt_eq_div z d ▸ by rw [qVu])
theorem Qlv (a:List Int) (n d:Int) (hd:(d:Rat)≠0):∀ k,k≤a.length→(((K3 a n d k).2:Int):Rat)=(d:Rat)^k∧(((K3 a n d k).1:Int):Rat)*d=(d:Rat)^k*C0 (a.drop (a.length-k)) ((n:Rat) / d)
  |
   0,_=>by
   refine ⟨by rw [Rat.pow_zero]; rfl,?_⟩
   rw [qYf,List.drop_length]
   show ((0:Int):Rat)*d=(d:Rat)^0*0
   push_cast; grind
  |
   k+1,hk=>by
   obtain ⟨h1,h2⟩:=Qlv a n d hd k (by omega)
   have hi:a.length-1-k<a.length:=by omega
   have e1:a.drop (a.length-(k+1))=a.getD (a.length-1-k) 0::a.drop (a.length-k):=by
     rw [show a.length-(k+1)=a.length-1-k by omega,qZt hi,show a.length-1-k+1=a.length-k by omega]
     congr 1
     rw [Ve,Xv hi]; rfl
   refine ⟨?_,?_⟩
   · show (((K3 a n d k).2*d:Int):Rat)=_
     rw [qJs,h1,Rat.pow_succ]
   · rw [e1]
     show (((K3 a n d k).1*n+a.getD (a.length-1-k) 0*(K3 a n d k).2:Int):Rat)*d=_*(((a.getD (a.length-1-k) 0:Int):Rat)+(n:Rat) / d*C0 (a.drop (a.length-k)) ((n:Rat) / d))
     rw [Rat.intCast_add,qJs,qJs,h1,Rat.pow_succ]
     have h3:(n:Rat) / d*d=n:=by rw [qKf hd]
     have h4:(d:Rat)^k*d*((n:Rat) / d*C0 (a.drop (a.length-k)) ((n:Rat) / d))=((n:Rat) / d*d)*((d:Rat)^k*C0 (a.drop (a.length-k)) ((n:Rat) / d)):=by grind
     have h5:(d:Rat)^k*d*(((a.getD (a.length-1-k) 0:Int):Rat)+(n:Rat) / d*C0 (a.drop (a.length-k)) ((n:Rat) / d))=(d:Rat)^k*d*((a.getD (a.length-1-k) 0:Int):Rat)+(d:Rat)^k*d*((n:Rat) / d*C0 (a.drop (a.length-k)) ((n:Rat) / d)):=by grind
     rw [h5,h4,h3,←h2]
     grind
theorem Qln {d:Rat} (h:0<d):∀ k:Nat,0<d^k
  | 0=>by rw [Rat.pow_zero]; decide
  | k+1=>by rw [Rat.pow_succ]; exact qVg (Qln h k) h
theorem Fp {x y:Rat} (h:0<y):Gw (y*x)=Gw x:=by
  unfold Gw
  have h1:y*x<0↔x<0:=by
    constructor
    · intro h2
      rcases Rat.le_total (a:=0) (b:=x) with h3 | h3
      · have:=Rat.mul_nonneg (qKg h) h3; grind
      · rcases Rat.le_iff_lt_or_eq.1 h3 with h4 | h4
        · exact h4
        · rw [h4] at h2; grind
    · intro h2
      have:=qVg h (show 0< -x by grind)
      grind
  have h2:0<y*x↔0<x:=by
    constructor
    · intro h2
      rcases Rat.le_total (a:=x) (b:=0) with h3 | h3
      · have:=Rat.mul_nonneg (qKg h) (show 0≤-x by grind); grind
      · rcases Rat.le_iff_lt_or_eq.1 h3 with h4 | h4
        · exact h4
        · rw [←h4] at h2; grind
    · intro h2; exact qVg h h2
  simp only [h1,h2]
theorem Qp3 (z:Int):Ng z 0=Gw (z:Rat):=by
  unfold Ng Gw
  have h1:((z:Int):Rat)<0↔z<0:=by
    have := @Rat.intCast_lt_intCast z 0; simpa using this
  have h2:0<((z:Int):Rat)↔0<z:=by
    have := @Rat.intCast_lt_intCast 0 z; simpa using this
  simp only [h1,h2]
theorem Qr5 (p:List Int) (q:Rat):F3 p q=Gw (C0 p q):=by
  have hd0:(0:Rat)<((q.den:Int):Rat):=by
    have := @Rat.intCast_lt_intCast 0 (q.den:Int)
    rw [show ((0:Int):Rat)=0 from rfl] at this
    exact this.2 (Ql5 q)
  have hd:((q.den:Int):Rat)≠0:=by intro h; rw [h] at hd0; exact absurd hd0 (by decide)
  obtain ⟨_,h⟩:=Qlv p q.num q.den hd p.length (Ji _)
  rw [qYa,qXf,Qha,qXw] at h
  unfold F3
  rw [Qp3,←Fp hd0,Rat.mul_comm]
  show Gw ((((K3 p q.num q.den p.length).1:Int):Rat)*_)=_
  rw [h,Fp (Qln hd0 _)]
def H6 (q:Rat):List Int→Nat→Rat
  | [],_=>0
  | a::p,0=>(a:Rat)+q*H6 q p 0
  | _::p,k+1=>q*H6 q p (k+1)+H6 q p k
theorem Qge (q:Rat):∀ p,H6 q p 0=C0 p q
  | []=>rfl
  | a::p=>by show (a:Rat)+q*H6 q p 0=(a:Rat)+q*C0 p q; rw [Qge q p]
theorem Qfa (q:Rat) (p:List Int):H6 q p 0=((p.getD 0 0:Int):Rat)+q*H6 q p.tail 0:=by
  cases p with
  | nil=>show (0:Rat)=((0:Int):Rat)+q*0; grind
  | cons a p=>rfl
theorem Qd9 (q:Rat) (p:List Int) (k:Nat):H6 q p (k+1)=q*H6 q p.tail (k+1)+H6 q p.tail k:=by
  cases p with
  | nil=>show (0:Rat)=q*0+0; grind
  | cons a p=>rfl
theorem Qk5 (q:Rat) (c d:Int):∀ (n:Nat) (x y r:List Int),x.length≤n→y.length≤n→r.length≤n→(∀ k,r.getD k 0=c*x.getD k 0+d*y.getD k 0)→∀ k,H6 q r k=(c:Rat)*H6 q x k+(d:Rat)*H6 q y k
  |
   0,p,s,r,hp,hq,hr,_,k=>by
   rw [Md (qVf.1 hp),Md (qVf.1 hq),Md (qVf.1 hr)]
   show (0:Rat)=_*0+_*0
   grind
  |
   n+1,p,s,r,hp,hq,hr,h,k=>by
   have ih:=Qk5 q c d n p.tail s.tail r.tail (by rw [qYu]; omega) (by rw [qYu]; omega) (by rw [qYu]; omega) fun k=>by
     rw [Hi,Hi,Hi]; exact h (k+1)
   cases k with
   |
    zero =>
    rw [Qfa q p,Qfa q s,Qfa q r,ih 0,h 0]
    push_cast
    grind
   |
    succ k =>
    rw [Qd9 q p,Qd9 q s,Qd9 q r,ih (k+1),ih k]
    grind
theorem E6 (q:Rat):∀ (p:List Int) (k:Nat),p.length≤k→H6 q p k=0
  | [],_,_=>rfl
  | a::p,0,h=>by simp at h
  |
   a::p,k+1,h=>by
   show q*H6 q p (k+1)+H6 q p k=0
   have h:p.length≤k:=by simpa using h
   rw [E6 q p (k+1) (by omega),E6 q p k h]; grind
theorem Ql1 (q:Rat):∀ (n:Nat) (p:List Int),p.length≤n→∀ k,H6 q (Uj p) k=((k+1:Nat):Rat)*H6 q p (k+1)
  |
   0,p,hp,k=>by
   rw [Md (qVf.1 hp)]
   show (0:Rat)=_*0; grind
  | n+1,[],hp,k=>by show (0:Rat)=_*0; grind
  |
   n+1,a::p,hp,k=>by
   have hp:p.length≤n:=by simpa using hp
   have ih:=Ql1 q n p hp
   have h1:=Qk5 q 1 1 (max (max p.length (0::Uj p).length) (Uj (a::p)).length) p (0::Uj p) (Uj (a::p)) (by omega) (by omega) (by omega) fun k=>by
     rw [Qc7]
     cases k with
     | zero=>show p.getD 0 0*_=1*p.getD 0 0+1*0; push_cast; omega
     |
      succ k =>
      show p.getD (k+1) 0*_=1*p.getD (k+1) 0+1*(Uj p).getD k 0
      rw [Qc7]
      push_cast
      grind
   rw [h1 k]
   cases k with
   |
    zero =>
    show ((1:Int):Rat)*H6 q p 0+((1:Int):Rat)*(((0:Int):Rat)+q*H6 q (Uj p) 0)=_*(q*H6 q p 1+H6 q p 0)
    rw [ih 0]
    push_cast
    grind
   |
    succ k =>
    show ((1:Int):Rat)*H6 q p (k+1)+((1:Int):Rat)*(q*H6 q (Uj p) (k+1)+H6 q (Uj p) k)=_*(q*H6 q p (k+2)+H6 q p (k+1))
    rw [ih (k+1),ih k]
    push_cast
    grind
def Ge:(Nat→Rat)→Nat→Rat→Rat
  | _,0,_=>0
  | f,n+1,h=>f 0+h*Ge (fun k=>f (k+1)) n h
theorem Qhs (c d:Rat) (h:Rat):∀ (n:Nat) (f g:Nat→Rat),Ge (fun k=>c*f k+d*g k) n h=c*Ge f n h+d*Ge g n h
  | 0,f,g=>by show (0:Rat)=c*0+d*0; grind
  |
   n+1,f,g=>by
   have ih:=Qhs c d h n (fun k=>f (k+1)) (fun k=>g (k+1))
   show c*f 0+d*g 0+h*Ge (fun k=>c*f (k+1)+d*g (k+1)) n h=c*(f 0+h*Ge (fun k=>f (k+1)) n h)+d*(g 0+h*Ge (fun k=>g (k+1)) n h)
   rw [ih]; grind
theorem Qf4 (h:Rat):∀ (n:Nat) (f:Nat→Rat),f n=0→Ge f (n+1) h=Ge f n h
  | 0,f,h0=>by show f 0+h*0=0; rw [h0]; grind
  |
   n+1,f,h0=>by
   have ih:=Qf4 h n (fun k=>f (k+1)) h0
   show f 0+h*Ge (fun k=>f (k+1)) (n+1) h=f 0+h*Ge (fun k=>f (k+1)) n h
   rw [ih]
theorem Qe2 (q h:Rat):∀ p,C0 p (q+h)=Ge (H6 q p) p.length h
  | []=>rfl
  |
   a::p=>by
   have ih:=Qe2 q h p
   have ht:=Qf4 h p.length (H6 q p) (E6 q p _ (Ji _))
   have hl:=Qhs q 1 h p.length (fun k=>H6 q p (k+1)) (H6 q p)
   show (a:Rat)+(q+h)*C0 p (q+h)=((a:Rat)+q*H6 q p 0)+h*Ge (fun k=>q*H6 q p (k+1)+H6 q p k) p.length h
   have e:(fun k=>q*H6 q p (k+1)+H6 q p k)=fun k=>q*H6 q p (k+1)+1*H6 q p k:=by funext k; grind
   have ht:H6 q p 0+h*Ge (fun k=>H6 q p (k+1)) p.length h=Ge (H6 q p) p.length h:=ht
   rw [e,hl,ih]
   grind
def Oi (f:Nat→Rat):Nat→Rat
  | 0=>0
  | n+1=>Oi f n+(if f n<0 then -f n else f n)
theorem Ix (f:Nat→Rat):∀ n,Oi f (n+1)=(if f 0<0 then -f 0 else f 0)+Oi (fun k=>f (k+1)) n
  | 0=>by show (0:Rat)+_=_+0; grind
  |
   n+1=>by
   have ih:=Ix f n
   show Oi f (n+1)+_=_+(Oi (fun k=>f (k+1)) n+_)
   rw [ih]; grind
theorem Oz {h:Rat} (h0:0≤h) (h1:h≤1):∀ (n:Nat) (f:Nat→Rat),-Oi f n≤Ge f n h∧Ge f n h≤Oi f n
  | 0,f=>by show -(0:Rat)≤0∧(0:Rat)≤0; constructor <;> grind
  |
   n+1,f=>by
   obtain ⟨a1,a2⟩:=Oz h0 h1 n (fun k=>f (k+1))
   rw [Ix]
   show -(_+Oi (fun k=>f (k+1)) n)≤f 0+h*Ge (fun k=>f (k+1)) n h∧f 0+h*Ge (fun k=>f (k+1)) n h≤_
   have hS:=Ge (fun k=>f (k+1)) n h
   generalize Ge (fun k=>f (k+1)) n h=S at a1 a2 ⊢
   generalize Oi (fun k=>f (k+1)) n=A at a1 a2 ⊢
   have hA:0≤A:=by grind
   have m1:h*S≤A:=by
     rcases Rat.le_total (a:=0) (b:=S) with hs | hs
     · have:=Rat.mul_le_mul_of_nonneg_right h1 hs; grind
     · have:=Rat.mul_nonneg h0 (show 0≤-S by grind); grind
   have m2:-A≤h*S:=by
     rcases Rat.le_total (a:=0) (b:=S) with hs | hs
     · have:=Rat.mul_nonneg h0 hs; grind
     · have:=Rat.mul_le_mul_of_nonneg_right h1 (show 0≤-S by grind); grind
   constructor <;> split <;> grind
theorem Qn7 {c x h:Rat} {A:Rat} (hA:0≤A) (h0:0<h) (hx1:-A≤x) (hx2:x≤A) (hc:h*(A+1)<(if c<0 then -c else c)):Gw (c+h*x)=Gw c:=by
  have m1:h*x≤h*A:=Rat.mul_le_mul_of_nonneg_left hx2 (qKg h0)
  have m2:h*(-A)≤h*x:=Rat.mul_le_mul_of_nonneg_left hx1 (qKg h0)
  unfold Gw
  by_cases c0:c<0
  · rw [if_pos c0] at hc
    rw [if_pos c0,if_pos (by grind)]
  · rw [if_neg c0] at hc
    have:0<h*(A+1):=qVg h0 (by grind)
    have p2:0<c+h*x:=by grind
    have p1:¬c+h*x<0:=by grind
    have p3:0<c:=by grind
    rw [if_neg p1,if_pos p2,if_neg c0,if_pos p3]
theorem Qmi:∀ (n:Nat) (f:Nat→Rat),(∀ k,n≤k→f k=0)→((∀ k,f k=0)∨∃ k,(∀ j,j<k→f j=0)∧f k≠0∧∃ d:Rat,0<d∧∀ h,0<h→h<d→Gw (Ge f n h)=Gw (f k))
  | 0,f,hz=>.inl fun k=>hz k (K7 _)
  |
   n+1,f,hz=>by
   by_cases h0:f 0=0
   · rcases Qmi n (fun k=>f (k+1)) (fun k hk=>hz (k+1) (by omega)) with hall | ⟨k,h1,h2,d,hd,h3⟩
     · refine .inl fun k=>?_
       cases k with
       | zero=>exact h0
       | succ k=>exact hall k
     · refine .inr ⟨k+1,fun j hj=>?_,h2,d,hd,fun h hh hl=>?_⟩
       · cases j with
         | zero=>exact h0
         | succ j=>exact h1 j (by omega)
       · show Gw (f 0+h*Ge (fun k=>f (k+1)) n h)=_
         rw [h0,show (0:Rat)+h*Ge (fun k=>f (k+1)) n h=h*Ge (fun k=>f (k+1)) n h by grind,Fp hh]
         exact h3 h hh hl
   · have hc:0<(if f 0<0 then -f 0 else f 0):=by
       split
       · grind
       · grind
     have hA:0≤Oi (fun k=>f (k+1)) n:=by
       obtain ⟨a1,a2⟩:=Oz (h:=0) (by decide) (by decide) n (fun k=>f (k+1)); grind
     generalize hcc:(if f 0<0 then -f 0 else f 0)=c at hc
     generalize hAA:Oi (fun k=>f (k+1)) n=A at hA
     have hA1:(0:Rat)<A+1:=by grind
     have hdp:0<c / (A+1):=by rw [qVu]; exact qVg hc (Rat.inv_pos.2 hA1)
     refine .inr ⟨0,fun j hj=>absurd hj (qKa _),h0,if c / (A+1)<1 then c / (A+1) else 1,by split <;> grind,fun h hh hl=>?_⟩
     have hl1:h<1:=by split at hl <;> grind
     have hl2:h<c / (A+1):=by split at hl <;> grind
     obtain ⟨a1,a2⟩:=Oz (qKg hh) (qKg hl1) n (fun k=>f (k+1))
     rw [hAA] at a1 a2
     refine Qn7 hA hh a1 a2 ?_
     rw [hcc]
     have:=Rat.mul_lt_mul_of_pos_right hl2 hA1
     rwa [qKf (by grind)] at this
theorem C9 {x:Rat}:Gw x=0↔x=0:=by
  unfold Gw
  constructor
  · intro h
    split at h
    · cases h
    · split at h
      · cases h
      · grind
  · intro h; subst h; rfl
theorem Qgt (q:Rat):∀ (n:Nat) (p:List Int),p.length≤n→((∀ k,H6 q p k=0)∧Ki (fun p=>F3 p q) n p=0)∨∃ k,(∀ j,j<k→H6 q p j=0)∧H6 q p k≠0∧Ki (fun p=>F3 p q) n p=Gw (H6 q p k)
  |
   0,p,hp=>by
   rw [Md (qVf.1 hp)]
   exact .inl ⟨fun _=>rfl,rfl⟩
  |
   n+1,p,hp=>by
   simp only [Ki]
   by_cases hl:p.length=0
   · rw [if_pos hl,Md hl]
     exact .inl ⟨fun _=>rfl,rfl⟩
   · rw [if_neg hl,Qr5,←Qge]
     by_cases h0:Gw (H6 q p 0)=0
     · rw [if_pos h0]
       have h0:=C9.1 h0
       have hder:=Ql1 q p.length p (Ji _)
       have hpos:∀ k:Nat,(0:Rat)<((k+1:Nat):Rat):=fun k=>by
         have := @Rat.natCast_lt_natCast 0 (k+1)
         rw [show ((0:Nat):Rat)=0 from rfl] at this
         exact this.2 (Nat.succ_pos k)
       rcases Qgt q n (Uj p) (by have:=Up p; omega) with ⟨h1,h2⟩ | ⟨k,h1,h2,h3⟩
       · refine .inl ⟨fun k=>?_,h2⟩
         cases k with
         | zero=>exact h0
         |
          succ k =>
          have h4:=h1 k
          rw [hder k] at h4
          have:=hpos k
          rcases Rat.mul_eq_zero.1 h4 with h5 | h5
          · rw [h5] at this; exact absurd this (by decide)
          · exact h5
       · refine .inr ⟨k+1,fun j hj=>?_,fun h4=>h2 (by rw [hder k,h4]; grind),by rw [h3,hder k,Fp (hpos k)]⟩
         cases j with
         | zero=>exact h0
         |
          succ j =>
          have h4:=h1 j (by omega)
          rw [hder j] at h4
          have:=hpos j
          rcases Rat.mul_eq_zero.1 h4 with h5 | h5
          · rw [h5] at this; exact absurd this (by decide)
          · exact h5
     · rw [if_neg h0]
       exact .inr ⟨0,fun j hj=>absurd hj (qKa _),fun h=>h0 (C9.2 h),rfl⟩
theorem Qu3 (p:List Int) (q:Rat):∃ d:Rat,0<d∧∀ h,0<h→h<d→Gw (C0 p (q+h))=Kx p q:=by
  rcases Qgt q p.length p (Ji _) with ⟨h1,h2⟩ | ⟨k,h1,h2,h3⟩
  · refine ⟨1,by decide,fun h _ _=>?_⟩
    rw [Qe2]
    have:∀ (n:Nat) (f:Nat→Rat),(∀ k,f k=0)→Ge f n h=0:=by
      intro n
      induction n with
      | zero=>intro f _; rfl
      | succ n ih=>intro f hf; show f 0+h*Ge (fun k=>f (k+1)) n h=0; rw [ih _ (fun k=>hf (k+1)),hf 0]; grind
    rw [this _ _ h1]
    show 0=Ki _ _ _
    rw [h2]
  · rcases Qmi p.length (H6 q p) (E6 q p) with hall | ⟨k',h1',h2',d,hd,h4⟩
    · exact absurd (hall k) h2
    · have:k'=k:=by
        rcases Nat.lt_trichotomy k k' with h | h | h
        · exact absurd (h1' k h) h2
        · exact h.symm
        · exact absurd (h1 k' h) h2'
      subst this
      refine ⟨d,hd,fun h hh hl=>?_⟩
      rw [Qe2,h4 h hh hl]
      exact h3.symm
end Orr

namespace Orr
open Go
theorem Qh0 (q:Rat):∀ ps:List (List Int),∃ d:Rat,0<d∧∀ h,0<h→h<d→∀ p∈ps,Gw (C0 p (q+h))=Kx p q
  | []=>⟨1,by decide,fun _ _ _ p hp=>absurd hp (by simp)⟩
  |
   p::ps=>by
   obtain ⟨d1,h1,h2⟩:=Qu3 p q
   obtain ⟨d2,h3,h4⟩:=Qh0 q ps
   refine ⟨if d1<d2 then d1 else d2,by split <;> assumption,fun h hh hl x hx=>?_⟩
   rcases Vb.1 hx with rfl | hx
   · exact h2 h hh (by split at hl <;> grind)
   · exact h4 h hh (by split at hl <;> grind) x hx
theorem Qqk (q:Rat) (ps:List (List Int)):∃ t:Rat,∀ p∈ps,Gw (C0 p t)=Kx p q:=by
  obtain ⟨d,h1,h2⟩:=Qh0 q ps
  refine ⟨q+d / 2,h2 (d / 2) ?_ ?_⟩
  · rw [qVu]; exact qVg h1 (Rat.inv_pos.2 (by decide))
  · have:d / 2+d / 2=d:=by grind
    have:0<d / 2:=by rw [qVu]; exact qVg h1 (Rat.inv_pos.2 (by decide))
    grind
def Np (t:Rat) (r:Pt×Pt):Rat:=C0 (Va r.1.c r.2.c) t / (((r.1.c.d*r.2.c.d)*(r.1.c.d*r.2.c.d):Int):Rat)
def Qc0 (q:Rat) (s m:Pt×Pt):Int:=Kx (Xj s.1.c s.2.c m.1.c m.2.c) q
theorem Lo {z:Int} (h:0<z):(0:Rat)<(z:Rat):=by
  have := @Rat.intCast_lt_intCast 0 z
  rw [show ((0:Int):Rat)=0 from rfl] at this
  exact this.2 h
theorem Qtb (t:Rat) (s m:Pt×Pt) (h1:0<s.1.c.d) (h2:0<s.2.c.d) (h3:0<m.1.c.d) (h4:0<m.2.c.d):Gw (C0 (Xj s.1.c s.2.c m.1.c m.2.c) t)=Gw (Np t m-Np t s):=by
  unfold Xj Np
  rw [Qqg,Og,Og]
  have hu:=Lo (Int.mul_pos (Int.mul_pos h1 h2) (Int.mul_pos h1 h2))
  have hv:=Lo (Int.mul_pos (Int.mul_pos h3 h4) (Int.mul_pos h3 h4))
  generalize (((s.1.c.d*s.2.c.d)*(s.1.c.d*s.2.c.d):Int):Rat)=u at hu ⊢
  generalize (((m.1.c.d*m.2.c.d)*(m.1.c.d*m.2.c.d):Int):Rat)=v at hv ⊢
  generalize C0 (Va m.1.c m.2.c) t=X
  generalize C0 (Va s.1.c s.2.c) t=Y
  rw [←Fp (x:=X / v-Y / u) (qVg hu hv)]
  congr 1
  have e1:X / v*v=X:=qKf (by grind)
  have e2:Y / u*u=Y:=qKf (by grind)
  generalize X / v=A at e1 ⊢
  generalize Y / u=C at e2 ⊢
  subst e1 e2
  grind
theorem Oa {x:Rat}:Gw x<0↔x<0:=by
  unfold Gw
  split
  · rename_i h; simp [h]
  · rename_i h; split <;> simp [h]
def Lex (p r:Pt×Pt):Prop:=p.1.id<r.1.id∨p.1.id=r.1.id∧p.2.id≤r.2.id
theorem Lex.rfl' (p:Pt×Pt):Lex p p:=.inr ⟨rfl,Int.le_refl _⟩
theorem Lex.trans {p r s:Pt×Pt} (h1:Lex p r) (h2:Lex r s):Lex p s:=by
  unfold Lex at *; omega
theorem Rp (q t:Rat):∀ (ps:List (Pt×Pt)) (s:Pt×Pt),(s::ps).Pairwise Lex→(∀ x∈s::ps,∀ y∈s::ps,Qc0 q x y=Gw (Np t y-Np t x)) →
    Z3 q s ps∈s::ps∧∀ m∈s::ps,Np t (Z3 q s ps)≤Np t m∧(Np t (Z3 q s ps)=Np t m→Lex (Z3 q s ps) m)
  | [],s,_,_=>⟨Ub ..,fun m hm=>by rw [qZw.1 hm]; exact ⟨Rat.le_refl,fun _=>Lex.rfl' s⟩⟩
  |
   m::ps,s,hp,hg=>by
   rw [Tk]
   have hp1:=qXc.1 hp
   have hp2:=qXc.1 hp1.2
   have hγ:=hg s (Ub ..) m (W0 _ (Ub ..))
   by_cases hn:Kx (Xj s.1.c s.2.c m.1.c m.2.c) q<0
   · have hlt:Np t m<Np t s:=by
       have:Qc0 q s m<0:=hn
       rw [hγ,Oa] at this; grind
     rw [show Vi q s m=m from if_pos hn]
     obtain ⟨h1,h2⟩:=Rp q t ps m hp1.2 fun x hx y hy=>hg x (W0 _ hx) y (W0 _ hy)
     refine ⟨W0 _ h1,fun y hy=>?_⟩
     rcases Vb.1 hy with rfl | hy
     · have:=(h2 m (Ub ..)).1
       exact ⟨by grind,fun h=>by grind⟩
     · exact h2 y hy
   · have hle:Np t s≤Np t m:=by
       have:¬Qc0 q s m<0:=hn
       rw [hγ,Oa] at this; grind
     rw [show Vi q s m=s from if_neg hn]
     obtain ⟨h1,h2⟩:=Rp q t ps s (qXc.2 ⟨fun x hx=>hp1.1 x (W0 _ hx),hp2.2⟩) fun x hx y hy =>
       hg x (by rcases Vb.1 hx with rfl | hx; exact Ub ..; exact W0 _ (W0 _ hx)) y (by rcases Vb.1 hy with rfl | hy; exact Ub ..; exact W0 _ (W0 _ hy))
     refine ⟨by rcases Vb.1 h1 with h | h; rw [h]; exact Ub ..; exact W0 _ (W0 _ h),fun y hy=>?_⟩
     rcases Vb.1 hy with rfl | hy
     · exact h2 y (Ub ..)
     · rcases Vb.1 hy with rfl | hy
       · obtain ⟨h3,h4⟩:=h2 s (Ub ..)
         exact ⟨by grind,fun h=>(h4 (by grind)).trans (hp1.1 _ (Ub ..))⟩
       · exact h2 y (W0 _ hy)
theorem Il:∀ (k:Nat) (l:List Pt),V0 l→(Qu k l).Pairwise Lex
  | 0,l,_=>by simp [Qu]
  | k+1,[],_=>by simp [Qu]
  |
   k+1,x::l,h=>by
   have h':=qXc.1 h
   show (l.map (fun y=>(x,y))++Qu k l).Pairwise Lex
   refine qYb.2 ⟨List.pairwise_map.2 (h'.2.imp fun hab=>.inr ⟨rfl,qKe hab⟩),Il k l h'.2,fun a ha b hb=>?_⟩
   obtain ⟨y,_,rfl⟩:=Wa.1 ha
   exact .inl (h'.1 _ (V4 k l b hb).1)
theorem Qgr {M:List Pt} {i k:Nat} {x y:Pt} (hx:M[i]? = some x) (hy:M[k]? = some y) (h:i<k):(x,y)∈Q9 M:=by
  have hk:=(Wz.1 hy).1
  have key:∀ n,i<n→n≤M.length→(x,y)∈Qu n M:=by
    intro n
    induction n with
    | zero=>intro h; omega
    |
     succ n ih =>
     intro h1 h2
     have hn:M[n]? = some (M[n]'(by omega)):=Xv (by omega)
     rw [G0 M n _ hn]
     rcases Mp i n with h3 | h3
     · exact Yz.2 (.inl (ih h3 (by omega)))
     · obtain rfl:i=n:=by omega
       rw [hx] at hn; injection hn with hn
       rw [←hn]
       refine Yz.2 (.inr (Wa.2 ⟨y,?_,rfl⟩))
       refine qZn.2 ⟨k-(i+1),?_⟩
       rw [qXe,show i+1+(k-(i+1))=k by omega]; exact hy
  exact key M.length (by omega) (Ji _)
theorem C8 {M:List Pt}:∀ (n:Nat),n≤M.length→∀ {r:Pt×Pt},r∈Qu n M→∃ i k:Nat,i<k∧M[i]? = some r.1∧M[k]? = some r.2
  | 0,_,r,h=>by simp [Qu] at h
  |
   n+1,hn,r,h=>by
   have hx:M[n]? = some (M[n]'(by omega)):=Xv (by omega)
   rw [G0 M n _ hx] at h
   rcases Yz.1 h with h | h
   · exact C8 n (by omega) h
   · obtain ⟨y,hy,rfl⟩:=Wa.1 h
     obtain ⟨j,hj⟩:=qZn.1 hy
     rw [qXe] at hj
     exact ⟨n,n+1+j,by omega,hx,hj⟩
theorem Db {M:List Pt} (hs:V0 M) {i k:Nat} {x y:Pt} (hx:M[i]? = some x) (hy:M[k]? = some y) (h:i<k):x.id<y.id:=by
  obtain ⟨hi,rfl⟩:=Wz.1 hx
  obtain ⟨hk,rfl⟩:=Wz.1 hy
  exact List.pairwise_iff_getElem.1 hs i k hi hk h
theorem Qja {q:Rat} {M m:List Pt} {a b:Pt} (hM:M=a::b::m) (hs:V0 M) (hd:∀ x∈M,0<x.c.d):Z3 q (a,b) (Q9 M)∈Q9 M ∧
    ∀ r∈Q9 M,¬Qc0 q (Z3 q (a,b) (Q9 M)) r<0∧(Qc0 q (Z3 q (a,b) (Q9 M)) r=0→Lex (Z3 q (a,b) (Q9 M)) r):=by
  have hab:(a,b)∈Q9 M:=Qgr (i:=0) (k:=1) (by rw [hM]; rfl) (by rw [hM]; rfl) (by decide)
  have hp:((a,b)::Q9 M).Pairwise Lex:=by
    refine qXc.2 ⟨fun r hr=>?_,Il _ _ hs⟩
    obtain ⟨i,k,h1,h2,h3⟩:=C8 M.length (Ji _) hr
    have ha:M[0]? = some a:=by rw [hM]; rfl
    have hb:M[1]? = some b:=by rw [hM]; rfl
    rcases H9 i with h0 | h0
    · subst h0
      rw [ha] at h2; injection h2 with h2
      refine .inr ⟨by rw [h2],?_⟩
      rcases Mp 1 k with h5 | h5
      · exact qKe (Db hs hb h3 h5)
      · obtain rfl:k=1:=by omega
        rw [hb] at h3; injection h3 with h3; rw [h3]; exact Int.le_refl _
    · exact .inl (Db hs ha h2 h0)
  obtain ⟨t,ht⟩:=Qqk q ((Q9 M).flatMap fun s=>(Q9 M).map fun r=>Xj s.1.c s.2.c r.1.c r.2.c)
  have hin:∀ x∈(a,b)::Q9 M,x∈Q9 M:=fun x hx=>(Vb.1 hx).elim (fun e=>e ▸ hab) id
  have hg:∀ x∈Q9 M,∀ y∈Q9 M,Qc0 q x y=Gw (Np t y-Np t x):=fun x hx y hy=>by
    have hx1:=V4 _ _ x hx
    have hy1:=V4 _ _ y hy
    rw [←Qtb t x y (hd _ hx1.1) (hd _ hx1.2) (hd _ hy1.1) (hd _ hy1.2)]
    exact (ht _ (List.mem_flatMap.2 ⟨x,hx,Wa.2 ⟨y,hy,rfl⟩⟩)).symm
  obtain ⟨h1,h2⟩:=Rp q t (Q9 M) (a,b) hp fun x hx y hy=>hg x (hin x hx) y (hin y hy)
  refine ⟨hin _ h1,fun r hr=>?_⟩
  obtain ⟨h3,h4⟩:=h2 r (W0 _ hr)
  rw [hg _ (hin _ h1) r hr]
  refine ⟨fun h=>?_,fun h=>h4 ?_⟩
  · rw [Oa] at h; grind
  · have:=C9.1 h; grind
theorem Qac {s:Pt×Pt}:∀ {ps:List (Pt×Pt)},ps.Pairwise (fun a b=>¬(a.1.id=b.1.id∧a.2.id=b.2.id))→s∈ps→(ps.filter (Ww s)).length+1=ps.length
  | [],_,h=>by simp at h
  |
   m::ps,hp,h=>by
   have hp1:=qXc.1 hp
   by_cases hm:m.1.id=s.1.id∧m.2.id=s.2.id
   · have hall:∀ x∈ps,Ww s x=true:=fun x hx=>by
       have:=hp1.1 x hx
       unfold Ww
       simp only [qVw,decide_eq_true_eq]
       by_cases e:x.1.id=s.1.id
       · exact .inr fun e2=>this ⟨by omega,by omega⟩
       · exact .inl e
     have hf:Ww s m=false:=by unfold Ww; simp [hm.1,hm.2]
     rw [qXn (by rw [hf]; decide),qYv.2 hall]; rfl
   · have hin:s∈ps:=by
       rcases Vb.1 h with e | e
       · exact absurd (by rw [e]; exact ⟨rfl,rfl⟩) hm
       · exact e
     have hf:Ww s m=true:=by
       unfold Ww
       simp only [qVw,decide_eq_true_eq]
       by_cases e:m.1.id=s.1.id
       · exact .inr fun e2=>hm ⟨e,e2⟩
       · exact .inl e
     rw [qXm hf,qZy,qZy,Qac hp1.2 hin]
theorem Qgh {M:List Pt} (hs:V0 M):∀ k,(Qu k M).Pairwise (fun a b=>¬(a.1.id=b.1.id∧a.2.id=b.2.id)):=by
  intro k
  induction k generalizing M with
  | zero=>simp [Qu]
  |
   succ k ih =>
   cases M with
   | nil=>simp [Qu]
   |
    cons x l =>
    have h':=qXc.1 hs
    show (l.map (fun y=>(x,y))++Qu k l).Pairwise _
    refine qYb.2 ⟨List.pairwise_map.2 (h'.2.imp fun hab=>fun h=>by have:=h.2; simp only at this; omega),ih h'.2,fun a ha b hb=>?_⟩
    obtain ⟨y,_,rfl⟩:=Wa.1 ha
    have:=h'.1 _ (V4 k l b hb).1
    intro h; have:=h.1; simp only at this; omega
theorem Qdo {M:List Pt} (h:M.length≤4):(Q9 M).length=M.length*(M.length-1) / 2:=by
  match M,h with
  | [],_=>simp [Q9,Qu]
  | [_],_=>simp [Q9,Qu]
  | [_,_],_=>simp [Q9,Qu]
  | [_,_,_],_=>simp [Q9,Qu]
  | [_,_,_,_],_=>simp [Q9,Qu]
theorem Qm7 {q:Rat} {M:List Pt} {s:Pt×Pt} (hs:V0 M) (hm:s∈Q9 M) (h4:M.length≤4):(Ka q s (Q9 M)).length+1=M.length*(M.length-1) / 2:=by
  rw [←Qdo h4,←Qac (ps:=Q9 M) (Qgh hs _) hm]
  unfold Ka; rw [Zw]
theorem Qhp {M:List Pt} (hs:V0 M):∀ {i:Nat} {x:Pt},M[i]? = some x→U8 M x.id=(i:Int):=by
  induction M with
  | nil=>intro i x h; simp at h
  |
   cons a l ih =>
   intro i x h
   have h':=qXc.1 hs
   cases i with
   |
    zero =>
    have:a=x:=by simpa using h
    subst this
    simp [U8]
   |
    succ i =>
    have h:l[i]? = some x:=by simpa using h
    have hlt:=h'.1 x (Y6 h)
    have:=ih h'.2 h
    simp only [U8,if_neg (show ¬a.id=x.id by omega),this]
    rw [if_neg (by omega)]
    push_cast; omega
end Orr

namespace Orr
open Go Go.Proofs
theorem Qmc {a b:Pt} (h:b.id<a.id):J1 [] [a,b]=([b,a],0):=by
 have h1:¬a.id<b.id:=by omega
 have h2:¬a.id=b.id:=by omega
 simp [J1,Tn,has,pos,put,h,h1,h2]
theorem Qfy (q:Rat) (a b:Pt):Rw q [a,b]=[a,b]∧Yn q [a,b]=[]:=by
 have hp:Q9 [a,b]=[(a,b)]:=rfl
 have hn:Z3 q (a,b) [(a,b)]=(a,b):=by
  rw [Tk]
  rcases Qc8 q (a,b) (a,b) with e | e <;> rw [e] <;> rfl
 simp only [Rw,Yn,hp,hn,true_and]
 simp [Ka,Ww]
theorem Qm4 {a b:Pt} (ha:Mv a.c∧Cb a.c) (hb:Mv b.c∧Cb b.c) (hab:b.id<a.id):Wt Tryz.prog 46 [.agg [.bool false,.row [],.bool false,.row []],.one (.row [Ui a,Ui b])] [] fun R B=>∃ g,R=.tup [.one (.ow g 0),.one (.int .i64 0)]∧B=[.blk g 108 [.bool true,pl ([-((Q3 0 0)).num,(((Q3 0 0)).den:Int)]),sg ((((Q3 0 0))).num),mg ((((Q3 0 0))).num),sg (((((Q3 0 0))).den:Int)),mg (((((Q3 0 0))).den:Int)),sg ((((Q3 0 0))).num),mg ((((Q3 0 0))).num),sg (((((Q3 0 0))).den:Int)),mg (((((Q3 0 0))).den:Int)),Ms ([]),.int .i64 0,Um ([b,a]),Um ([b,a])]]:=by
 have hg:B6 [a,b]:=by
  intro x hx
  simp only [Vb,Nx,or_false] at hx
  rcases hx with rfl | rfl
  ·exact ha
  ·exact hb
 have h:=Qab (l1:=[]) (l2:=[]) (zs:=[Ui a,Ui b]) (qs:=[a,b]) T4 T4 (by decide) (by decide) (qs_0.mono (by omega)) (Qlb (l:=[a,b]) (fun x hx=>⟨(hg x hx).1,(hg x hx).2.mono (by omega) (by omega)⟩)) hg (show 2≤6 by decide) (by rw [Qmc hab])
 rw [Qmc hab,(Qfy _ _ _).1,(Qfy _ _ _).2] at h
 exact h
set_option maxRecDepth 20000 in
theorem Mw  : Q8 Tryz.prog 36 [] (.one (.bool true)):=by
 refine X2 tt 2 [] Tryz.func36 Tryz.ntmps36 rfl rfl rfl ?_
 refine kl tt 1 [] Tryz.func45 rfl rfl rfl (M2 (by decide) (by decide)) rfl rfl ?_
 refine kl tt 2 [] Tryz.func45 rfl rfl rfl (M2 (by decide) (by decide)) rfl rfl ?_
 refine Zn (Vs (Bin:=[]) Tryz.func46 rfl rfl rfl rfl (Qm4 (a:=(Pt.mk (F2 0 0) 3)) (b:=(Pt.mk (F2 5 1) 2)) (I7 (by decide) (by decide)) (I7 (by decide) (by decide)) (by decide)) rfl fun r_ B_ hr_=>ko ?_)
 obtain ⟨g,rfl,rfl⟩:=hr_
 refine Qr tt 8 rfl ?_
 refine Qf tt 0 [] ((Qd rfl rfl (rfl) (Qv tt rfl rfl))) rfl ?_
 refine Qf tt 0 [] ((Qd rfl rfl (rfl) (Qv tt rfl rfl))) rfl ?_
 refine Qf tt 0 [] (Zu rfl (rfl) rfl rfl) rfl ?_
 refine Xb tt 1 [] (rfl) rfl rfl ?_
 refine Zn (Vs (Bin:=[.blk g 108 [.bool true,pl ([-((Q3 0 0)).num,(((Q3 0 0)).den:Int)]),sg ((((Q3 0 0))).num),mg ((((Q3 0 0))).num),sg (((((Q3 0 0))).den:Int)),mg (((((Q3 0 0))).den:Int)),sg ((((Q3 0 0))).num),mg ((((Q3 0 0))).num),sg (((((Q3 0 0))).den:Int)),mg (((((Q3 0 0))).den:Int)),Ms ([]),.int .i64 0,Um ([(Pt.mk (F2 5 1) 2),(Pt.mk (F2 0 0) 3)]),Um ([(Pt.mk (F2 5 1) 2),(Pt.mk (F2 0 0) 3)])]]) Tryz.func35 rfl rfl rfl rfl (Qah (u:=(Pt.mk (F2 5 1) 2)) (v:=(Pt.mk (F2 0 0) 3))) rfl fun r_ B_ hr_=>ko ?_)
 obtain ⟨rfl,rfl⟩:=hr_
 refine Qr tt 9 rfl ?_
 refine Qf tt 0 [] ((Qd rfl rfl (rfl) (Qv tt rfl rfl))) rfl ?_
 refine Qf tt 0 [] ((Qd rfl rfl (rfl) (Qv tt rfl rfl))) rfl ?_
 refine Qf tt 1 [] (Zp rfl (rfl) rfl rfl) rfl ?_
 refine Qf tt 0 [] ((Qd rfl rfl (rfl) (Qv tt rfl rfl))) rfl ?_
 refine Qf tt 0 [] ((Qd rfl rfl (rfl) (Qv tt rfl rfl))) rfl ?_
 refine Qf tt 1 [] (Zp rfl (rfl) rfl rfl) rfl ?_
 refine Qf tt 0 [] ((Qd rfl rfl (rfl) (Qv tt rfl rfl))) rfl ?_
 refine Qf tt 0 [] ((Qd rfl rfl (rfl) (Qv tt rfl rfl))) rfl ?_
 refine kw ((Qd rfl rfl (rfl) (Qv tt rfl rfl))) ?_
 refine Zn (Qfb rfl rfl (rfl) (ko ?_))
 refine Zn (Vs (Bin:=[.blk g 108 [.bool true,pl ([-((Q3 0 0)).num,(((Q3 0 0)).den:Int)]),sg ((((Q3 0 0))).num),mg ((((Q3 0 0))).num),sg (((((Q3 0 0))).den:Int)),mg (((((Q3 0 0))).den:Int)),sg ((((Q3 0 0))).num),mg ((((Q3 0 0))).num),sg (((((Q3 0 0))).den:Int)),mg (((((Q3 0 0))).den:Int)),Ms ([]),.int .i64 0,Um ([(Pt.mk (F2 5 1) 2),(Pt.mk (F2 0 0) 3)]),Um ([(Pt.mk (F2 5 1) 2),(Pt.mk (F2 0 0) 3)])]]) Tryz.func40 rfl rfl rfl rfl (Ea (ws:=[]) (by simp) (by simp)) rfl fun r_ B_ hr_=>ko ?_)
 obtain ⟨rfl,rfl⟩:=hr_
 refine Qw tt rfl ?_
 refine Qf tt 0 [] ((Qd rfl rfl (rfl) (Qj (m:=([]).length) qWe rfl (Sw _) rfl))) rfl ?_
 refine Qf tt 0 [] ((Qd rfl rfl (rfl) (Qv tt rfl rfl))) rfl ?_
 refine Qf tt 1 [] (Zp rfl (rfl) rfl rfl) rfl ?_
 exact Xq tt [] rfl (rfl)
end Orr

namespace Orr
open Go
variable {P:Program} {ops:Array Oper} {n:Nat} {rest:List Oper} {N:Sg→List OB→Prop} {L:Sg} {B:List OB} {d:Nat} {ty:TypeId} {pos:String} {after:Array Edge}
theorem Qoe {id:Nat} {l:List Oper} {Q:Exit→Sg→List OB→Prop} (hm:P.follows .mixedOrders=true) (m:Nat) (D:List Nat) (deps:List (List Nat)) (us:List AV) (c:Nat) (R:AV→List OB→Prop) (hchk:Kc l m (D.map some) deps=true)
    (hDm:(Nat.beq D.length m && Nat.beq us.length m && Nat.blt c m && deps.all fun js=>js.all fun j=>Nat.blt j m)=true) (u0:AV) (hun:us[c]? = some u0) (hRu:∀ u B1,R u B1→u=u0) (hnone:(D.all fun t=>(lk L t).isNone)=true)
    (hops0:MOps0 P l.toArray n L B R c D us 0 (depsOf D us deps) (l.take m)) (hops1:∀ u B1,R u B1→MOps1 P l.toArray n L B1 c D us 0 (depsOf D us deps) (l.take m))
    (k:∀ u B1,R u B1→∃ L2,C2 D us L=some L2∧AW P l.toArray n (l.drop m) (fun L B=>Q .normal L B) L2 B1):AC P n (.region id l.toArray true) Q L B:=by
  rintro K Ob w0 w a ⟨L',Bs,h,hL,hB⟩
  simp only [qXk,Bv] at hDm hnone
  obtain ⟨⟨⟨hD,hU⟩,hcm⟩,hdl⟩:=hDm
  have hD:=Fg hD
  have hU:=Fg hU
  have hcm:c<m:=by rwa [Mc] at hcm
  have hdl:∀ js∈deps,∀ j∈js,j<m:=fun js hj j hjj=>by have:=hdl js hj j hjj; rwa [Mc] at this
  obtain ⟨L3,h1,h2,h3⟩:=only L hL
  have hst:St K Ob w0 w a n L3 [] Bs:={ h with slots:=fun t v hv=>h.slots t v (h2 t v hv) }
  have hst2:=hst.add (f:=SF L L3 [] [] [] []) ⟨h3,rfl,trivial⟩
  have hc:=Hr hchk
  let Inv:(Nat→Bool)→(Nat→Value)→World→List Y8→Prop:=fun p v w Bs=>(p c=false∧BsRep w (Qy Ob Bs) B Bs)∨(p c=true∧∃ u B1,R u B1∧ARep w (Qy Ob Bs) (v c) u∧BsRep w (Qy Ob Bs) B1 Bs)
  have hone:∀ (i:Nat) (dj:List Nat) (o:Oper),deps[i]? = some dj→l[i]? = some o→i<m→Gp P l.toArray K Ob w0 n L3 [SF L L3 [] [] [] []] Inv (D.map some) (us.map Gz) i dj o:=by
    intro i dj o hdj ho hi p hpi _ v Fx a' w' Bs hinv hs
    have hjm:=hdl dj (Y6 hdj)
    rw [Gq D v dj fun j hj=>by rw [hD]; exact hjm j hj] at hs
    have hfacts:∀ j∈dj,ARep w' (Qy Ob Bs) (v j) (us.getD j .un):=fun j hj=>by
      have:=hs.facts ((us.map Gz).getD j Uq (v j)) (Yz.2 (.inl (Wa.2 ⟨j,hj,rfl⟩)))
      rw [Ve,Sd,Xv (by rw [hU]; exact hjm j hj)] at this
      rw [Ve,Xv (by rw [hU]; exact hjm j hj)]
      exact this
    obtain ⟨h6,_,_⟩:(SF L L3 [] [] [] []).holds w' (Qy Ob Bs):=hs.facts _ (Yz.2 (.inr (by simp)))
    have hdk:=Wi D i (by rw [hD]; exact hi)
    have e5:(us.map Gz).getD i Uq=Gz (us[i]'(by rw [hU]; exact hi)):=by
      rw [Ve,Sd,Xv (by rw [hU]; exact hi)]; rfl
    have e6:us.getD i .un=us[i]'(by rw [hU]; exact hi):=by
      rw [Ve,Xv (by rw [hU]; exact hi)]; rfl
    have hdep:=Wo (D:=D) (us:=us) hdj
    have hl:(l.take m)[i]? = some o:=by rw [Ei,if_pos hi]; exact ho
    have plain:∀ (BX:List OB) (y:Value) (uy:AV),BsRep w' (Qy Ob Bs) BX Bs→ARep w' (Qy Ob Bs) y uy→AP P l.toArray n o (D.getD i 0) (us.getD i .un) (dj.map (fun j=>(D.getD j 0,us.getD j .un))++L) BX →
        (∀ (w2:World) (x:Value),BsRep w2 (Qy Ob Bs) BX Bs→ARep w2 (Qy Ob Bs) y uy→Inv (fun j=>j == i || p j) (fun j=>if j=i then x else v j) w2 Bs) →
        wpList P l.toArray (fun e a' w'=>e=.normal∧∃ u Bs',Inv (fun j=>j == i || p j) (fun j=>if j=i then u else v j) w' Bs'∧St K Ob w0 w' a' n (if dE (D.map some) i then [(dd (D.map some) i,u)] else []) (((us.map Gz).getD i Uq) u::([SF L L3 [] [] [] []]++Fx)) Bs') [o] a' w':=by
      intro BX y uy hBX hy hap hinv2
      have hs2:=(hs.add (f:=Gz uy y) hy).add (f:=SF [] [] BX Bs [] []) ⟨fun t x (hh:none=some x)=>(nomatch hh),hBX,trivial⟩
      have hw:=hap K Ob w0 w' a' Bs _ _ hs2 (Ug h6 hfacts) hBX
      refine K0 hs.defers (fun _ _ ⟨_,hh,_⟩=>hh.defers) hw fun a2 w2 hh=>?_
      obtain ⟨x,h8,h9⟩:=hh
      obtain ⟨_,h10,_⟩:=h8.fact 0 rfl
      have h11:ARep w2 (Qy Ob Bs) y uy:=h8.fact 1 rfl
      refine wpList_nil ⟨rfl,x,Bs,hinv2 w2 x h10 h11,?_⟩
      rw [if_pos hdk.2,hdk.1,e5]
      rw [e6] at h9
      have h8:St K Ob w0 w2 a2 n _ ((SF [] [] BX Bs [] []::Gz uy y::List.map (fun j=>(List.map Gz us).getD j Uq (v j)) dj)++([SF L L3 [] [] [] []]++Fx)) Bs:=h8
      exact h8.drawEnd (by simp [Z1]) h9
    cases hic:Nat.beq i c with
    |
     true =>
     have hic':=Fg hic
     subst hic'
     have hop:=hops0.get i _ o hdep hl
     rw [Vy] at hop
     unfold Qn3 at hop
     rw [hic] at hop
     have hBX:BsRep w' (Qy Ob Bs) B Bs:=by
       rcases hinv with ⟨_,hh⟩ | ⟨hh,_⟩
       · exact hh
       · rw [hpi] at hh; cases hh
     have hw:=hop K Ob w0 w' a' Bs _ _ hs (Ug h6 hfacts) hBX
     refine K0 hs.defers (fun _ _ ⟨_,_,_,_,_,hh,_⟩=>hh.defers) hw fun a2 w2 hh=>?_
     obtain ⟨x,Bs',u,B1,hR,h8,h9,h10⟩:=hh
     refine wpList_nil ⟨rfl,x,Bs',.inr ⟨by simp,u,B1,hR,by simpa using h9,h10⟩,?_⟩
     rw [if_pos hdk.2,hdk.1,e5]
     have e7:us[i]'(by rw [hU]; exact hi)=u0:=by
       have:=Xv (l:=us) (i:=i) (by rw [hU]; exact hi)
       rw [hun] at this; injection this with this; exact this.symm
     rw [e7]
     obtain rfl:=hRu u B1 hR
     exact h8.drawEnd (f:=Gz u x) (by simp [Z1]) h9
    |
     false =>
     have hne:c≠i:=fun e=>by subst e; simp at hic
     have hpc:(c == i || p c)=p c:=by simp [hne]
     have hvc:∀ x:Value,(if c=i then x else v c)=v c:=fun x=>if_neg hne
     rcases hinv with ⟨hp,hh⟩ | ⟨hp,u1,B1,hR,hv1,hh⟩
     · have hop:=hops0.get i _ o hdep hl
       rw [Vy] at hop
       unfold Qn3 at hop
       rw [hic] at hop
       exact plain B (.bool true) (.one (.bool true)) hh (LRep.bool _) hop fun w2 x h10 _=>.inl ⟨hpc.trans hp,h10⟩
     · have hop:=(hops1 u1 B1 hR).get i _ o hdep hl
       rw [Vy] at hop
       unfold Qtz at hop
       rw [hic] at hop
       exact plain B1 (v c) u1 hh hv1 hop fun w2 x h10 h11=>.inr ⟨hpc.trans hp,u1,B1,hR,by show ARep _ _ (if c=i then x else v c) u1; rw [hvc x]; exact h11,h10⟩
  have hdrawops:∀ (js:List (List Nat)) (os:List Oper) (k:Nat),(∀ i dj o,js[i]? = some dj→os[i]? = some o→Gp P l.toArray K Ob w0 n L3 [SF L L3 [] [] [] []] Inv (D.map some) (us.map Gz) (k+i) dj o) →
      Pk P l.toArray K Ob w0 n L3 [SF L L3 [] [] [] []] Inv (D.map some) (us.map Gz) k js os:=by
    intro js
    induction js with
    | nil=>intro os k _; cases os <;> trivial
    |
     cons dj js ih =>
     intro os k hall
     rcases os with _ | ⟨o,os⟩
     · trivial
     · refine ⟨by have:=hall 0 dj o rfl rfl; rwa [Mr] at this,ih os (k+1) fun i dj' o' hd ho=>?_⟩
       have:=hall (i+1) dj' o' (by simpa using hd) (by simpa using ho)
       rwa [show k+(i+1)=k+1+i from by omega] at this
  refine Qeh hm m (D.map some) deps (us.map Gz) Inv hchk hst2 (fun w' hw'=>.inl ⟨rfl,hB.keep (Ac hw' _)⟩) ?_ (hdrawops deps l 0 fun i dj o hd ho=>by
    rw [Vy]
    exact hone i dj o hd ho (by have:=(Wz.1 hd).1; rw [hc.deplen] at this; exact this)) fun p hp v a' w' Bs hinv hs=>?_
  · rw [Bv]
    intro j hj
    have hjm:j<m:=Ru.1 hj
    rw [(Wi D j (by rw [hD]; exact hjm)).1]
    have hmem:D.getD j 0∈D:=by rw [Ve,Xv (by rw [hD]; exact hjm)]; exact qJd _
    have:=hnone _ hmem
    rw [qXq] at this
    rw [h1 _ this]; simp
  · rw [Gq D v _ fun j hj=>by rw [hD]; exact Ru.1 hj] at hs
    have hfacts:∀ j∈List.range m,ARep w' (Qy Ob Bs) (v j) (us.getD j .un):=fun j hj=>by
      have hjm:=Ru.1 hj
      have:=hs.facts ((us.map Gz).getD j Uq (v j)) (Yz.2 (.inl (Wa.2 ⟨j,hj,rfl⟩)))
      rw [Ve,Sd,Xv (by rw [hU]; exact hjm)] at this
      rw [Ve,Xv (by rw [hU]; exact hjm)]
      exact this
    obtain ⟨h6,_,_⟩:(SF L L3 [] [] [] []).holds w' (Qy Ob Bs):=hs.facts _ (Yz.2 (.inr (by simp)))
    rcases hinv with ⟨hh,_⟩ | ⟨_,u1,B1,hR,hv1,hB1⟩
    · rw [hp c hcm] at hh; cases hh
    · obtain ⟨L2,hz,k⟩:=k u1 B1 hR
      obtain ⟨_,rfl⟩:=P3 hz
      have hset:us.set c u1=us:=by
        rw [hRu u1 B1 hR]
        refine qJq fun i=>?_
        by_cases hci:c=i
        · subst hci; rw [qXi (by omega),hun]
        · rw [qXv hci]
      rw [show D.zip us=D.zip (us.set c u1) by rw [hset]] at k
      have hU2:(us.set c u1).length=m:=by rw [H8]; exact hU
      have hzip:D.zip (us.set c u1)=(List.range m).map fun j=>(D.getD j 0,(us.set c u1).getD j .un):=by
        apply qYt
        · simp [hD,hU]
        · intro i h1 h2
          simp at h1 h2
          have e1:D[i]? = some D[i]:=Xv (by omega)
          have e2:(us.set c u1)[i]? = some ((us.set c u1)[i]'(by omega)):=Xv (by omega)
          rw [List.getElem_zip,List.getElem_map,List.getElem_range,Ve,Ve,e1,e2]; rfl
      rw [hzip] at k
      have hfacts2:∀ j∈List.range m,ARep w' (Qy Ob Bs) (v j) ((us.set c u1).getD j .un):=fun j hj=>by
        have hjm:=Ru.1 hj
        by_cases hjc:c=j
        · subst hjc
          rw [Ve,qXi (by omega)]; exact hv1
        · have:=hfacts j hj
          rw [Ve] at this ⊢
          rwa [qXv hjc]
      exact k K Ob w0 w' a' _ ⟨_,Bs,hs.noFacts,Ug h6 hfacts2,hB1⟩ fun a2 w2 h=>h
end Orr

namespace Orr
open Go
def Qwc (ks:List Int):Value:=.agg (ks.map (Value.int .i64)).toArray
def Q0v:LV→Bool
  | .int _ _=>true
  | .bool _=>true
  | _=>false
structure MapT (P:Program) (T KT ET:Nat) (d:LV):Prop where
  u:∀ w,(underlying T).run P w=.ok (.map KT ET) w
  k:∃ ds,(∀ w,(underlying KT).run P w=.ok ds w)∧∀ x y,Instr.sameNow ds x y=none
  c:∀ (em:Bool) (ks:List Int),ks.length=3→∀ w,(Instr.checkKey em 10000 KT (Qwc ks)).run P w=.ok () w
  e:∀ (x y:List Int),x.length=3→y.length=3→∀ w,(Op.equal KT (Qwc x) (Qwc y)).run P w=.ok (decide (x=y)) w
  z:∀ w,(zeroValue ET).run P w=.ok (Q1c d) w
  d:Q0v d=true
section
variable {P:Program} {K Ob:Nat→Prop} {w0 w:World} {a:Act} {n:Nat} {L:List (Nat×Value)} {Fs:List Fact} {Bs:List Y8} {T KT ET:Nat} {d:LV}
end
variable {P:Program} {ops:Array Oper} {n d:Nat} {rest:List Oper} {N:Sg→List OB→Prop} {L:Sg} {B:List OB} {ty:TypeId} {pos:String} {after:Array Edge}
end Orr

namespace Orr
open Go
variable {P:Program} {ops:Array Oper} {n d:Nat} {L:Sg} {B:List OB} {ty:TypeId} {pos:String} {after:Array Edge}
end Orr
namespace Orr
open Go
variable {P:Program} {ops:Array Oper} {n d:Nat} {L:Sg} {B:List OB} {ty:TypeId} {pos:String} {after:Array Edge}
theorem K6 {op:Op} {j t:Nat} {want b:Bool} (hj:(ops[j]?).bind (·.dst)=some t) (hv:lk L t=some (.one (.bool b))) (hb:b = !want) (hd:Nat.blt d n=true) :
    AP P ops n { dst:=some d,op:=op,type:=ty,pos:=pos,after:=after,guard:=some (j,want) } d (.tup []) L B:=by
  intro K Ob w0 w a Bs L' Fs h hL hB
  obtain ⟨v,hv,hr⟩:=hL t _ hv
  obtain rfl:=K4 hr
  exact Zt h hj hv hb hd fun a' h'=>wpList_nil ⟨rfl,_,h',⟨[],rfl,trivial⟩⟩
theorem Jo {op:Op} {j t:Nat} {want:Bool} (hj:(ops[j]?).bind (·.dst)=some t) (hv:lk L t=some (.tup [])) (hd:Nat.blt d n=true) :
    AP P ops n { dst:=some d,op:=op,type:=ty,pos:=pos,after:=after,guard:=some (j,want) } d (.tup []) L B:=by
  intro K Ob w0 w a Bs L' Fs h hL hB
  obtain ⟨v,hv,hr⟩:=hL t _ hv
  obtain ⟨vs,rfl,hvs⟩:∃ vs:List Value,v=.tuple vs.toArray∧TReps w (Qy Ob Bs) vs []:=hr
  obtain rfl:vs=[]:=Md (by have:=hvs.len; simpa using this)
  have hs:=h.slots t _ hv
  have hw:Region.wanted { dst:=some d,op:=op,type:=ty,pos:=pos,after:=after,guard:=some (j,want) } (yielded ops a.tmps)=false:=by
    simp [Region.wanted,yielded,hj,hs]
  unfold wpList
  rw [if_neg (by rw [hw]; simp)]
  exact wpList_nil ⟨rfl,_,h.put undef hd,⟨[],rfl,trivial⟩⟩
end Orr
