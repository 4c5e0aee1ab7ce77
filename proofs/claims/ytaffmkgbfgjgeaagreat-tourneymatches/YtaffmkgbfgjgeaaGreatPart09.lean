/- ATourney DrawW AvDrawW RatOkL PevL GermL ARef12E ARef12F ABeg19 AvMap AvArr AMatch19 MatchL ALaw19 -/
import Derived.Test.YtaffmkgbfgjgeaaGreatPart08
import Derived.Test.YtaffmkgbfgjgeaaGreatPart05
import Derived.Test.YtaffmkgbfgjgeaaGreatPart00
import Derived.Test.YtaffmkgbfgjgeaaGreatPart02
import Derived.Test.YtaffmkgbfgjgeaaGreatPart06
import Derived.Test.YtaffmkgbfgjgeaaGreatPart07
import Derived.Test.YtaffmkgbfgjgeaaGreatPart04
import Derived.MapKept
set_option linter.all false

namespace Orr
open Go Go.Proofs
def Qnf (g:Nat) (c0 c1 c2 c3 c4 c5 c6 c7 c8 c9 c10 c11 y0 y1:LV) (q:Rat) (l:List Pt):Prop:=∀ (r:Option (Nat×Nat)) (ms:List (Pt×Pt)),ms.length+l.length≤1000000 →
 Us Tryz.prog 205 [.one (.ow g 0),.agg [pl ([-q.num,(q.den:Int)]),sg q.num,mg q.num,sg ((q.den:Int)),mg ((q.den:Int)),sg q.num,mg q.num,sg ((q.den:Int)),mg ((q.den:Int))],.one (V5 l)] [.blk g 122 [c0,c1,c2,c3,c4,c5,c6,c7,c8,c9,c10,c11,y0,y1,.orow r 10 0 ms.length],.row r 198 10 (ms.map Bw)] fun R B=>R=.one (V5 (Qx q l).1)∧∃ r',B=[.blk g 122 [c0,c1,c2,c3,c4,c5,c6,c7,c8,c9,c10,c11,y0,y1,.orow r' 10 0 ((ms++(Qx q l).2).length)],.row r' 198 10 ((ms++(Qx q l).2).map Bw)]
set_option maxRecDepth 20000 in
theorem Dm {g:Nat} {r:Option (Nat×Nat)} {c0 c1 c2 c3 c4 c5 c6 c7 c8 c9 c10 c11 y0 y1:LV} {ms:List (Pt×Pt)} {l:List Pt} {q:Rat} (hq:Qb q) (hl:Df l) (hn:l.length≤1000) (hm:ms.length+l.length≤1000000)
  (ih:∀ l':List Pt,l'.length<l.length→Df l'→Qnf g c0 c1 c2 c3 c4 c5 c6 c7 c8 c9 c10 c11 y0 y1 q l'):Us Tryz.prog 205 [.one (.ow g 0),.agg [pl ([-q.num,(q.den:Int)]),sg q.num,mg q.num,sg ((q.den:Int)),mg ((q.den:Int)),sg q.num,mg q.num,sg ((q.den:Int)),mg ((q.den:Int))],.one (V5 l)] [.blk g 122 [c0,c1,c2,c3,c4,c5,c6,c7,c8,c9,c10,c11,y0,y1,.orow r 10 0 ms.length],.row r 198 10 (ms.map Bw)] fun R B=>R=.one (V5 (Qx q l).1)∧∃ r',B=[.blk g 122 [c0,c1,c2,c3,c4,c5,c6,c7,c8,c9,c10,c11,y0,y1,.orow r' 10 0 ((ms++(Qx q l).2).length)],.row r' 198 10 ((ms++(Qx q l).2).map Bw)]:=by
 refine X4 tt 0 [] qGr Tryz.ntmps205 rfl rfl rfl ?_
 by_cases h2:l.length<2
 ·skip
  refine Qr tt 3 rfl ?_
  refine Qf tt 1 [] (Qh (m:=l.length) V0 rfl (Vx _) rfl) rfl ?_
  refine Xh tt 2 [] (decide_eq_true (by omega)) rfl rfl ?_
  have hp:=Kn q h2
  refine Ey ?_
  exact ⟨_,[],_,I6 Tryz.results205 (Kb rfl rfl),rfl,by rw [hp]; rfl,r,by rw [hp,qXg]⟩
 have htl:(l.take ((l.length+1) / 2)).length=((l.length+1) / 2):=by rw [Kd]; omega
 have hdl:(l.drop ((l.length+1) / 2)).length=l.length-((l.length+1) / 2):=Na ..
 obtain ⟨a,ha,hal,_⟩:=Vv q l.length (l.take ((l.length+1) / 2)) (by omega) (by omega)
 obtain ⟨b,hb,hbl,_⟩:=Vv q l.length (l.drop ((l.length+1) / 2)) (by omega) (by omega)
 have hal:=Rx hal
 have hbl:=Pr hbl
 have hg1:=Vz q l.length (l.take ((l.length+1) / 2)) (by omega)
 have hg2:=Vz q l.length (l.drop ((l.length+1) / 2)) (by omega)
 have ih1:=ih (l.take ((l.length+1) / 2)) (by omega) (fun x hx=>hl x (Rx hx))
 have ih2:=ih (l.drop ((l.length+1) / 2)) (by omega) (fun x hx=>hl x (Pr hx))
 cases hbt:Dh q a b
 refine Qq tt rfl ?_
 ·have hp:Qx q l=([b],(Qx q (l.take ((l.length+1) / 2))).2++(Qx q (l.drop ((l.length+1) / 2))).2++[(b,a)]):=by rw [G0 q h2 ha hb]; simp [Ty,hbt]
  refine Qr tt 3 rfl ?_
  refine Qf tt 1 [] (Qh (m:=l.length) V0 rfl (Vx _) rfl) rfl ?_
  refine Z8 tt 1 [] (decide_eq_false (by omega)) rfl rfl ?_
  refine Qf tt 0 [] (Qh (m:=l.length) V0 rfl (Vx _) rfl) rfl ?_
  refine Qf tt 0 [] (Zb (r:=((l.length+1:Nat):Int)) rfl rfl (Qm (by omega) (by omega)) rfl) rfl ?_
  refine Qf tt 1 [] (Fk (r:=(((l.length+1) / 2:Nat):Int)) rfl rfl (by omega) (by rw [show Int.tdiv ((l.length+1:Nat):Int) 2=((((l.length+1) / 2):Nat):Int) from rfl]; exact Xq (by omega) (by omega)) rfl) rfl ?_
  refine kc (Kl Qp 11 [18,19,20,21,22,23,24,25,26,27,28] [[],[],[],[],[2,3],[0,1,4],[],[],[],[],[8,9]] [.one (.ow g 0),.agg [pl ([-q.num,(q.den:Int)]),sg q.num,mg q.num,sg ((q.den:Int)),mg ((q.den:Int)),sg q.num,mg q.num,sg ((q.den:Int)),mg ((q.den:Int))],.one (V5 l),.one (.int .i64 ((((l.length+1) / 2:Nat):Int))),.one (V5 ((l.take ((l.length+1) / 2)))),.un,.one (.ow g 0),.agg [pl ([-q.num,(q.den:Int)]),sg q.num,mg q.num,sg ((q.den:Int)),mg ((q.den:Int)),sg q.num,mg q.num,sg ((q.den:Int)),mg ((q.den:Int))],.one (V5 l),.one (.int .i64 ((((l.length+1) / 2:Nat):Int))),.one (V5 ((l.drop ((l.length+1) / 2))))] 5 (fun u B=>∃ r1,u=.one (V5 [a])∧B=[.blk g 122 [c0,c1,c2,c3,c4,c5,c6,c7,c8,c9,c10,c11,y0,y1,.orow r1 10 0 ((ms++(Qx q (l.take ((l.length+1) / 2))).2).length)],.row r1 198 10 ((ms++(Qx q (l.take ((l.length+1) / 2))).2).map Bw)]) rfl rfl rfl rfl ⟨Qv rfl rfl,Zq qWx qWp rfl rfl rfl rfl,Qv rfl rfl,Qv rfl rfl,Yc ((l.length+1) / 2) V0 Wb rfl rfl rfl (by rw [Zr]; omega) (Jj l (fun _=>rfl)) (l':=(l.take ((l.length+1) / 2)).map Wp) (by rw [Ix]) rfl,?_,Qv rfl rfl,Zq qWx qWp rfl rfl rfl rfl,Qv rfl rfl,Qv rfl rfl,Uv ((l.length+1) / 2) V0 Wb rfl rfl rfl (by rw [Zr]; omega) (Jj l (fun _=>rfl)) (l':=(l.drop ((l.length+1) / 2)).map Wp) (by rw [qJm]) rfl,trivial⟩ ?_ ?_)
  ·refine Km fun N k_=>?_
   refine Yh qGr rfl rfl rfl rfl (ih1 r ms (by omega)) rfl fun r_ B_ hr_=>?_
   obtain ⟨rfl,r1,rfl⟩:=hr_
   exact Qo (k_ _ _ ⟨r1,by rw [ha],rfl⟩)
  ·rintro u_ B_ ⟨r1,rfl,rfl⟩
   exact ⟨Qv rfl rfl,Zq qWx qWp rfl rfl rfl rfl,Qv rfl rfl,Qv rfl rfl,Yc ((l.length+1) / 2) V0 Wb rfl rfl rfl (by rw [Zr]; omega) (Jj l (fun _=>rfl)) (l':=(l.take ((l.length+1) / 2)).map Wp) (by rw [Ix]) rfl,trivial,Qv rfl rfl,Zq qWx qWp rfl rfl rfl rfl,Qv rfl rfl,Qv rfl rfl,Uv ((l.length+1) / 2) V0 Wb rfl rfl rfl (by rw [Zr]; omega) (Jj l (fun _=>rfl)) (l':=(l.drop ((l.length+1) / 2)).map Wp) (by rw [qJm]) rfl,trivial⟩
  rintro u_ B_ ⟨r1,rfl,rfl⟩
  refine ⟨_,rfl,kn ?_⟩
  refine Qq tt rfl ?_
  refine Zn (Yh qGr rfl rfl rfl rfl (ih2 r1 (ms++(Qx q (l.take ((l.length+1) / 2))).2) (by rw [Fl]; omega)) rfl fun r_ B_ hr_=>ko ?_)
  obtain ⟨rfl,r2,rfl⟩:=hr_
  refine X5 (fun _ k_=>Xs 29 (y:=.one (V5 [b])) rfl (by rw [hb]) (Qo k_)) rfl ?_
  refine Qr tt 2 rfl ?_
  refine Qy 7 Qp rfl rfl rfl ?_
  refine Qr tt 1 rfl ?_
  refine kd (Qi (0) V0 Wb rfl rfl (rfl) (Qg rfl) rfl rfl) rfl ?_
  refine Qr tt 2 rfl ?_
  refine kd (Qi (0) V0 Wb rfl rfl (rfl) (Qg rfl) rfl rfl) rfl ?_
  refine Qr tt 2 rfl ?_
  refine Qq tt rfl ?_
  refine kl tt 1 [] Tryz.func98 rfl rfl rfl (Ny ((hl a hal).1) ((hl b hbl).1) ((hl a hal).2) ((hl b hbl).2) (hq)) rfl rfl ?_
  refine Xh tt 4 [] (by rw [hbt]; rfl) rfl rfl ?_
  refine kc (Kl Qp 14 [41,42,43,44,45,46,47,48,49,50,51,52,53,54] [[],[],[1],[2],[3],[],[5],[6],[],[8],[9],[7,10],[11],[4,12]] [.one (.ow g 0),.one (.ow g 0),.one (.ow g 0),.one (.ow g 14),.one (.orow r2 10 0 ((ms++(Qx q (l.take ((l.length+1) / 2))).2++(Qx q (l.drop ((l.length+1) / 2))).2).length)),.one (V5 ([b])),.one (.sh [pl b.c.x,pl b.c.y,sg b.c.d,mg b.c.d,.int .i64 b.id]),.agg [pl b.c.x,pl b.c.y,sg b.c.d,mg b.c.d,.int .i64 b.id],.one (V5 ([a])),.one (.sh [pl a.c.x,pl a.c.y,sg a.c.d,mg a.c.d,.int .i64 a.id]),.agg [pl a.c.x,pl a.c.y,sg a.c.d,mg a.c.d,.int .i64 a.id],.agg [pl b.c.x,pl b.c.y,sg b.c.d,mg b.c.d,.int .i64 b.id,pl a.c.x,pl a.c.y,sg a.c.d,mg a.c.d,.int .i64 a.id],.one (.row [[pl b.c.x,pl b.c.y,sg b.c.d,mg b.c.d,.int .i64 b.id,pl a.c.x,pl a.c.y,sg a.c.d,mg a.c.d,.int .i64 a.id]]),.un] 13 (fun u B=>∃ r3,u=.one (.orow r3 10 0 (ms++((Qx q (l.take ((l.length+1) / 2))).2++(Qx q (l.drop ((l.length+1) / 2))).2++[(b,a)])).length)∧B=[.row r3 198 10 ((ms++((Qx q (l.take ((l.length+1) / 2))).2++(Qx q (l.drop ((l.length+1) / 2))).2++[(b,a)])).map Bw),.blk g 122 [c0,c1,c2,c3,c4,c5,c6,c7,c8,c9,c10,c11,y0,y1,.orow r2 10 0 ((ms++(Qx q (l.take ((l.length+1) / 2))).2++(Qx q (l.drop ((l.length+1) / 2))).2).length)]]) rfl rfl rfl rfl ⟨Qv rfl rfl,Qv rfl rfl,Kj rfl rfl rfl,Wq Ba rfl rfl,Xb 0 qGj qGi rfl rfl rfl rfl rfl,Qv rfl rfl,Qi (0) V0 Wb rfl rfl (rfl) (Qg rfl) rfl rfl,Zq qUo Wb rfl rfl rfl rfl,Qv rfl rfl,Qi (0) V0 Wb rfl rfl (rfl) (Qg rfl) rfl rfl,Zq qUo Wb rfl rfl rfl rfl,F5 (Qb9) rfl rfl rfl rfl,Rm qWn qUy qUq rfl rfl rfl rfl rfl rfl rfl rfl rfl rfl,?_,trivial⟩ ?_ ?_)
  ·refine Km fun N k_=>?_
   refine Zg (ls2:=(ms++((Qx q (l.take ((l.length+1) / 2))).2++(Qx q (l.drop ((l.length+1) / 2))).2++[(b,a)])).map Bw) (m2:=(ms++((Qx q (l.take ((l.length+1) / 2))).2++(Qx q (l.drop ((l.length+1) / 2))).2++[(b,a)])).length) 1 qWn qWn Tryz.typeInfo198 rfl rfl qUy qUq rfl rfl rfl rfl rfl rfl rfl (by rw [Zr]; exact X2 _) (Js rfl) (Jx rfl) (by rw [Fl,Fl]; show _+1<_; omega) (by rw [Y0 (by rw [Zr]; exact X2 _),show (ms++((Qx q (l.take ((l.length+1) / 2))).2++(Qx q (l.drop ((l.length+1) / 2))).2++[(b,a)]))=(ms++(Qx q (l.take ((l.length+1) / 2))).2++(Qx q (l.drop ((l.length+1) / 2))).2)++[(b,a)] from by simp only [P6]]; exact I9 Bw _ (b,a)) (by rw [show (ms++((Qx q (l.take ((l.length+1) / 2))).2++(Qx q (l.drop ((l.length+1) / 2))).2++[(b,a)]))=(ms++(Qx q (l.take ((l.length+1) / 2))).2++(Qx q (l.drop ((l.length+1) / 2))).2)++[(b,a)] from by simp only [P6]]; exact Qgk _ _) fun r1=>?_
   exact Qo (k_ _ _ ⟨_,rfl,rfl⟩)
  ·rintro u_ B_ ⟨r3,rfl,rfl⟩
   exact ⟨Qv rfl rfl,Qv rfl rfl,Kj rfl rfl rfl,Wq Ba rfl rfl,Xb 1 qGj qGi rfl rfl rfl rfl rfl,Qv rfl rfl,Qi (0) V0 Wb rfl rfl (rfl) (Qg rfl) rfl rfl,Zq qUo Wb rfl rfl rfl rfl,Qv rfl rfl,Qi (0) V0 Wb rfl rfl (rfl) (Qg rfl) rfl rfl,Zq qUo Wb rfl rfl rfl rfl,F5 (Qb9) rfl rfl rfl rfl,Rm qWn qUy qUq rfl rfl rfl rfl rfl rfl rfl rfl rfl rfl,trivial,trivial⟩
  rintro u_ B_ ⟨r3,rfl,rfl⟩
  refine ⟨_,rfl,kn ?_⟩
  refine Xu tt 4 [1] rfl ?_
  refine Qf tt 1 [] (Yc 1 V0 Wb rfl rfl rfl (X2 1) (Js rfl) (l':=[Wp b]) rfl rfl) rfl ?_
  refine Yi 1 rfl rfl ?_
  refine Ey ?_
  exact ⟨_,[],_,I6 Tryz.results205 (Kb rfl rfl),rfl,by rw [hp]; rfl,r3,by rw [hp]⟩
 have hp:Qx q l=([a],(Qx q (l.take ((l.length+1) / 2))).2++(Qx q (l.drop ((l.length+1) / 2))).2++[(a,b)]):=by rw [G0 q h2 ha hb]; simp [Ty,hbt]
 refine Qr tt 3 rfl ?_
 refine Qf tt 1 [] (Qh (m:=l.length) V0 rfl (Vx _) rfl) rfl ?_
 refine Z8 tt 1 [] (decide_eq_false (by omega)) rfl rfl ?_
 refine Qf tt 0 [] (Qh (m:=l.length) V0 rfl (Vx _) rfl) rfl ?_
 refine Qf tt 0 [] (Zb (r:=((l.length+1:Nat):Int)) rfl rfl (Qm (by omega) (by omega)) rfl) rfl ?_
 refine Qf tt 1 [] (Fk (r:=(((l.length+1) / 2:Nat):Int)) rfl rfl (by omega) (by rw [show Int.tdiv ((l.length+1:Nat):Int) 2=((((l.length+1) / 2):Nat):Int) from rfl]; exact Xq (by omega) (by omega)) rfl) rfl ?_
 refine kc (Kl Qp 11 [18,19,20,21,22,23,24,25,26,27,28] [[],[],[],[],[2,3],[0,1,4],[],[],[],[],[8,9]] [.one (.ow g 0),.agg [pl ([-q.num,(q.den:Int)]),sg q.num,mg q.num,sg ((q.den:Int)),mg ((q.den:Int)),sg q.num,mg q.num,sg ((q.den:Int)),mg ((q.den:Int))],.one (V5 l),.one (.int .i64 ((((l.length+1) / 2:Nat):Int))),.one (V5 ((l.take ((l.length+1) / 2)))),.un,.one (.ow g 0),.agg [pl ([-q.num,(q.den:Int)]),sg q.num,mg q.num,sg ((q.den:Int)),mg ((q.den:Int)),sg q.num,mg q.num,sg ((q.den:Int)),mg ((q.den:Int))],.one (V5 l),.one (.int .i64 ((((l.length+1) / 2:Nat):Int))),.one (V5 ((l.drop ((l.length+1) / 2))))] 5 (fun u B=>∃ r1,u=.one (V5 [a])∧B=[.blk g 122 [c0,c1,c2,c3,c4,c5,c6,c7,c8,c9,c10,c11,y0,y1,.orow r1 10 0 ((ms++(Qx q (l.take ((l.length+1) / 2))).2).length)],.row r1 198 10 ((ms++(Qx q (l.take ((l.length+1) / 2))).2).map Bw)]) rfl rfl rfl rfl ⟨Qv rfl rfl,Zq qWx qWp rfl rfl rfl rfl,Qv rfl rfl,Qv rfl rfl,Yc ((l.length+1) / 2) V0 Wb rfl rfl rfl (by rw [Zr]; omega) (Jj l (fun _=>rfl)) (l':=(l.take ((l.length+1) / 2)).map Wp) (by rw [Ix]) rfl,?_,Qv rfl rfl,Zq qWx qWp rfl rfl rfl rfl,Qv rfl rfl,Qv rfl rfl,Uv ((l.length+1) / 2) V0 Wb rfl rfl rfl (by rw [Zr]; omega) (Jj l (fun _=>rfl)) (l':=(l.drop ((l.length+1) / 2)).map Wp) (by rw [qJm]) rfl,trivial⟩ ?_ ?_)
 ·refine Km fun N k_=>?_
  refine Yh qGr rfl rfl rfl rfl (ih1 r ms (by omega)) rfl fun r_ B_ hr_=>?_
  obtain ⟨rfl,r1,rfl⟩:=hr_
  exact Qo (k_ _ _ ⟨r1,by rw [ha],rfl⟩)
 ·rintro u_ B_ ⟨r1,rfl,rfl⟩
  exact ⟨Qv rfl rfl,Zq qWx qWp rfl rfl rfl rfl,Qv rfl rfl,Qv rfl rfl,Yc ((l.length+1) / 2) V0 Wb rfl rfl rfl (by rw [Zr]; omega) (Jj l (fun _=>rfl)) (l':=(l.take ((l.length+1) / 2)).map Wp) (by rw [Ix]) rfl,trivial,Qv rfl rfl,Zq qWx qWp rfl rfl rfl rfl,Qv rfl rfl,Qv rfl rfl,Uv ((l.length+1) / 2) V0 Wb rfl rfl rfl (by rw [Zr]; omega) (Jj l (fun _=>rfl)) (l':=(l.drop ((l.length+1) / 2)).map Wp) (by rw [qJm]) rfl,trivial⟩
 rintro u_ B_ ⟨r1,rfl,rfl⟩
 refine ⟨_,rfl,kn ?_⟩
 refine Qq tt rfl ?_
 refine Zn (Yh qGr rfl rfl rfl rfl (ih2 r1 (ms++(Qx q (l.take ((l.length+1) / 2))).2) (by rw [Fl]; omega)) rfl fun r_ B_ hr_=>ko ?_)
 obtain ⟨rfl,r2,rfl⟩:=hr_
 refine X5 (fun _ k_=>Xs 29 (y:=.one (V5 [b])) rfl (by rw [hb]) (Qo k_)) rfl ?_
 refine Qr tt 2 rfl ?_
 refine Qy 7 Qp rfl rfl rfl ?_
 refine Qr tt 1 rfl ?_
 refine kd (Qi (0) V0 Wb rfl rfl (rfl) (Qg rfl) rfl rfl) rfl ?_
 refine Qr tt 2 rfl ?_
 refine kd (Qi (0) V0 Wb rfl rfl (rfl) (Qg rfl) rfl rfl) rfl ?_
 refine Qr tt 2 rfl ?_
 refine Qq tt rfl ?_
 refine kl tt 1 [] Tryz.func98 rfl rfl rfl (Ny ((hl a hal).1) ((hl b hbl).1) ((hl a hal).2) ((hl b hbl).2) (hq)) rfl rfl ?_
 refine Z8 tt 0 [] (by rw [hbt]; rfl) rfl rfl ?_
 refine kc (Kl Qp 14 [41,42,43,44,45,46,47,48,49,50,51,52,53,54] [[],[],[1],[2],[3],[],[5],[6],[],[8],[9],[7,10],[11],[4,12]] [.one (.ow g 0),.one (.ow g 0),.one (.ow g 0),.one (.ow g 14),.one (.orow r2 10 0 ((ms++(Qx q (l.take ((l.length+1) / 2))).2++(Qx q (l.drop ((l.length+1) / 2))).2).length)),.one (V5 ([a])),.one (.sh [pl a.c.x,pl a.c.y,sg a.c.d,mg a.c.d,.int .i64 a.id]),.agg [pl a.c.x,pl a.c.y,sg a.c.d,mg a.c.d,.int .i64 a.id],.one (V5 ([b])),.one (.sh [pl b.c.x,pl b.c.y,sg b.c.d,mg b.c.d,.int .i64 b.id]),.agg [pl b.c.x,pl b.c.y,sg b.c.d,mg b.c.d,.int .i64 b.id],.agg [pl a.c.x,pl a.c.y,sg a.c.d,mg a.c.d,.int .i64 a.id,pl b.c.x,pl b.c.y,sg b.c.d,mg b.c.d,.int .i64 b.id],.one (.row [[pl a.c.x,pl a.c.y,sg a.c.d,mg a.c.d,.int .i64 a.id,pl b.c.x,pl b.c.y,sg b.c.d,mg b.c.d,.int .i64 b.id]]),.un] 13 (fun u B=>∃ r3,u=.one (.orow r3 10 0 (ms++((Qx q (l.take ((l.length+1) / 2))).2++(Qx q (l.drop ((l.length+1) / 2))).2++[(a,b)])).length)∧B=[.row r3 198 10 ((ms++((Qx q (l.take ((l.length+1) / 2))).2++(Qx q (l.drop ((l.length+1) / 2))).2++[(a,b)])).map Bw),.blk g 122 [c0,c1,c2,c3,c4,c5,c6,c7,c8,c9,c10,c11,y0,y1,.orow r2 10 0 ((ms++(Qx q (l.take ((l.length+1) / 2))).2++(Qx q (l.drop ((l.length+1) / 2))).2).length)]]) rfl rfl rfl rfl ⟨Qv rfl rfl,Qv rfl rfl,Kj rfl rfl rfl,Wq Ba rfl rfl,Xb 0 qGj qGi rfl rfl rfl rfl rfl,Qv rfl rfl,Qi (0) V0 Wb rfl rfl (rfl) (Qg rfl) rfl rfl,Zq qUo Wb rfl rfl rfl rfl,Qv rfl rfl,Qi (0) V0 Wb rfl rfl (rfl) (Qg rfl) rfl rfl,Zq qUo Wb rfl rfl rfl rfl,F5 (Qb9) rfl rfl rfl rfl,Rm qWn qUy qUq rfl rfl rfl rfl rfl rfl rfl rfl rfl rfl,?_,trivial⟩ ?_ ?_)
 ·refine Km fun N k_=>?_
  refine Zg (ls2:=(ms++((Qx q (l.take ((l.length+1) / 2))).2++(Qx q (l.drop ((l.length+1) / 2))).2++[(a,b)])).map Bw) (m2:=(ms++((Qx q (l.take ((l.length+1) / 2))).2++(Qx q (l.drop ((l.length+1) / 2))).2++[(a,b)])).length) 1 qWn qWn Tryz.typeInfo198 rfl rfl qUy qUq rfl rfl rfl rfl rfl rfl rfl (by rw [Zr]; exact X2 _) (Js rfl) (Jx rfl) (by rw [Fl,Fl]; show _+1<_; omega) (by rw [Y0 (by rw [Zr]; exact X2 _),show (ms++((Qx q (l.take ((l.length+1) / 2))).2++(Qx q (l.drop ((l.length+1) / 2))).2++[(a,b)]))=(ms++(Qx q (l.take ((l.length+1) / 2))).2++(Qx q (l.drop ((l.length+1) / 2))).2)++[(a,b)] from by simp only [P6]]; exact I9 Bw _ (a,b)) (by rw [show (ms++((Qx q (l.take ((l.length+1) / 2))).2++(Qx q (l.drop ((l.length+1) / 2))).2++[(a,b)]))=(ms++(Qx q (l.take ((l.length+1) / 2))).2++(Qx q (l.drop ((l.length+1) / 2))).2)++[(a,b)] from by simp only [P6]]; exact Qgk _ _) fun r2=>?_
  exact Qo (k_ _ _ ⟨_,rfl,rfl⟩)
 ·rintro u_ B_ ⟨r3,rfl,rfl⟩
  exact ⟨Qv rfl rfl,Qv rfl rfl,Kj rfl rfl rfl,Wq Ba rfl rfl,Xb 1 qGj qGi rfl rfl rfl rfl rfl,Qv rfl rfl,Qi (0) V0 Wb rfl rfl (rfl) (Qg rfl) rfl rfl,Zq qUo Wb rfl rfl rfl rfl,Qv rfl rfl,Qi (0) V0 Wb rfl rfl (rfl) (Qg rfl) rfl rfl,Zq qUo Wb rfl rfl rfl rfl,F5 (Qb9) rfl rfl rfl rfl,Rm qWn qUy qUq rfl rfl rfl rfl rfl rfl rfl rfl rfl rfl,trivial,trivial⟩
 rintro u_ B_ ⟨r3,rfl,rfl⟩
 refine ⟨_,rfl,kn ?_⟩
 refine Xu tt 4 [1] rfl ?_
 refine Qf tt 1 [] (Yc 1 V0 Wb rfl rfl rfl (X2 1) (Js rfl) (l':=[Wp a]) rfl rfl) rfl ?_
 refine Yi 1 rfl rfl ?_
 refine Ey ?_
 exact ⟨_,[],_,I6 Tryz.results205 (Kb rfl rfl),rfl,by rw [hp]; rfl,r3,by rw [hp]⟩
theorem Qnr {g:Nat} {c0 c1 c2 c3 c4 c5 c6 c7 c8 c9 c10 c11 y0 y1:LV} {q:Rat} (hq:Qb q):∀ (k:Nat) (l:List Pt),l.length≤k→Df l→l.length≤1000→Qnf g c0 c1 c2 c3 c4 c5 c6 c7 c8 c9 c10 c11 y0 y1 q l
 | 0,l,hk,hl,hn=>fun r ms hm=>Dm hq hl hn hm fun l' h' _=>absurd h' (by omega)
 | k+1,l,hk,hl,hn=>fun r ms hm=>Dm hq hl hn hm fun l' h' hg=>Qnr hq k l' (by omega) hg (by omega)
theorem Qf3 (q:Rat) {l:List Pt}:∀ m∈(Qx q l).2,m.1∈l∧m.2∈l:=by
 rcases Hl l.length with h | h
 ·rw [Kn q (by omega)]; simp
 obtain ⟨_,_,_,h2⟩:=Vv q l.length l (X2 _) h
 exact h2
def Td (q:Rat) (gs:List (Pt×Pt)):List Ct:=gs.map fun m=>Jg q m.1 m.2
theorem Qol {q:Rat} {gs:List (Pt×Pt)} {i:Nat} {m:Pt×Pt} (h:gs[i]? = some m):Td q (gs.take (i+1))=Td q (gs.take i)++[Jg q m.1 m.2]:=by
 unfold Td; rw [qXq,h,F6]; rfl
theorem Qok {q:Rat} {l:List Pt} (hl:Df l):∀ c∈Td q (Qx q l).2,Pb c.p:=by
 intro c hc
 obtain ⟨m,hm,rfl⟩:=Ww.1 hc
 obtain ⟨h1,h2⟩:=Qf3 q m hm
 exact Qar (Ip (hl _ h2).2 (hl _ h1).2).1 (Iq (hl _ h2).2 (hl _ h1).2).1
set_option maxRecDepth 20000 in
theorem Lg {g:Nat} {c0 c1 c2 c3 c4 c5 c6 c7 c8 c9 c10 c11 y1 y2:LV} {l:List Pt} {q:Rat} (hq:Qb q) (hl:Df l) (hn:l.length≤1000):Us Tryz.prog 121 [.one (.ow g 0),.agg [pl ([-q.num,(q.den:Int)]),sg q.num,mg q.num,sg ((q.den:Int)),mg ((q.den:Int)),sg q.num,mg q.num,sg ((q.den:Int)),mg ((q.den:Int))]] [.blk g 122 [c0,c1,c2,c3,c4,c5,c6,c7,c8,c9,c10,c11,V5 l,y1,y2]] fun r B=>r=.one (cts ((Td q (Qx q l).2)))∧B=[.blk g 122 [c0,c1,c2,c3,c4,c5,c6,c7,c8,c9,c10,c11,V5 l,V5 ((Qx q l).1),Mj ((Qx q l).2)]]:=by
 refine X4 tt 0 [] Tryz.func121 Tryz.ntmps121 rfl rfl rfl ?_
 have hgl:=Vz q l.length l (X2 _)
 skip
 refine Xu tt 6 [0] rfl ?_
 refine X5 (fun _ k_=>Mv 0 14 198 10 rfl rfl rfl (Qo k_)) rfl ?_
 refine Qq tt rfl ?_
 refine kc (Kl Qp 9 [13,14,15,16,17,18,19,20,21] [[],[],[],[],[3],[4],[5],[6],[1,2,7]] [.one (.ow g 0),.one (.ow g 0),.agg [pl ([-q.num,(q.den:Int)]),sg q.num,mg q.num,sg ((q.den:Int)),mg ((q.den:Int)),sg q.num,mg q.num,sg ((q.den:Int)),mg ((q.den:Int))],.one (.ow g 0),.one (.ow g 0),.one (.ow g 12),.agg [V5 l],.one (V5 l),.un] 8 (fun u B=>∃ r1,u=.one (V5 (Qx q l).1)∧B=[.blk g 122 [c0,c1,c2,c3,c4,c5,c6,c7,c8,c9,c10,c11,V5 l,y1,.orow r1 10 0 ((Qx q l).2.length)],.row r1 198 10 ((Qx q l).2.map Bw)]) rfl rfl rfl rfl ⟨Qv rfl rfl,Qv rfl rfl,Zq qWx qWp rfl rfl rfl rfl,Qv rfl rfl,Kj rfl rfl rfl,Wq Qfh rfl rfl,Xb 0 qFv qFk rfl rfl rfl rfl rfl,Zu Tryz.func197 rfl rfl rfl rfl (Nu) rfl,?_,trivial⟩ ?_ ?_)
 ·refine Km fun N k_=>?_
  refine Yh (Bin:=[.blk g 122 [c0,c1,c2,c3,c4,c5,c6,c7,c8,c9,c10,c11,V5 l,y1,.orow none 10 0 0],.row none 198 10 ([])]) qGr rfl rfl rfl rfl (Qnr hq l.length l (X2 _) hl hn none [] (by simp; omega)) rfl fun r_ B_ hr_=>?_
  obtain ⟨rfl,r1,rfl⟩:=hr_
  exact Qo (k_ _ _ ⟨r1,rfl,rfl⟩)
 ·rintro u_ B_ ⟨r1,rfl,rfl⟩
  exact ⟨Qv rfl rfl,Qv rfl rfl,Zq qWx qWp rfl rfl rfl rfl,Qv rfl rfl,Kj rfl rfl rfl,Wq Qfh rfl rfl,Xb 0 qFv qFk rfl rfl rfl rfl rfl,Zu Tryz.func197 rfl rfl rfl rfl (Nu) rfl,trivial,trivial⟩
 rintro u_ B_ ⟨r1,rfl,rfl⟩
 refine ⟨_,rfl,kn ?_⟩
 refine Xu tt 3 [0] rfl ?_
 refine X5 (fun _ k_=>G5 1 0 14 rfl rfl rfl rfl (by rw [Zr]) (by rw [Zr]; omega) (Qo k_)) rfl ?_
 refine Xu tt 5 [0] rfl ?_
 refine Qf tt 1 [] (Qh (m:=((Qx q l).2).length) qWn rfl (Qgc _) rfl) rfl ?_
 refine X5 (fun _ k_=>Xy [5] 166 7 rfl (Zc rfl) rfl (Qo k_)) rfl ?_
 refine Qj [0,3,5,27,28,29] rfl rfl ?_
 refine Zl (fun m L B=>∃ i r,i≤(Qx q l).2.length∧m=(Qx q l).2.length-i∧L=[(0,.one (.ow g 0)),(3,.one (.sh [pl ([-q.num,(q.den:Int)]),sg q.num,mg q.num,sg ((q.den:Int)),mg ((q.den:Int)),sg q.num,mg q.num,sg ((q.den:Int)),mg ((q.den:Int))])),(5,.one (.orow r 7 0 i)),(27,.one (Mj ((Qx q l).2))),(28,.one (.int .i64 (((((Qx q l).2).length:Nat):Int)))),(29,.one (.int .i64 (((i:Nat):Int))))]∧B=[.row r 166 7 ((Td q ((Qx q l).2.take i)).map Gi),.blk g 122 [c0,c1,c2,c3,c4,c5,c6,c7,c8,c9,c10,c11,V5 l,V5 ((Qx q l).1),Mj ((Qx q l).2)]]) (m:=_) ⟨0,none,K6 _,rfl,rfl,rfl⟩ ?_
 rintro m L B ⟨i,r,hp0,hm,rfl,rfl⟩
 refine Qq tt rfl ?_
 by_cases hlt:i<(Qx q l).2.length
 ·obtain ⟨m_,hm⟩:∃ m_,(Qx q l).2[i]? = some m_:=⟨_,Xx hlt⟩
  obtain ⟨hm1,hm2⟩:=Qf3 q m_ (Vo hm)
  have hml:(Td q ((Qx q l).2.take i)).length=i:=by unfold Td; rw [Zr,Kd]; omega
  refine Qr tt 1 rfl ?_
  refine Xh tt 0 [] (decide_eq_true (by omega)) rfl rfl ?_
  refine Qf tt 1 [] (Qi (i) qWn qUy rfl rfl (rfl) (Qg hm) rfl rfl) rfl ?_
  refine Zn (Qn qUq rfl rfl fun g1=>ko ?_)
  refine Xu tt 2 [0] rfl ?_
  refine Qf tt 1 [0] (Xa 0 qGg Wb rfl rfl rfl (by decide) rfl) rfl ?_
  refine Qf tt 2 [0] (Xa 1 qGg Wb rfl rfl rfl (by decide) rfl) rfl ?_
  refine kl tt 3 [] Tryz.func201 rfl rfl rfl (Qch ((hl _ hm1).1) ((hl _ hm2).1) ((hl _ hm1).2) ((hl _ hm2).2) (hq)) rfl rfl ?_
  refine Zn (Qn qUp rfl rfl fun g2=>ko ?_)
  refine Xu tt 5 [0,0] rfl ?_
  refine Zn (Zg (ls2:=((Td q ((Qx q l).2.take (i+1))).map Gi)) (m2:=i+1) 2 qWb qWb Tryz.typeInfo166 rfl rfl qWy qUp rfl rfl rfl rfl rfl rfl rfl (by rw [Zr]; omega) (Js rfl) (Jx rfl) (by show _+1<_; omega) (by rw [Y0 (by rw [Zr]; omega),Qol hm]; exact I9 Gi _ _) (rfl) fun r3=>ko ?_)
  refine Qr tt 1 rfl ?_
  refine Qf tt 1 [] (Zb (r:=((i+1:Nat):Int)) rfl rfl (Qm (by omega) (by omega)) rfl) rfl ?_
  refine Qj [0,3,5,27,28,29] rfl rfl ?_
  refine Yt 1 rfl rfl ?_
  refine Yt 1 rfl rfl ?_
  refine Q8 ?_
  refine ⟨_,?_,i+1,r3,by omega,rfl,rfl,rfl⟩
  omega
 have hi:(Qx q l).2.take i=(Qx q l).2:=Y0 (by omega)
 have hml:(Td q (Qx q l).2).length=(Qx q l).2.length:=by unfold Td; rw [Zr]
 refine X5 (fun _ k_=>Xe (L2:=_) 0 [5] rfl (Zc rfl) (by rw [Zr,hi]; omega) (by rw [Zr,hi]; omega) rfl (Qo k_)) rfl ?_
 refine X5 (fun _ k_=>Xs 5 (y:=.one (cts (Td q (Qx q l).2))) rfl (by rw [hi]; rfl) (Qo k_)) rfl ?_
 refine Qr tt 1 rfl ?_
 refine Z8 tt 2 [] (decide_eq_false (by omega)) rfl rfl ?_
 refine Tr ?_
 exact ⟨_,[],_,I6 Tryz.results121 (Kb rfl rfl),rfl,⟨rfl,rfl⟩⟩
theorem Bp (q:Rat) (gs:List (Pt×Pt)):(Td q gs).length=gs.length:=by simp [Td]
set_option maxRecDepth 20000 in
theorem Mh {b1 b2:Bool} {l1 l2:List Nat} {n d:Int} {zs:List (List LV)} {qs:List Pt} (h1:Yx (.bool b1) (Xv l1) n) (h2:Yx (.bool b2) (Xv l2) d) (hn:Xj n≤4294967295) (hd:Xj d≤4294967295) (hq:Qb (Qz n d)) (hz:IsPts 4294967294 1073741824 zs qs) (hg:Df qs) (hl:qs.length≤6) (he:(Jk [] qs).2=0):Us Tryz.prog 49 [.agg [.bool b1,Xv l1,.bool b2,Xv l2],.one (.row zs)] [] fun R B=>∃ g,R=.tup [.one (.ow g 0),.one (.int .i64 0)]∧B=[.blk g 122 [.bool true,pl ([-((Qz n d)).num,(((Qz n d)).den:Int)]),sg ((((Qz n d))).num),mg ((((Qz n d))).num),sg (((((Qz n d))).den:Int)),mg (((((Qz n d))).den:Int)),sg ((((Qz n d))).num),mg ((((Qz n d))).num),sg (((((Qz n d))).den:Int)),mg (((((Qz n d))).den:Int)),T4 ((Z7 (Td ((Qz n d)) (Qx ((Qz n d)) ((Jk [] qs).1)).2))),.int .i64 0,V5 ((Jk [] qs).1),V5 ((Qx ((Qz n d)) ((Jk [] qs).1)).1),Mj ((Qx ((Qz n d)) ((Jk [] qs).1)).2)]]:=by
 refine X4 tt 0 [] Tryz.func49 Tryz.ntmps49 rfl rfl rfl ?_
 have hgl:Df (Jk [] qs).1:=fun a ha=>hg a ((Qfy qs [] ha).resolve_right (by simp))
 have hln:=Qfx qs
 have hpg:=Vz (Qz n d) (Jk [] qs).1.length (Jk [] qs).1 (X2 _)
 skip
 refine Qr tt 4 rfl ?_
 refine kl tt 3 [] Tryz.func114 rfl rfl rfl (Qew hz hl) rfl rfl ?_
 refine Zn (Qn qFc rfl rfl fun g1=>ko ?_)
 refine Xu tt 4 [0] rfl ?_
 refine Z8 tt 2 [0] (decide_eq_false (fun h=>h he)) rfl rfl ?_
 refine Zn (Yy rfl rfl rfl fun g2=>ko ?_)
 refine Qr tt 2 rfl ?_
 refine kw (Zu Tryz.func115 rfl rfl rfl rfl (Qnq h1 h2 hn hd (hq.mono (by omega))) rfl) ?_
 refine Zn (Qn qFe rfl rfl fun g3=>ko ?_)
 refine Xu tt 1 [0] rfl ?_
 refine kc (Kl Qp 7 [23,24,25,26,27,28,29] [[],[0],[1],[],[],[],[4,5]] [.one (.ow g2 0),.one (.ow g2 0),.one (.ow g2 0),.agg [pl ([-((Qz n d)).num,(((Qz n d)).den:Int)]),sg ((((Qz n d))).num),mg ((((Qz n d))).num),sg (((((Qz n d))).den:Int)),mg (((((Qz n d))).den:Int)),sg ((((Qz n d))).num),mg ((((Qz n d))).num),sg (((((Qz n d))).den:Int)),mg (((((Qz n d))).den:Int))],.one (.ow g2 0),.agg [pl ([-((Qz n d)).num,(((Qz n d)).den:Int)]),sg ((((Qz n d))).num),mg ((((Qz n d))).num),sg (((((Qz n d))).den:Int)),mg (((((Qz n d))).den:Int)),sg ((((Qz n d))).num),mg ((((Qz n d))).num),sg (((((Qz n d))).den:Int)),mg (((((Qz n d))).den:Int))],.un] 6 (fun u B=>u=.one (cts ((Td ((Qz n d)) (Qx ((Qz n d)) ((Jk [] qs).1)).2)))∧B=[.blk g2 122 [.bool false,.nils,.bool false,.nils,.bool false,.nils,.bool false,.nils,.bool false,.nils,.nils,.int .i64 0,V5 ((Jk [] qs).1),V5 ((Qx ((Qz n d)) ((Jk [] qs).1)).1),Mj ((Qx ((Qz n d)) ((Jk [] qs).1)).2)],.blk g3 59 [pl ([-((Qz n d)).num,(((Qz n d)).den:Int)]),sg ((((Qz n d))).num),mg ((((Qz n d))).num),sg (((((Qz n d))).den:Int)),mg (((((Qz n d))).den:Int)),sg ((((Qz n d))).num),mg ((((Qz n d))).num),sg (((((Qz n d))).den:Int)),mg (((((Qz n d))).den:Int))],.blk g1 106 [V5 ((Jk [] qs).1)]]) rfl rfl rfl rfl ⟨Qv rfl rfl,Kj rfl rfl rfl,Wq Qfg rfl rfl,Xb 0 qWx qWp rfl rfl rfl rfl rfl,Qv rfl rfl,Xb 0 qWx qWp rfl rfl rfl rfl rfl,?_,trivial⟩ ?_ ?_)
 ·refine Km fun N k_=>?_
  refine Qel 1 rfl ?_
  refine Yh (Bin:=[.blk g2 122 [.bool false,.nils,.bool false,.nils,.bool false,.nils,.bool false,.nils,.bool false,.nils,.nils,.int .i64 0,V5 ((Jk [] qs).1),.nils,.nils]]) Tryz.func121 rfl rfl rfl rfl (Lg hq hgl (by omega)) rfl fun r_ B_ hr_=>?_
  obtain ⟨rfl,rfl⟩:=hr_
  exact Qo (k_ _ _ ⟨rfl,rfl⟩)
 ·rintro u_ B_ ⟨rfl,rfl⟩
  exact ⟨Qv rfl rfl,Kj rfl rfl rfl,Wq Qfg rfl rfl,Xb 1 qWx qWp rfl rfl rfl rfl rfl,Qv rfl rfl,Xb 1 qWx qWp rfl rfl rfl rfl rfl,trivial,trivial⟩
 rintro u_ B_ ⟨rfl,rfl⟩
 refine ⟨_,rfl,kn ?_⟩
 refine Qq tt rfl ?_
 refine X5 (fun _ k_=>Vn (ys:=[.bool false,.row ([]),.bool false,.row ([]),.bool false,.row ([]),.bool false,.row ([]),.bool false,.row ([]),T4 ([]),.int .i64 0,V5 ((Jk [] qs).1),V5 ((Qx ((Qz n d)) ((Jk [] qs).1)).1),Mj ((Qx ((Qz n d)) ((Jk [] qs).1)).2)]) 0 rfl rfl rfl (Qo k_)) rfl ?_
 refine Zn (Yh (Bin:=[.blk g2 122 [.bool false,.row ([]),.bool false,.row ([]),.bool false,.row ([]),.bool false,.row ([]),.bool false,.row ([]),T4 ([]),.int .i64 0,V5 ((Jk [] qs).1),V5 ((Qx ((Qz n d)) ((Jk [] qs).1)).1),Mj ((Qx ((Qz n d)) ((Jk [] qs).1)).2)]]) Tryz.func116 rfl rfl rfl rfl (Qcj (ws:=[]) (by simp) (Qok hgl) (by rw [Bp]; omega) (hq.mono (by omega))) rfl fun r_ B_ hr_=>ko ?_)
 obtain ⟨rfl,rfl⟩:=hr_
 refine Qr tt 3 rfl ?_
 refine Ey ?_
 exact ⟨_,[1,1],_,Qgh Tryz.results49 (Kb rfl rfl) (Kb rfl rfl),rfl,_,rfl,rfl⟩
set_option maxRecDepth 20000 in
theorem Rh {g:Nat} {c0 c1 c2 c3 c4 c5 c6 c7 c8 c9 c10 c11 y0 y2:LV} {w:Pt}:Us Tryz.prog 43 [.one (.ow g 0)] [.blk g 122 [c0,c1,c2,c3,c4,c5,c6,c7,c8,c9,c10,c11,y0,V5 ([w]),y2]] fun r B=>r=.tup [.one (.int .i64 w.id),.one (.bool true)]∧B=[.blk g 122 [c0,c1,c2,c3,c4,c5,c6,c7,c8,c9,c10,c11,y0,V5 ([w]),y2]]:=by
 refine X4 tt 6 [0] Tryz.func43 Tryz.ntmps43 rfl rfl rfl ?_
 refine Qf tt 1 [] (Qh (m:=([w]).length) V0 rfl (Vx _) rfl) rfl ?_
 refine Z8 tt 4 [0] (rfl) rfl rfl ?_
 refine Qf tt 4 [] (Qi (0) V0 Wb rfl rfl (rfl) (Qg rfl) rfl rfl) rfl ?_
 refine Tr ?_
 exact ⟨_,[],_,Qgh Tryz.results43 (Kb rfl rfl) (Kb rfl rfl),rfl,⟨rfl,rfl⟩⟩
end Orr



namespace Orr
open Go
variable {P:Program} {ops:Array Oper} {n:Nat} {L:Sg} {B:List OB} {Q:Exit→Sg→List OB→Prop}
def WOps (P:Program) (ops:Array Oper) (n:Nat) (L L0:Sg) (B:List OB) (D:List Nat) (us:List AV) (rd:List Nat):Nat→List Sg→List Oper→Prop
  | i,dep::deps,o::os=>AP P ops n o (D.getD i 0) (us.getD i .un) (dep++(match rd.contains i with | true=>L | false=>L0)) B∧WOps P ops n L L0 B D us rd (i+1) deps os
  | _,_,_=>True
theorem WOps.get {L0:Sg} {D:List Nat} {us:List AV} {rd:List Nat}:∀ {os:List Oper} {ds:List Sg} {k:Nat},WOps P ops n L L0 B D us rd k ds os→∀ (i:Nat) dep o,ds[i]? = some dep→os[i]? = some o→AP P ops n o (D.getD (k+i) 0) (us.getD (k+i) .un) (dep++(match rd.contains (k+i) with | true=>L | false=>L0)) B
  | [],_,_,_,i,_,_,_,ho=>by simp at ho
  | _::_,[],_,_,i,_,_,hd,_=>by simp at hd
  | o::os,dp::ds,k,h,0,dep,o',hd,ho=>by simp at hd ho; subst hd; subst ho; exact h.1
  |
   o::os,dp::ds,k,h,i+1,dep,o',hd,ho=>by
   have:=WOps.get h.2 i dep o' (by simpa using hd) (by simpa using ho)
   rw [show k+(i+1)=k+1+i from by omega]
   exact this
theorem Qh5 {ws:List Nat}:∀ {L:Sg} {t:Nat} {x:AV},lk (L.filter fun p => !ws.contains p.1) t=some x→ws.contains t=false∧lk L t=some x
  | [],t,x,h=>(nomatch (show none=some x from h))
  |
   (s,u)::L,t,x,h=>by
   cases hs:ws.contains s with
   |
    true =>
    rw [qXm (by simp only [hs]; decide)] at h
    obtain ⟨h1,h2⟩:=Qh5 h
    refine ⟨h1,?_⟩
    simp only [lk]
    cases e:Nat.beq t s
    · exact h2
    · have:=Fj e; subst this; rw [hs] at h1; cases h1
   |
    false =>
    rw [qXn (by simp only [hs]; decide)] at h
    simp only [lk] at h ⊢
    cases e:Nat.beq t s <;> rw [e] at h
    · exact Qh5 h
    · have:=Fj e; subst this; exact ⟨hs,h⟩
theorem Bn {ws:List Nat} {t:Nat} (ht:ws.contains t=false):∀ {L:List (Nat×Value)},Z0 (L.filter fun p => !ws.contains p.1) t=Z0 L t
  | []=>rfl
  |
   (s,u)::L=>by
   cases hs:ws.contains s with
   |
    true =>
    rw [qXm (by simp only [hs]; decide),Bn ht]
    simp only [Z0]
    cases e:Nat.beq t s
    · rfl
    · have:=Fj e; subst this; rw [hs] at ht; cases ht
   |
    false =>
    rw [qXn (by simp only [hs]; decide)]
    simp only [Z0]
    cases e:Nat.beq t s
    · exact Bn ht
    · rfl
theorem Ea {ws:List Nat} {t:Nat} (ht:ws.contains t=true):∀ {L:List (Nat×Value)},Z0 (L.filter fun p => !ws.contains p.1) t=none
  | []=>rfl
  |
   (s,u)::L=>by
   cases hs:ws.contains s with
   | true=>rw [qXm (by simp only [hs]; decide)]; exact Ea ht
   |
    false =>
    rw [qXn (by simp only [hs]; decide)]
    simp only [Z0]
    cases e:Nat.beq t s
    · exact Ea ht
    · have:=Fj e; subst this; rw [hs] at ht; cases ht
theorem Qni {id:Nat} {l:List Oper} (hm:P.follows .mixedOrders=true) (m:Nat) (D:List Nat) (deps:List (List Nat)) (us:List AV) (rd ws:List Nat) {L2 L0:Sg} (hchk:K7 l m (D.map some) deps=true)
    (hDm:(Nat.beq D.length m && Nat.beq us.length m && deps.all fun js=>js.all fun j=>Nat.blt j m)=true) (hnone:(D.all fun t=>ws.contains t || (lk L t).isNone)=true)
    (hrd:((List.range m).all fun j => !ws.contains (D.getD j 0) || rd.all fun i=>(Wa l j).contains i)=true) (hL0:(L.filter fun p => !ws.contains p.1)=L0)
    (hops:WOps P l.toArray n L L0 B D us rd 0 (depsOf D us deps) (l.take m))
    (hz:Lr D us L=some L2) (k:AW P l.toArray n (l.drop m) (fun L B=>Q .normal L B) L2 B):AC P n (.region id l.toArray true) Q L B:=by
  subst hL0
  rintro K Ob w0 w a ⟨L',Bs,h,hL,hB⟩
  simp only [qXp,C4] at hDm hnone hrd
  obtain ⟨⟨hD,hU⟩,hdl⟩:=hDm
  have hD:=Fj hD
  have hU:=Fj hU
  have hdl:∀ js∈deps,∀ j∈js,j<m:=fun js hj j hjj=>by have:=hdl js hj j hjj; rwa [Mo] at this
  obtain ⟨L3,h1,h2,h3⟩:=only L hL
  have hst:St K Ob w0 w a n L3 [] Bs:={ h with slots:=fun t v hv=>h.slots t v (h2 t v hv) }
  have hst2:=hst.add (f:=SF L L3 [] [] [] []) ⟨h3,rfl,trivial⟩
  have hc:=Hz hchk
  let Lf:Nat→List (Nat×Value):=fun i=>match rd.contains i with | true=>L3 | false=>L3.filter fun p => !ws.contains p.1
  have hLf:∀ i t v,Z0 (Lf i) t=some v→Z0 L3 t=some v:=by
    intro i t v hv
    simp only [Lf] at hv
    split at hv
    · exact hv
    · cases hw:ws.contains t with
      | true=>rw [Ea hw] at hv; cases hv
      | false=>rwa [Bn hw] at hv
  have hLn:∀ i,i<m→∀ j,j<m→dE (D.map some) j=true→i∈Wa l j∨Z0 (Lf i) (dd (D.map some) j)=none:=by
    intro i _ j hj _
    rw [(Ud D j (by rw [hD]; exact hj)).1]
    have hmem:D.getD j 0∈D:=by rw [V6,Xx (by rw [hD]; exact hj)]; exact qJa _
    have hn:=hnone _ hmem
    simp only [Bool.or_eq_true] at hn
    cases hw:ws.contains (D.getD j 0) with
    |
     false =>
     rw [hw] at hn
     have hn:=hn.resolve_left (by decide)
     rw [qXo] at hn
     refine .inr ?_
     cases e:Z0 (Lf i) (D.getD j 0) with
     | none=>rfl
     | some v=>have:=hLf i _ _ e; rw [h1 _ hn] at this; cases this
    |
     true =>
     simp only [Lf]
     cases hr:rd.contains i with
     | false=>exact .inr (Ea hw)
     |
      true =>
      have h5:=hrd j (Tu.2 hj)
      rw [hw] at h5
      simp only [Bool.not_true,Bool.false_or,C4] at h5
      exact .inl (qYj.1 (h5 i (qYj.1 hr)))
  have hdrawops:∀ (js:List (List Nat)) (os:List Oper) (k:Nat),(∀ i dj o,js[i]? = some dj→os[i]? = some o→k+i<m→AP P l.toArray n o (D.getD (k+i) 0) (us.getD (k+i) .un) (dj.map (fun j=>(D.getD j 0,us.getD j .un))++(match rd.contains (k+i) with | true=>L | false=>L.filter fun p => !ws.contains p.1)) B∧∀ j∈dj,j<m)→k+js.length=m →
      DrawOpsW P l.toArray K Ob w0 n Lf [SF L L3 [] [] [] []] (fun _ _ w Bs=>BsRep w (Q3 Ob Bs) B Bs) (D.map some) (us.map Rw) k js os:=by
    intro js
    induction js with
    | nil=>intro os k _ _; cases os <;> trivial
    |
     cons dj js ih =>
     intro os k hall hlen
     rcases os with _ | ⟨o,os⟩
     · trivial
     · refine ⟨?_,ih os (k+1) (fun i dj' o' hd ho hlt=>?_) (by simp at hlen ⊢; omega)⟩
       · intro p _ _ v Fx a' w' Bs hinv hs
         obtain ⟨hap,hjm⟩:=hall 0 dj o rfl rfl (by simp at hlen; omega)
         rw [Mp] at hap
         have hkm:k<m:=by simp at hlen; omega
         rw [Ho D v dj fun j hj=>by rw [hD]; exact hjm j hj] at hs
         have hfacts:∀ j∈dj,ARep w' (Q3 Ob Bs) (v j) (us.getD j .un):=fun j hj=>by
           have:=hs.facts ((us.map Rw).getD j U2 (v j)) (Y7.2 (.inl (Ww.2 ⟨j,hj,rfl⟩)))
           rw [V6,S1,Xx (by rw [hU]; exact hjm j hj)] at this
           rw [V6,Xx (by rw [hU]; exact hjm j hj)]
           exact this
         obtain ⟨h6,_,_⟩:(SF L L3 [] [] [] []).holds w' (Q3 Ob Bs):=hs.facts _ (Y7.2 (.inr (by simp)))
         have h6':∀ t x,lk (match rd.contains k with | true=>L | false=>L.filter fun p => !ws.contains p.1) t=some x→∃ y,Z0 (Lf k) t=some y∧ARep w' (Q3 Ob Bs) y x:=by
           intro t x hx
           simp only [Lf]
           split at hx
           · exact h6 t x hx
           · obtain ⟨hw,hx⟩:=Qh5 hx
             obtain ⟨y,hy,hr⟩:=h6 t x hx
             exact ⟨y,by rw [Bn hw]; exact hy,hr⟩
         have hs2:=hs.add (f:=SF [] [] B Bs [] []) ⟨fun t x (hh:none=some x)=>(nomatch hh),hinv,trivial⟩
         have hw:=hap K Ob w0 w' a' Bs _ _ hs2 (Ft h6' hfacts) hinv
         refine Wt hs.defers (fun _ _ ⟨_,hh,_⟩=>hh.defers) hw fun a2 w2 hh=>?_
         obtain ⟨x,h8,h9⟩:=hh
         obtain ⟨_,h10,_⟩:=h8.fact 0 rfl
         refine wpList_nil ⟨rfl,x,Bs,h10,?_⟩
         have hdk:=Ud D k (by rw [hD]; exact hkm)
         have e5:(us.map Rw).getD k U2=Rw (us[k]'(by rw [hU]; exact hkm)):=by
           rw [V6,S1,Xx (by rw [hU]; exact hkm)]; rfl
         rw [if_pos hdk.2,hdk.1,e5]
         rw [V6 (l:=us),Xx (by rw [hU]; exact hkm)] at h9
         have h8:St K Ob w0 w2 a2 n _ ((SF [] [] B Bs [] []::List.map (fun j=>(List.map Rw us).getD j U2 (v j)) dj)++([SF L L3 [] [] [] []]++Fx)) Bs:=h8
         exact h8.drawEnd (by simp [Z0]) h9
       · have:=hall (i+1) dj' o' (by simpa using hd) (by simpa using ho) (by omega)
         rw [show k+(i+1)=k+1+i from by omega] at this
         exact this
  have hap0:DrawOpsW P l.toArray K Ob w0 n Lf [SF L L3 [] [] [] []] (fun _ _ w Bs=>BsRep w (Q3 Ob Bs) B Bs) (D.map some) (us.map Rw) 0 deps l:=by
    refine hdrawops deps l 0 (fun i dj o hd ho hlt=>⟨?_,hdl dj (Vo hd)⟩) (by rw [Vl]; exact hc.deplen)
    exact hops.get i _ o (Ul hd) (by rw [Ei,if_pos (by omega)]; exact ho)
  refine Qnt hm m (D.map some) deps (us.map Rw) _ hchk hst2 (fun w' hw'=>hB.keep (Qds hw' _)) hLn hLf hap0 fun p _ v a' w' Bs hinv hs=>?_
  rw [Ho D v _ fun j hj=>by rw [hD]; exact Tu.1 hj] at hs
  have hfacts:∀ j∈List.range m,ARep w' (Q3 Ob Bs) (v j) (us.getD j .un):=fun j hj=>by
    have hjm:=Tu.1 hj
    have:=hs.facts ((us.map Rw).getD j U2 (v j)) (Y7.2 (.inl (Ww.2 ⟨j,hj,rfl⟩)))
    rw [V6,S1,Xx (by rw [hU]; exact hjm)] at this
    rw [V6,Xx (by rw [hU]; exact hjm)]
    exact this
  obtain ⟨h6,_,_⟩:(SF L L3 [] [] [] []).holds w' (Q3 Ob Bs):=hs.facts _ (Y7.2 (.inr (by simp)))
  obtain ⟨_,rfl⟩:=Cj hz
  have hzip:D.zip us=(List.range m).map fun j=>(D.getD j 0,us.getD j .un):=by
    apply qVm
    · simp [hD,hU]
    · intro i h1 h2
      simp at h1 h2 ⊢
      have e1:D[i]? = some D[i]:=Xx (by omega)
      have e2:us[i]? = some us[i]:=Xx (by omega)
      simp [e1,e2]
  rw [hzip] at k
  exact k K Ob w0 w' a' _ ⟨_,Bs,hs.noFacts,Ft h6 hfacts,hinv⟩ fun a2 w2 h=>h
end Orr

namespace Orr
theorem Rj (f:Nat→Int):W6 1 f=trim [f 0]:=rfl
theorem Aw (f:Nat→Int):W6 2 f=trim [f 0,f 1]:=rfl
theorem Ch (x:Int):trim [x]=if x=0 then [] else [x]:=rfl
theorem Qbz (x y:Int):trim [x,y]=if y=0 then trim [x] else [x,y]:=by
  simp only [trim]; split <;> split <;> simp_all
theorem bd1 {s:Nat} {x:Int} (h:Xj x≤s):Bd s [x]:=fun z hz=>by simp at hz; subst hz; exact h
theorem bd2 {s:Nat} {x y:Int} (h:Xj x≤s) (h':Xj y≤s):Bd s [x,y]:=fun z hz=>by
  simp only [Vw,No,or_false] at hz
  rcases hz with rfl | rfl <;> assumption
section
variable {x d:Int} (hd:0<d) (hg:Int.gcd x d=1) (hx:Xj x≤1000000) (hs:Xj d≤1000000)
theorem b1 {s:Nat} (h:1≤s):Bd s [1]:=bd1 (Xd (show Xj 1≤1 by decide) h)
include hd in
theorem B0 (hg:Int.gcd x d=1):Vm [x,d]=[x,d]:=by
  have hc:Ux [x,d]=1:=by
    have h1:Qeo [x,d]=1:=by
      show Int.gcd (Int.gcd ((0:Nat):Int) x:Nat) d=1
      rw [show Int.gcd ((0:Nat):Int) x=x.natAbs by simp,show Int.gcd ((x.natAbs:Nat):Int) d=Int.gcd x d by simp [Int.gcd],hg]
    unfold Ux
    rw [if_neg (show ¬Q0 [x,d]<0 from by show ¬d<0; omega),h1]; rfl
  unfold Vm
  rw [hc]
  show W6 2 _=_
  rw [Aw,Qbz]
  show (if d / 1=0 then _ else [x / 1,d / 1])=_
  rw [Int.ediv_one,if_neg (by omega),Int.ediv_one]
theorem Qox:Vm [1]=[1]:=by decide
include hd in
theorem Iu:Vm [d]=[1]:=by
  have hc:Ux [d]=d:=by
    have h1:((Qeo [d]:Nat):Int)=d:=by
      show ((Int.gcd ((0:Nat):Int) d:Nat):Int)=d
      simp; omega
    unfold Ux
    rw [if_neg (show ¬Q0 [d]<0 from by show ¬d<0; omega),h1]
  unfold Vm
  rw [hc]
  show W6 1 _=_
  rw [Rj,Ch]
  show (if d / d=0 then _ else [d / d])=_
  rw [Int.ediv_self (by omega)]; rfl
include hd in
theorem Qcu:Wz [x,d]=[d]:=by
  show W6 1 _=_
  rw [Rj,Ch]
  show (if d*1=0 then _ else [d*1])=_
  rw [Int.mul_one,if_neg (by omega)]
include hd hx hs in
theorem Qgb:∃ m,RRun [1] m [x,d] []:=by
  have h1:Qgg [x,d] [1]=trim [x]:=by
    show W6 2 _=_
    rw [Aw,Qbz]
    have e1:W1 [x,d] [1] 1=0:=by
      show d*1-(if 1≤1 then B9 [x,d] [1]*1 else 0)=0
      have:B9 [x,d] [1]=d:=by unfold B9; rw [if_neg (by decide)]; rfl
      rw [this]; simp
    have e0:W1 [x,d] [1] 0=x:=by
      show x*1-(if 1≤0 then _ else 0)=x
      simp
    rw [e1,if_pos rfl,e0]
  have hb:Bd 9000000 [x,d]:=bd2 (by omega) (by omega)
  by_cases h0:x=0
  · refine ⟨1,.step (by show 1≤2; decide) (by show 2≤1000; decide) hb (b1 (by decide)) ?_⟩
    rw [h1,h0]
    exact .stop (by decide)
  · refine ⟨2,.step (by show 1≤2; decide) (by show 2≤1000; decide) hb (b1 (by decide)) ?_⟩
    rw [h1,Ch,if_neg h0]
    refine .step (X2 1) (by show 1≤1000; decide) (bd1 (by omega)) (b1 (by decide)) ?_
    have h2:Qgg [x] [1]=[]:=by
      show W6 1 _=_
      rw [Rj,Ch]
      have e0:W1 [x] [1] 0=0:=by
        show x*1-(if 0≤0 then B9 [x] [1]*1 else 0)=0
        have:B9 [x] [1]=x:=by unfold B9; rw [if_neg (by decide)]; rfl
        rw [this]; simp
      rw [e0,if_pos rfl]
    rw [h2]
    exact .stop (by decide)
include hd hx hs in
theorem Qn5:∃ m,GRun m [x,d] [1] [1]:=by
  obtain ⟨m,h⟩:=Qgb hd hx hs
  exact ⟨1,.step (by decide) (by decide) (b1 (by decide)) h (by decide) Qnk rfl (by rw [show Vm []=[] by decide]; exact .stop _)⟩
theorem Qmc (c:Int):Lk [c] [c]=[]:=by
  show W6 1 _=_
  rw [Rj,Ch]
  show (if c-c=0 then _ else _)=_
  rw [if_pos (by omega)]
include hd hx hs in
theorem Qju:DOk [x,d] [1] [x,d]:=by
  refine ⟨by decide,by decide,by show 2≤1000; decide,b1 (by decide),[x,d],[],?_⟩
  have hpl:Q0 [x,d] / Q0 [1]=d:=by show d / 1=d; rw [Int.ediv_one]
  have hsc:J8 [1] d=[d]:=by
    show W6 1 _=_
    rw [Rj,Ch]
    show (if 1*d=0 then _ else [1*d])=_
    rw [Int.one_mul,if_neg (by omega)]
  have hsub:Lk [x,d] (Gn 1 [d])=trim [x]:=by
    show W6 2 _=_
    rw [Aw,Qbz]
    show (if d-d=0 then trim [x-0] else _)=_
    rw [if_pos (by omega),Int.sub_zero]
  have hb:Bd 9000000 [x,d]:=bd2 (by omega) (by omega)
  have ht:trim [x,d]=[x,d]:=by rw [Qbz,if_neg (by omega)]
  by_cases h0:x=0
  · refine ⟨1,hb,by show 2≤1000; decide,?_,ht.symm⟩
    refine .step (by show 1≤2; decide) (by show 2≤1000; decide) hb (by decide) (by show (1:Int)∣d; exact Int.one_dvd d) (by show 1<2; decide) ?_
    rw [hpl,hsc,show [x,d].length-[(1:Int)].length=1 from rfl,hsub,Ch,if_pos h0]
    show DRun [1] 0 [] [0,d] [x,d] []
    rw [h0]; exact .stop (by decide)
  · refine ⟨2,hb,by show 2≤1000; decide,?_,ht.symm⟩
    refine .step (by show 1≤2; decide) (by show 2≤1000; decide) hb (by decide) (by show (1:Int)∣d; exact Int.one_dvd d) (by show 1<2; decide) ?_
    rw [hpl,hsc,show [x,d].length-[(1:Int)].length=1 from rfl,hsub,Ch,if_neg h0]
    refine .step (by show 1≤1; decide) (by show 1≤1000; decide) (bd1 (by omega)) (by decide) (by show (1:Int)∣x; exact Int.one_dvd x) (by show 0<2; decide) ?_
    have hpl2:Q0 [x] / Q0 [1]=x:=by show x / 1=x; rw [Int.ediv_one]
    have hsc2:J8 [1] x=[x]:=by
      show W6 1 _=_
      rw [Rj,Ch]
      show (if 1*x=0 then _ else [1*x])=_
      rw [Int.one_mul,if_neg h0]
    rw [hpl2,hsc2,show [x].length-[(1:Int)].length=0 from rfl,show Gn 0 [x]=[x] from rfl,Qmc]
    exact .stop (by decide)
theorem Qrb:DOk [1] [1] [1]:=by
  refine ⟨by decide,by decide,by decide,b1 (by decide),[1],[],1,b1 (by decide),by decide,?_,by decide⟩
  refine .step (by decide) (by decide) (b1 (by decide)) (by decide) (by decide) (by decide) ?_
  exact .stop (by decide)
include hd hg hx hs in
theorem Qn1:FRun [x,d] 1 (fun _=>[x,d]):=by
  obtain ⟨m,hm⟩:=Qn5 (x:=x) hd hx hs
  refine ⟨⟨1,[[x,d],[1]],?_,rfl,?_⟩,by decide⟩
  · rw [B0 hd hg]
    refine .step (by show 1<2; decide) (by show 2≤1000; decide) (by show trim [x,d]=[x,d]; rw [Qbz,if_neg (by omega)]) (by show Bd 9000000 [x,d]; exact bd2 (by omega) (by omega)) ?_ ?_ (by show 1≤1000; decide) (m:=m) (g:=[1]) ?_
    · show Bd 9000000 (Wz [x,d])
      rw [Qcu hd]; exact bd1 (by omega)
    · show GRun m (Vm [x,d]) (Vm (Wz [x,d])) [1]
      rw [B0 hd hg,Qcu hd,Iu hd]; exact hm
    · exact .stop (by show 1≤1; decide)
  · intro k hk
    have:k=0:=by omega
    subst this
    exact ⟨[x,d],[1],[x,d],Qju hd hx hs,Qrb,by rw [B0 hd hg,Qox]; exact Qju hd hx hs,(B0 hd hg).symm⟩
theorem Ql3 {p:List Int} (hp:Yw p) (h0:0<p.length):Li [1] p=p:=by
  refine Sj (Qb0 _ _) hp fun k=>?_
  unfold Li
  rw [if_neg (by
   rintro (h | h); · cases h
   · omega),Py]
  show (Hm [1] p (List.replicate (1+p.length-1) 0) 1).getD k 0=_
  simp only [Hm]
  rw [C2 _ _ _ _ _ _ (by simp),Fc]
  split
  · show 0+1*p.getD (k-0) 0=_
    rw [qYg]; omega
  · rename_i h
    rw [V6,Eh (by omega)]; rfl
include hd hg hx hs in
theorem Qld:ChRun [x,d] [x,d] [[x,d],[1]]:=by
  obtain ⟨m,hm⟩:=Qgb (x:=x) hd hx hs
  have ht:Yw [x,d]:=by show trim [x,d]=_; rw [Qbz,if_neg (by omega)]
  refine ⟨⟨1,fun _=>[x,d],Qn1 hd hg hx hs,?_,?_⟩,⟨1,?_⟩,bd2 (by omega) (by omega),by show 2≤1000; decide,by show 2≤1000; decide⟩
  · intro i hi
    have:i=0:=by omega
    subst this
    exact ⟨b1 (by decide),by show 1≤1000; decide,bd2 (by omega) (by omega),by show 2≤1000; decide⟩
  · show [x,d]=Li [1] [x,d]
    rw [Ql3 ht (by show 0<2; decide)]
  · have hz:Fw (Wz [x,d])=[1]:=by
      rw [Qcu hd]
      unfold Fw
      rw [if_neg (show ¬Q0 [d]<0 from by show ¬d<0; omega),Iu hd]
    rw [hz]
    refine .step (by decide) (by decide) (b1 (by decide)) (m:=m) (r:=[]) hm rfl Qnk (by decide) (by show 0<1; decide) (by show 1≤1000; decide) ?_
    exact .stop (by decide)
end
theorem Qx5 {q:Rat} (h:Qs 1000000 q):Qek q [[-q.num,(q.den:Int)],[1]]:=by
  refine ⟨[-q.num,(q.den:Int)],Qld (Qjt q) ?_ (by rw [Xg]; exact h.1) h.2⟩
  rw [Int.neg_gcd]
  have:=q.reduced
  unfold Nat.Coprime at this
  simpa [Int.gcd] using this
end Orr

namespace Orr
open Go
def pev:List Int→Rat→Rat
  | [],_=>0
  | a::p,t=>(a:Rat)+t*pev p t
theorem Cx (p:List Int) (k:Nat):p.tail.getD k 0=p.getD (k+1) 0:=by
  cases p <;> simp
theorem Qhw {p:List Int} {k:Nat} (h:p.length≤k):p.getD k 0=0:=by
  rw [V6,Eh h]; rfl
theorem Qbe (p:List Int) (k:Nat):(Wz p).getD k 0=p.getD (k+1) 0*((k+1:Nat):Int):=by
  unfold Wz
  rw [Gw]
  split
  · rfl
  · rename_i h; rw [Qhw (p:=p) (by omega),Int.zero_mul]
def I8 (x:Rat):Int:=if x<0 then -1 else if 0<x then 1 else 0
theorem Qfc (z d:Int):(z:Rat) / (d:Rat)=Rat.divInt z d:=by
  by_cases h:d=0
  · subst h; simp; grind
  · rw [Rat.div_def]; exact (Rat.divInt_eq_div z d ▸ by rw [Rat.div_def])
theorem Qk5 (a:List Int) (n d:Int) (hd:(d:Rat)≠0):∀ k,k≤a.length→(((Kv a n d k).2:Int):Rat)=(d:Rat)^k∧(((Kv a n d k).1:Int):Rat)*d=(d:Rat)^k*pev (a.drop (a.length-k)) ((n:Rat) / d)
  |
   0,_=>by
   refine ⟨by rw [Rat.pow_zero]; rfl,?_⟩
   rw [qYg,List.drop_length]
   show ((0:Int):Rat)*d=(d:Rat)^0*0
   push_cast; grind
  |
   k+1,hk=>by
   obtain ⟨h1,h2⟩:=Qk5 a n d hd k (by omega)
   have hi:a.length-1-k<a.length:=by omega
   have e1:a.drop (a.length-(k+1))=a.getD (a.length-1-k) 0::a.drop (a.length-k):=by
     rw [show a.length-(k+1)=a.length-1-k by omega,qZw hi,show a.length-1-k+1=a.length-k by omega]
     congr 1
     rw [V6,Xx hi]; rfl
   refine ⟨?_,?_⟩
   · show (((Kv a n d k).2*d:Int):Rat)=_
     rw [qJq,h1,Rat.pow_succ]
   · rw [e1]
     show (((Kv a n d k).1*n+a.getD (a.length-1-k) 0*(Kv a n d k).2:Int):Rat)*d=_*(((a.getD (a.length-1-k) 0:Int):Rat)+(n:Rat) / d*pev (a.drop (a.length-k)) ((n:Rat) / d))
     rw [Rat.intCast_add,qJq,qJq,h1,Rat.pow_succ]
     have h3:(n:Rat) / d*d=n:=by rw [Rat.div_mul_cancel hd]
     have h4:(d:Rat)^k*d*((n:Rat) / d*pev (a.drop (a.length-k)) ((n:Rat) / d))=((n:Rat) / d*d)*((d:Rat)^k*pev (a.drop (a.length-k)) ((n:Rat) / d)):=by grind
     have h5:(d:Rat)^k*d*(((a.getD (a.length-1-k) 0:Int):Rat)+(n:Rat) / d*pev (a.drop (a.length-k)) ((n:Rat) / d))=(d:Rat)^k*d*((a.getD (a.length-1-k) 0:Int):Rat)+(d:Rat)^k*d*((n:Rat) / d*pev (a.drop (a.length-k)) ((n:Rat) / d)):=by grind
     rw [h5,h4,h3,←h2]
     grind
theorem Qkd {d:Rat} (h:0<d):∀ k:Nat,0<d^k
  | 0=>by rw [Rat.pow_zero]; decide
  | k+1=>by rw [Rat.pow_succ]; exact Rat.mul_pos (Qkd h k) h
theorem Tl {x y:Rat} (h:0<y):I8 (y*x)=I8 x:=by
  unfold I8
  have h1:y*x<0↔x<0:=by
    constructor
    · intro h2
      rcases Rat.le_total (a:=0) (b:=x) with h3 | h3
      · have:=Rat.mul_nonneg (Rat.le_of_lt h) h3; grind
      · rcases Rat.le_iff_lt_or_eq.1 h3 with h4 | h4
        · exact h4
        · rw [h4] at h2; grind
    · intro h2
      have:=Rat.mul_pos h (show 0 < -x by grind)
      grind
  have h2:0<y*x↔0<x:=by
    constructor
    · intro h2
      rcases Rat.le_total (a:=x) (b:=0) with h3 | h3
      · have:=Rat.mul_nonneg (Rat.le_of_lt h) (show 0≤-x by grind); grind
      · rcases Rat.le_iff_lt_or_eq.1 h3 with h4 | h4
        · exact h4
        · rw [←h4] at h2; grind
    · intro h2; exact Rat.mul_pos h h2
  simp only [h1,h2]
theorem Qnm (z:Int):Mx z 0=I8 (z:Rat):=by
  unfold Mx I8
  have h1:((z:Int):Rat)<0↔z<0:=by
    have := @Rat.intCast_lt_intCast z 0; simpa using this
  have h2:0<((z:Int):Rat)↔0<z:=by
    have := @Rat.intCast_lt_intCast 0 z; simpa using this
  simp only [h1,h2]
theorem Qoy (p:List Int) (q:Rat):Ff p q=I8 (pev p q):=by
  have hd0:(0:Rat)<((q.den:Int):Rat):=by
    have := @Rat.intCast_lt_intCast 0 (q.den:Int)
    rw [show ((0:Int):Rat)=0 from rfl] at this
    exact this.2 (Qjt q)
  have hd:((q.den:Int):Rat)≠0:=by intro h; rw [h] at hd0; exact absurd hd0 (by decide)
  obtain ⟨_,h⟩:=Qk5 p q.num q.den hd p.length (X2 _)
  rw [qJz,qXf,Qfc,qXv] at h
  unfold Ff
  rw [Qnm,←Tl hd0,Rat.mul_comm]
  show I8 ((((Kv p q.num q.den p.length).1:Int):Rat)*_)=_
  rw [h,Tl (Qkd hd0 _)]
def T3 (q:Rat):List Int→Nat→Rat
  | [],_=>0
  | a::p,0=>(a:Rat)+q*T3 q p 0
  | _::p,k+1=>q*T3 q p (k+1)+T3 q p k
theorem Qgs (q:Rat):∀ p,T3 q p 0=pev p q
  | []=>rfl
  | a::p=>by show (a:Rat)+q*T3 q p 0=(a:Rat)+q*pev p q; rw [Qgs q p]
theorem Qd5 (q:Rat) (p:List Int):T3 q p 0=((p.getD 0 0:Int):Rat)+q*T3 q p.tail 0:=by
  cases p with
  | nil=>show (0:Rat)=((0:Int):Rat)+q*0; grind
  | cons a p=>rfl
theorem Qd6 (q:Rat) (p:List Int) (k:Nat):T3 q p (k+1)=q*T3 q p.tail (k+1)+T3 q p.tail k:=by
  cases p with
  | nil=>show (0:Rat)=q*0+0; grind
  | cons a p=>rfl
theorem Qk0 (q:Rat) (c d:Int):∀ (n:Nat) (x y r:List Int),x.length≤n→y.length≤n→r.length≤n→(∀ k,r.getD k 0=c*x.getD k 0+d*y.getD k 0)→∀ k,T3 q r k=(c:Rat)*T3 q x k+(d:Rat)*T3 q y k
  |
   0,p,s,r,hp,hq,hr,_,k=>by
   rw [P5 (Nat.le_zero.1 hp),P5 (Nat.le_zero.1 hq),P5 (Nat.le_zero.1 hr)]
   show (0:Rat)=_*0+_*0
   grind
  |
   n+1,p,s,r,hp,hq,hr,h,k=>by
   have ih:=Qk0 q c d n p.tail s.tail r.tail (by rw [List.length_tail]; omega) (by rw [List.length_tail]; omega) (by rw [List.length_tail]; omega) fun k=>by
     rw [Cx,Cx,Cx]; exact h (k+1)
   cases k with
   |
    zero =>
    rw [Qd5 q p,Qd5 q s,Qd5 q r,ih 0,h 0]
    push_cast
    grind
   |
    succ k =>
    rw [Qd6 q p,Qd6 q s,Qd6 q r,ih (k+1),ih k]
    grind
theorem Qd4 (q:Rat):∀ (p:List Int) (k:Nat),p.length≤k→T3 q p k=0
  | [],_,_=>rfl
  | a::p,0,h=>by simp at h
  |
   a::p,k+1,h=>by
   show q*T3 q p (k+1)+T3 q p k=0
   have h:p.length≤k:=by simpa using h
   rw [Qd4 q p (k+1) (by omega),Qd4 q p k h]; grind
theorem Qkz (q:Rat):∀ (n:Nat) (p:List Int),p.length≤n→∀ k,T3 q (Wz p) k=((k+1:Nat):Rat)*T3 q p (k+1)
  |
   0,p,hp,k=>by
   rw [P5 (Nat.le_zero.1 hp)]
   show (0:Rat)=_*0; grind
  | n+1,[],hp,k=>by show (0:Rat)=_*0; grind
  |
   n+1,a::p,hp,k=>by
   have hp:p.length≤n:=by simpa using hp
   have ih:=Qkz q n p hp
   have h1:=Qk0 q 1 1 (max (max p.length (0::Wz p).length) (Wz (a::p)).length) p (0::Wz p) (Wz (a::p)) (by omega) (by omega) (by omega) fun k=>by
     rw [Qbe]
     cases k with
     | zero=>show p.getD 0 0*_=1*p.getD 0 0+1*0; push_cast; omega
     |
      succ k =>
      show p.getD (k+1) 0*_=1*p.getD (k+1) 0+1*(Wz p).getD k 0
      rw [Qbe]
      push_cast
      grind
   rw [h1 k]
   cases k with
   |
    zero =>
    show ((1:Int):Rat)*T3 q p 0+((1:Int):Rat)*(((0:Int):Rat)+q*T3 q (Wz p) 0)=_*(q*T3 q p 1+T3 q p 0)
    rw [ih 0]
    push_cast
    grind
   |
    succ k =>
    show ((1:Int):Rat)*T3 q p (k+1)+((1:Int):Rat)*(q*T3 q (Wz p) (k+1)+T3 q (Wz p) k)=_*(q*T3 q p (k+2)+T3 q p (k+1))
    rw [ih (k+1),ih k]
    push_cast
    grind
theorem Db {x:Rat}:I8 x=0↔x=0:=by
  unfold I8
  constructor
  · intro h
    split at h
    · cases h
    · split at h
      · cases h
      · grind
  · intro h; subst h; rfl
theorem Qfk (q:Rat):∀ (n:Nat) (p:List Int),p.length≤n→((∀ k,T3 q p k=0)∧V8 (fun p=>Ff p q) n p=0)∨∃ k,(∀ j,j<k→T3 q p j=0)∧T3 q p k≠0∧V8 (fun p=>Ff p q) n p=I8 (T3 q p k)
  |
   0,p,hp=>by
   rw [P5 (Nat.le_zero.1 hp)]
   exact .inl ⟨fun _=>rfl,rfl⟩
  |
   n+1,p,hp=>by
   simp only [V8]
   by_cases hl:p.length=0
   · rw [if_pos hl,P5 hl]
     exact .inl ⟨fun _=>rfl,rfl⟩
   · rw [if_neg hl,Qoy,←Qgs]
     by_cases h0:I8 (T3 q p 0)=0
     · rw [if_pos h0]
       have h0:=Db.1 h0
       have hder:=Qkz q p.length p (X2 _)
       have hpos:∀ k:Nat,(0:Rat)<((k+1:Nat):Rat):=fun k=>by
         have := @Rat.natCast_lt_natCast 0 (k+1)
         rw [show ((0:Nat):Rat)=0 from rfl] at this
         exact this.2 (Nat.succ_pos k)
       rcases Qfk q n (Wz p) (by have:=W8 p; omega) with ⟨h1,h2⟩ | ⟨k,h1,h2,h3⟩
       · refine .inl ⟨fun k=>?_,h2⟩
         cases k with
         | zero=>exact h0
         |
          succ k =>
          have h4:=h1 k
          rw [hder k] at h4
          have:=hpos k
          rcases Rat.mul_eq_zero.1 h4 with h5 | h5
          · rw [h5] at this; exact absurd this (by decide)
          · exact h5
       · refine .inr ⟨k+1,fun j hj=>?_,fun h4=>h2 (by rw [hder k,h4]; grind),by rw [h3,hder k,Tl (hpos k)]⟩
         cases j with
         | zero=>exact h0
         |
          succ j =>
          have h4:=h1 j (by omega)
          rw [hder j] at h4
          have:=hpos j
          rcases Rat.mul_eq_zero.1 h4 with h5 | h5
          · rw [h5] at this; exact absurd this (by decide)
          · exact h5
     · rw [if_neg h0]
       exact .inr ⟨0,fun j hj=>absurd hj (qVx _),fun h=>h0 (Db.2 h),rfl⟩
end Orr

namespace Orr
open Go
theorem Qgr (q:Rat):∀ p:List Int,0<p.length→T3 q p (p.length-1)=((p.getD (p.length-1) 0:Int):Rat)
  | [],h=>by simp at h
  | [a],_=>by show (a:Rat)+q*0=(a:Rat); grind
  |
   a::b::p,_=>by
   have ih:=Qgr q (b::p) (by simp)
   show q*T3 q (b::p) (p.length+1)+T3 q (b::p) p.length=(((b::p).getD p.length 0:Int):Rat)
   rw [Qd4 q (b::p) (p.length+1) (by simp)]
   have ih:T3 q (b::p) p.length=(((b::p).getD p.length 0:Int):Rat):=ih
   rw [ih]; grind
theorem Qc0 {p:List Int} {q:Rat} (ht:Yw p) (h:0<p.length):Fb p q≠0:=by
  intro h0
  rcases Qfk q p.length p (X2 _) with ⟨h1,_⟩ | ⟨k,_,h2,h3⟩
  · have h4:=Qgr q p h
    rw [h1] at h4
    have h5:p.getD (p.length-1) 0=0:=by
      have:((p.getD (p.length-1) 0:Int):Rat)=((0:Int):Rat):=h4.symm
      exact_mod_cast this
    exact Pz ht h h5
  · have h0:V8 (fun p=>Ff p q) p.length p=0:=h0
    rw [h3] at h0
    exact h2 (Db.1 h0)
theorem Qax {p:List Int} {q:Rat} (ht:Yw p):Fb p q=0↔p.length=0:=by
  constructor
  · intro h
    rcases Hl p.length with e | e
    · exact e
    · exact absurd h (Qc0 ht e)
  · intro h; rw [P5 h]; rfl
end Orr

namespace Orr
open Go Go.Proofs
theorem D7 (a b:Crv):Yw (J2 a b):=Ky _ _
theorem D8 (a b:Crv):Yw (Yk a b):=Ky _ _
set_option maxRecDepth 20000 in
theorem Md {a b:Pt} {q:Rat} {c:List (List Int)} (ha:Rs a.c) (hb:Rs b.c) (hq:Qs 1000000 q):Za Tryz.prog 157 [.agg [Zp ((X6 a.c.x a.c.d)),Zp ((X6 a.c.y a.c.d)),pl a.c.x,pl a.c.y,sg a.c.d,mg a.c.d,.int .i64 a.id],.agg [Zp ((X6 b.c.x b.c.d)),Zp ((X6 b.c.y b.c.d)),pl b.c.x,pl b.c.y,sg b.c.d,mg b.c.d,.int .i64 b.id],.agg [Zp ((zp [-(q).num,((q).den:Int)])),Kw c,dl ((dig ((q).num).natAbs)),sg ((q).num),dl ((dig (((q).den:Int)).natAbs)),sg (((q).den:Int)),dl ((dig ((q).num).natAbs)),sg ((q).num),dl ((dig (((q).den:Int)).natAbs)),sg (((q).den:Int))]] (.one (.bool ((Dh q a b)))):=by
 refine X4 tt 0 [] Tryz.func157 Tryz.ntmps157 rfl rfl rfl ?_
 by_cases h1:(J2 b.c a.c).length=0
 ·have g1:Fb (J2 b.c a.c) q=0:=(Qax (D7 _ _)).2 h1
  by_cases h2:(Yk b.c a.c).length=0
  refine Qq tt rfl ?_
  ·have g2:Fb (Yk b.c a.c) q=0:=(Qax (D8 _ _)).2 h2
   refine Qr tt 4 rfl ?_
   refine Qy 6 Qp rfl rfl rfl ?_
   refine Qr tt 4 rfl ?_
   refine Yv tt 1 [] qGn rfl rfl rfl (W5 (a:=b.c) (b:=a.c) (hb) (ha)) rfl rfl ?_
   refine Qq tt rfl ?_
   refine kl tt 3 [] qFy rfl rfl rfl (Kg (p:=(J2 b.c a.c)) (q:=q) (c:=c) (Q7 (Uw hb ha).1 (by omega)) (Xd (Uw hb ha).2 (by omega)) (hq)) rfl rfl ?_
   refine Z8 tt 0 [] (decide_eq_false (fun h=>h g1)) rfl rfl ?_
   refine Qy 6 Qp rfl rfl rfl ?_
   refine Qr tt 4 rfl ?_
   refine Yv tt 1 [] Tryz.func129 rfl rfl rfl (H0 (a:=b.c) (b:=a.c) (hb) (ha)) rfl rfl ?_
   refine Qq tt rfl ?_
   refine kl tt 3 [] qFy rfl rfl rfl (Kg (p:=(Yk b.c a.c)) (q:=q) (c:=c) (Q7 (G1 hb ha).1 (by omega)) (Xd (G1 hb ha).2 (by omega)) (hq)) rfl rfl ?_
   refine Z8 tt 6 [] (decide_eq_false (fun h=>h g2)) rfl rfl ?_
   exact Xp tt [] rfl (by unfold Dh; simp only [Gj,if_neg (show ¬0<(J2 b.c a.c).length by omega),if_neg (show ¬0<(Yk b.c a.c).length by omega)])
  have g2:Fb (Yk b.c a.c) q≠0:=Qc0 (D8 _ _) (by omega)
  refine Qr tt 4 rfl ?_
  refine Qy 6 Qp rfl rfl rfl ?_
  refine Qr tt 4 rfl ?_
  refine Yv tt 1 [] qGn rfl rfl rfl (W5 (a:=b.c) (b:=a.c) (hb) (ha)) rfl rfl ?_
  refine Qq tt rfl ?_
  refine kl tt 3 [] qFy rfl rfl rfl (Kg (p:=(J2 b.c a.c)) (q:=q) (c:=c) (Q7 (Uw hb ha).1 (by omega)) (Xd (Uw hb ha).2 (by omega)) (hq)) rfl rfl ?_
  refine Z8 tt 0 [] (decide_eq_false (fun h=>h g1)) rfl rfl ?_
  refine Qy 6 Qp rfl rfl rfl ?_
  refine Qr tt 4 rfl ?_
  refine Yv tt 1 [] Tryz.func129 rfl rfl rfl (H0 (a:=b.c) (b:=a.c) (hb) (ha)) rfl rfl ?_
  refine Qq tt rfl ?_
  refine kl tt 3 [] qFy rfl rfl rfl (Kg (p:=(Yk b.c a.c)) (q:=q) (c:=c) (Q7 (G1 hb ha).1 (by omega)) (Xd (G1 hb ha).2 (by omega)) (hq)) rfl rfl ?_
  refine Xh tt 3 [] (decide_eq_true g2) rfl rfl ?_
  exact Xp tt [] rfl (by unfold Dh; simp only [Gj,if_neg (show ¬0<(J2 b.c a.c).length by omega),if_pos (show 0<(Yk b.c a.c).length by omega)])
 have g1:Fb (J2 b.c a.c) q≠0:=Qc0 (D7 _ _) (by omega)
 refine Qr tt 4 rfl ?_
 refine Qy 6 Qp rfl rfl rfl ?_
 refine Qr tt 4 rfl ?_
 refine Yv tt 1 [] qGn rfl rfl rfl (W5 (a:=b.c) (b:=a.c) (hb) (ha)) rfl rfl ?_
 refine Qq tt rfl ?_
 refine kl tt 3 [] qFy rfl rfl rfl (Kg (p:=(J2 b.c a.c)) (q:=q) (c:=c) (Q7 (Uw hb ha).1 (by omega)) (Xd (Uw hb ha).2 (by omega)) (hq)) rfl rfl ?_
 refine Xh tt 3 [] (decide_eq_true g1) rfl rfl ?_
 exact Xp tt [] rfl (by unfold Dh; simp only [Gj,if_pos (show 0<(J2 b.c a.c).length by omega)])
end Orr

namespace Orr
open Go Go.Proofs
abbrev rgm (m:Pt×Pt):List LV:=I0 m.1++I0 m.2
def H7 (l:List (Pt×Pt)):LV:=.row (l.map rgm)
theorem Qmo (l:List (Pt×Pt)):Vq (H7 l)=some l.length:=by simp [H7,Vq]
set_option maxRecDepth 20000 in
theorem Sd {l:List Pt} {q:Rat} {c:List (List Int)} (hl:∀ x∈l,Rs x.c) (h0:0<l.length) (hn:l.length≤1000) (hq:Qs 1000000 q) (hih:∀ (l':List Pt) (w':Pt),l'.length<l.length→0<l'.length→(∀ x∈l',Rs x.c)→(Qx q l').1=[w']→Za Tryz.prog 88 [.one (Kr l'),.agg [Zp ((zp [-(q).num,((q).den:Int)])),Kw c,dl ((dig ((q).num).natAbs)),sg ((q).num),dl ((dig (((q).den:Int)).natAbs)),sg (((q).den:Int)),dl ((dig ((q).num).natAbs)),sg ((q).num),dl ((dig (((q).den:Int)).natAbs)),sg (((q).den:Int))]] (.tup [.agg [Zp ((X6 w'.c.x w'.c.d)),Zp ((X6 w'.c.y w'.c.d)),pl w'.c.x,pl w'.c.y,sg w'.c.d,mg w'.c.d,.int .i64 w'.id],.one (H7 ((Qx q l').2))])) {w:Pt} (hw:(Qx q l).1=[w]):Za Tryz.prog 88 [.one (Kr l),.agg [Zp ((zp [-(q).num,((q).den:Int)])),Kw c,dl ((dig ((q).num).natAbs)),sg ((q).num),dl ((dig (((q).den:Int)).natAbs)),sg (((q).den:Int)),dl ((dig ((q).num).natAbs)),sg ((q).num),dl ((dig (((q).den:Int)).natAbs)),sg (((q).den:Int))]] (.tup [.agg [Zp ((X6 w.c.x w.c.d)),Zp ((X6 w.c.y w.c.d)),pl w.c.x,pl w.c.y,sg w.c.d,mg w.c.d,.int .i64 w.id],.one (H7 ((Qx q l).2))]):=by
 refine X4 tt 0 [] Tryz.func88 Tryz.ntmps88 rfl rfl rfl ?_
 by_cases h1:l.length=1
 ·obtain ⟨x,hx⟩:∃ x,l[0]? = some x:=⟨_,Xx (by omega)⟩
  have hpf:(Qx q l).2=[]:=by rw [Kn q (by omega)]
  have hwa:w=x:=by rw [Kn q (by omega)] at hw; rw [show l=[w] from hw] at hx; simpa using hx
  refine Qr tt 1 rfl ?_
  refine Zn (Qn qWh rfl rfl fun g1=>ko ?_)
  refine Qr tt 2 rfl ?_
  refine Qf tt 1 [] (Qh (m:=l.length) Ue rfl (Yz _) rfl) rfl ?_
  refine Xh tt 1 [] (decide_eq_true (by omega)) rfl rfl ?_
  refine Qf tt 3 [0] (Qi (0) Ue Uf rfl rfl (rfl) (Qg hx) rfl rfl) rfl ?_
  refine X5 (fun _ k_=>R0 5 rfl (Qo k_)) rfl ?_
  exact kr2 tt [0] rfl (by rw [hpf,hwa]; rfl)
 have h2:¬l.length<2:=by omega
 have ht1:(l.take ((l.length+1) / 2)).length=((l.length+1) / 2):=by rw [Kd]; omega
 have ht2:(l.drop ((l.length+1) / 2)).length=l.length-((l.length+1) / 2):=by rw [Na]
 obtain ⟨a,ha,hal,_⟩:=Vv q _ (l.take ((l.length+1) / 2)) (X2 _) (by omega)
 obtain ⟨b,hb,hbl,_⟩:=Vv q _ (l.drop ((l.length+1) / 2)) (X2 _) (by omega)
 have hg1:=Vz q _ (l.take ((l.length+1) / 2)) (X2 _)
 have hg2:=Vz q _ (l.drop ((l.length+1) / 2)) (X2 _)
 have hpm:=G0 q h2 ha hb
 have har:=hl a (Rx hal)
 have hbr:=hl b (Pr hbl)
 cases hbt:Dh q a b
 refine Qq tt rfl ?_
 ·have hdu:Ty q a b=(b,a):=by unfold Ty; rw [if_neg (by rw [hbt]; decide)]
  have hwa:w=b:=by rw [hpm,hdu] at hw; simpa using hw.symm
  have hpf:(Qx q l).2=(((Qx q (l.take ((l.length+1) / 2))).2++(Qx q (l.drop ((l.length+1) / 2))).2)++[(b,a)]):=by rw [hpm,hdu]
  refine Qr tt 1 rfl ?_
  refine Zn (Qn qWh rfl rfl fun g2=>ko ?_)
  refine Qr tt 2 rfl ?_
  refine Qf tt 1 [] (Qh (m:=l.length) Ue rfl (Yz _) rfl) rfl ?_
  refine Z8 tt 1 [] (decide_eq_false (by omega)) rfl rfl ?_
  refine Qf tt 0 [] (Qh (m:=l.length) Ue rfl (Yz _) rfl) rfl ?_
  refine Qf tt 0 [] (Zb (r:=((l.length+1:Nat):Int)) rfl rfl (Qm (by omega) (by omega)) rfl) rfl ?_
  refine Qf tt 1 [] (Fk (r:=(((l.length+1) / 2:Nat):Int)) rfl rfl (by omega) (by rw [show Int.tdiv ((l.length+1:Nat):Int) 2=((((l.length+1) / 2):Nat):Int) from rfl]; exact Xq (by omega) (by omega)) rfl) rfl ?_
  refine kc (Rd Qp 9 8 6 100 100 7 28 [.slice none 0 0,.slice none 0 0,.slice none 0 0,.slice none 0 0,.bool false,.slice none 0 0,.int .i64 0] [Zp ((X6 a.c.x a.c.d)),Zp ((X6 a.c.y a.c.d)),pl a.c.x,pl a.c.y,sg a.c.d,mg a.c.d,.int .i64 a.id] [23,24,25,26,27,22,28,29,7] [[],[],[0,1],[],[2,3],[4],[5],[5],[],[6,8]] [.one (Kr l),.one (.int .i64 ((((l.length+1) / 2:Nat):Int))),.one (Kr ((l.take ((l.length+1) / 2)))),.agg [Zp ((zp [-(q).num,((q).den:Int)])),Kw c,dl ((dig ((q).num).natAbs)),sg ((q).num),dl ((dig (((q).den:Int)).natAbs)),sg (((q).den:Int)),dl ((dig ((q).num).natAbs)),sg ((q).num),dl ((dig (((q).den:Int)).natAbs)),sg (((q).den:Int))],.tup [.agg [Zp ((X6 a.c.x a.c.d)),Zp ((X6 a.c.y a.c.d)),pl a.c.x,pl a.c.y,sg a.c.d,mg a.c.d,.int .i64 a.id],.one (H7 ((Qx q (l.take ((l.length+1) / 2))).2))],.tup [.agg [Zp ((X6 a.c.x a.c.d)),Zp ((X6 a.c.y a.c.d)),pl a.c.x,pl a.c.y,sg a.c.d,mg a.c.d,.int .i64 a.id],.one (H7 ((Qx q (l.take ((l.length+1) / 2))).2))],.agg [Zp ((X6 a.c.x a.c.d)),Zp ((X6 a.c.y a.c.d)),pl a.c.x,pl a.c.y,sg a.c.d,mg a.c.d,.int .i64 a.id],.one (H7 ((Qx q (l.take ((l.length+1) / 2))).2)),.un] [] [] rfl rfl rfl (by decide) trivial rfl rfl rfl rfl rfl rfl Uf rfl rfl rfl ⟨Qv rfl rfl,Qv rfl rfl,Yc ((l.length+1) / 2) Ue Uf rfl rfl rfl (by rw [Zr]; omega) (Jj l (fun _=>rfl)) (l':=(l.take ((l.length+1) / 2)).map I0) (by rw [Ix]) rfl,Zq qGe qFw rfl rfl rfl rfl,Zu Tryz.func88 rfl rfl rfl rfl (hih _ a (by omega) (by omega) (fun x hx=>hl x (Rx hx)) ha) rfl,Qv rfl rfl,Ka rfl rfl rfl,Ka rfl rfl rfl,Vr qWh rfl,trivial⟩ fun g3=>⟨_,_,rfl,rfl,kn ?_⟩)
  refine Qr tt 1 rfl ?_
  refine kc (Rd Qp 9 8 6 100 100 9 36 [.slice none 0 0,.slice none 0 0,.slice none 0 0,.slice none 0 0,.bool false,.slice none 0 0,.int .i64 0] [Zp ((X6 b.c.x b.c.d)),Zp ((X6 b.c.y b.c.d)),pl b.c.x,pl b.c.y,sg b.c.d,mg b.c.d,.int .i64 b.id] [31,32,33,34,35,30,36,37,9] [[],[],[0,1],[],[2,3],[4],[5],[5],[],[6,8]] [.one (Kr l),.one (.int .i64 ((((l.length+1) / 2:Nat):Int))),.one (Kr ((l.drop ((l.length+1) / 2)))),.agg [Zp ((zp [-(q).num,((q).den:Int)])),Kw c,dl ((dig ((q).num).natAbs)),sg ((q).num),dl ((dig (((q).den:Int)).natAbs)),sg (((q).den:Int)),dl ((dig ((q).num).natAbs)),sg ((q).num),dl ((dig (((q).den:Int)).natAbs)),sg (((q).den:Int))],.tup [.agg [Zp ((X6 b.c.x b.c.d)),Zp ((X6 b.c.y b.c.d)),pl b.c.x,pl b.c.y,sg b.c.d,mg b.c.d,.int .i64 b.id],.one (H7 ((Qx q (l.drop ((l.length+1) / 2))).2))],.tup [.agg [Zp ((X6 b.c.x b.c.d)),Zp ((X6 b.c.y b.c.d)),pl b.c.x,pl b.c.y,sg b.c.d,mg b.c.d,.int .i64 b.id],.one (H7 ((Qx q (l.drop ((l.length+1) / 2))).2))],.agg [Zp ((X6 b.c.x b.c.d)),Zp ((X6 b.c.y b.c.d)),pl b.c.x,pl b.c.y,sg b.c.d,mg b.c.d,.int .i64 b.id],.one (H7 ((Qx q (l.drop ((l.length+1) / 2))).2)),.un] [] [] rfl rfl rfl (by decide) trivial rfl rfl rfl rfl rfl rfl Uf rfl rfl rfl ⟨Qv rfl rfl,Qv rfl rfl,Uv ((l.length+1) / 2) Ue Uf rfl rfl rfl (by rw [Zr]; omega) (Jj l (fun _=>rfl)) (l':=(l.drop ((l.length+1) / 2)).map I0) (by rw [qJm]) rfl,Zq qGe qFw rfl rfl rfl rfl,Zu Tryz.func88 rfl rfl rfl rfl (hih _ b (by omega) (by omega) (fun x hx=>hl x (Pr hx)) hb) rfl,Qv rfl rfl,Ka rfl rfl rfl,Ka rfl rfl rfl,Vr qWh rfl,trivial⟩ fun g4=>⟨_,_,rfl,rfl,kn ?_⟩)
  refine Qr tt 2 rfl ?_
  refine Zn (Rc (ls2:=(Qx q (l.take ((l.length+1) / 2))).2.map rgm) (m2:=(Qx q (l.take ((l.length+1) / 2))).2.length) qWc qWc qFt rfl rfl qUi qUh rfl rfl rfl rfl rfl rfl rfl (Jj _ (fun _=>rfl)) (Wu _ (fun _=>rfl)) (by rw [Zr]; omega) (rfl) (Zr _) fun r5=>ko ?_)
  refine Qr tt 1 rfl ?_
  refine Zn (Zg (ls2:=((Qx q (l.take ((l.length+1) / 2))).2++(Qx q (l.drop ((l.length+1) / 2))).2).map rgm) (m2:=((Qx q (l.take ((l.length+1) / 2))).2++(Qx q (l.drop ((l.length+1) / 2))).2).length) 0 qWc qWc qFt rfl rfl qUi qUh rfl rfl rfl rfl rfl rfl rfl (by rw [Zr]; exact X2 _) (Jj _ (fun _=>rfl)) (Wu _ (fun _=>rfl)) (by rw [Zr]; omega) (by rw [Y0 (by rw [Zr]; exact X2 _),F6]) (by rw [Zr,Fl]) fun r6=>ko ?_)
  refine Xu tt 4 [2,1] rfl ?_
  refine kl tt 0 [] Tryz.func157 rfl rfl rfl (Md (a:=a) (b:=b) (q:=q) (c:=c) (har) (hbr) (hq)) rfl rfl ?_
  refine Z8 tt 0 [] (hbt) rfl rfl ?_
  refine kc (Kl Qp 7 [53,54,55,56,57,58,59] [[],[],[],[],[2,3],[4],[1,5]] [.agg [Zp ((X6 b.c.x b.c.d)),Zp ((X6 b.c.y b.c.d)),pl b.c.x,pl b.c.y,sg b.c.d,mg b.c.d,.int .i64 b.id],.one (.orow r6 14 0 (((Qx q (l.take ((l.length+1) / 2))).2++(Qx q (l.drop ((l.length+1) / 2))).2).length)),.agg [Zp ((X6 b.c.x b.c.d)),Zp ((X6 b.c.y b.c.d)),pl b.c.x,pl b.c.y,sg b.c.d,mg b.c.d,.int .i64 b.id],.agg [Zp ((X6 a.c.x a.c.d)),Zp ((X6 a.c.y a.c.d)),pl a.c.x,pl a.c.y,sg a.c.d,mg a.c.d,.int .i64 a.id],.agg [Zp ((X6 b.c.x b.c.d)),Zp ((X6 b.c.y b.c.d)),pl b.c.x,pl b.c.y,sg b.c.d,mg b.c.d,.int .i64 b.id,Zp ((X6 a.c.x a.c.d)),Zp ((X6 a.c.y a.c.d)),pl a.c.x,pl a.c.y,sg a.c.d,mg a.c.d,.int .i64 a.id],.one (.row [[Zp ((X6 b.c.x b.c.d)),Zp ((X6 b.c.y b.c.d)),pl b.c.x,pl b.c.y,sg b.c.d,mg b.c.d,.int .i64 b.id,Zp ((X6 a.c.x a.c.d)),Zp ((X6 a.c.y a.c.d)),pl a.c.x,pl a.c.y,sg a.c.d,mg a.c.d,.int .i64 a.id]]),.un] 6 (fun u B=>∃ r',u=.one (.orow r' 14 0 (((Qx q (l.take ((l.length+1) / 2))).2++(Qx q (l.drop ((l.length+1) / 2))).2)++[(b,a)]).length)∧B=[.row r' 230 14 ((((Qx q (l.take ((l.length+1) / 2))).2++(Qx q (l.drop ((l.length+1) / 2))).2)++[(b,a)]).map rgm),.blk (g4 8) 100 [Zp ((X6 b.c.x b.c.d)),Zp ((X6 b.c.y b.c.d)),pl b.c.x,pl b.c.y,sg b.c.d,mg b.c.d,.int .i64 b.id],.blk (g3 8) 100 [Zp ((X6 a.c.x a.c.d)),Zp ((X6 a.c.y a.c.d)),pl a.c.x,pl a.c.y,sg a.c.d,mg a.c.d,.int .i64 a.id],.blk g2 100 [.nils,.nils,.nils,.nils,.bool false,.nils,.int .i64 0]]) rfl rfl rfl rfl ⟨Xb 1 qUa Uf rfl rfl rfl rfl rfl,Qv rfl rfl,Xb 1 qUa Uf rfl rfl rfl rfl rfl,Xb 2 qUa Uf rfl rfl rfl rfl rfl,F5 (Qca) rfl rfl rfl rfl,Rm qWc qUi qUh rfl rfl rfl rfl rfl rfl rfl rfl rfl rfl,?_,trivial⟩ ?_ ?_)
  ·refine Km fun N k_=>?_
   refine Zg (ls2:=(((Qx q (l.take ((l.length+1) / 2))).2++(Qx q (l.drop ((l.length+1) / 2))).2)++[(b,a)]).map rgm) (m2:=(((Qx q (l.take ((l.length+1) / 2))).2++(Qx q (l.drop ((l.length+1) / 2))).2)++[(b,a)]).length) 0 qWc qWc qFt rfl rfl qUi qUh rfl rfl rfl rfl rfl rfl rfl (by rw [Zr]; exact X2 _) (Js rfl) (Jx rfl) (by show _+1<_; rw [Fl]; omega) (by rw [Y0 (by rw [Zr]; exact X2 _),F6 (l₂:=[(b,a)])]; rfl) (by rw [Fl (bs:=[(b,a)])]; rfl) fun r7=>?_
   exact Qo (k_ _ _ ⟨_,rfl,rfl⟩)
  ·rintro u_ B_ ⟨r9_,rfl,rfl⟩
   exact ⟨Xb 1 qUa Uf rfl rfl rfl rfl rfl,Qv rfl rfl,Xb 1 qUa Uf rfl rfl rfl rfl rfl,Xb 2 qUa Uf rfl rfl rfl rfl rfl,F5 (Qca) rfl rfl rfl rfl,Rm qWc qUi qUh rfl rfl rfl rfl rfl rfl rfl rfl rfl rfl,trivial,trivial⟩
  rintro u_ B_ ⟨r9_,rfl,rfl⟩
  refine ⟨_,rfl,kn ?_⟩
  refine Xu tt 2 [3] rfl ?_
  refine X5 (fun _ k_=>Xe 0 [5] rfl (Zc rfl) (by rw [Zr]) (by rw [Zr,Fl,Fl]; show _+1<_; omega) rfl (Qo k_)) rfl ?_
  exact kr2 tt [2] rfl (by rw [hpf,hwa]; rfl)
 have hdu:Ty q a b=(a,b):=by unfold Ty; rw [if_pos hbt]
 have hwa:w=a:=by rw [hpm,hdu] at hw; simpa using hw.symm
 have hpf:(Qx q l).2=(((Qx q (l.take ((l.length+1) / 2))).2++(Qx q (l.drop ((l.length+1) / 2))).2)++[(a,b)]):=by rw [hpm,hdu]
 refine Qr tt 1 rfl ?_
 refine Zn (Qn qWh rfl rfl fun g8=>ko ?_)
 refine Qr tt 2 rfl ?_
 refine Qf tt 1 [] (Qh (m:=l.length) Ue rfl (Yz _) rfl) rfl ?_
 refine Z8 tt 1 [] (decide_eq_false (by omega)) rfl rfl ?_
 refine Qf tt 0 [] (Qh (m:=l.length) Ue rfl (Yz _) rfl) rfl ?_
 refine Qf tt 0 [] (Zb (r:=((l.length+1:Nat):Int)) rfl rfl (Qm (by omega) (by omega)) rfl) rfl ?_
 refine Qf tt 1 [] (Fk (r:=(((l.length+1) / 2:Nat):Int)) rfl rfl (by omega) (by rw [show Int.tdiv ((l.length+1:Nat):Int) 2=((((l.length+1) / 2):Nat):Int) from rfl]; exact Xq (by omega) (by omega)) rfl) rfl ?_
 refine kc (Rd Qp 9 8 6 100 100 7 28 [.slice none 0 0,.slice none 0 0,.slice none 0 0,.slice none 0 0,.bool false,.slice none 0 0,.int .i64 0] [Zp ((X6 a.c.x a.c.d)),Zp ((X6 a.c.y a.c.d)),pl a.c.x,pl a.c.y,sg a.c.d,mg a.c.d,.int .i64 a.id] [23,24,25,26,27,22,28,29,7] [[],[],[0,1],[],[2,3],[4],[5],[5],[],[6,8]] [.one (Kr l),.one (.int .i64 ((((l.length+1) / 2:Nat):Int))),.one (Kr ((l.take ((l.length+1) / 2)))),.agg [Zp ((zp [-(q).num,((q).den:Int)])),Kw c,dl ((dig ((q).num).natAbs)),sg ((q).num),dl ((dig (((q).den:Int)).natAbs)),sg (((q).den:Int)),dl ((dig ((q).num).natAbs)),sg ((q).num),dl ((dig (((q).den:Int)).natAbs)),sg (((q).den:Int))],.tup [.agg [Zp ((X6 a.c.x a.c.d)),Zp ((X6 a.c.y a.c.d)),pl a.c.x,pl a.c.y,sg a.c.d,mg a.c.d,.int .i64 a.id],.one (H7 ((Qx q (l.take ((l.length+1) / 2))).2))],.tup [.agg [Zp ((X6 a.c.x a.c.d)),Zp ((X6 a.c.y a.c.d)),pl a.c.x,pl a.c.y,sg a.c.d,mg a.c.d,.int .i64 a.id],.one (H7 ((Qx q (l.take ((l.length+1) / 2))).2))],.agg [Zp ((X6 a.c.x a.c.d)),Zp ((X6 a.c.y a.c.d)),pl a.c.x,pl a.c.y,sg a.c.d,mg a.c.d,.int .i64 a.id],.one (H7 ((Qx q (l.take ((l.length+1) / 2))).2)),.un] [] [] rfl rfl rfl (by decide) trivial rfl rfl rfl rfl rfl rfl Uf rfl rfl rfl ⟨Qv rfl rfl,Qv rfl rfl,Yc ((l.length+1) / 2) Ue Uf rfl rfl rfl (by rw [Zr]; omega) (Jj l (fun _=>rfl)) (l':=(l.take ((l.length+1) / 2)).map I0) (by rw [Ix]) rfl,Zq qGe qFw rfl rfl rfl rfl,Zu Tryz.func88 rfl rfl rfl rfl (hih _ a (by omega) (by omega) (fun x hx=>hl x (Rx hx)) ha) rfl,Qv rfl rfl,Ka rfl rfl rfl,Ka rfl rfl rfl,Vr qWh rfl,trivial⟩ fun g9=>⟨_,_,rfl,rfl,kn ?_⟩)
 refine Qr tt 1 rfl ?_
 refine kc (Rd Qp 9 8 6 100 100 9 36 [.slice none 0 0,.slice none 0 0,.slice none 0 0,.slice none 0 0,.bool false,.slice none 0 0,.int .i64 0] [Zp ((X6 b.c.x b.c.d)),Zp ((X6 b.c.y b.c.d)),pl b.c.x,pl b.c.y,sg b.c.d,mg b.c.d,.int .i64 b.id] [31,32,33,34,35,30,36,37,9] [[],[],[0,1],[],[2,3],[4],[5],[5],[],[6,8]] [.one (Kr l),.one (.int .i64 ((((l.length+1) / 2:Nat):Int))),.one (Kr ((l.drop ((l.length+1) / 2)))),.agg [Zp ((zp [-(q).num,((q).den:Int)])),Kw c,dl ((dig ((q).num).natAbs)),sg ((q).num),dl ((dig (((q).den:Int)).natAbs)),sg (((q).den:Int)),dl ((dig ((q).num).natAbs)),sg ((q).num),dl ((dig (((q).den:Int)).natAbs)),sg (((q).den:Int))],.tup [.agg [Zp ((X6 b.c.x b.c.d)),Zp ((X6 b.c.y b.c.d)),pl b.c.x,pl b.c.y,sg b.c.d,mg b.c.d,.int .i64 b.id],.one (H7 ((Qx q (l.drop ((l.length+1) / 2))).2))],.tup [.agg [Zp ((X6 b.c.x b.c.d)),Zp ((X6 b.c.y b.c.d)),pl b.c.x,pl b.c.y,sg b.c.d,mg b.c.d,.int .i64 b.id],.one (H7 ((Qx q (l.drop ((l.length+1) / 2))).2))],.agg [Zp ((X6 b.c.x b.c.d)),Zp ((X6 b.c.y b.c.d)),pl b.c.x,pl b.c.y,sg b.c.d,mg b.c.d,.int .i64 b.id],.one (H7 ((Qx q (l.drop ((l.length+1) / 2))).2)),.un] [] [] rfl rfl rfl (by decide) trivial rfl rfl rfl rfl rfl rfl Uf rfl rfl rfl ⟨Qv rfl rfl,Qv rfl rfl,Uv ((l.length+1) / 2) Ue Uf rfl rfl rfl (by rw [Zr]; omega) (Jj l (fun _=>rfl)) (l':=(l.drop ((l.length+1) / 2)).map I0) (by rw [qJm]) rfl,Zq qGe qFw rfl rfl rfl rfl,Zu Tryz.func88 rfl rfl rfl rfl (hih _ b (by omega) (by omega) (fun x hx=>hl x (Pr hx)) hb) rfl,Qv rfl rfl,Ka rfl rfl rfl,Ka rfl rfl rfl,Vr qWh rfl,trivial⟩ fun g10=>⟨_,_,rfl,rfl,kn ?_⟩)
 refine Qr tt 2 rfl ?_
 refine Zn (Rc (ls2:=(Qx q (l.take ((l.length+1) / 2))).2.map rgm) (m2:=(Qx q (l.take ((l.length+1) / 2))).2.length) qWc qWc qFt rfl rfl qUi qUh rfl rfl rfl rfl rfl rfl rfl (Jj _ (fun _=>rfl)) (Wu _ (fun _=>rfl)) (by rw [Zr]; omega) (rfl) (Zr _) fun r11=>ko ?_)
 refine Qr tt 1 rfl ?_
 refine Zn (Zg (ls2:=((Qx q (l.take ((l.length+1) / 2))).2++(Qx q (l.drop ((l.length+1) / 2))).2).map rgm) (m2:=((Qx q (l.take ((l.length+1) / 2))).2++(Qx q (l.drop ((l.length+1) / 2))).2).length) 0 qWc qWc qFt rfl rfl qUi qUh rfl rfl rfl rfl rfl rfl rfl (by rw [Zr]; exact X2 _) (Jj _ (fun _=>rfl)) (Wu _ (fun _=>rfl)) (by rw [Zr]; omega) (by rw [Y0 (by rw [Zr]; exact X2 _),F6]) (by rw [Zr,Fl]) fun r12=>ko ?_)
 refine Xu tt 4 [2,1] rfl ?_
 refine kl tt 0 [] Tryz.func157 rfl rfl rfl (Md (a:=a) (b:=b) (q:=q) (c:=c) (har) (hbr) (hq)) rfl rfl ?_
 refine Xh tt 0 [] (hbt) rfl rfl ?_
 refine kc (Kl Qp 7 [46,47,48,49,50,51,52] [[],[],[],[],[2,3],[4],[1,5]] [.agg [Zp ((X6 a.c.x a.c.d)),Zp ((X6 a.c.y a.c.d)),pl a.c.x,pl a.c.y,sg a.c.d,mg a.c.d,.int .i64 a.id],.one (.orow r12 14 0 (((Qx q (l.take ((l.length+1) / 2))).2++(Qx q (l.drop ((l.length+1) / 2))).2).length)),.agg [Zp ((X6 a.c.x a.c.d)),Zp ((X6 a.c.y a.c.d)),pl a.c.x,pl a.c.y,sg a.c.d,mg a.c.d,.int .i64 a.id],.agg [Zp ((X6 b.c.x b.c.d)),Zp ((X6 b.c.y b.c.d)),pl b.c.x,pl b.c.y,sg b.c.d,mg b.c.d,.int .i64 b.id],.agg [Zp ((X6 a.c.x a.c.d)),Zp ((X6 a.c.y a.c.d)),pl a.c.x,pl a.c.y,sg a.c.d,mg a.c.d,.int .i64 a.id,Zp ((X6 b.c.x b.c.d)),Zp ((X6 b.c.y b.c.d)),pl b.c.x,pl b.c.y,sg b.c.d,mg b.c.d,.int .i64 b.id],.one (.row [[Zp ((X6 a.c.x a.c.d)),Zp ((X6 a.c.y a.c.d)),pl a.c.x,pl a.c.y,sg a.c.d,mg a.c.d,.int .i64 a.id,Zp ((X6 b.c.x b.c.d)),Zp ((X6 b.c.y b.c.d)),pl b.c.x,pl b.c.y,sg b.c.d,mg b.c.d,.int .i64 b.id]]),.un] 6 (fun u B=>∃ r',u=.one (.orow r' 14 0 (((Qx q (l.take ((l.length+1) / 2))).2++(Qx q (l.drop ((l.length+1) / 2))).2)++[(a,b)]).length)∧B=[.row r' 230 14 ((((Qx q (l.take ((l.length+1) / 2))).2++(Qx q (l.drop ((l.length+1) / 2))).2)++[(a,b)]).map rgm),.blk (g10 8) 100 [Zp ((X6 b.c.x b.c.d)),Zp ((X6 b.c.y b.c.d)),pl b.c.x,pl b.c.y,sg b.c.d,mg b.c.d,.int .i64 b.id],.blk (g9 8) 100 [Zp ((X6 a.c.x a.c.d)),Zp ((X6 a.c.y a.c.d)),pl a.c.x,pl a.c.y,sg a.c.d,mg a.c.d,.int .i64 a.id],.blk g8 100 [.nils,.nils,.nils,.nils,.bool false,.nils,.int .i64 0]]) rfl rfl rfl rfl ⟨Xb 2 qUa Uf rfl rfl rfl rfl rfl,Qv rfl rfl,Xb 2 qUa Uf rfl rfl rfl rfl rfl,Xb 1 qUa Uf rfl rfl rfl rfl rfl,F5 (Qca) rfl rfl rfl rfl,Rm qWc qUi qUh rfl rfl rfl rfl rfl rfl rfl rfl rfl rfl,?_,trivial⟩ ?_ ?_)
 ·refine Km fun N k_=>?_
  refine Zg (ls2:=(((Qx q (l.take ((l.length+1) / 2))).2++(Qx q (l.drop ((l.length+1) / 2))).2)++[(a,b)]).map rgm) (m2:=(((Qx q (l.take ((l.length+1) / 2))).2++(Qx q (l.drop ((l.length+1) / 2))).2)++[(a,b)]).length) 0 qWc qWc qFt rfl rfl qUi qUh rfl rfl rfl rfl rfl rfl rfl (by rw [Zr]; exact X2 _) (Js rfl) (Jx rfl) (by show _+1<_; rw [Fl]; omega) (by rw [Y0 (by rw [Zr]; exact X2 _),F6 (l₂:=[(a,b)])]; rfl) (by rw [Fl (bs:=[(a,b)])]; rfl) fun r13=>?_
  exact Qo (k_ _ _ ⟨_,rfl,rfl⟩)
 ·rintro u_ B_ ⟨r9_,rfl,rfl⟩
  exact ⟨Xb 2 qUa Uf rfl rfl rfl rfl rfl,Qv rfl rfl,Xb 2 qUa Uf rfl rfl rfl rfl rfl,Xb 1 qUa Uf rfl rfl rfl rfl rfl,F5 (Qca) rfl rfl rfl rfl,Rm qWc qUi qUh rfl rfl rfl rfl rfl rfl rfl rfl rfl rfl,trivial,trivial⟩
 rintro u_ B_ ⟨r9_,rfl,rfl⟩
 refine ⟨_,rfl,kn ?_⟩
 refine Xu tt 2 [3] rfl ?_
 refine X5 (fun _ k_=>Xe 0 [5] rfl (Zc rfl) (by rw [Zr]) (by rw [Zr,Fl,Fl]; show _+1<_; omega) rfl (Qo k_)) rfl ?_
 exact kr2 tt [2] rfl (by rw [hpf,hwa]; rfl)
theorem Tp {q:Rat} {c:List (List Int)} (hq:Qs 1000000 q):∀ (k:Nat) (l:List Pt) (w:Pt),l.length≤k→0<l.length→(∀ x∈l,Rs x.c)→l.length≤1000→(Qx q l).1=[w]→Za Tryz.prog 88 [.one (Kr l),.agg [Zp ((zp [-(q).num,((q).den:Int)])),Kw c,dl ((dig ((q).num).natAbs)),sg ((q).num),dl ((dig (((q).den:Int)).natAbs)),sg (((q).den:Int)),dl ((dig ((q).num).natAbs)),sg ((q).num),dl ((dig (((q).den:Int)).natAbs)),sg (((q).den:Int))]] (.tup [.agg [Zp ((X6 w.c.x w.c.d)),Zp ((X6 w.c.y w.c.d)),pl w.c.x,pl w.c.y,sg w.c.d,mg w.c.d,.int .i64 w.id],.one (H7 ((Qx q l).2))])
 | 0,l,w,hk,h0,_,_,_=>by omega
 | k+1,l,w,hk,h0,hl,hn,hw=>Sd hl h0 hn hq (fun l' w' h1 h2 h3 h4=>Tp hq k l' w' (by omega) h2 h3 (by omega) h4) hw
def tms (q:Rat) (gs:List (Pt×Pt)):List Ct:=gs.map fun m=>Jg q m.1 m.2
theorem Qqa {q:Rat} {gs:List (Pt×Pt)} {i:Nat} {m:Pt×Pt} (h:gs[i]? = some m):tms q (gs.take (i+1))=tms q (gs.take i)++[Jg q m.1 m.2]:=by
 unfold tms; rw [qXq,h,F6]; rfl
theorem Qk1 (q:Rat) (gs:List (Pt×Pt)):(tms q gs).length=gs.length:=by simp [tms]
theorem Qry (q:Rat) {l:List Pt}:∀ m∈(Qx q l).2,m.1∈l∧m.2∈l:=by
 rcases Hl l.length with h | h
 ·rw [Kn q (by omega)]; simp
 obtain ⟨_,_,_,h2⟩:=Vv q l.length l (X2 _) h
 exact h2
set_option maxRecDepth 20000 in
theorem M1 {l M:List Pt} {q:Rat} {c:List (List Int)} (hM:Zf V9 l=M) (hl:∀ x∈M,Rs x.c) (hn:l.length≤1000) (hq:Qs 1000000 q) (h0:0<M.length):Za Tryz.prog 145 [.one (Kr l),.agg [Zp ((zp [-(q).num,((q).den:Int)])),Kw c,dl ((dig ((q).num).natAbs)),sg ((q).num),dl ((dig (((q).den:Int)).natAbs)),sg (((q).den:Int)),dl ((dig ((q).num).natAbs)),sg ((q).num),dl ((dig (((q).den:Int)).natAbs)),sg (((q).den:Int))]] (.one (Gl ((Zf Yu (tms q (Qx q M).2))))):=by
 refine X4 tt 0 [] Tryz.func145 Tryz.ntmps145 rfl rfl rfl ?_
 have hML:M.length=l.length:=by rw [←hM,Y8]
 obtain ⟨w,hw,_⟩:=Vv q _ M (X2 _) h0
 have hpg:=Vz q _ M (X2 _)
 skip
 refine Qr tt 3 rfl ?_
 refine Qf tt 1 [] (Qh (m:=l.length) Ue rfl (Yz _) rfl) rfl ?_
 refine Z8 tt 0 [] (decide_eq_false (by omega)) rfl rfl ?_
 refine kc (Rd Qp 8 7 5 100 100 5 17 [.slice none 0 0,.slice none 0 0,.slice none 0 0,.slice none 0 0,.bool false,.slice none 0 0,.int .i64 0] [Zp ((X6 w.c.x w.c.d)),Zp ((X6 w.c.y w.c.d)),pl w.c.x,pl w.c.y,sg w.c.d,mg w.c.d,.int .i64 w.id] [13,14,15,16,12,17,18,5] [[],[0],[],[1,2],[3],[4],[4],[],[5,7]] [.one (Kr l),.one (Kr M),.agg [Zp ((zp [-(q).num,((q).den:Int)])),Kw c,dl ((dig ((q).num).natAbs)),sg ((q).num),dl ((dig (((q).den:Int)).natAbs)),sg (((q).den:Int)),dl ((dig ((q).num).natAbs)),sg ((q).num),dl ((dig (((q).den:Int)).natAbs)),sg (((q).den:Int))],.tup [.agg [Zp ((X6 w.c.x w.c.d)),Zp ((X6 w.c.y w.c.d)),pl w.c.x,pl w.c.y,sg w.c.d,mg w.c.d,.int .i64 w.id],.one (H7 ((Qx q M).2))],.tup [.agg [Zp ((X6 w.c.x w.c.d)),Zp ((X6 w.c.y w.c.d)),pl w.c.x,pl w.c.y,sg w.c.d,mg w.c.d,.int .i64 w.id],.one (H7 ((Qx q M).2))],.agg [Zp ((X6 w.c.x w.c.d)),Zp ((X6 w.c.y w.c.d)),pl w.c.x,pl w.c.y,sg w.c.d,mg w.c.d,.int .i64 w.id],.one (H7 ((Qx q M).2)),.un] [] [] rfl rfl rfl (by decide) trivial rfl rfl rfl rfl rfl rfl Uf rfl rfl rfl ⟨Qv rfl rfl,Zu Tryz.func89 rfl rfl rfl rfl ((by have h_:=N1 (l:=l) (by omega); rwa [hM] at h_)) rfl,Zq qGe qFw rfl rfl rfl rfl,Zu Tryz.func88 rfl rfl rfl rfl (Tp hq M.length M w (X2 _) h0 hl (by omega) hw) rfl,Qv rfl rfl,Ka rfl rfl rfl,Ka rfl rfl rfl,Vr qWh rfl,trivial⟩ fun g1=>⟨_,_,rfl,rfl,kn ?_⟩)
 refine Qr tt 3 rfl ?_
 refine Qf tt 1 [] (Qh (m:=((Qx q M).2).length) qWc rfl (Qmo _) rfl) rfl ?_
 refine X5 (fun _ k_=>Xy [7] 47 9 rfl (Zc rfl) rfl (Qo k_)) rfl ?_
 refine Qj [0,3,6,20,7,21] rfl rfl ?_
 refine Yt 1 rfl rfl ?_
 refine Zl (fun m L B=>∃ i r,i≤(Qx q M).2.length∧m=(Qx q M).2.length-i∧L=[(0,.one (Kr l)),(3,.one (.sh [Zp ((zp [-(q).num,((q).den:Int)])),Kw c,dl ((dig ((q).num).natAbs)),sg ((q).num),dl ((dig (((q).den:Int)).natAbs)),sg (((q).den:Int)),dl ((dig ((q).num).natAbs)),sg ((q).num),dl ((dig (((q).den:Int)).natAbs)),sg (((q).den:Int))])),(6,.one (H7 ((Qx q M).2))),(20,.one (.int .i64 (((((Qx q M).2).length:Nat):Int)))),(7,.one (.orow r 9 0 i)),(21,.one (.int .i64 (((i:Nat):Int))))]∧B=[.row r 47 9 ((tms q ((Qx q M).2.take i)).map rct)]) (m:=_) ⟨0,none,K6 _,rfl,rfl,rfl⟩ ?_
 rintro m L B ⟨i,r,hp0,hm,rfl,rfl⟩
 refine Qq tt rfl ?_
 have hO:(tms q ((Qx q M).2.take i)).length=i:=by rw [Qk1,Kd]; omega
 by_cases hlt:i<(Qx q M).2.length
 ·obtain ⟨y,hm⟩:∃ m,(Qx q M).2[i]? = some m:=⟨_,Xx hlt⟩
  obtain ⟨hm1,hm2⟩:=Qry q y (Vo hm)
  refine Qr tt 1 rfl ?_
  refine Xh tt 2 [] (decide_eq_true (by omega)) rfl rfl ?_
  refine Qy 15 Qp rfl rfl rfl ?_
  refine Qr tt 4 rfl ?_
  refine kd (Qi (i) qWc qUi rfl rfl (rfl) (Qg hm) rfl rfl) rfl ?_
  refine Qq tt rfl ?_
  refine kd (Zo 0 Tryz.runUnderlying230 Uf rfl rfl rfl (by decide) rfl rfl) rfl ?_
  refine Qr tt 3 rfl ?_
  refine kd (Qi (i) qWc qUi rfl rfl (rfl) (Qg hm) rfl rfl) rfl ?_
  refine Qq tt rfl ?_
  refine kd (Zo 1 Tryz.runUnderlying230 Uf rfl rfl rfl (by decide) rfl rfl) rfl ?_
  refine Qr tt 2 rfl ?_
  refine Yv tt 1 [] Tryz.func221 rfl rfl rfl (Qcp (q:=q) (c:=c) (a:=y.1) (b:=y.2) (hl y.1 hm1) (hl y.2 hm2) (hq)) rfl rfl ?_
  refine Qq tt rfl ?_
  refine Zn (Zg (ls2:=(tms q ((Qx q M).2.take (i+1))).map rct) (m2:=i+1) 0 Ee Ee Tryz.typeInfo47 rfl rfl qWo qUf rfl rfl rfl rfl rfl rfl rfl (by rw [Zr,hO]; exact X2 _) (Js rfl) (Jx rfl) (by show _+1<_; omega) (by rw [Y0 (by rw [Zr,hO]; exact X2 _),Qqa hm,F6]; rfl) (rfl) fun r2=>ko ?_)
  refine Qr tt 1 rfl ?_
  refine Qf tt 1 [] (Zb (r:=((i+1:Nat):Int)) rfl rfl (Qm (by omega) (by omega)) rfl) rfl ?_
  refine Qj [0,3,6,20,7,21] rfl rfl ?_
  refine Q8 ?_
  refine ⟨_,?_,i+1,r2,by omega,rfl,rfl,rfl⟩
  omega
 have hi:(Qx q M).2.take i=(Qx q M).2:=Y0 (by omega)
 refine Qr tt 1 rfl ?_
 refine Z8 tt 1 [] (decide_eq_false (by omega)) rfl rfl ?_
 refine X5 (fun _ k_=>Xe 0 [41] rfl (Zc rfl) (by rw [Zr,hO]) (by rw [Zr,hO]; omega) rfl (Qo k_)) rfl ?_
 refine Qq tt rfl ?_
 refine kl tt 1 [] Tryz.func222 rfl rfl rfl (Qco (by omega)) rfl rfl ?_
 exact Xp tt [] rfl (by rw [hi])
theorem M0 {l:List Pt} {q:Rat} {c:List (List Int)} (h0:l.length=0):Za Tryz.prog 145 [.one (Kr l),.agg [Zp ((zp [-(q).num,((q).den:Int)])),Kw c,dl ((dig ((q).num).natAbs)),sg ((q).num),dl ((dig (((q).den:Int)).natAbs)),sg (((q).den:Int)),dl ((dig ((q).num).natAbs)),sg ((q).num),dl ((dig (((q).den:Int)).natAbs)),sg (((q).den:Int))]] (.one (Gl ([]))):=by
 refine X4 tt 3 [] Tryz.func145 Tryz.ntmps145 rfl rfl rfl ?_
 refine Qf tt 1 [] (Qh (m:=l.length) Ue rfl (Yz _) rfl) rfl ?_
 refine Xh tt 1 [] (decide_eq_true (by omega)) rfl rfl ?_
 refine X5 (fun _ k_=>R0 4 rfl (Qo k_)) rfl ?_
 exact Xp tt [] rfl (rfl)
theorem E9 {l:List Pt} {w:List Ct} {q:Rat} {c:List (List Int)} (h:Za Tryz.prog 145 [.one (Kr l),.agg [Zp ((zp [-(q).num,((q).den:Int)])),Kw c,dl ((dig ((q).num).natAbs)),sg ((q).num),dl ((dig (((q).den:Int)).natAbs)),sg (((q).den:Int)),dl ((dig ((q).num).natAbs)),sg ((q).num),dl ((dig (((q).den:Int)).natAbs)),sg (((q).den:Int))]] (.one (Gl w))):Za Tryz.prog 78 [.one (.int .i64 1),.one (Kr l),.agg [Zp ((zp [-(q).num,((q).den:Int)])),Kw c,dl ((dig ((q).num).natAbs)),sg ((q).num),dl ((dig (((q).den:Int)).natAbs)),sg (((q).den:Int)),dl ((dig ((q).num).natAbs)),sg ((q).num),dl ((dig (((q).den:Int)).natAbs)),sg (((q).den:Int))]] (.one (Gl w)):=by
 refine X4 tt 5 [] Tryz.func78 Tryz.ntmps78 rfl rfl rfl ?_
 refine Z8 tt 2 [] (rfl) rfl rfl ?_
 refine Xh tt 2 [] (rfl) rfl rfl ?_
 refine kl tt 1 [] Tryz.func145 rfl rfl rfl (h) rfl rfl ?_
 exact Xp tt [] rfl (rfl)
theorem Ab {l:List Pt} {w:List Ct} {q:Rat} {c:List (List Int)} (h:Za Tryz.prog 145 [.one (Kr l),.agg [Zp ((zp [-(q).num,((q).den:Int)])),Kw c,dl ((dig ((q).num).natAbs)),sg ((q).num),dl ((dig (((q).den:Int)).natAbs)),sg (((q).den:Int)),dl ((dig ((q).num).natAbs)),sg ((q).num),dl ((dig (((q).den:Int)).natAbs)),sg (((q).den:Int))]] (.one (Gl w))):Za Tryz.prog 17 [.one (.int .i64 1),.one (Kr l),.agg [Zp ((zp [-(q).num,((q).den:Int)])),Kw c,dl ((dig ((q).num).natAbs)),sg ((q).num),dl ((dig (((q).den:Int)).natAbs)),sg (((q).den:Int)),dl ((dig ((q).num).natAbs)),sg ((q).num),dl ((dig (((q).den:Int)).natAbs)),sg (((q).den:Int))]] (.one (Gl w)):=by
 refine X4 tt 5 [] Tryz.func17 Tryz.ntmps17 rfl rfl rfl ?_
 refine kl tt 1 [] Tryz.func78 rfl rfl rfl (E9 h) rfl rfl ?_
 exact Xp tt [] rfl (rfl)
end Orr

namespace Orr
open Go Go.Proofs
theorem Qr0 {n:Nat} {most:Int} {l:List RawPt}:∀ p∈Jt n most l,0≤p.id∧p.id<1000:=fun p hp=>by
 rcases Bg _ _ hp with h | h
 ·cases h
 ·obtain ⟨z,_,rfl⟩:=Ww.1 h
  exact ⟨qXy _ (by omega),qXs _ (by omega)⟩
theorem Qnn (O:List Pt) (e:Nat):(Co O e).map I0=(T6 O e).map rnp:=by unfold Co; rw [List.map_map]; rfl
abbrev Qe (n d:Int):Rat:=Qz (n % 61-30) (1+d % 6)
theorem Qbu (n d:Int):Qs 100 (Qe n d):=by
 have h1:=qXy n (b:=61) (by omega)
 have h2:=qXs n (b:=61) (by omega)
 have h3:=qXy d (b:=6) (by omega)
 have h4:=qXs d (b:=6) (by omega)
 unfold Qe Qz
 rw [if_neg (by omega)]
 exact Qs.divInt (Xd (Gg.2 (show (n % 61-30).natAbs<2^10 by omega)) (by decide)) (Xd (Gg.2 (show (1+d % 6).natAbs<2^10 by omega)) (by decide)) (by decide)
theorem Ou {n d:Int} (hn:-9223372036854775808≤n∧n≤9223372036854775807) (hd:-9223372036854775808≤d∧d≤9223372036854775807):Za Tryz.prog 76 [.one (.int .i64 n),.one (.int .i64 d)] (.agg [dl ((dig (((Qe n d)).num).natAbs)),sg (((Qe n d)).num),dl ((dig ((((Qe n d)).den:Int)).natAbs)),sg ((((Qe n d)).den:Int))]):=by
 refine X4 tt 0 [] Tryz.func76 Tryz.ntmps76 rfl rfl rfl ?_
 have h1:=qXy n (b:=61) (by omega)
 have h2:=qXs n (b:=61) (by omega)
 have h3:=qXy d (b:=6) (by omega)
 have h4:=qXs d (b:=6) (by omega)
 skip
 refine Qq tt rfl ?_
 refine Zn (Qn Tz rfl rfl fun g1=>ko ?_)
 refine Qr tt 1 rfl ?_
 refine kl tt 0 [] Tryz.func18 rfl rfl rfl (W4 (hn) (by decide)) rfl rfl ?_
 refine Qf tt 1 [] (Z9 (r:=(((n % 61))-30)) rfl rfl (Qm rfl (by omega)) rfl) rfl ?_
 refine kl tt 0 [] Tryz.func18 rfl rfl rfl (W4 (hd) (by decide)) rfl rfl ?_
 refine Qf tt 0 [] (Zb (r:=(1+((d % 6)))) rfl rfl (Qm rfl (by omega)) rfl) rfl ?_
 refine kl tt 1 [0] qGa rfl rfl rfl (Pg (n:=((((n % 61))-30))) (d:=((1+((d % 6))))) (by omega) (by omega)) rfl rfl ?_
 exact Xp tt [0] rfl (rfl)
set_option maxRecDepth 20000 in
theorem E6 {g:Nat} {M:List Pt} {w:List Ct} {q:Rat} {c:List (List Int)} (hq:Qs 1000000 q) (hC:Qek q c) (hw:w.length≤1000000) (h:Za Tryz.prog 145 [.one (Kr M),.agg [Zp ((zp [-(q).num,((q).den:Int)])),Kw c,dl ((dig ((q).num).natAbs)),sg ((q).num),dl ((dig (((q).den:Int)).natAbs)),sg (((q).den:Int)),dl ((dig ((q).num).natAbs)),sg ((q).num),dl ((dig (((q).den:Int)).natAbs)),sg (((q).den:Int))]] (.one (Gl w))):Us Tryz.prog 111 [.one (.ow g 0)] [.blk g 119 [Kr M,dl ((dig ((q).num).natAbs)),sg ((q).num),dl ((dig (((q).den:Int)).natAbs)),sg (((q).den:Int)),.nils,.nils,.nils,.bool false,.nils,.bool false,.nils,.bool false,.nils,.bool false,.nils,.int .i64 0,.nils]] fun r B=>r=.tup []∧B=[.blk g 119 [Kr M,dl ((dig ((q).num).natAbs)),sg ((q).num),dl ((dig (((q).den:Int)).natAbs)),sg (((q).den:Int)),Zp ((zp [-(q).num,((q).den:Int)])),Kw c,dl ((dig ((q).num).natAbs)),sg ((q).num),dl ((dig (((q).den:Int)).natAbs)),sg (((q).den:Int)),dl ((dig ((q).num).natAbs)),sg ((q).num),dl ((dig (((q).den:Int)).natAbs)),sg (((q).den:Int)),Gl w,.int .i64 0,.nils]]:=by
 refine X4 tt 6 [0] Tryz.func111 Tryz.ntmps111 rfl rfl rfl ?_
 refine kl tt 8 [0,0] Tryz.func38 rfl rfl rfl (Ai hq hC) rfl rfl ?_
 refine Qy 17 Qp rfl rfl rfl ?_
 refine Xu tt 15 [0,0,0] rfl ?_
 refine Yv tt 0 [] Tryz.func17 rfl rfl rfl (Ab h) rfl rfl ?_
 refine Yv tt 4 [0] Tryz.func174 rfl rfl rfl (O1 (hw)) rfl rfl ?_
 refine Qn8 ?_
 exact ⟨_,[],_,Qpl Tryz.results111 ,rfl,⟨rfl,rfl⟩⟩
set_option maxRecDepth 20000 in
theorem Ow {l:List RawPt} {n d:Int} {c:List (List Int)} (hl:∀ z∈l,z.Ok) (hln:l.length≤140737488355327) (hn:-9223372036854775808≤n∧n≤9223372036854775807) (hd:-9223372036854775808≤d∧d≤9223372036854775807) (hRC:Qek (Qe n d) c) (hCert:∀ e,e≤(Jt 4 20 l).length→Om (T6 (Jt 4 20 l) e)→∃ w:List Ct,w.length≤1000000∧Za Tryz.prog 145 [.one (Kr ((Zf V9 (Co (Jt 4 20 l) e)))),.agg [Zp ((zp [-((Qe n d)).num,(((Qe n d)).den:Int)])),Kw c,dl ((dig (((Qe n d)).num).natAbs)),sg (((Qe n d)).num),dl ((dig ((((Qe n d)).den:Int)).natAbs)),sg ((((Qe n d)).den:Int)),dl ((dig (((Qe n d)).num).natAbs)),sg (((Qe n d)).num),dl ((dig ((((Qe n d)).den:Int)).natAbs)),sg ((((Qe n d)).den:Int))]] (.one (Gl w))):Us Tryz.prog 41 [.one (I7 l),.one (.int .i64 n),.one (.int .i64 d)] [] fun R B=>∃ M g gp w,M.length≤4∧Wj M∧(∀ x∈M,Nml x.c∧Cs 10 3 x.c)∧w.length≤1000000∧R=.tup [.one (.ow g 0),.one (.ow gp 0),.one (.bool true)]∧B=[.blk g 122 [.bool true,pl ([-((Qe n d)).num,(((Qe n d)).den:Int)]),sg ((((Qe n d))).num),mg ((((Qe n d))).num),sg (((((Qe n d))).den:Int)),mg (((((Qe n d))).den:Int)),sg ((((Qe n d))).num),mg ((((Qe n d))).num),sg (((((Qe n d))).den:Int)),mg (((((Qe n d))).den:Int)),T4 ((Z7 (Td ((Qe n d)) (Qx ((Qe n d)) M).2))),.int .i64 0,V5 M,V5 ((Qx ((Qe n d)) M).1),Mj ((Qx ((Qe n d)) M).2)],.blk gp 119 [Kr M,dl ((dig (((Qe n d)).num).natAbs)),sg (((Qe n d)).num),dl ((dig ((((Qe n d)).den:Int)).natAbs)),sg ((((Qe n d)).den:Int)),Zp ((zp [-((Qe n d)).num,(((Qe n d)).den:Int)])),Kw c,dl ((dig (((Qe n d)).num).natAbs)),sg (((Qe n d)).num),dl ((dig ((((Qe n d)).den:Int)).natAbs)),sg ((((Qe n d)).den:Int)),dl ((dig (((Qe n d)).num).natAbs)),sg (((Qe n d)).num),dl ((dig ((((Qe n d)).den:Int)).natAbs)),sg ((((Qe n d)).den:Int)),Gl w,.int .i64 0,.nils]]:=by
 refine X4 tt 0 [] Tryz.func41 Tryz.ntmps41 rfl rfl rfl ?_
 have hOl:=Qa6 (n:=4) (most:=20) (by decide) (l:=l)
 have hOn:(Jt 4 20 l).length≤4:=Sm _ _ (K6 _)
 have hOid:∀ p∈(Jt 4 20 l),0≤p.id∧p.id<1000:=Qr0
 skip
 refine Qr tt 4 rfl ?_
 refine Zn (Yh (Bin:=[]) Tryz.func15 rfl rfl rfl rfl (Lc hl hln) rfl fun r_ B_ hr_=>ko ?_)
 obtain ⟨r1,r2,rfl,rfl⟩:=hr_
 refine Qr tt 6 rfl ?_
 refine kw (Qh (m:=(Jt 4 20 l).length) V0 rfl (rfl) rfl) ?_
 refine syp tt 1 [100000] [] rfl ?_
 refine Ml 1 (fun L B=>∃ e ls1 ls2,e≤(Jt 4 20 l).length∧Om (T6 (Jt 4 20 l) e)∧ls1.length=(Jt 4 20 l).length∧ls2.length=(Jt 4 20 l).length∧ls1.take e=(T6 (Jt 4 20 l) e).map Wp∧ls2.take e=(T6 (Jt 4 20 l) e).map rnp∧L=[(1,.one (.int .i64 n)),(2,.one (.int .i64 d)),(9,.one (.orow r1 5 0 e)),(10,.one (.orow r2 7 0 e))]∧B=[.row r1 76 5 ls1,.row r2 100 7 ls2]) ?_ rfl ?_
 ·skip
  refine Qq tt rfl ?_
  refine X5 (fun _ k_=>Jq (ls':=(Il (Jt 4 20 l) 0).map rnp) 1 rfl (by rw [Qfv]) (Qo k_)) rfl ?_
  refine X5 (fun _ k_=>Jq (ls':=(Il (Jt 4 20 l) 0).map Wp) 1 rfl (by rw [Qfv]) (Qo k_)) rfl ?_
  refine Qj [1,2,9,10,22,23] rfl rfl ?_
  refine Zl (fun m L B=>∃ i,i≤(Jt 4 20 l).length∧Om (T6 (Jt 4 20 l) i)∧m=(Jt 4 20 l).length-i∧L=[(1,.one (.int .i64 n)),(2,.one (.int .i64 d)),(9,.one (.orow r1 5 0 ((Jt 4 20 l).length))),(10,.one (.orow r2 7 0 ((Jt 4 20 l).length))),(22,.one (.int .i64 ((((Jt 4 20 l).length:Nat):Int)))),(23,.one (.int .i64 (((i:Nat):Int))))]∧B=[.row r1 76 5 ((Il (Jt 4 20 l) i).map Wp),.row r2 100 7 ((Il (Jt 4 20 l) i).map rnp)]) (m:=_) ⟨0,K6 _,List.Pairwise.nil,rfl,rfl,rfl⟩ ?_
  rintro m L B ⟨i,ha0,ha1,hm,rfl,rfl⟩
  refine Qq tt rfl ?_
  have hml:=Pp (Jt 4 20 l) i
  by_cases hlt:i<(Jt 4 20 l).length
  ·obtain ⟨p,hp⟩:∃ p,(Jt 4 20 l)[i]? = some p:=⟨_,Xx hlt⟩
   have hpid:=hOid p (Vo hp)
   have hm1:=Qrp hp
   have hml2:=Pp (Jt 4 20 l) (i+1)
   have hm5:=Qj4 (Nat.lt_succ_self i) hp
   refine Qr tt 1 rfl ?_
   refine Xh tt 2 [] (decide_eq_true (by omega)) rfl rfl ?_
   refine kc (Qk8 Qp 18 [26,27,28,29,30,31,32,33,34,35,36,37,38,39,40,41,42,43] [[],[],[],[],[],[],[4,5],[6],[7],[8],[],[],[10,11],[12],[13],[14],[0,1],[16],[0,1,4,5,6,7,8,9,14,15,17]] [.one (.orow r1 5 0 ((Jt 4 20 l).length)),.one (.int .i64 (((i:Nat):Int))),.one (.orow r2 7 0 ((Jt 4 20 l).length)),.one (.int .i64 (((i:Nat):Int))),.one (.orow r1 5 0 ((Jt 4 20 l).length)),.one (.int .i64 (((i:Nat):Int))),.one (.oel r1 5 ((0+i)) 0),.one (.oel r1 5 ((0+i)) 4),.one (.int .i64 p.id),.one (.int .i64 ((p.id % 5))),.one (.orow r1 5 0 ((Jt 4 20 l).length)),.one (.int .i64 (((i:Nat):Int))),.one (.oel r1 5 ((0+i)) 0),.one (.oel r1 5 ((0+i)) 4),.one (.int .i64 p.id),.one (.int .i64 ((p.id % 5))),.one (.oel r1 5 ((0+i)) 0),.one (.oel r1 5 ((0+i)) 4)] (fun B=>B=[.row r1 76 5 ((Il (Jt 4 20 l) (i+1)).map Wp),.row r2 100 7 ((Il (Jt 4 20 l) i).map rnp)]) rfl rfl rfl rfl ⟨Qv rfl rfl,Qv rfl rfl,Qv rfl rfl,Qv rfl rfl,Qv rfl rfl,Qv rfl rfl,Zi (i) V0 Wb rfl rfl (rfl) (by omega) rfl,Sw Bb rfl rfl,X7 0 S0 Xw rfl rfl (by rw [Vl]; exact Qg (Ec hp)) rfl rfl rfl,Zu Tryz.func18 rfl rfl rfl rfl (W4 (by omega) (by decide)) rfl,Qv rfl rfl,Qv rfl rfl,Zi (i) V0 Wb rfl rfl (rfl) (by omega) rfl,Sw Bb rfl rfl,X7 0 S0 Xw rfl rfl (by rw [Vl]; exact Qg (Ec hp)) rfl rfl rfl,Zu Tryz.func18 rfl rfl rfl rfl (W4 (by omega) (by decide)) rfl,Zi (i) V0 Wb rfl rfl (rfl) (by omega) rfl,Sw Bb rfl rfl,trivial⟩ ?_ ?_ ?_)
   ·intro js_ hj_
    have hj_:some [0,1,4,5,6,7,8,9,14,15,17]=some js_:=hj_
    injection hj_ with hj_
    subst hj_
    refine Qk9 fun N k_=>?_
    refine Jp (ls2:=(Il (Jt 4 20 l) (i+1)).map Wp) 0 Xw rfl rfl rfl rfl rfl rfl (by rw [Vl]; exact Qg (Ec hp)) rfl (by rw [Vl,←hm1,List.map_set]; rfl) ?_
    exact Qo (k_ _ rfl)
   ·rintro B_ rfl
    exact ⟨trivial,trivial,Qv rfl rfl,Qv rfl rfl,trivial,trivial,trivial,trivial,trivial,trivial,Qv rfl rfl,Qv rfl rfl,Zi (i) V0 Wb rfl rfl (rfl) (by omega) rfl,Sw Bb rfl rfl,trivial,trivial,Zi (i) V0 Wb rfl rfl (rfl) (by omega) rfl,trivial,trivial⟩
   rintro B_ rfl
   refine ⟨_,rfl,kn ?_⟩
   refine Qq tt rfl ?_
   refine Qf tt 1 [] (Zi (i) Ue Uf rfl rfl (rfl) (by omega) rfl) rfl ?_
   refine Zn (Jp (ls2:=(Il (Jt 4 20 l) (i+1)).map rnp) 1 Xw rfl rfl rfl rfl rfl rfl (by rw [Vl]; exact Qg (Ec hp)) rfl (by rw [Vl,←hm1,List.map_set]; rfl) (ko ?_))
   refine Qr tt 1 rfl ?_
   refine Qj [1,2,9,10,11,22,23,12] rfl rfl ?_
   refine Yi 0 rfl rfl ?_
   refine Yi 1 rfl rfl ?_
   refine Zl (fun m L B=>∃ k,k≤i∧(∀ j x,j<k→(Jt 4 20 l)[j]? = some x→x.m5.id≠p.m5.id)∧m=i-k∧L=[(1,.one (.int .i64 n)),(2,.one (.int .i64 d)),(9,.one (.orow r1 5 0 ((Jt 4 20 l).length))),(10,.one (.orow r2 7 0 ((Jt 4 20 l).length))),(11,.one (.int .i64 (((i:Nat):Int)))),(22,.one (.int .i64 ((((Jt 4 20 l).length:Nat):Int)))),(23,.one (.int .i64 (((i:Nat):Int)))),(12,.one (.int .i64 (((k:Nat):Int))))]∧B=[.row r1 76 5 ((Il (Jt 4 20 l) (i+1)).map Wp),.row r2 100 7 ((Il (Jt 4 20 l) (i+1)).map rnp)]) (m:=_) ⟨0,K6 _,fun j x hj=>absurd hj (qVx _),rfl,rfl,rfl⟩ ?_
   rintro m L B ⟨k,hq0,hq1,hm,rfl,rfl⟩
   refine Qq tt rfl ?_
   by_cases hk:k<i
   ·obtain ⟨x,hx⟩:∃ x,(Jt 4 20 l)[k]? = some x:=⟨_,Xx (by omega)⟩
    have hx5:=Qj4 (i:=i+1) (by omega) hx
    by_cases hid:x.m5.id=p.m5.id
    refine Qq tt rfl ?_
    ·have hle:i≤(Jt 4 20 l).length:=ha0
     have hdf:=ha1
     have hin:=Qfu (O:=(Jt 4 20 l)) (Nat.le_succ i) (show i+1≤_ by omega)
     refine Qr tt 3 rfl ?_
     refine Xh tt 0 [] (decide_eq_true (by omega)) rfl rfl ?_
     refine Qy 10 Qp rfl rfl rfl ?_
     refine Qr tt 2 rfl ?_
     refine kd (Zi (k) V0 Wb rfl rfl (rfl) (by omega) rfl) rfl ?_
     refine Qr tt 1 rfl ?_
     refine kd (X7 0 S0 Xw rfl rfl (by rw [Vl]; exact Qg hx5) rfl rfl rfl) rfl ?_
     refine Qr tt 2 rfl ?_
     refine kd (Zi (i) V0 Wb rfl rfl (rfl) (by omega) rfl) rfl ?_
     refine Qr tt 1 rfl ?_
     refine kd (X7 0 S0 Xw rfl rfl (by rw [Vl]; exact Qg hm5) rfl rfl rfl) rfl ?_
     refine Qr tt 1 rfl ?_
     refine Xh tt 0 [] (decide_eq_true hid) rfl rfl ?_
     refine kc (Qni Qp 7 [62,63,64,65,66,67,9] [[],[],[0,1],[],[],[3,4],[2]] [.one (.orow r1 5 0 ((Jt 4 20 l).length)),.one (.int .i64 (((i:Nat):Int))),.one (.orow r1 5 0 i),.one (.orow r2 7 0 ((Jt 4 20 l).length)),.one (.int .i64 (((i:Nat):Int))),.one (.orow r2 7 0 i),.one (.orow r1 5 0 i)] [0] [9] rfl rfl rfl rfl rfl ⟨Qv rfl rfl,Qv rfl rfl,Fu i V0 Wb rfl rfl rfl (by omega) rfl,Qv rfl rfl,Qv rfl rfl,Fu i Ue Uf rfl rfl rfl (by omega) rfl,Qf2 rfl rfl,trivial⟩ rfl (kn ?_))
     refine Qr tt 3 rfl ?_
     refine Qf tt 1 [] (Qh (m:=i) V0 rfl (rfl) rfl) rfl ?_
     refine Xh tt 0 [] (decide_eq_true (by omega)) rfl rfl ?_
     refine Qj [1,2,9,10] rfl rfl ?_
     refine Q8 ?_
     exact ⟨i,_,_,hle,hdf,by rw [Zr,Pp],by rw [Zr,Pp],by rw [←Ix,hin]; rfl,by rw [←Ix,hin]; rfl,rfl,rfl⟩
    skip
    refine Qr tt 3 rfl ?_
    refine Xh tt 0 [] (decide_eq_true (by omega)) rfl rfl ?_
    refine Qy 10 Qp rfl rfl rfl ?_
    refine Qr tt 2 rfl ?_
    refine kd (Zi (k) V0 Wb rfl rfl (rfl) (by omega) rfl) rfl ?_
    refine Qr tt 1 rfl ?_
    refine kd (X7 0 S0 Xw rfl rfl (by rw [Vl]; exact Qg hx5) rfl rfl rfl) rfl ?_
    refine Qr tt 2 rfl ?_
    refine kd (Zi (i) V0 Wb rfl rfl (rfl) (by omega) rfl) rfl ?_
    refine Qr tt 1 rfl ?_
    refine kd (X7 0 S0 Xw rfl rfl (by rw [Vl]; exact Qg hm5) rfl rfl rfl) rfl ?_
    refine Qr tt 1 rfl ?_
    refine Z8 tt 1 [] (decide_eq_false hid) rfl rfl ?_
    refine Qf tt 1 [] (Zb (r:=((k+1:Nat):Int)) rfl rfl (Qm (by omega) (by omega)) rfl) rfl ?_
    refine Qj [1,2,9,10,11,22,23,12] rfl rfl ?_
    refine Q8 ?_
    refine ⟨_,?_,k+1,by omega,fun j y hj hy=>by
     rcases Mq j k with hjk | hjk
     ·exact hq1 j y hjk hy
     ·obtain rfl:j=k:=by omega
      rw [hx] at hy; injection hy with hy; subst hy; exact hid,rfl,rfl,rfl⟩
    omega
   have hki:k=i:=by omega
   rw [hki] at hq1
   refine Qr tt 3 rfl ?_
   refine Z8 tt 2 [] (decide_eq_false (by omega)) rfl rfl ?_
   refine Qf tt 1 [] (Qh (m:=(Jt 4 20 l).length) V0 rfl (rfl) rfl) rfl ?_
   refine Z8 tt 0 [] (decide_eq_false (by omega)) rfl rfl ?_
   refine Qf tt 1 [] (Zb (r:=((i+1:Nat):Int)) rfl rfl (Qm (by omega) (by omega)) rfl) rfl ?_
   refine Qj [1,2,9,10,22,23] rfl rfl ?_
   refine Q8 ?_
   refine ⟨_,?_,i+1,by omega,Qln hp ha1 hq1,rfl,rfl,rfl⟩
   omega
  have hi:i=(Jt 4 20 l).length:=by omega
  have hle:i≤(Jt 4 20 l).length:=ha0
  have hdf:=ha1
  have hin:=Qfu (O:=(Jt 4 20 l)) (X2 i) ha0
  refine Qr tt 1 rfl ?_
  refine Z8 tt 0 [] (decide_eq_false (by omega)) rfl rfl ?_
  refine X5 (fun _ k_=>Xs 9 (y:=.one (.orow r1 5 0 i)) rfl (by rw [hi]) (Qo k_)) rfl ?_
  refine X5 (fun _ k_=>Xs 10 (y:=.one (.orow r2 7 0 i)) rfl (by rw [hi]) (Qo k_)) rfl ?_
  refine Qj [1,2,9,10] rfl rfl ?_
  refine Q8 ?_
  exact ⟨i,_,_,hle,hdf,by rw [Zr,Pp],by rw [Zr,Pp],by rw [←Ix,hin]; rfl,by rw [←Ix,hin]; rfl,rfl,rfl⟩
 rintro L B ⟨e,ls1,ls2,hc0,hc1,hc2,hc3,hc4,hc5,rfl,rfl⟩
 refine Qq tt rfl ?_
 obtain ⟨w,hw,hdo⟩:=hCert e hc0 hc1
 have hcl:=Qes hc0
 have hnl:=D0 (Jt 4 20 l) e
 have hsl:=Y8 (lt:=V9) (Co (Jt 4 20 l) e)
 have hqs:=Qbu n d
 obtain ⟨hn0,hn1⟩:=Ql5 (qs:=(Co (Jt 4 20 l) e)) (by omega) (Qak hc1)
 have hok:=Qjr hOl e
 skip
 refine Qr tt 1 rfl ?_
 refine X5 (fun _ k_=>Qb8 1 [73] rfl (Zc rfl) (by omega) (by omega) (by rw [qXf,hc5,←Qnn]) rfl (Qo k_)) rfl ?_
 refine Qq tt rfl ?_
 refine kl tt 2 [] Tryz.func89 rfl rfl rfl (N1 (l:=(Co (Jt 4 20 l) e)) (by omega)) rfl rfl ?_
 refine kl tt 1 [] Tryz.func76 rfl rfl rfl (Ou hn hd) rfl rfl ?_
 refine Zn (Yy rfl rfl rfl fun g1=>ko ?_)
 refine Qr tt 2 rfl ?_
 refine Zn (Yh (Bin:=[.blk g1 119 [Kr ((Zf V9 (Co (Jt 4 20 l) e))),dl ((dig (((Qe n d)).num).natAbs)),sg (((Qe n d)).num),dl ((dig ((((Qe n d)).den:Int)).natAbs)),sg ((((Qe n d)).den:Int)),.nils,.nils,.nils,.bool false,.nils,.bool false,.nils,.bool false,.nils,.bool false,.nils,.int .i64 0,.nils]]) Tryz.func111 rfl rfl rfl rfl (E6 (hqs.mono (by decide)) hRC hw hdo) rfl fun r_ B_ hr_=>ko ?_)
 obtain ⟨rfl,rfl⟩:=hr_
 refine Xu tt 4 [0] rfl ?_
 refine kl tt 1 [] Tryz.func83 rfl rfl rfl (Qlm (a:=(Qe n d)) (hqs.mono (by decide))) rfl rfl ?_
 refine X5 (fun _ k_=>Qb8 1 [88] rfl (Zc rfl) (by omega) (by omega) (by rw [qXf,hc4]) rfl (Qo k_)) rfl ?_
 refine Zn (Yh (Bin:=[]) Tryz.func49 rfl rfl rfl rfl (Mh (qs:=(Co (Jt 4 20 l) e)) (Zm _) (Zm _) (by have:=hqs.1; omega) (by have:=hqs.2; omega) (by rw [Ej]; exact hqs.mono (by decide)) (Qa2 fun x hx=>(Qet hOl e x hx).mono (by decide) (by decide)) (fun x hx=>⟨(hok x hx).1,(hok x hx).2.mono (by decide) (by decide)⟩) (by omega) hn0) rfl fun r_ B_ hr_=>ko ?_)
 obtain ⟨gs,rfl,rfl⟩:=hr_
 simp only [Ej,hn1]
 refine Qr tt 10 rfl ?_
 refine Qf tt 0 [] ((Qc rfl rfl (rfl) (Qw tt rfl rfl))) rfl ?_
 refine Qf tt 0 [] ((Qc rfl rfl (rfl) (Qw tt rfl rfl))) rfl ?_
 refine Qf tt 3 [] (Zs rfl (rfl) rfl rfl) rfl ?_
 refine Tr ?_
 exact ⟨_,[],_,Qx8 Tryz.results41 (Kb rfl rfl) (Kb rfl rfl) (Kb rfl rfl),rfl,⟨_,gs,g1,w,by omega,Ca (Qak hc1),fun x hx=>hok x (Ps.1 hx),hw,rfl,rfl⟩⟩
end Orr

namespace Orr
open Go
def Qup (ks:List Int):Value:=.agg (ks.map (Value.int .i64)).toArray
def Qxj:LV→Bool
  | .int _ _=>true
  | .bool _=>true
  | _=>false
structure MapT (P:Program) (T KT ET:Nat) (d:LV):Prop where
  u:∀ w,(underlying T).run P w=.ok (.map KT ET) w
  k:∃ ds,(∀ w,(underlying KT).run P w=.ok ds w)∧∀ x y,Instr.sameNow ds x y=none
  c:∀ (em:Bool) (ks:List Int),ks.length=3→∀ w,(Instr.checkKey em 10000 KT (Qup ks)).run P w=.ok () w
  e:∀ (x y:List Int),x.length=3→y.length=3→∀ w,(Op.equal KT (Qup x) (Qup y)).run P w=.ok (decide (x=y)) w
  z:∀ w,(zeroValue ET).run P w=.ok (Qxk d) w
  d:Qxj d=true
section
variable {P:Program} {K Ob:Nat→Prop} {w0 w:World} {a:Act} {n:Nat} {L:List (Nat×Value)} {Fs:List Fact} {Bs:List Va} {T KT ET:Nat} {d:LV}
end
variable {P:Program} {ops:Array Oper} {n d:Nat} {rest:List Oper} {N:Sg→List OB→Prop} {L:Sg} {B:List OB} {ty:TypeId} {pos:String} {after:Array Edge}
end Orr

namespace Orr
open Go
variable {P:Program} {ops:Array Oper} {n d:Nat} {L:Sg} {B:List OB} {ty:TypeId} {pos:String} {after:Array Edge}
end Orr
namespace Orr
open Go
variable {P:Program} {ops:Array Oper} {n d:Nat} {L:Sg} {B:List OB} {ty:TypeId} {pos:String} {after:Array Edge}
theorem Z4 {op:Op} {j t:Nat} {want b:Bool} (hj:(ops[j]?).bind (·.dst)=some t) (hv:lk L t=some (.one (.bool b))) (hb:b = !want) (hd:Nat.blt d n=true) :
    AP P ops n { dst:=some d,op:=op,type:=ty,pos:=pos,after:=after,guard:=some (j,want) } d (.tup []) L B:=by
  intro K Ob w0 w a Bs L' Fs h hL hB
  obtain ⟨v,hv,hr⟩:=hL t _ hv
  obtain rfl:=Kq hr
  exact Zv h hj hv hb hd fun a' h'=>wpList_nil ⟨rfl,_,h',⟨[],rfl,trivial⟩⟩
theorem Xm {op:Op} {j t:Nat} {want:Bool} (hj:(ops[j]?).bind (·.dst)=some t) (hv:lk L t=some (.tup [])) (hd:Nat.blt d n=true) :
    AP P ops n { dst:=some d,op:=op,type:=ty,pos:=pos,after:=after,guard:=some (j,want) } d (.tup []) L B:=by
  intro K Ob w0 w a Bs L' Fs h hL hB
  obtain ⟨v,hv,hr⟩:=hL t _ hv
  obtain ⟨vs,rfl,hvs⟩:∃ vs:List Value,v=.tuple vs.toArray∧TReps w (Q3 Ob Bs) vs []:=hr
  obtain rfl:vs=[]:=P5 (by have:=hvs.len; simpa using this)
  have hs:=h.slots t _ hv
  have hw:Region.wanted { dst:=some d,op:=op,type:=ty,pos:=pos,after:=after,guard:=some (j,want) } (yielded ops a.tmps)=false:=by
    simp [Region.wanted,yielded,hj,hs]
  unfold wpList
  rw [if_neg (by rw [hw]; simp)]
  exact wpList_nil ⟨rfl,_,h.put undef hd,⟨[],rfl,trivial⟩⟩
end Orr

namespace Orr
open Go Go.Proofs
abbrev im (m:Pt×Pt):List LV:=[.int .i64 m.1.id,.int .i64 m.2.id]
def ims (l:List (Pt×Pt)):LV:=.row (l.map im)
theorem S4 (l:List (Pt×Pt)):Vq (ims l)=some l.length:=by simp [ims,Vq]
def Wy (c x:Pt×Pt):Bool:=decide (c.1.id<x.1.id) || (decide (x.1.id=c.1.id) && decide (c.2.id<x.2.id))
theorem Qzc {ls:List (List LV)} (h:∀ c∈ls,c.length=2) {k:Nat} (hk:k<ls.length):∃ a0 a1,ls[k]? = some [a0,a1]:=by
 have h1:=h ls[k] (qJa hk)
 rw [Xx hk]
 match hl:ls[k],h1 with
 | [a0,a1],_=>exact ⟨a0,a1,rfl⟩
theorem Qz9 {O:List (Pt×Pt)} {z:List LV} (hz:z.length=2) {a b m e:Nat}:∀ c∈((O.map im++[z]).take a++((O.map im++[z]).drop b).take m++(O.map im++[z]).drop e),c.length=2:=by
 intro c hc
 have h1:c∈O.map im++[z]:=by
  rcases Y7.1 hc with hc | hc
  ·rcases Y7.1 hc with hc | hc
   ·exact Rx hc
   ·exact Pr (Rx hc)
  ·exact Pr hc
 rcases Y7.1 h1 with h1 | h1
 ·obtain ⟨x,_,rfl⟩:=Ww.1 h1; rfl
 rw [qZt.1 h1]; exact hz
theorem Qxh {O:List (Pt×Pt)} {z:List LV} {c:Pt×Pt} {i k:Nat} (hO:O.length=i) (hk:k≤i) (hp:U1 Wy O c O.length=k) :
  ((O.map im++[z]).take (0+(k+1))++((O.map im++[z]).drop (0+k)).take (i-k)++(O.map im++[z]).drop (0+(k+1)+(i-k))).set (0+k) (im c)=(P4 Wy O c).map im:=by
 simp only [Vl]
 rw [Qfn (O.map im) z (im c) (by rw [Zr]; omega) (by rw [Zr]; omega)]
 simp [P4,hp,Ix,qJm]
set_option maxRecDepth 20000 in
theorem Hs {g:Nat} {c0 c1 c2 c3 c4 c5 c6 c7 c8 c9 c10 c11 c12 y1:LV} {gs:List (Pt×Pt)} (hn:gs.length≤1000000):Us Tryz.prog 42 [.one (.ow g 0)] [.blk g 122 [c0,c1,c2,c3,c4,c5,c6,c7,c8,c9,c10,c11,c12,y1,Mj gs]] fun r B=>r=.one (ims ((Zf Wy gs)))∧B=[.blk g 122 [c0,c1,c2,c3,c4,c5,c6,c7,c8,c9,c10,c11,c12,y1,Mj gs]]:=by
 refine X4 tt 6 [0] Tryz.func42 Tryz.ntmps42 rfl rfl rfl ?_
 refine Qf tt 1 [] (Qh (m:=gs.length) qWn rfl (Qgc _) rfl) rfl ?_
 refine X5 (fun _ k_=>Xy [3] 123 2 rfl (Zc rfl) rfl (Qo k_)) rfl ?_
 refine Qj [3,11,12,13] rfl rfl ?_
 refine Zl (fun m L B=>∃ i r,i≤gs.length∧m=gs.length-i∧L=[(3,.one (.orow r 2 0 i)),(11,.one (Mj gs)),(12,.one (.int .i64 (((gs.length:Nat):Int)))),(13,.one (.int .i64 (((i:Nat):Int))))]∧B=[.row r 123 2 ((Zf Wy (gs.take i)).map im),.blk g 122 [c0,c1,c2,c3,c4,c5,c6,c7,c8,c9,c10,c11,c12,y1,Mj gs]]) (m:=_) ⟨0,none,K6 _,rfl,rfl,rfl⟩ ?_
 rintro m L B ⟨i,r,hp0,hm,rfl,rfl⟩
 refine Qq tt rfl ?_
 by_cases hlt:i<gs.length
 ·obtain ⟨c,hc⟩:∃ c,gs[i]? = some c:=⟨_,Xx hlt⟩
  have hO:(Zf Wy (gs.take i)).length=i:=by rw [Y8,Kd]; omega
  refine Qr tt 1 rfl ?_
  refine Xh tt 0 [] (decide_eq_true (by omega)) rfl rfl ?_
  refine Qf tt 1 [] (Qi (i) qWn qUy rfl rfl (rfl) (Qg hc) rfl rfl) rfl ?_
  refine Zn (Qn qUq rfl rfl fun g1=>ko ?_)
  refine Xu tt 1 [0] rfl ?_
  refine Qf tt 2 [0] (Xa 0 qGg Wb rfl rfl rfl (by decide) rfl) rfl ?_
  refine Qf tt 3 [0] (Xa 1 qGg Wb rfl rfl rfl (by decide) rfl) rfl ?_
  refine Zn (Qn Tryz.zeroValue123 rfl rfl fun g2=>ko ?_)
  refine Xu tt 2 [0] rfl ?_
  refine kw (Qh (m:=i) Iw rfl (rfl) rfl) ?_
  refine syp tt 1 [100002] [] rfl ?_
  refine Ml 1 (fun L B=>∃ k,k≤i∧U1 Wy (Zf Wy (gs.take i)) c (Zf Wy (gs.take i)).length=k∧L=[(3,.one (.orow r 2 0 i)),(6,.one (.ow g2 0)),(11,.one (Mj gs)),(12,.one (.int .i64 (((gs.length:Nat):Int)))),(13,.one (.int .i64 (((i:Nat):Int)))),(7,.one (.int .i64 (((k:Nat):Int))))]∧B=[.row r 123 2 ((Zf Wy (gs.take i)).map im),.blk g2 123 [.int .i64 c.1.id,.int .i64 c.2.id],.blk g 122 [c0,c1,c2,c3,c4,c5,c6,c7,c8,c9,c10,c11,c12,y1,Mj gs]]) ?_ rfl ?_
  ·skip
   refine Qq tt rfl ?_
   refine Qj [3,6,11,12,13,7] rfl rfl ?_
   refine Yt 1 rfl rfl ?_
   refine Yi 2 rfl rfl ?_
   refine Yi 1 rfl rfl ?_
   refine Yi 2 rfl rfl ?_
   refine Zl (fun m L B=>∃ k,k≤i∧U1 Wy (Zf Wy (gs.take i)) c k=U1 Wy (Zf Wy (gs.take i)) c (Zf Wy (gs.take i)).length∧m=k∧L=[(3,.one (.orow r 2 0 i)),(6,.one (.ow g2 0)),(11,.one (Mj gs)),(12,.one (.int .i64 (((gs.length:Nat):Int)))),(13,.one (.int .i64 (((i:Nat):Int)))),(7,.one (.int .i64 (((k:Nat):Int))))]∧B=[.row r 123 2 ((Zf Wy (gs.take i)).map im),.blk g2 123 [.int .i64 c.1.id,.int .i64 c.2.id],.blk g 122 [c0,c1,c2,c3,c4,c5,c6,c7,c8,c9,c10,c11,c12,y1,Mj gs]]) (m:=_) ⟨i,X2 _,by rw [hO],rfl,rfl,rfl⟩ ?_
   rintro m L B ⟨k,hq0,hq1,hm,rfl,rfl⟩
   refine Qq tt rfl ?_
   rcases Hl k with h0 | h0
   ·have hpos:U1 Wy (Zf Wy (gs.take i)) c (Zf Wy (gs.take i)).length=k:=by rw [←hq1,h0]; rfl
    refine Qq tt rfl ?_
    refine Qy 31 Qp rfl rfl rfl ?_
    refine Qr tt 3 rfl ?_
    refine kd (Z4 rfl rfl (decide_eq_false (by omega)) rfl) rfl ?_
    refine Qq tt rfl ?_
    refine kd (Z4 rfl rfl (decide_eq_false (by omega)) rfl) rfl ?_
    refine Qq tt rfl ?_
    refine kd (Z4 rfl rfl (decide_eq_false (by omega)) rfl) rfl ?_
    refine Qq tt rfl ?_
    refine kd (Z4 rfl rfl (decide_eq_false (by omega)) rfl) rfl ?_
    refine Qq tt rfl ?_
    refine kd (Z4 rfl rfl (decide_eq_false (by omega)) rfl) rfl ?_
    refine Qq tt rfl ?_
    refine kd (Z4 rfl rfl (decide_eq_false (by omega)) rfl) rfl ?_
    refine Qq tt rfl ?_
    refine kd (Z4 rfl rfl (decide_eq_false (by omega)) rfl) rfl ?_
    refine Qq tt rfl ?_
    refine kd (Z4 rfl rfl (decide_eq_false (by omega)) rfl) rfl ?_
    refine Qq tt rfl ?_
    refine kd (Z4 rfl rfl (decide_eq_false (by omega)) rfl) rfl ?_
    refine Qq tt rfl ?_
    refine kd (Z4 rfl rfl (decide_eq_false (by omega)) rfl) rfl ?_
    refine Qq tt rfl ?_
    refine kd (Xm rfl rfl rfl) rfl ?_
    refine Qq tt rfl ?_
    refine kd (Xm rfl rfl rfl) rfl ?_
    refine Qq tt rfl ?_
    refine kd (Xm rfl rfl rfl) rfl ?_
    refine Qq tt rfl ?_
    refine kd (Xm rfl rfl rfl) rfl ?_
    refine Qq tt rfl ?_
    refine kd (Xm rfl rfl rfl) rfl ?_
    refine Qq tt rfl ?_
    refine kd (Xm rfl rfl rfl) rfl ?_
    refine Qq tt rfl ?_
    refine kd (Xm rfl rfl rfl) rfl ?_
    refine Qq tt rfl ?_
    refine kd (Xm rfl rfl rfl) rfl ?_
    refine Qq tt rfl ?_
    refine kd (Xm rfl rfl rfl) rfl ?_
    refine Qq tt rfl ?_
    refine kd (Xm rfl rfl rfl) rfl ?_
    refine Qq tt rfl ?_
    refine kd (Xm rfl rfl rfl) rfl ?_
    refine Qq tt rfl ?_
    refine kd (Xm rfl rfl rfl) rfl ?_
    refine Qq tt rfl ?_
    refine kd (Xm rfl rfl rfl) rfl ?_
    refine Qq tt rfl ?_
    refine kd (Xm rfl rfl rfl) rfl ?_
    refine Qq tt rfl ?_
    refine kd (Xm rfl rfl rfl) rfl ?_
    refine Qq tt rfl ?_
    refine kd (Xm rfl rfl rfl) rfl ?_
    refine Qq tt rfl ?_
    refine kd (Xm rfl rfl rfl) rfl ?_
    refine Qq tt rfl ?_
    refine kd (Xm rfl rfl rfl) rfl ?_
    refine Qq tt rfl ?_
    refine Qf tt 0 [] (Xm rfl rfl rfl) rfl ?_
    refine Qf tt 0 [] (Xm rfl rfl rfl) rfl ?_
    refine Qf tt 0 [] (Z4 rfl rfl (decide_eq_false (by omega)) rfl) rfl ?_
    refine Qf tt 0 [] (Zw rfl (decide_eq_false (by omega)) rfl rfl) rfl ?_
    refine Z8 tt 0 [] (rfl) rfl rfl ?_
    refine Qj [3,6,11,12,13,7] rfl rfl ?_
    refine Q8 ?_
    exact ⟨k,hq0,hpos,rfl,rfl⟩
   obtain ⟨x,hx⟩:∃ x,(Zf Wy (gs.take i))[k-1]? = some x:=⟨_,Xx (by omega)⟩
   by_cases e1:c.1.id<x.1.id
   refine Qq tt rfl ?_
   ·have hls:Wy c x=true:=by simp [Wy,e1]
    refine Qq tt rfl ?_
    refine Qy 31 Qp rfl rfl rfl ?_
    refine Qr tt 3 rfl ?_
    refine kd ((Qc rfl rfl (decide_eq_true (by omega)) (Qw tt rfl rfl))) rfl ?_
    refine Qq tt rfl ?_
    refine kd ((Qc rfl rfl (decide_eq_true (by omega)) (Qw tt rfl rfl))) rfl ?_
    refine Qq tt rfl ?_
    refine kd ((Qc rfl rfl (decide_eq_true (by omega)) (Z9 (r:=((k-1:Nat):Int)) rfl rfl (Qm (by omega) (by omega)) rfl))) rfl ?_
    refine Qq tt rfl ?_
    refine kd ((Qc rfl rfl (decide_eq_true (by omega)) (Zi (k-1) Iw qWm rfl rfl (rfl) (by omega) rfl))) rfl ?_
    refine Qq tt rfl ?_
    refine kd ((Qc rfl rfl (decide_eq_true (by omega)) (Vu 0 qWa Xw rfl rfl rfl (by decide) rfl))) rfl ?_
    refine Qq tt rfl ?_
    refine kd ((Qc rfl rfl (decide_eq_true (by omega)) (X7 0 S0 Xw rfl rfl (by rw [Vl]; exact Qg hx) rfl rfl rfl))) rfl ?_
    refine Qq tt rfl ?_
    refine kd ((Qc rfl rfl (decide_eq_true (by omega)) (Xa 0 qWa Xw rfl rfl rfl (by decide) rfl))) rfl ?_
    refine Qq tt rfl ?_
    refine kd ((Qc rfl rfl (decide_eq_true (by omega)) (Wv tt 1 rfl rfl))) rfl ?_
    refine Qq tt rfl ?_
    refine kd ((Qc rfl rfl (decide_eq_true (by omega)) (Qw tt rfl rfl))) rfl ?_
    refine Qq tt rfl ?_
    refine kd ((Qc rfl rfl (decide_eq_true (by omega)) (Qw tt rfl rfl))) rfl ?_
    refine Qq tt rfl ?_
    refine kd (Z4 rfl rfl (decide_eq_true e1) rfl) rfl ?_
    refine Qq tt rfl ?_
    refine kd (Z4 rfl rfl (decide_eq_true e1) rfl) rfl ?_
    refine Qq tt rfl ?_
    refine kd (Z4 rfl rfl (decide_eq_true e1) rfl) rfl ?_
    refine Qq tt rfl ?_
    refine kd (Z4 rfl rfl (decide_eq_true e1) rfl) rfl ?_
    refine Qq tt rfl ?_
    refine kd (Z4 rfl rfl (decide_eq_true e1) rfl) rfl ?_
    refine Qq tt rfl ?_
    refine kd (Z4 rfl rfl (decide_eq_true e1) rfl) rfl ?_
    refine Qq tt rfl ?_
    refine kd (Z4 rfl rfl (decide_eq_true e1) rfl) rfl ?_
    refine Qq tt rfl ?_
    refine kd (Z4 rfl rfl (decide_eq_true e1) rfl) rfl ?_
    refine Qq tt rfl ?_
    refine kd (Z4 rfl rfl (decide_eq_true e1) rfl) rfl ?_
    refine Qq tt rfl ?_
    refine kd (Z4 rfl rfl (decide_eq_true e1) rfl) rfl ?_
    refine Qq tt rfl ?_
    refine kd (Xm rfl rfl rfl) rfl ?_
    refine Qq tt rfl ?_
    refine kd (Xm rfl rfl rfl) rfl ?_
    refine Qq tt rfl ?_
    refine kd (Xm rfl rfl rfl) rfl ?_
    refine Qq tt rfl ?_
    refine kd (Xm rfl rfl rfl) rfl ?_
    refine Qq tt rfl ?_
    refine kd (Xm rfl rfl rfl) rfl ?_
    refine Qq tt rfl ?_
    refine kd (Xm rfl rfl rfl) rfl ?_
    refine Qq tt rfl ?_
    refine kd (Xm rfl rfl rfl) rfl ?_
    refine Qq tt rfl ?_
    refine kd (Xm rfl rfl rfl) rfl ?_
    refine Qq tt rfl ?_
    refine Qf tt 0 [] (Xm rfl rfl rfl) rfl ?_
    refine Qf tt 0 [] (Z4 rfl rfl (decide_eq_true e1) rfl) rfl ?_
    refine Qf tt 0 [] ((Qc rfl rfl (decide_eq_true (by omega)) (Zs rfl (decide_eq_true e1) rfl rfl))) rfl ?_
    refine Qf tt 0 [] (Zs rfl (decide_eq_true (by omega)) rfl rfl) rfl ?_
    refine Xh tt 1 [] (rfl) rfl rfl ?_
    refine Qf tt 1 [] (Z9 (r:=((k-1:Nat):Int)) rfl rfl (Qm (by omega) (by omega)) rfl) rfl ?_
    refine Qj [3,6,11,12,13,7] rfl rfl ?_
    refine Q8 ?_
    refine ⟨_,?_,k-1,by omega,by rw [←hq1,Bz h0 hx hls],rfl,rfl,rfl⟩
    omega
   by_cases e2:x.1.id=c.1.id
   refine Qq tt rfl ?_
   ·by_cases e3:c.2.id<x.2.id
    refine Qq tt rfl ?_
    ·have hls:Wy c x=true:=by simp [Wy,e2,e3]
     refine Qq tt rfl ?_
     refine Qy 31 Qp rfl rfl rfl ?_
     refine Qr tt 3 rfl ?_
     refine kd ((Qc rfl rfl (decide_eq_true (by omega)) (Qw tt rfl rfl))) rfl ?_
     refine Qq tt rfl ?_
     refine kd ((Qc rfl rfl (decide_eq_true (by omega)) (Qw tt rfl rfl))) rfl ?_
     refine Qq tt rfl ?_
     refine kd ((Qc rfl rfl (decide_eq_true (by omega)) (Z9 (r:=((k-1:Nat):Int)) rfl rfl (Qm (by omega) (by omega)) rfl))) rfl ?_
     refine Qq tt rfl ?_
     refine kd ((Qc rfl rfl (decide_eq_true (by omega)) (Zi (k-1) Iw qWm rfl rfl (rfl) (by omega) rfl))) rfl ?_
     refine Qq tt rfl ?_
     refine kd ((Qc rfl rfl (decide_eq_true (by omega)) (Vu 0 qWa Xw rfl rfl rfl (by decide) rfl))) rfl ?_
     refine Qq tt rfl ?_
     refine kd ((Qc rfl rfl (decide_eq_true (by omega)) (X7 0 S0 Xw rfl rfl (by rw [Vl]; exact Qg hx) rfl rfl rfl))) rfl ?_
     refine Qq tt rfl ?_
     refine kd ((Qc rfl rfl (decide_eq_true (by omega)) (Xa 0 qWa Xw rfl rfl rfl (by decide) rfl))) rfl ?_
     refine Qq tt rfl ?_
     refine kd ((Qc rfl rfl (decide_eq_true (by omega)) (Wv tt 1 rfl rfl))) rfl ?_
     refine Qq tt rfl ?_
     refine kd ((Qc rfl rfl (decide_eq_true (by omega)) (Qw tt rfl rfl))) rfl ?_
     refine Qq tt rfl ?_
     refine kd ((Qc rfl rfl (decide_eq_true (by omega)) (Qw tt rfl rfl))) rfl ?_
     refine Qq tt rfl ?_
     refine kd ((Qc rfl rfl (decide_eq_false e1) (Qw tt rfl rfl))) rfl ?_
     refine Qq tt rfl ?_
     refine kd ((Qc rfl rfl (decide_eq_false e1) (Qw tt rfl rfl))) rfl ?_
     refine Qq tt rfl ?_
     refine kd ((Qc rfl rfl (decide_eq_false e1) (Z9 (r:=((k-1:Nat):Int)) rfl rfl (Qm (by omega) (by omega)) rfl))) rfl ?_
     refine Qq tt rfl ?_
     refine kd ((Qc rfl rfl (decide_eq_false e1) (Zi (k-1) Iw qWm rfl rfl (rfl) (by omega) rfl))) rfl ?_
     refine Qq tt rfl ?_
     refine kd ((Qc rfl rfl (decide_eq_false e1) (Vu 0 qWa Xw rfl rfl rfl (by decide) rfl))) rfl ?_
     refine Qq tt rfl ?_
     refine kd ((Qc rfl rfl (decide_eq_false e1) (X7 0 S0 Xw rfl rfl (by rw [Vl]; exact Qg hx) rfl rfl rfl))) rfl ?_
     refine Qq tt rfl ?_
     refine kd ((Qc rfl rfl (decide_eq_false e1) (Xa 0 qWa Xw rfl rfl rfl (by decide) rfl))) rfl ?_
     refine Qq tt rfl ?_
     refine kd ((Qc rfl rfl (decide_eq_false e1) (Wv tt 1 rfl rfl))) rfl ?_
     refine Qq tt rfl ?_
     refine kd ((Qc rfl rfl (decide_eq_false e1) (Qw tt rfl rfl))) rfl ?_
     refine Qq tt rfl ?_
     refine kd ((Qc rfl rfl (decide_eq_false e1) (Qw tt rfl rfl))) rfl ?_
     refine Qq tt rfl ?_
     refine kd ((Qc rfl rfl (decide_eq_true e2) (Qw tt rfl rfl))) rfl ?_
     refine Qq tt rfl ?_
     refine kd ((Qc rfl rfl (decide_eq_true e2) (Qw tt rfl rfl))) rfl ?_
     refine Qq tt rfl ?_
     refine kd ((Qc rfl rfl (decide_eq_true e2) (Z9 (r:=((k-1:Nat):Int)) rfl rfl (Qm (by omega) (by omega)) rfl))) rfl ?_
     refine Qq tt rfl ?_
     refine kd ((Qc rfl rfl (decide_eq_true e2) (Zi (k-1) Iw qWm rfl rfl (rfl) (by omega) rfl))) rfl ?_
     refine Qq tt rfl ?_
     refine kd ((Qc rfl rfl (decide_eq_true e2) (Vu 1 qWa Xw rfl rfl rfl (by decide) rfl))) rfl ?_
     refine Qq tt rfl ?_
     refine kd ((Qc rfl rfl (decide_eq_true e2) (X7 0 S0 Xw rfl rfl (by rw [Vl]; exact Qg hx) rfl rfl rfl))) rfl ?_
     refine Qq tt rfl ?_
     refine kd ((Qc rfl rfl (decide_eq_true e2) (Xa 1 qWa Xw rfl rfl rfl (by decide) rfl))) rfl ?_
     refine Qq tt rfl ?_
     refine kd ((Qc rfl rfl (decide_eq_true e2) (Wv tt 1 rfl rfl))) rfl ?_
     refine Qq tt rfl ?_
     refine Qf tt 0 [] ((Qc rfl rfl (decide_eq_true e2) (Qw tt rfl rfl))) rfl ?_
     refine Qf tt 0 [] ((Qc rfl rfl (decide_eq_false e1) (Zs rfl (decide_eq_true e2) rfl rfl))) rfl ?_
     refine Qf tt 0 [] ((Qc rfl rfl (decide_eq_true (by omega)) (Zw rfl (decide_eq_false e1) rfl rfl))) rfl ?_
     refine Qf tt 0 [] (Zs rfl (decide_eq_true (by omega)) rfl rfl) rfl ?_
     refine Xh tt 1 [] (decide_eq_true e3) rfl rfl ?_
     refine Qf tt 1 [] (Z9 (r:=((k-1:Nat):Int)) rfl rfl (Qm (by omega) (by omega)) rfl) rfl ?_
     refine Qj [3,6,11,12,13,7] rfl rfl ?_
     refine Q8 ?_
     refine ⟨_,?_,k-1,by omega,by rw [←hq1,Bz h0 hx hls],rfl,rfl,rfl⟩
     omega
    have hls:Wy c x=false:=by simp only [Wy,decide_eq_false e1,decide_eq_false e3,Bool.and_false,Bool.or_false]
    have hpos:U1 Wy (Zf Wy (gs.take i)) c (Zf Wy (gs.take i)).length=k:=by rw [←hq1,Sx h0 hx hls]
    refine Qq tt rfl ?_
    refine Qy 31 Qp rfl rfl rfl ?_
    refine Qr tt 3 rfl ?_
    refine kd ((Qc rfl rfl (decide_eq_true (by omega)) (Qw tt rfl rfl))) rfl ?_
    refine Qq tt rfl ?_
    refine kd ((Qc rfl rfl (decide_eq_true (by omega)) (Qw tt rfl rfl))) rfl ?_
    refine Qq tt rfl ?_
    refine kd ((Qc rfl rfl (decide_eq_true (by omega)) (Z9 (r:=((k-1:Nat):Int)) rfl rfl (Qm (by omega) (by omega)) rfl))) rfl ?_
    refine Qq tt rfl ?_
    refine kd ((Qc rfl rfl (decide_eq_true (by omega)) (Zi (k-1) Iw qWm rfl rfl (rfl) (by omega) rfl))) rfl ?_
    refine Qq tt rfl ?_
    refine kd ((Qc rfl rfl (decide_eq_true (by omega)) (Vu 0 qWa Xw rfl rfl rfl (by decide) rfl))) rfl ?_
    refine Qq tt rfl ?_
    refine kd ((Qc rfl rfl (decide_eq_true (by omega)) (X7 0 S0 Xw rfl rfl (by rw [Vl]; exact Qg hx) rfl rfl rfl))) rfl ?_
    refine Qq tt rfl ?_
    refine kd ((Qc rfl rfl (decide_eq_true (by omega)) (Xa 0 qWa Xw rfl rfl rfl (by decide) rfl))) rfl ?_
    refine Qq tt rfl ?_
    refine kd ((Qc rfl rfl (decide_eq_true (by omega)) (Wv tt 1 rfl rfl))) rfl ?_
    refine Qq tt rfl ?_
    refine kd ((Qc rfl rfl (decide_eq_true (by omega)) (Qw tt rfl rfl))) rfl ?_
    refine Qq tt rfl ?_
    refine kd ((Qc rfl rfl (decide_eq_true (by omega)) (Qw tt rfl rfl))) rfl ?_
    refine Qq tt rfl ?_
    refine kd ((Qc rfl rfl (decide_eq_false e1) (Qw tt rfl rfl))) rfl ?_
    refine Qq tt rfl ?_
    refine kd ((Qc rfl rfl (decide_eq_false e1) (Qw tt rfl rfl))) rfl ?_
    refine Qq tt rfl ?_
    refine kd ((Qc rfl rfl (decide_eq_false e1) (Z9 (r:=((k-1:Nat):Int)) rfl rfl (Qm (by omega) (by omega)) rfl))) rfl ?_
    refine Qq tt rfl ?_
    refine kd ((Qc rfl rfl (decide_eq_false e1) (Zi (k-1) Iw qWm rfl rfl (rfl) (by omega) rfl))) rfl ?_
    refine Qq tt rfl ?_
    refine kd ((Qc rfl rfl (decide_eq_false e1) (Vu 0 qWa Xw rfl rfl rfl (by decide) rfl))) rfl ?_
    refine Qq tt rfl ?_
    refine kd ((Qc rfl rfl (decide_eq_false e1) (X7 0 S0 Xw rfl rfl (by rw [Vl]; exact Qg hx) rfl rfl rfl))) rfl ?_
    refine Qq tt rfl ?_
    refine kd ((Qc rfl rfl (decide_eq_false e1) (Xa 0 qWa Xw rfl rfl rfl (by decide) rfl))) rfl ?_
    refine Qq tt rfl ?_
    refine kd ((Qc rfl rfl (decide_eq_false e1) (Wv tt 1 rfl rfl))) rfl ?_
    refine Qq tt rfl ?_
    refine kd ((Qc rfl rfl (decide_eq_false e1) (Qw tt rfl rfl))) rfl ?_
    refine Qq tt rfl ?_
    refine kd ((Qc rfl rfl (decide_eq_false e1) (Qw tt rfl rfl))) rfl ?_
    refine Qq tt rfl ?_
    refine kd ((Qc rfl rfl (decide_eq_true e2) (Qw tt rfl rfl))) rfl ?_
    refine Qq tt rfl ?_
    refine kd ((Qc rfl rfl (decide_eq_true e2) (Qw tt rfl rfl))) rfl ?_
    refine Qq tt rfl ?_
    refine kd ((Qc rfl rfl (decide_eq_true e2) (Z9 (r:=((k-1:Nat):Int)) rfl rfl (Qm (by omega) (by omega)) rfl))) rfl ?_
    refine Qq tt rfl ?_
    refine kd ((Qc rfl rfl (decide_eq_true e2) (Zi (k-1) Iw qWm rfl rfl (rfl) (by omega) rfl))) rfl ?_
    refine Qq tt rfl ?_
    refine kd ((Qc rfl rfl (decide_eq_true e2) (Vu 1 qWa Xw rfl rfl rfl (by decide) rfl))) rfl ?_
    refine Qq tt rfl ?_
    refine kd ((Qc rfl rfl (decide_eq_true e2) (X7 0 S0 Xw rfl rfl (by rw [Vl]; exact Qg hx) rfl rfl rfl))) rfl ?_
    refine Qq tt rfl ?_
    refine kd ((Qc rfl rfl (decide_eq_true e2) (Xa 1 qWa Xw rfl rfl rfl (by decide) rfl))) rfl ?_
    refine Qq tt rfl ?_
    refine kd ((Qc rfl rfl (decide_eq_true e2) (Wv tt 1 rfl rfl))) rfl ?_
    refine Qq tt rfl ?_
    refine Qf tt 0 [] ((Qc rfl rfl (decide_eq_true e2) (Qw tt rfl rfl))) rfl ?_
    refine Qf tt 0 [] ((Qc rfl rfl (decide_eq_false e1) (Zs rfl (decide_eq_true e2) rfl rfl))) rfl ?_
    refine Qf tt 0 [] ((Qc rfl rfl (decide_eq_true (by omega)) (Zw rfl (decide_eq_false e1) rfl rfl))) rfl ?_
    refine Qf tt 0 [] (Zs rfl (decide_eq_true (by omega)) rfl rfl) rfl ?_
    refine Z8 tt 0 [] (decide_eq_false e3) rfl rfl ?_
    refine Qj [3,6,11,12,13,7] rfl rfl ?_
    refine Q8 ?_
    exact ⟨k,hq0,hpos,rfl,rfl⟩
   have hls:Wy c x=false:=by simp only [Wy,decide_eq_false e1,decide_eq_false e2,Bool.false_and,Bool.or_false]
   have hpos:U1 Wy (Zf Wy (gs.take i)) c (Zf Wy (gs.take i)).length=k:=by rw [←hq1,Sx h0 hx hls]
   refine Qq tt rfl ?_
   refine Qy 31 Qp rfl rfl rfl ?_
   refine Qr tt 3 rfl ?_
   refine kd ((Qc rfl rfl (decide_eq_true (by omega)) (Qw tt rfl rfl))) rfl ?_
   refine Qq tt rfl ?_
   refine kd ((Qc rfl rfl (decide_eq_true (by omega)) (Qw tt rfl rfl))) rfl ?_
   refine Qq tt rfl ?_
   refine kd ((Qc rfl rfl (decide_eq_true (by omega)) (Z9 (r:=((k-1:Nat):Int)) rfl rfl (Qm (by omega) (by omega)) rfl))) rfl ?_
   refine Qq tt rfl ?_
   refine kd ((Qc rfl rfl (decide_eq_true (by omega)) (Zi (k-1) Iw qWm rfl rfl (rfl) (by omega) rfl))) rfl ?_
   refine Qq tt rfl ?_
   refine kd ((Qc rfl rfl (decide_eq_true (by omega)) (Vu 0 qWa Xw rfl rfl rfl (by decide) rfl))) rfl ?_
   refine Qq tt rfl ?_
   refine kd ((Qc rfl rfl (decide_eq_true (by omega)) (X7 0 S0 Xw rfl rfl (by rw [Vl]; exact Qg hx) rfl rfl rfl))) rfl ?_
   refine Qq tt rfl ?_
   refine kd ((Qc rfl rfl (decide_eq_true (by omega)) (Xa 0 qWa Xw rfl rfl rfl (by decide) rfl))) rfl ?_
   refine Qq tt rfl ?_
   refine kd ((Qc rfl rfl (decide_eq_true (by omega)) (Wv tt 1 rfl rfl))) rfl ?_
   refine Qq tt rfl ?_
   refine kd ((Qc rfl rfl (decide_eq_true (by omega)) (Qw tt rfl rfl))) rfl ?_
   refine Qq tt rfl ?_
   refine kd ((Qc rfl rfl (decide_eq_true (by omega)) (Qw tt rfl rfl))) rfl ?_
   refine Qq tt rfl ?_
   refine kd ((Qc rfl rfl (decide_eq_false e1) (Qw tt rfl rfl))) rfl ?_
   refine Qq tt rfl ?_
   refine kd ((Qc rfl rfl (decide_eq_false e1) (Qw tt rfl rfl))) rfl ?_
   refine Qq tt rfl ?_
   refine kd ((Qc rfl rfl (decide_eq_false e1) (Z9 (r:=((k-1:Nat):Int)) rfl rfl (Qm (by omega) (by omega)) rfl))) rfl ?_
   refine Qq tt rfl ?_
   refine kd ((Qc rfl rfl (decide_eq_false e1) (Zi (k-1) Iw qWm rfl rfl (rfl) (by omega) rfl))) rfl ?_
   refine Qq tt rfl ?_
   refine kd ((Qc rfl rfl (decide_eq_false e1) (Vu 0 qWa Xw rfl rfl rfl (by decide) rfl))) rfl ?_
   refine Qq tt rfl ?_
   refine kd ((Qc rfl rfl (decide_eq_false e1) (X7 0 S0 Xw rfl rfl (by rw [Vl]; exact Qg hx) rfl rfl rfl))) rfl ?_
   refine Qq tt rfl ?_
   refine kd ((Qc rfl rfl (decide_eq_false e1) (Xa 0 qWa Xw rfl rfl rfl (by decide) rfl))) rfl ?_
   refine Qq tt rfl ?_
   refine kd ((Qc rfl rfl (decide_eq_false e1) (Wv tt 1 rfl rfl))) rfl ?_
   refine Qq tt rfl ?_
   refine kd ((Qc rfl rfl (decide_eq_false e1) (Qw tt rfl rfl))) rfl ?_
   refine Qq tt rfl ?_
   refine kd ((Qc rfl rfl (decide_eq_false e1) (Qw tt rfl rfl))) rfl ?_
   refine Qq tt rfl ?_
   refine kd (Z4 rfl rfl (decide_eq_false e2) rfl) rfl ?_
   refine Qq tt rfl ?_
   refine kd (Z4 rfl rfl (decide_eq_false e2) rfl) rfl ?_
   refine Qq tt rfl ?_
   refine kd (Z4 rfl rfl (decide_eq_false e2) rfl) rfl ?_
   refine Qq tt rfl ?_
   refine kd (Z4 rfl rfl (decide_eq_false e2) rfl) rfl ?_
   refine Qq tt rfl ?_
   refine kd (Z4 rfl rfl (decide_eq_false e2) rfl) rfl ?_
   refine Qq tt rfl ?_
   refine kd (Z4 rfl rfl (decide_eq_false e2) rfl) rfl ?_
   refine Qq tt rfl ?_
   refine kd (Z4 rfl rfl (decide_eq_false e2) rfl) rfl ?_
   refine Qq tt rfl ?_
   refine kd (Z4 rfl rfl (decide_eq_false e2) rfl) rfl ?_
   refine Qq tt rfl ?_
   refine Qf tt 0 [] (Z4 rfl rfl (decide_eq_false e2) rfl) rfl ?_
   refine Qf tt 0 [] ((Qc rfl rfl (decide_eq_false e1) (Zw rfl (decide_eq_false e2) rfl rfl))) rfl ?_
   refine Qf tt 0 [] ((Qc rfl rfl (decide_eq_true (by omega)) (Zw rfl (decide_eq_false e1) rfl rfl))) rfl ?_
   refine Qf tt 0 [] (Zs rfl (decide_eq_true (by omega)) rfl rfl) rfl ?_
   refine Z8 tt 0 [] (rfl) rfl rfl ?_
   refine Qj [3,6,11,12,13,7] rfl rfl ?_
   refine Q8 ?_
   exact ⟨k,hq0,hpos,rfl,rfl⟩
  rintro L B ⟨k,hp0,hp1,rfl,rfl⟩
  refine Qq tt rfl ?_
  skip
  skip
  refine Xu tt 3 [1] rfl ?_
  refine Zn (Zg (ls2:=((Zf Wy (gs.take i)).map im++[im c])) (m2:=i+1) 0 Iw Iw Tryz.typeInfo123 rfl rfl qWm Tryz.zeroValue123 rfl rfl rfl rfl rfl rfl rfl (by rw [Zr]; omega) (Js rfl) (Jx rfl) (by show _+1<_; omega) (by rw [Y0 (by rw [Zr]; omega)]) (rfl) fun r3=>ko ?_)
  refine Qr tt 1 rfl ?_
  refine Qy 7 Qp rfl rfl rfl ?_
  refine Qr tt 2 rfl ?_
  refine kd (Zb (r:=((k+1:Nat):Int)) rfl rfl (Qm (by omega) (by omega)) rfl) rfl ?_
  refine Qq tt rfl ?_
  refine kd (Wg (k+1) Iw qWm rfl rfl rfl (by omega) rfl) rfl ?_
  refine Qr tt 2 rfl ?_
  refine kd (Wg (k) Iw qWm rfl rfl rfl (by omega) rfl) rfl ?_
  refine Qq tt rfl ?_
  refine Zn (Qji (m':=i-k) (ls2:=(((Zf Wy (gs.take i)).map im++[im c]).take (0+(k+1))++(((Zf Wy (gs.take i)).map im++[im c]).drop (0+k)).take (i-k)++((Zf Wy (gs.take i)).map im++[im c]).drop (0+(k+1)+(i-k)))) 0 Iw qWm rfl rfl rfl rfl (by simp; omega) (by simp; omega) (by simp) (by show min _ _=_; omega) (rfl) rfl (ko ?_))
  refine Xu tt 3 [1] rfl ?_
  refine kw (Zi (k) Iw qWm rfl rfl (rfl) (by omega) rfl) ?_
  obtain ⟨z0,z1,hz⟩:=Qzc (k:=0+k) (Qz9 (O:=(Zf Wy (gs.take i))) (z:=im c) (a:=0+(k+1)) (b:=0+k) (m:=i-k) (e:=0+(k+1)+(i-k)) rfl) (by simp; omega)
  refine Zn (Jp (ls2:=((P4 Wy (Zf Wy (gs.take i)) c).map im)) 0 qWm rfl rfl rfl rfl rfl rfl (hz) rfl (Qxh hO hp0 hp1) (ko ?_))
  refine Qq tt rfl ?_
  refine Qf tt 1 [] (Zb (r:=((i+1:Nat):Int)) rfl rfl (Qm (by omega) (by omega)) rfl) rfl ?_
  refine X5 (fun _ k_=>Jq (ls':=(Zf Wy (gs.take (i+1))).map im) 0 rfl (by rw [←Ng hc]) (Qo k_)) rfl ?_
  refine Qj [3,11,12,13] rfl rfl ?_
  refine Yt 1 rfl rfl ?_
  refine Q8 ?_
  refine ⟨_,?_,i+1,r3,by omega,rfl,rfl,rfl⟩
  omega
 have hO:(Zf Wy (gs.take i)).length=i:=by rw [Y8,Kd]; omega
 have hi:gs.take i=gs:=Y0 (by omega)
 refine Qr tt 1 rfl ?_
 refine Z8 tt 2 [] (decide_eq_false (by omega)) rfl rfl ?_
 refine X5 (fun _ k_=>Xe 0 [2] rfl (Zc rfl) (by rw [Zr,hO]) (by rw [Zr,hO]; omega) rfl (Qo k_)) rfl ?_
 refine Tr ?_
 exact ⟨_,[],_,I6 Tryz.results42 (Kb rfl rfl),rfl,⟨by rw [hi]; rfl,rfl⟩⟩
set_option maxRecDepth 20000 in
theorem N6 {g:Nat} {c0 c1 c2 c3 c4 c5 c6 c7 c8 c9 c10 c11 c12 y1:LV}  : Us Tryz.prog 43 [.one (.ow g 0)] [.blk g 122 [c0,c1,c2,c3,c4,c5,c6,c7,c8,c9,c10,c11,c12,V5 ([]),y1]] fun r B=>r=.tup [.one (.int .i64 0),.one (.bool false)]∧B=[.blk g 122 [c0,c1,c2,c3,c4,c5,c6,c7,c8,c9,c10,c11,c12,V5 ([]),y1]]:=by
 refine X4 tt 6 [0] Tryz.func43 Tryz.ntmps43 rfl rfl rfl ?_
 refine Qf tt 1 [] (Qh (m:=([]).length) V0 rfl (Vx _) rfl) rfl ?_
 refine Xh tt 2 [] (rfl) rfl rfl ?_
 refine Tr ?_
 exact ⟨_,[],_,Qgh Tryz.results43 (Kb rfl rfl) (Kb rfl rfl),rfl,⟨rfl,rfl⟩⟩
end Orr

namespace Orr
open Go
theorem Rq (q:Rat):∀ (k:Nat) (l:List Pt) (w:Pt),l.length≤k→(Qx q l).1=[w]→((Qx q l).2.map (·.2)++[w]).Perm l
  |
   0,l,w,h,hw=>by
   rw [Kn q (by omega)] at hw ⊢
   have hw:l=[w]:=hw
   rw [hw]; exact List.Perm.refl _
  |
   k+1,l,w,h,hw=>by
   by_cases h2:l.length<2
   · rw [Kn q h2] at hw ⊢
     have hw:l=[w]:=hw
     rw [hw]; exact List.Perm.refl _
   · obtain ⟨a,ha,_⟩:=Vv q _ (l.take ((l.length+1) / 2)) (X2 _) (by rw [Kd]; omega)
     obtain ⟨b,hb,_⟩:=Vv q _ (l.drop ((l.length+1) / 2)) (X2 _) (by rw [Na]; omega)
     have p1:=Rq q k _ a (by rw [Kd]; omega) ha
     have p2:=Rq q k _ b (by rw [Na]; omega) hb
     rw [G0 q h2 ha hb] at hw ⊢
     have hw:(Ty q a b).1=w:=by simpa using hw
     have pd:[(Ty q a b).2,w].Perm [a,b]:=by
       rw [←hw]; unfold Ty
       split
       · exact List.Perm.swap _ _ _
       · exact List.Perm.refl _
     generalize (Qx q (l.take ((l.length+1) / 2))).2.map (·.2)=L1 at p1
     have e:((Qx q (l.take ((l.length+1) / 2))).2++(Qx q (l.drop ((l.length+1) / 2))).2++[Ty q a b]).map (·.2)++[w]=(Qx q (l.take ((l.length+1) / 2))).2.map (·.2)++((Qx q (l.drop ((l.length+1) / 2))).2.map (·.2)++[(Ty q a b).2,w]):=by simp
     rw [e]
     have p1':=Rq q k _ a (by rw [Kd]; omega) ha
     refine List.Perm.trans ?_ ((Iy ((l.length+1) / 2) l) ▸ (p1'.append p2))
     simp only [P6]
     refine List.Perm.append_left _ ?_
     refine (List.Perm.append_left _ pd).trans ?_
     exact qVo
def Gq (gs:List (Pt×Pt)) (id:Int):Nat:=gs.countP fun m=>decide (m.2.id=id)
theorem Qou {q:Rat} {l:List Pt} {w:Pt} (hw:(Qx q l).1=[w]):(Qx q l).2.length+1=l.length:=by
  have:=(Rq q _ l w (X2 _) hw).length_eq
  simpa using this
theorem Oa:∀ {l:List Pt},Wj l→∀ x∈l,l.countP (fun y=>decide (y.id=x.id))=1
  | [],_,x,hx=>by simp at hx
  |
   a::l,hs,x,hx=>by
   have h':=qXu.1 hs
   rcases Vw.1 hx with rfl | hx
   · rw [List.countP_cons_of_pos (by simp),List.countP_eq_zero.2 fun y hy=>by have:=h'.1 y hy; simp; omega]
   · have:=h'.1 x hx
     rw [List.countP_cons_of_neg (by simp; omega)]
     exact Oa h'.2 x hx
theorem Qic {q:Rat} {l:List Pt} {w:Pt} (hs:Wj l) (hw:(Qx q l).1=[w]) {x:Pt} (hx:x∈l):Gq (Qx q l).2 x.id=if x.id=w.id then 0 else 1:=by
  have hp:=Rq q _ l w (X2 _) hw
  have h1:=Oa hs x hx
  rw [←hp.countP_eq,List.countP_append,List.countP_map] at h1
  have e:List.countP ((fun y:Pt=>decide (y.id=x.id)) ∘ fun m:Pt×Pt=>m.2) (Qx q l).2=Gq (Qx q l).2 x.id:=rfl
  rw [e] at h1
  by_cases h:x.id=w.id
  · rw [if_pos h]
    rw [List.countP_cons_of_pos (by simp [h])] at h1
    simp at h1; exact h1
  · rw [if_neg h]
    rw [List.countP_cons_of_neg (by simp; omega)] at h1
    simpa using h1
end Orr

namespace Orr
open Go Go.Proofs
theorem Qj9 (p:Pt):Jk [] [p]=([p],0):=by simp [Jk,Tf,has,pos,put]
theorem Qlj {p:Pt} (hp:Nml p.c∧Cb p.c):Us Tryz.prog 49 [.agg [.bool false,.row [],.bool false,.row []],.one (.row [Wp p])] [] fun R B=>∃ g,R=.tup [.one (.ow g 0),.one (.int .i64 0)]∧B=[.blk g 122 [.bool true,pl ([-((Qz 0 0)).num,(((Qz 0 0)).den:Int)]),sg ((((Qz 0 0))).num),mg ((((Qz 0 0))).num),sg (((((Qz 0 0))).den:Int)),mg (((((Qz 0 0))).den:Int)),sg ((((Qz 0 0))).num),mg ((((Qz 0 0))).num),sg (((((Qz 0 0))).den:Int)),mg (((((Qz 0 0))).den:Int)),T4 ([]),.int .i64 0,V5 ([p]),V5 ([p]),Mj ([])]]:=by
 have h:=Mh (l1:=[]) (l2:=[]) (zs:=[Wp p]) (qs:=[p]) Tb Tb (by decide) (by decide) (qs_0.mono (by omega)) (Qjz (l:=[p]) (by simp only [qZt]; rintro x rfl; exact ⟨hp.1,hp.2.mono (by omega) (by omega)⟩)) (by simp only [Df,qZt]; rintro x rfl; exact hp) (show 1≤6 by decide) (by rw [Qj9])
 rw [Qj9,Kn _ (by show 1<2; omega)] at h
 exact h
set_option maxRecDepth 20000 in
theorem Mb  : Za Tryz.prog 44 [] (.one (.bool true)):=by
 refine X4 tt 2 [] Tryz.func44 Tryz.ntmps44 rfl rfl rfl ?_
 refine kl tt 2 [] Tryz.func45 rfl rfl rfl (Ot (by decide) (by decide)) rfl rfl ?_
 refine Zn (Yh (Bin:=[]) Tryz.func49 rfl rfl rfl rfl (Qlj (p:=(Pt.mk (Tw 3 4) 7)) (Qhx (by decide) (by decide))) rfl fun r_ B_ hr_=>ko ?_)
 obtain ⟨g,rfl,rfl⟩:=hr_
 refine Qr tt 8 rfl ?_
 refine Qf tt 0 [] ((Qc rfl rfl (rfl) (Qw tt rfl rfl))) rfl ?_
 refine Qf tt 0 [] ((Qc rfl rfl (rfl) (Qw tt rfl rfl))) rfl ?_
 refine Qf tt 0 [] (Zw rfl (rfl) rfl rfl) rfl ?_
 refine Z8 tt 1 [] (rfl) rfl rfl ?_
 refine Zn (Yh (Bin:=[.blk g 122 [.bool true,pl ([-((Qz 0 0)).num,(((Qz 0 0)).den:Int)]),sg ((((Qz 0 0))).num),mg ((((Qz 0 0))).num),sg (((((Qz 0 0))).den:Int)),mg (((((Qz 0 0))).den:Int)),sg ((((Qz 0 0))).num),mg ((((Qz 0 0))).num),sg (((((Qz 0 0))).den:Int)),mg (((((Qz 0 0))).den:Int)),T4 ([]),.int .i64 0,V5 ([(Pt.mk (Tw 3 4) 7)]),V5 ([(Pt.mk (Tw 3 4) 7)]),Mj ([])]]) Tryz.func43 rfl rfl rfl rfl (Rh (w:=(Pt.mk (Tw 3 4) 7))) rfl fun r_ B_ hr_=>ko ?_)
 obtain ⟨rfl,rfl⟩:=hr_
 refine Qr tt 7 rfl ?_
 refine Qf tt 0 [] ((Qc rfl rfl (rfl) (Qw tt rfl rfl))) rfl ?_
 refine Qf tt 0 [] ((Qc rfl rfl (rfl) (Qw tt rfl rfl))) rfl ?_
 refine Qf tt 1 [] (Zs rfl (rfl) rfl rfl) rfl ?_
 refine Qf tt 0 [] ((Qc rfl rfl (rfl) (Qw tt rfl rfl))) rfl ?_
 refine Qf tt 0 [] ((Qc rfl rfl (rfl) (Qw tt rfl rfl))) rfl ?_
 refine kw ((Qc rfl rfl (rfl) (Qw tt rfl rfl))) ?_
 refine Zn (Nq rfl rfl (rfl) (ko ?_))
 refine Zn (Yh (Bin:=[.blk g 122 [.bool true,pl ([-((Qz 0 0)).num,(((Qz 0 0)).den:Int)]),sg ((((Qz 0 0))).num),mg ((((Qz 0 0))).num),sg (((((Qz 0 0))).den:Int)),mg (((((Qz 0 0))).den:Int)),sg ((((Qz 0 0))).num),mg ((((Qz 0 0))).num),sg (((((Qz 0 0))).den:Int)),mg (((((Qz 0 0))).den:Int)),T4 ([]),.int .i64 0,V5 ([(Pt.mk (Tw 3 4) 7)]),V5 ([(Pt.mk (Tw 3 4) 7)]),Mj ([])]]) Tryz.func40 rfl rfl rfl rfl (T9 (ws:=[]) (by simp) (by simp)) rfl fun r_ B_ hr_=>ko ?_)
 obtain ⟨rfl,rfl⟩:=hr_
 refine Qq tt rfl ?_
 refine Qf tt 0 [] ((Qc rfl rfl (rfl) (Qh (m:=([]).length) qWb rfl (S3 _) rfl))) rfl ?_
 refine Qf tt 0 [] ((Qc rfl rfl (rfl) (Qw tt rfl rfl))) rfl ?_
 refine Qf tt 1 [] (Zs rfl (rfl) rfl rfl) rfl ?_
 exact Xp tt [] rfl (rfl)
end Orr
