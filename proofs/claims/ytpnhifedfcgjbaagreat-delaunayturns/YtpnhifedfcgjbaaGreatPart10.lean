/- MD6 SD1 W1 W2 WR18 WS18 X22 B22 WK22 WS22 SD2 WD18 WD22 ReadN LastN LastR LastT -/
import Derived.Test.YtpnhifedfcgjbaaGreatPart09
import Derived.Test.YtpnhifedfcgjbaaGreatPart00
import Derived.Test.YtpnhifedfcgjbaaGreatPart08
import Derived.Test.YtpnhifedfcgjbaaGreatPart07
import Derived.Test.YtpnhifedfcgjbaaGreatPart04
import Derived.Deep.Slices
import Derived.ProofKit
import Derived.OpenShut
import Derived.WideKeyArgs
import Derived.SizedLaws
set_option linter.all false
namespace Orr
open Go Go.Proofs Orq
set_option maxRecDepth 10000
theorem Zc9 {l:List P3} (hl:l.length<=1000000):W8 Tryz.prog 63 [.one (.row (M6 l)),.one (.row (M6 l))] [.one (.bool true)]:=by
 have hll:=Am l;refine Fv Tryz.func63 rfl ?_;refine go tt [.f (decide_eq_false (λh=>h rfl))] rfl trivial ?_;refine lp (S:=Nat) 0 (λL1 i=>(5,.v (.one (.int .i64 (i:Int))))::L1) (λ_=>[]) (λi=>l.length-i) (λi=>i<=l.length) 0 (Qg _) rfl (λ_ _=>rfl) rfl λi hi=>?_
 by_cases h:i<l.length
 ·obtain ⟨x,hx⟩:=gxE (l:=l) (i:=i) h;refine go tt [.t (decide_eq_true (by omega)),.x (Qll hx),.x (Qll hx),.f (by simp)] rfl (by simp [W6]; omega) ?_;exact rd (i+1) (by omega) h rfl
 ·exact en tt [.f (decide_eq_false (by omega))] rfl rfl trivial
theorem Zc6 {l:List (Int×Int)} (hl:l.length<=1000000):W8 Tryz.prog 64 [.one (.row (Nt l)),.one (.row (Nt l))] [.one (.bool true)]:=by
 have hll:=Gi l;refine Fv Tryz.func64 rfl ?_;refine go tt [.f (decide_eq_false (λh=>h rfl))] rfl trivial ?_;refine lp (S:=Nat) 0 (λL1 i=>(5,.v (.one (.int .i64 (i:Int))))::L1) (λ_=>[]) (λi=>l.length-i) (λi=>i<=l.length) 0 (Qg _) rfl (λ_ _=>rfl) rfl λi hi=>?_
 by_cases h:i<l.length
 ·obtain ⟨x,hx⟩:=gxE (l:=l) (i:=i) h;refine go tt [.t (decide_eq_true (by omega)),.x (Qdb hx),.x (Qdb hx),.f (by simp)] rfl (by simp [W6]; omega) ?_;exact rd (i+1) (by omega) h rfl
 ·exact en tt [.f (decide_eq_false (by omega))] rfl rfl trivial
theorem Qrn {c c':Cr} {l l' m:List Pt} {a:Tm} {r:List (List LV)} (hm:m.length<=6) (hr:r=brD m a):Ge Tryz.prog 23 [.one (.ow 0 0),.one (.ow 1 0)] [.blk 86 (Rp c (Ub l) r),.blk 86 (Rp c' (Ub l') r)] [.one (.bool true)] [.blk 86 (Rp c (Ub l) r),.blk 86 (Rp c' (Ub l') r)]:=by
 have hl:=Q3v (Pv a) hm;have hr:r=M6 (Na (Pv a) m):=hr;rw [hr];have he:=Qb5 (Na (Pv a) m) [];have he:(Bw (Na (Pv a) m)).length<=0+3*(Na (Pv a) m).length:=he;have c1:=Qby (c:=c) (r0:=Ub l) (ts:=Na (Pv a) m) (by omega);have c2:=Qby (c:=c') (r0:=Ub l') (ts:=Na (Pv a) m) (by omega);have c3:=Qiw (c:=c) (r0:=Ub l) (ts:=Na (Pv a) m) (by omega);have c4:=Qiw (c:=c') (r0:=Ub l') (ts:=Na (Pv a) m) (by omega);have s1:=Zc9 (l:=Na (Pv a) m) (by omega);have s2:=Zc6 (l:=Bw (Na (Pv a) m)) (by omega);refine Fv Tryz.func23 rfl ?_;exact ed tt [] [0,1] [.c [0] c1,.c [1] c2,.c [] s1,.g 10 true rfl,.c [0] c3,.c [1] c4,.c [] s2] rfl trivial
theorem Q1d {l:List Pt} {id:Int} (h:has l id=true):Lq l id<l.length:=by
 rcases Q9 (Lq l id) l.length with h1 | h1
 ·exact h1
 ·simp [has,Qu h1] at h
theorem Zdd {lx ly:List (List LV)} {px py:List Int} {x y:LV} {d id:Int} {l:List Pt} (hx:IsInts lx px) (hy:IsInts ly py) (hd:Gu x y d) (hk:Cs 4294967294 1073741824 (Crv.mk px py d)) (hl:l.length<=1000000) (h:has l id=true) :
 W8 Tryz.prog 88 [.agg [pts l],.agg [.row lx,.row ly,x,y,.int .i64 id]] [.agg [pts (l.set (Lq l id) (Pt.mk (Crv.norm (Crv.mk px py d)) id))],.one (.int .i64 0)]:=by
 have ca:=Qy3 (l:=l) id (by omega);have cf:=Qy7 hx hy hd hk id;obtain ⟨b,r,rfl,rfl,_⟩:=hd;obtain ⟨q,hq⟩:=nmE (Pt.mk (Crv.norm (Crv.mk px py d)) id);rw [<-hq] at cf ⊢;have hpl:=Q1d h;rw [h] at ca;have e:pts (l.set (Lq l id) q)=.row ((l.map Fw).set (Lq l id) (Fw q)):=by unfold pts; rw [List.map_set]
 rw [e];exact w tt Tryz.func88 rfl [.c [] ca,.f rfl,.s (Af l),.c [] cf,.i (Lq l id)] rfl rfl (by simp [W6]; omega)
theorem Zdb {l:List Pt} {id:Int} (hl:l.length<=1000000) (h:has l id=true) :
 W8 Tryz.prog 89 [.agg [pts l],.one (.int .i64 id)] [.agg [pts (l.take (Lq l id)++l.drop (Lq l id+1))],.one (.int .i64 0)]:=by
 have ca:=Qy3 (l:=l) id (by omega);have hpl:=Q1d h;rw [h] at ca;have s1:∀ c∈(l.map Fw).take (Lq l id),c.length=5:=λc hc=>Af l c (Ql hc)
 have s3:∀ c∈(l.map Fw).drop (Lq l id+1),c.length=5:=λc hc=>Af l c (Qz hc)
 have e:pts (l.take (Lq l id)++l.drop (Lq l id+1))=.row ((l.map Fw).take (Lq l id)++(l.map Fw).drop (Lq l id+1)):=by unfold pts; rw [List.map_append,List.map_take,List.map_drop]
 rw [e];refine w tt Tryz.func89 rfl [.c [] ca,.f rfl,.i (Lq l id),.s s1,.i (Lq l id+1),.s s3] rfl ?_ ?_
 ·simp
 ·have h1:(List.map Fw l).length=l.length:=by simp
  have h2:∀ z∈List.map Fw l,z.length=ti114.sz:=Af l;simp only [W6,Qp,Zq,h1]
  and_intros <;> first | exact h2 | omega
theorem Q6i {l:List Pt} {id:Int} (hl:l.length<=1000000) (h:has l id=false) :
 W8 Tryz.prog 89 [.agg [pts l],.one (.int .i64 id)] [.agg [pts l],.one (.int .i64 5)]:=by
 have ca:=Qy3 (l:=l) id (by omega);rw [h] at ca;exact w tt Tryz.func89 rfl [.c [] ca,.t rfl] rfl rfl trivial
end Orr
namespace Orr
open Go Go.Proofs
set_option maxRecDepth 10000
theorem Cs.up {s n s' n':Nat} {k:Crv} (h:Cs s n k) (hs:s<=s') (hn:n<=n'):Cs s' n' k:=⟨W7 h.x hs,W7 h.y hs,Qd h.d hs,Qd h.lx hn,Qd h.ly hn⟩
end Orr
namespace Orr
open Go Go.Proofs Orq
set_option maxRecDepth 10000
theorem Q3d {l m:List Pt} (h:l.Perm m) (hd:Lv l):Lv m:=(h.pairwise_iff (λh=>λe=>h e.symm)).1 hd

theorem Qix {c:Cr} {l l':List Pt} {r1:List (List LV)} {ws:List Wt} (hc:CrOk c) (hl:∀ p∈l',Sc p.c) (hn:l'.length≤6) (h:Lm c.l c.now (Uz (bcD l' c.now))=some ws) :
 Ge Tryz.prog 87 [.one (.ow 0 0),.agg [pts l'],.one (.int .i64 0)] [.blk 86 (Rp c (Ub l) r1)] [.one (.int .i64 0)] [.blk 86 (Rp ⟨c.now,ws,c.ev⟩ (Ub l') (brD l' c.now))]:=by
 have hB:=Qio hl hn;have cn:=Qoq (T:=86) (c:=c) (r0:=Ub l') (r1:=r1) hc.n;have cb:=Ql9 (c:=c) (r1:=r1) hl hn hc.n;have cg:=Q2r (T:=86) (r0:=Ub l') (r1:=brD l' c.now) hc hc.n (Q26 hc.n) (Int.le_refl 0) (hB.p _ hc.n) (hB.n _ hc.n) h;refine Fv Tryz.func87 rfl ?_;exact ed tt [] [0] [.f rfl,.c [0] cn,.c [0] cb,.c [0] cg] rfl trivial
theorem Qma {c:Cr} {l l':List Pt} {r1:List (List LV)} {e:Int} (he:e≠0) :
 Ge Tryz.prog 87 [.one (.ow 0 0),.agg [pts l'],.one (.int .i64 e)] [.blk 86 (Rp c (Ub l) r1)] [.one (.int .i64 e)] [.blk 86 (Rp c (Ub l) r1)]:=by
 refine Fv Tryz.func87 rfl ?_;exact ed tt [] [0] [.t (by simpa using he)] rfl trivial
theorem Zcw {lx ly:List (List LV)} {px py:List Int} {x y:LV} {d id:Int} {c:Cr} {l:List Pt} {r1:List (List LV)} {ws:List Wt} (hx:IsInts lx px) (hy:IsInts ly py) (hd:Gu x y d) (hk:Cs 4294967294 1073741824 (Crv.mk px py d)) (hll:l.length<=900)
 (he:Ds l ⟨Crv.norm (Crv.mk px py d),id⟩=0) (hc:CrOk c) (hl:∀ p∈put l ⟨Crv.norm (Crv.mk px py d),id⟩,Sc p.c) (hn:(put l ⟨Crv.norm (Crv.mk px py d),id⟩).length≤6) (h:Lm c.l c.now (Uz (bcD (put l ⟨Crv.norm (Crv.mk px py d),id⟩) c.now))=some ws) :
 Ge Tryz.prog 41 [.one (.ow 0 0),.agg [.row lx,.row ly,x,y,.int .i64 id]] [.blk 86 (Rp c (Ub l) r1)] [.one (.int .i64 0)] [.blk 86 (Rp ⟨c.now,ws,c.ev⟩ (Ub (put l ⟨Crv.norm (Crv.mk px py d),id⟩)) (brD (put l ⟨Crv.norm (Crv.mk px py d),id⟩) c.now))]:=by
 have cp:=Q56 (l:=l) (id:=id) hx hy hd hk (by omega);rw [if_pos he,he] at cp;have cw:=Qix (l:=l) (r1:=r1) hc hl hn h;refine Fv Tryz.func41 rfl ?_;obtain ⟨b,l',rfl,rfl,_⟩:=hd;exact ed tt [] [0] [.c [] cp,.c [0] cw] rfl trivial
theorem Q5n {lx ly:List (List LV)} {px py:List Int} {x y:LV} {d id e:Int} {c:Cr} {l:List Pt} {r1:List (List LV)} (hx:IsInts lx px) (hy:IsInts ly py) (hd:Gu x y d) (hk:Cs 4294967294 1073741824 (Crv.mk px py d)) (hll:l.length<=900)
 (he:Ds l ⟨Crv.norm (Crv.mk px py d),id⟩=e) (h0:e≠0) :
 Ge Tryz.prog 41 [.one (.ow 0 0),.agg [.row lx,.row ly,x,y,.int .i64 id]] [.blk 86 (Rp c (Ub l) r1)] [.one (.int .i64 e)] [.blk 86 (Rp c (Ub l) r1)]:=by
 have cp:=Q56 (l:=l) (id:=id) hx hy hd hk (by omega);rw [he,if_neg h0] at cp;have cw:=Qma (c:=c) (l:=l) (l':=l) (r1:=r1) h0;refine Fv Tryz.func41 rfl ?_;obtain ⟨b,l',rfl,rfl,_⟩:=hd;exact ed tt [] [0] [.c [] cp,.c [0] cw] rfl trivial
theorem Q5o {lx ly:List (List LV)} {px py:List Int} {x y:LV} {d id:Int} {c:Cr} {l l':List Pt} {r1:List (List LV)} {ws:List Wt} (hx:IsInts lx px) (hy:IsInts ly py) (hd:Gu x y d) (hk:Cs 4294967294 1073741824 (Crv.mk px py d)) (hll:l.length<=6) (h:has l id=true) (hc:CrOk c)
 (hl':l'=l.set (Lq l id) (Pt.mk (Crv.norm (Crv.mk px py d)) id)) (hs:∀ p∈l',Sc p.c) (hw:Lm c.l c.now (Uz (bcD l' c.now))=some ws) :
 Ge Tryz.prog 39 [.one (.ow 0 0),.agg [.row lx,.row ly,x,y,.int .i64 id]] [.blk 86 (Rp c (Ub l) r1)] [.one (.int .i64 0)] [.blk 86 (Rp ⟨c.now,ws,c.ev⟩ (Ub l') (brD l' c.now))]:=by
 have ct1:=Zdd (l:=l) hx hy hd hk (by omega) h;rw [<-hl'] at ct1;have cw:=Qix (c:=c) (l:=l) (l':=l') (r1:=r1) hc hs (by rw [hl',Ja]; omega) hw;obtain ⟨b,r,rfl,rfl,_⟩:=hd;refine Fv Tryz.func39 rfl ?_;exact ed tt [] [0] [.c [] ct1,.c [0] cw] rfl trivial
theorem Q5m {id:Int} {c:Cr} {l l':List Pt} {r1:List (List LV)} {ws:List Wt} (hll:l.length<=6) (h:has l id=true) (hc:CrOk c)
 (hl':l'=l.take (Lq l id)++l.drop (Lq l id+1)) (hs:∀ p∈l',Sc p.c) (hw:Lm c.l c.now (Uz (bcD l' c.now))=some ws) :
 Ge Tryz.prog 40 [.one (.ow 0 0),.one (.int .i64 id)] [.blk 86 (Rp c (Ub l) r1)] [.one (.int .i64 0)] [.blk 86 (Rp ⟨c.now,ws,c.ev⟩ (Ub l') (brD l' c.now))]:=by
 have ct1:=Zdb (l:=l) (id:=id) (by omega) h;rw [<-hl'] at ct1;have cw:=Qix (c:=c) (l:=l) (l':=l') (r1:=r1) hc hs (by rw [hl',Q5,Qp,Zq]; omega) hw;refine Fv Tryz.func40 rfl ?_;exact ed tt [] [0] [.c [] ct1,.c [0] cw] rfl trivial
theorem Q2n {id:Int} {c:Cr} {l:List Pt} {r1:List (List LV)} (hll:l.length<=6) (h:has l id=false) :
 Ge Tryz.prog 40 [.one (.ow 0 0),.one (.int .i64 id)] [.blk 86 (Rp c (Ub l) r1)] [.one (.int .i64 5)] [.blk 86 (Rp c (Ub l) r1)]:=by
 refine Fv Tryz.func40 rfl ?_;exact ed tt [] [0] [.c [] (Q6i (l:=l) (id:=id) (by omega) h),.c [0] (Qma (c:=c) (l:=l) (l':=l) (r1:=r1) (e:=5) (by decide))] rfl trivial
theorem Q2m {c:Cr} {r0:List (List LV)} {r1:List (List LV)}:Ge Tryz.prog 16 [.one (.ow 0 0)] [.blk 86 (Rp c r0 r1)] [.one (.ow 1 0)] [.blk 86 (Rp c r0 r1),.blk 86 (Rp c r0 r1)]:=by
 refine Fv Tryz.func16 rfl ?_;exact ed tt [] [0,1] [] rfl trivial
theorem Qvy {M:List Pt} {q:Rat} {c:List (List Int)} (hM:∀ p∈M,Rs p.c) (hl:M.length≤6) (hq:Qs 1000000 q) (hC:Qyi q c):Ge Tryz.prog 45 [.one (.ow 0 0)] [.blk 45 (plZ M q)] [] [.blk 45 (plB M q c (Qbq q M))]:=by
 refine Fv Tryz.func45 rfl ?_;exact ed tt [] [0] [.c [] (Qrr hq hC),.c [] (Qvj (cs:=c) hM hl hq),.c [] (Q6z (Q4c q hl))] rfl trivial
theorem Q2v {zs:List RawPt} {n d:Int} {O M:List Pt} {e:Nat} {c:List (List Int)} (hz:∀ z∈zs,z.Ok) (hO:Qf3 4 20 zs=O) (he:e≤O.length) (hd:Lv (Rw O e)) (hm:e<O.length->¬Lv (Rw O (e+1))) (hn:-9223372036854775808≤n/\n≤9223372036854775807) (hdd:-9223372036854775808≤d/\d≤9223372036854775807) (hC:Qyi (Ef n d) c) (hM:M=Hy D5 (Qbf O e)) :
 Ge Tryz.prog 7 [.one (.row (Qea zs)),.one (.int .i64 n),.one (.int .i64 d)] [] [.one (.ow 0 0),.one (.ow 1 0),.one (.bool true)] [.blk 86 (Rp (Q5h M (tq (Ef n d))) (Ub M) (brD M (tq (Ef n d)))),.blk 45 (plB M (Ef n d) c (Qbq (Ef n d) M))]:=by
 have hO4:O.length<=4:=by rw [<-hO]; exact I8 _ _ (Qg _)
 have hid:∀ p∈O,-9223372036854775808≤p.id/\p.id≤9223372036854775807:=λp hp=>by
  rw [<-hO] at hp; have:=Zfj p hp; omega
 have hlit:∀ p∈O,Q19 p:=λp hp=>by rw [<-hO] at hp; exact Qnf (by decide) p hp
 have hcl:(Rw O e).length=e:=Qc7 he;have hcn:(Qbf O e).length=e:=by rw [Qgz,hcl]
 have hMl:M.length=e:=by rw [hM,Nn,hcn]
 have hok:∀ p∈M,Nml p.c/\Cs 10 3 p.c:=λp hp=>by rw [hM,Aj] at hp; exact Qzr hlit e p hp
 have hq:=Qga n d;obtain ⟨q,hqq⟩:=nmE (Ef n d);have cb:=Qze (l:=Qbf O e) (by omega);rw [<-hM] at cb;rw [<-hqq] at hq hC ⊢;have csm:=Qy1 hn hdd;have c2:=Qvy (M:=M) (q:=q) (c:=c) (λp hp=>⟨(hok p hp).1,(hok p hp).2.mono (by decide) (by decide)⟩) (by omega) (hq.mono (by decide)) hC;have ctr:=Zg4 (q:=q) (hq.mono (by decide));have hnl:=Q30 (qs:=Qbf O e) (by omega) (Qfc hd);have hnl2:Rm [] (Qbf O e)=(M,0):=by rw [hM,<-hnl.2,<-hnl.1]
 have cs:=Qyt (zs:=Ub (Rw O e)) (qs:=Qbf O e) (l:=M) (n:=q.num) (d:=(q.den:Int)) (Qnc λp hp=>(Qr5 hlit e p hp).mono (by decide) (by decide)) (by omega) hnl2 (λp hp=>⟨(hok p hp).1,(hok p hp).2.mono (by decide) (by decide)⟩) (by omega) (W9 q.num) (W9 (q.den:Int)) (Qd hq.1 (by decide)) (Qd hq.2 (by decide)) (by rw [Ie]; exact hq.mono (by decide));rw [Ie] at cs;rw [show Fx (Eg n 61-30) (1+Eg d 6)=q from hqq.symm] at csm;have cp:=Q2s hz;rw [hO] at cp;refine Fv Tryz.func7 rfl ?_;refine go tt [.c [0,1] cp] rfl trivial ?_;have h0l:=Rj O;refine ct 2 (S:=Unit) (λ_=>[(1,.v (.one (.int .i64 n))),(2,.v (.one (.int .i64 d))),(9,.v (.one (.row (Ub (Rw O e))))),(10,.v (.one (.row (Ux (Qbf O e)))))]) (λ_=>[.gone,.gone]) (λ_=>True) rfl ?_ (λ_ _=>?_)
 ·refine lp (S:=Nat) 2 (λL1 i=>(23,.v (.one (.int .i64 (i:Int))))::(9,.v (.one (.orow 0 5 none)))::(10,.v (.one (.orow 1 7 none)))::L1) (λi=>[.row false 114 5 (Ub (mix O i)),.row false 61 7 (Ux ((mix O i).map Pt.nrm))]) (λi=>O.length-i) (λi=>i<=O.length/\i<=e/\Lv (Rw O i)) 0 ⟨Qg _,Qg _,List.Pairwise.nil⟩ rfl (λ_ _=>rfl) (by rw [Q89]; rfl) λi ⟨hi,hie,hdi⟩=>?_
  have hl1:(Ub (mix O (i+1))).length=O.length:=by rw [Rj,Qh2]
  have hl0:(Ub (mix O i)).length=O.length:=by rw [Rj,Qh2]
  have hr0:(Ux ((mix O i).map Pt.nrm)).length=O.length:=by rw [Rv,Q6,Qh2]
  have hr1:(Ux ((mix O (i+1)).map Pt.nrm)).length=O.length:=by rw [Rv,Q6,Qh2]
  by_cases h:i<O.length
  ·obtain ⟨p,hp⟩:=gxE (l:=O) (i:=i) h;have hx:=Zey hp;have hxn:((mix O i).map Pt.nrm)[i]? = some p.nrm:=by rw [Q8,hx]; rfl
   have cw:=Iy (v:=p.id) (n:=5) (hid p (Qa hp)) (by decide);rw [show Eg p.id 5=p.m5.id from rfl] at cw;refine go tt [.t (decide_eq_true (by omega)),.i i,.x (O7 hx),.c [] cw,.i i,.x (O7 hx),.c [] cw,.i i,.x (O7 hx),.i i,.x (H5 hxn)] rfl (by simp [W6,hl0,hr0]; omega) ?_;rw [Qqc hp,Ql3 hp];refine lp (S:=Nat) 2 (λL1 j=>(12,.v (.one (.int .i64 (j:Int))))::(9,.v (.one (.orow 0 5 none)))::(10,.v (.one (.orow 1 7 none)))::L1) (λ_=>[.row false 114 5 (Ub (mix O (i+1))),.row false 61 7 (Ux ((mix O (i+1)).map Pt.nrm))]) (λj=>i-j) (λj=>j<=i/\∀ k x,k<j->O[k]? = some x->x.m5.id≠p.m5.id) 0 ⟨Qg _,λk x h=>absurd h (Wz _)⟩ rfl (λ_ _=>rfl) rfl λj ⟨hj,hjn⟩=>?_
   by_cases hji:j<i
   ·obtain ⟨x,hxj⟩:=gxE (l:=O) (i:=j) (by omega);have g1:=Q0t (i:=i+1) (show j<i+1 by omega) hxj;have g2:=Q0t (i:=i+1) (show i<i+1 by omega) hp;by_cases hq:x.m5.id=p.m5.id
    ·have hnd:¬Lv (Rw O (i+1)):=λhD=>by
      have:=Vz.1 hD j i (by rw [Qc7 (by omega)]; omega) (by rw [Qc7 (by omega)]; omega) hji;refine this ?_;have e1:(Rw O (i+1))[j]? = some x.m5:=by unfold Rw; rw [List.getElem?_map,List.getElem?_take,if_pos (by omega),hxj]; rfl
      have e2:(Rw O (i+1))[i]? = some p.m5:=by unfold Rw; rw [List.getElem?_map,List.getElem?_take,if_pos (by omega),hp]; rfl
      rw [(Qc.1 e1).2,(Qc.1 e2).2]; exact hq
     have hie2:i=e:=by
      rcases Q9 i e with h3 | h3
      ·exact absurd (Zd8 hd h3) hnd
      ·omega
     have c1:(Ub (mix O (i+1))).take i=Ub (Rw O e):=by rw [Q39 (by omega) (by omega),hie2]
     have c2:(Ux ((mix O (i+1)).map Pt.nrm)).take i=Ux (Qbf O e):=by rw [Qxs (by omega) (by omega),hie2]
     refine go tt [.t (decide_eq_true (by omega)),.i j,.x (O7 g1),.i i,.x (O7 g2),.t (decide_eq_true hq),.i i,.i i] rfl (by simp [W6,hl1,hr1]; omega) ?_;refine pz 0 rfl rfl ?_;refine pz 1 rfl rfl ?_;exact go tt [.t (decide_eq_true (by omega))] rfl trivial (rc () trivial (by rw [c1,c2]; rfl))
    ·refine go tt [.t (decide_eq_true (by omega)),.i j,.x (O7 g1),.i i,.x (O7 g2),.f (decide_eq_false hq)] rfl (by simp [W6,hl1]; omega) ?_;exact rd (j+1) (by omega) ⟨hji,λk y hk hy=>by
      rcases Q9 k j with h3 | h3
      ·exact hjn k y h3 hy
      ·have:k=j:=by omega
       subst this; rw [hxj] at hy; injection hy with hy; rw [<-hy]; exact hq⟩ rfl
   ·have hji2:j=i:=by omega
    rw [hji2] at hjn;have hD:=Q3e hp hdi hjn;have hle:i+1<=e:=by
     rcases Q9 i e with h3 | h3
     ·exact h3
     ·have:i=e:=by omega
      rw [this] at hD h;exact absurd hD (hm h)
    refine go tt [.f (decide_eq_false (by omega)),.f (decide_eq_false (by omega))] rfl (by simp [W6]; omega) ?_;exact rd (i+1) (by omega) ⟨h,hle,hD⟩ rfl
  ·have hiO:i=O.length:=by omega
   have hie2:i=e:=by omega
   have c1:Ub (mix O i)=Ub (Rw O e):=by rw [<-hie2,hiO,Qs8]
   have c2:Ux ((mix O i).map Pt.nrm)=Ux (Qbf O e):=by rw [<-hie2,hiO,Qs8]; rfl
   refine go tt [] rfl trivial ?_;rw [c1,c2];refine pz 0 rfl rfl ?_;refine pz 1 rfl rfl ?_;exact go tt [.f (decide_eq_false (by omega))] rfl trivial (rc () trivial rfl)
 ·exact ed tt [] [3,2] [.c [] cb,.c [] csm,.c [2] c2,.c [] ctr,.c [3] cs,.g 96 true rfl] rfl trivial
abbrev wkD:List Pt:=[⟨Qn8 0 0,1⟩,⟨Qn8 1 0,2⟩,⟨Qn8 0 1,3⟩,⟨Qn8 1 1,4⟩]
theorem Zk3:(Na (Pv (tq 0)) wkD).length=4:=by decide +kernel
theorem Zk2:(Bw (Na (Pv (tq 0)) wkD)).length=6:=by decide +kernel
theorem Zby:∀ p∈wkD,Sc p.c:=λp hp=>by
 simp only [wkD,Qo,J3,or_false] at hp;rcases hp with rfl | rfl | rfl | rfl
 all_goals exact Zaz (by decide) (by decide)
theorem Qmk:W8 Tryz.prog 15 [] [.one (.bool true)]:=by
 have hq:Qs 400000 (Fx 0 0):=⟨by decide,by decide⟩;have ez:Fx 0 0=0:=by decide
 have zp:IsPts 4294967294 1073741824 (Ub wkD) wkD:=Q0d λp hp=>(Zby p hp).pt
 have hnl:Rm [] wkD=(wkD,0):=rfl;have cn:=Qyt zp (by decide) hnl Zby (by decide) Nl Nl (by decide) (by decide) hq;rw [ez] at cn;obtain ⟨ts,hts⟩:=nmE (Na (Pv (tq 0)) wkD);have e4:ts.length=4:=by rw [hts]; exact Zk3
 have e6:(Bw ts).length=6:=by rw [hts]; exact Zk2
 unfold brD at cn;rw [<-hts] at cn;have ct:=Qby (c:=Q5h wkD (tq 0)) (r0:=Ub wkD) (ts:=ts) (by omega);have ce:=Qiw (c:=Q5h wkD (tq 0)) (r0:=Ub wkD) (ts:=ts) (by omega);have l4:=Am ts;have l6:=Gi (Bw ts);refine Fv Tryz.func15 rfl ?_;exact en tt [.c [] (Qhn (x:=0) (y:=0) (by decide) (by decide)),.c [] (Qhn (x:=1) (y:=0) (by decide) (by decide)),.c [] (Qhn (x:=0) (y:=1) (by decide) (by decide)),.c [] (Qhn (x:=1) (y:=1) (by decide) (by decide)),.c [0] cn,.g 19 true rfl,.g 23 true rfl,.c [0] ct,.g 29 true (decide_eq_true (by omega)),.c [0] ce,.g 34 true (decide_eq_true (by omega))] rfl rfl trivial

theorem Q64 {p:Pt}:W8 Tryz.prog 42 [.agg (M5 p)] [.agg (Fw p)]:=w tt Tryz.func42 rfl [] rfl rfl trivial
theorem Qki {x:List Int} {i:Nat} {z:Int} (h:x[i]? = some z):S5 ((x.map (· * -5)).take i)++[Fi (z*-5)]=S5 ((x.map (· * -5)).take (i+1)):=by
 rw [Zx,Q8,h]; simp [S5]
theorem Qpo {z:Int} {s:Nat} (h:Uh z<=s):Uh (z*-5)<=s+3:=Qd (Us _ _) (Nat.add_le_add h (by decide))
theorem Zl0 {k:Crv} {s n:Nat} (h:Cs s n k):Cs (s+3) n ⟨k.x.map (· * -5),k.y.map (· * -5),k.d*-5⟩ :=
 ⟨λz hz=>by obtain ⟨w,hw,rfl⟩:=Zc.1 hz; exact Qpo (h.x w hw),λz hz=>by obtain ⟨w,hw,rfl⟩:=Zc.1 hz; exact Qpo (h.y w hw),Qpo h.d,by simpa using h.lx,by simpa using h.ly⟩
theorem Zeo {ws:List Wt} {l:List Ct} (h:ws.map (·.c)=Uz l) (ho:∀ c∈l,Cp c.p):∀ x∈Uz (ws.map (·.c)),Cp x.p:=λx hx=>by
 have:=Ai hx;rw [h] at this;exact ho x (Ai this)
set_option maxHeartbeats 8000000 in
theorem Qlu {zs:List RawPt} {n d k:Int} (hz:∀ z∈zs,z.Ok) (hn:-9223372036854775808≤n/\n≤9223372036854775807) (hdd:-9223372036854775808≤d/\d≤9223372036854775807) (hk:-9223372036854775808≤k/\k≤9223372036854775807):W8 Tryz.prog 6 [.one (.row (Qea zs)),.one (.int .i64 n),.one (.int .i64 d),.one (.int .i64 k)] [.one (.bool true)]:=by
 obtain ⟨e,he,hd,hm⟩:=Zi2 (Qf3 4 20 zs);have hq0:=Qga 30 0;have cb:=Q2v (n:=30) (d:=0) hz rfl he hd hm (by decide) (by decide) (Zmp (hq0.mono (by decide))) rfl;obtain ⟨O,hO⟩:=nmE (Qf3 4 20 zs);have hO4:O.length<=4:=by rw [hO]; exact I8 _ _ (Qg _)
 have hlit:∀ p∈O,Q19 p:=λp hp=>by rw [hO] at hp; exact Qnf (by decide) p hp
 rw [<-hO] at cb he hd;obtain ⟨M,hM⟩:=nmE (Hy D5 (Qbf O e));rw [<-hM] at cb;obtain ⟨q,hq⟩:=nmE (Ef 30 0);rw [<-hq] at cb hq0;have hcn:(Qbf O e).length=e:=by rw [Qgz,Qc7 he]
 have hMl:M.length=e:=by rw [hM,Nn,hcn]
 have hMs:Hz M:=by rw [hM]; exact Qef (Qfc hd)
 have hMd:Lv M:=by rw [hM]; exact Q3d (Qx4 _).symm (Qfc hd)
 have hok:∀ p∈M,Nml p.c/\Cs 10 3 p.c:=λp hp=>by
  rw [hM,Aj] at hp;exact Qzr hlit e p hp
 have hsc:∀ p∈M,Sc p.c:=λp hp=>⟨(hok p hp).1,(hok p hp).2.mono (by decide) (by decide)⟩
 have hln:M.length<=6:=by omega
 have hv:Va (tq q):=Zky (hq0.mono (by decide));have S:Stab (bcD M) (brD M):=Zmy hsc hln;obtain ⟨c0,hc0⟩:=nmE (Q5h M (tq q));have hst:KSt (bcD M) (brD M) c0 (brD M (tq q)):=by rw [hc0]; exact Zie S hv
 have hn0:c0.now=tq q:=by rw [hc0]; rfl
 have hev0:c0.ev=0:=by rw [hc0]; rfl
 rw [<-hc0] at cb;have hal:(Q2d M).length<=1000000:=Q49 hln;have csm:=Qy1 hn hdd;obtain ⟨t,ht⟩:=nmE (Ef n d);have htq:Qs 400000 t:=by rw [ht]; exact (Qga n d).mono (by decide)
 rw [show Fx (Eg n 61-30) (1+Eg d 6)=t from ht.symm] at csm;have ctt:=Zg4 (q:=t) (htq.mono (by decide));obtain ⟨c1,r1,a1,a2,hS,hadv⟩:∃ (c1:Cr) (r1:List (List LV)) (a1 a2:Int),KSt (bcD M) (brD M) c1 r1/\Ge Tryz.prog 18 [.one (.ow 0 0),.agg (rl t)] [.blk 86 (Rp c0 (Ub M) (brD M (tq q)))] [.one (.int .i64 a1),.one (.int .i64 a2)] [.blk 86 (Rp c1 (Ub M) r1)]:=by
  by_cases hp:q<=t
  ·obtain ⟨K,c',E,h1,h2,h3,h4,h5,h6,h7⟩:=Zh6 S (Qol hsc) (λa _=>Qon) hal htq hst (by rw [hn0,Quo]; exact Qc5.2 hp);exact ⟨c',_,_,_,h4,Zij (l:=M) (K:=K) htq hsc hln hst.inv.ok (by rw [hev0]; omega) (by rw [hn0,Quo]; exact Qc5.2 hp) h2⟩
  ·exact ⟨c0,_,_,_,hst,Qvm (l:=M) (r1:=brD M (tq q)) htq hst.inv.ok.n (by rw [hn0,Quo]; exact Np.2 (Jo.1 hp))⟩
 have hcrl:=Rv M;refine Fv Tryz.func6 rfl ?_;refine go tt [.c [0,1] cb,.f rfl,.c [] csm,.c [] ctt,.c [0] hadv,.c [0,3] Q2m,.f rfl] rfl trivial ?_;by_cases hM0:M.length=0
 ·exact en tt [.t (decide_eq_true (by omega)),.c [] Qmk] rfl rfl trivial
 have hw1:Eg k (M.length:Int)=k % (M.length:Int):=if_neg (by omega);have hw2:=Y6 k (b:=(M.length:Int)) (by omega);have hw3:=Yo k (b:=(M.length:Int)) (by omega);obtain ⟨j,hj⟩:∃ j:Nat,(j:Int)=k % (M.length:Int):=⟨(k % (M.length:Int)).toNat,by omega⟩;have cwi:=Iy (v:=k) (n:=(M.length:Int)) hk (by omega);rw [hw1,<-hj] at cwi;rw [<-hcrl] at cwi;obtain ⟨p,hp⟩:=gxE (l:=M) (i:=j) (by omega);obtain ⟨hpn,hpc⟩:=hok p (Qa hp);have hpid:has M p.id=true:=Zjk hMs hp;obtain ⟨X,hX⟩:=nmE (p.c.x.map (· * -5));obtain ⟨Y,hY⟩:=nmE (p.c.y.map (· * -5));obtain ⟨D,hD⟩:=nmE (p.c.d*-5);have hXl:X.length=p.c.x.length:=by rw [hX,Q6]
 have hYl:Y.length=p.c.y.length:=by rw [hY,Q6]
 have hc5:Cs 13 3 (Crv.mk X Y D):=by rw [hX,hY,hD]; exact Zl0 hpc
 have hnm:Crv.norm (Crv.mk X Y D)=p.c:=by rw [hX,hY,hD]; exact Q9g hpn (by decide)
 have hm5:=λ{z:Int} (h:Uh z<=10)=>Te (a:=z) (b:=-5) (by omega) (by decide)
 have hto:=λ{z:Int} (h:Uh z<=10)=>Q2t (z:=z*-5) (by have:=Qpo h; omega)
 have hfr:=λ{z:Int} (h:Uh z<=10)=>Qiy (z:=z) (by omega)
 have cof:=Bb (n:=-5) (by decide);have cmd:=hm5 hpc.d;have ctd:=hto hpc.d;rw [<-hD] at cmd ctd;refine go tt [.f (decide_eq_false (by omega)),.c [] cwi,.x (H5 hp),.c [] (hfr hpc.d),.c [] cof,.c [] cmd,.c [] ctd] rfl (by simp [W6] <;> omega) ?_;refine oz2 15 0 55 2 rfl rfl ?_;have hxl:(p.c.x.map Fi).length=p.c.x.length:=by simp
 have hyl:(p.c.y.map Fi).length=p.c.y.length:=by simp
 have hx3:=hpc.lx;have hy3:=hpc.ly;have hXt:∀ i,i<=p.c.x.length->(S5 (X.take i)).length=i:=λi hi=>by rw [Qfw,Qp]; omega
 have hYt:∀ i,i<=p.c.y.length->(S5 (Y.take i)).length=i:=λi hi=>by rw [Qfw,Qp]; omega
 refine lp (S:=Nat) 7 (λL1 i=>(71,.v (.one (.int .i64 (i:Int))))::L1) (λi=>[.blk 86 (Rp c1 (Ub M) r1),.blk 45 (plB M q [[-q.num,(q.den:Int)],[1]] (Qbq q M)),.blk 35 (fr t),.blk 86 (Rp c1 (Ub M) r1),.blk 61 (M5 p),.blk 57 [.orow 6 2 none,.nils,sg D,mg D],.row false 55 2 (S5 (X.take i))]) (λi=>p.c.x.length-i) (λi=>i<=p.c.x.length) 0 (Qg _) rfl (λ_ _=>rfl) rfl λi hi=>?_
 by_cases hlt:i<p.c.x.length
 ·obtain ⟨z,hz⟩:=gxE (l:=p.c.x) (i:=i) hlt;have hzs:=hpc.x z (Qa hz);have hs:∀ y∈[Fi (z*-5)],y.length=2:=λy hy=>by rw [Qm.1 hy]; rfl
  refine go tt [.t (decide_eq_true (by omega)),.x (Ff (f:=Fi) hz),.c [] (hfr hzs),.c [] cof,.c [] (hm5 hzs),.c [] (hto hzs),.s (sz:=2) hs] rfl (by simp [W6,hXt i hi]; omega) ?_;exact rd (i+1) (by omega) hlt (by rw [hX,<-Qki hz]; rfl)
 obtain rfl:i=p.c.x.length:=by omega
 rw [Qj (by omega)];refine go tt [.f (decide_eq_false (by omega))] rfl trivial ?_;refine pz 6 rfl rfl ?_;refine oz2 15 1 55 2 rfl rfl ?_;refine lp (S:=Nat) 8 (λL1 i=>(96,.v (.one (.int .i64 (i:Int))))::L1) (λi=>[.blk 86 (Rp c1 (Ub M) r1),.blk 45 (plB M q [[-q.num,(q.den:Int)],[1]] (Qbq q M)),.blk 35 (fr t),.blk 86 (Rp c1 (Ub M) r1),.blk 61 (M5 p),.blk 57 [.row (S5 X),.orow 7 2 none,sg D,mg D],.gone,.row false 55 2 (S5 (Y.take i))]) (λi=>p.c.y.length-i) (λi=>i<=p.c.y.length) 0 (Qg _) rfl (λ_ _=>rfl) rfl λi hi=>?_
 by_cases hlt:i<p.c.y.length
 ·obtain ⟨z,hz⟩:=gxE (l:=p.c.y) (i:=i) hlt;have hzs:=hpc.y z (Qa hz);have hs:∀ y∈[Fi (z*-5)],y.length=2:=λy hy=>by rw [Qm.1 hy]; rfl
  refine go tt [.t (decide_eq_true (by omega)),.x (Ff (f:=Fi) hz),.c [] (hfr hzs),.c [] cof,.c [] (hm5 hzs),.c [] (hto hzs),.s (sz:=2) hs] rfl (by simp [W6,hYt i hi]; omega) ?_;exact rd (i+1) (by omega) hlt (by rw [hY,<-Qki hz]; rfl)
 obtain rfl:i=p.c.y.length:=by omega
 rw [Qj (by omega)];obtain ⟨⟨ok1,kk1⟩,hcs,hr1⟩:=hS;obtain ⟨w2,l1,l2⟩:=Qke ok1.n ok1.l (Uz (bcD M c1.now));have okw:=Orr.lay_ok c1.ev ok1 ok1.n (S.ok.p _ ok1.n) (S.ok.n _ ok1.n) l1;have cturn:=Q5o (c:=c1) (l:=M) (l':=M) (r1:=r1) (U7 X) (U7 Y) (W9 D) (hc5.mono (by decide) (by decide)) (by omega) hpid ok1 (by rw [hnm]; exact (Za0 hMs hp).symm) hsc l1;obtain ⟨s,hs⟩:=nmE (brD M c1.now);rw [<-hs] at cturn hr1;rw [hr1] at cturn;rw [hr1];have cal:=Qrn (c:=c1) (c':=⟨c1.now,w2,c1.ev⟩) (l:=M) (l':=M) (m:=M) (a:=c1.now) (r:=s) (by omega) hs;have cC1:=Qiz (T:=86) (c:=c1) (r0:=Ub M) (r1:=s) ok1;have cC2:=Qiz (T:=86) (c:=⟨c1.now,w2,c1.ev⟩) (r0:=Ub M) (r1:=s) okw;have hcs2:Uz ((⟨c1.now,w2,c1.ev⟩:Cr).l.map (·.c))=Uz (c1.l.map (·.c)):=by
  show Uz (w2.map (·.c))=_;rw [l2,hcs]
 rw [hcs2] at cC2;have hC5:∀ x∈Uz (c1.l.map (·.c)),Cp x.p:=Zeo hcs (S.ok.p _ ok1.n);have hCl:(Uz (c1.l.map (·.c))).length≤1000000:=by rw [Cz,Q6]; have:=ok1.k; omega
 have csc:=Q6b (l:=Uz (c1.l.map (·.c))) hC5 hCl;have cE1:=Qmb (T:=86) (c:=c1) (r0:=Ub M) (r1:=s);have cE2:=Qmb (T:=86) (c:=⟨c1.now,w2,c1.ev⟩) (r0:=Ub M) (r1:=s);have hji:=(Qc.1 hp).1;obtain ⟨N,hN⟩:=nmE (M.take j++M.drop (j+1));have hNl:=Qsp hji;rw [<-hN] at hNl;have hNm:∀ x∈N,x∈M:=λx hx=>by
  rw [hN] at hx;rcases Qx.1 hx with h | h
  ·exact Ql h
  ·exact Qz h
 have hNs:∀ x∈N,Sc x.c:=λx hx=>hsc x (hNm x hx)
 have hBN:=Qio hNs (by omega);obtain ⟨w3,m1,m2⟩:=Qke okw.n okw.l (Uz (bcD N c1.now));have okw3:=Orr.lay_ok c1.ev okw okw.n (hBN.p _ okw.n) (hBN.n _ okw.n) m1;have cdr:=Q5m (c:=⟨c1.now,w2,c1.ev⟩) (l:=M) (l':=N) (r1:=s) (by omega) hpid okw (by rw [Qxe hMs hp]; exact hN) hNs m1;have hgo:has N p.id=false:=by rw [hN]; exact Q8o hMs hp
 have cde:=Q2n (c:=⟨c1.now,w3,c1.ev⟩) (l:=N) (r1:=brD N c1.now) (id:=p.id) (by omega) hgo;have hnp:Crv.norm (Crv.mk p.c.x p.c.y p.c.d)=p.c:=Crv.norm_of hpn;have hpb:put N ⟨Crv.norm (Crv.mk p.c.x p.c.y p.c.d),p.id⟩=M:=by rw [hnp,hN]; exact Q97 hMs hp
 have hpe:Ds N ⟨Crv.norm (Crv.mk p.c.x p.c.y p.c.d),p.id⟩=0:=by
  unfold Ds;rw [if_neg (by rw [hgo]; decide),if_neg (by omega)]
 obtain ⟨w4,n1,n2⟩:=Qke okw3.n okw3.l (Uz (bcD M c1.now));have okw4:=Orr.lay_ok c1.ev okw3 okw3.n (S.ok.p _ ok1.n) (S.ok.n _ ok1.n) n1;have cpu:=Zcw (c:=⟨c1.now,w3,c1.ev⟩) (l:=N) (r1:=brD N c1.now) (ws:=w4) (U7 p.c.x) (U7 p.c.y) (W9 p.c.d) (hpc.mono (by decide) (by decide)) (by omega) hpe okw3 (by rw [hpb]; exact hsc) (by rw [hpb]; omega) (by rw [hpb]; exact n1);rw [hpb] at cpu;have hpe6:Ds M ⟨Crv.norm (Crv.mk p.c.x p.c.y p.c.d),p.id⟩=6:=by
  unfold Ds;rw [if_pos hpid]
 have cpe:=Q5n (c:=⟨c1.now,w4,c1.ev⟩) (l:=M) (r1:=brD M c1.now) (U7 p.c.x) (U7 p.c.y) (W9 p.c.d) (hpc.mono (by decide) (by decide)) (by omega) hpe6 (by decide);rw [<-hs] at cpu cpe;have cal2:=Qrn (c:=c1) (c':=⟨c1.now,w4,c1.ev⟩) (l:=M) (l':=M) (m:=M) (a:=c1.now) (r:=s) (by omega) hs;have cC4:=Qiz (T:=86) (c:=⟨c1.now,w4,c1.ev⟩) (r0:=Ub M) (r1:=s) okw4;have hcs4:Uz ((⟨c1.now,w4,c1.ev⟩:Cr).l.map (·.c))=Uz (c1.l.map (·.c)):=by
  show Uz (w4.map (·.c))=_;rw [n2,hcs]
 rw [hcs4] at cC4;have hne:decide (c1.ev≠c1.ev)=false:=decide_eq_false (λh=>h rfl);refine go tt [.f (decide_eq_false (by omega))] rfl trivial ?_;refine pz 7 rfl rfl ?_;refine go tt [.c [3] cturn,.g 123 false rfl,.lo,.c [0,3] cal,.g 129 false rfl,.lo,.c [0] cC1,.lo,.c [3] cC2,.c [] csc,.g 141 false rfl,.lo,.c [0] cE1,.lo,.c [3] cE2,.f hne,.c [3] cdr,.g 157 false rfl,.c [3] cde,.g 164 false rfl,.c [] Q64,.c [3] cpu,.g 171 false rfl,.c [] Q64,.c [3] cpe,.f rfl] rfl trivial ?_;exact en tt [.lo,.c [0,3] cal2,.g 181 true rfl,.lo,.c [0] cC1,.lo,.c [3] cC4,.c [] csc,.g 192 true rfl,.c [] Qmk] rfl rfl trivial
end Orr
namespace Orr
open Go Go.Proofs
variable {H:Type} {enc:TypeId×Value->H} {w:World} {base:Nat} {spare:Nat->Bool} {held:Bool}
theorem Di {α:Type} {l:List α} {n i:Nat} (h:l.length=n) (hi:i<n):∃ x,l[i]? = some x:=⟨l[i]'(by omega),Qe (by omega)⟩
end Orr
namespace Orr
open Go Go.Proofs Go.ChangeShapes Go.WideShapes Go.ChangeAt Go.RowKit Go.WideElems
theorem Zdy {w:World} {a:Addr} {v:Value} (h:w.cell? a=some v):a.spot=none/\a.block<w.heap.size:=by
 simp only [World.cell?] at h
 split at h
 ·rename_i c t fr hc
  split at h
  ·cases h
  ·rename_i hs;refine ⟨by cases e:a.spot with | none=>rfl | some _=>simp [e] at hs,?_⟩;exact (Array.getElem?_eq_some_iff.1 hc).1
 ·cases h
theorem Zck {a:Addr} (h:a.spot=none) (n m:Nat):(a.add n).add m=⟨a.block,a.off+n+m,none⟩:=by
 obtain ⟨b,o,s⟩:=a;simp only at h;subst h;simp only [Addr.add]
 split
 ·rename_i h; subst h
  split
  ·rename_i h; subst h; simp
  ·simp
 ·split
  ·rename_i h; subst h; simp
  ·simp
def fr0 (w:World):Fr:=⟨λb=>b<w.heap.size,λ_=>False,w,λ_=>False,λ_=>none⟩
theorem hs0 (w:World):HS (fr0 w) (ob []) (nw []) (λ_=>none) (λ_=>False) w where
 size:=Qn _
 kept:=λb hb=>⟨hb,rfl,Iff.rfl⟩
 ids:=λi h=>h.elim
 nj:=λi h=>by rw [Qp2] at h; cases h
 io:=⟨rfl,rfl⟩
 blk:=λi=>by rw [Qp2]; trivial
 nk:=λi g c m h _=>by rw [Qp2] at h; cases h
 inj:=λi j g c m c' m' h _ _ _=>by rw [Qp2] at h; cases h
 mlt:=λb h=>h.elim
 m0:=λb _ h=>h.elim
 un:=λi _=>⟨rfl,rfl⟩
 uj:=λi _ h=>h.elim
theorem Zf0 {w w':World} {bl:Nat->OB} {U:Nat->Prop} {E:Md} {M:Nat->Prop} (h:HS (fr0 w) bl U E M w') {p:MemPlace} (hp:p.block<w.heap.size):w.sameAt w' p:=by
 cases p with
 | cell b off=>simp only [World.sameAt,World.cell?]; rw [(h.kept b hp).2.1]; rfl
 | map b=>exact (h.kept b hp).2.1
theorem Zen {w w':World} {bl:Nat->OB} {U:Nat->Prop} {E:Md} {M:Nat->Prop} (h:HS (fr0 w) bl U E M w') (may:MemPlace->Prop):w.keptBut w' may:=by
 refine ⟨h.io.1,h.io.2,λi hi=>?_⟩;have e:w'.heap[i]? = w.heap[i]? := (h.kept i hi).2.1;rw [e];cases w.heap[i]? with
 | none=>rfl
 | some o=>cases o <;> simp
theorem Qai {H:Type} {P:Program} {e:TypeId}:∀ {l:List (DataW H)} {i:Nat} {d:DataW H},l[i]? = some d->∀ n∈d.weights P e,n∈DataW.weightsAll P e l
 | [],i,d,h,_,_=>by simp at h
 |
  x::l,0,d,h,n,hn=>by
  simp at h; subst h;simp only [DataW.weightsAll,Qx]; exact .inl hn
 |
  x::l,i+1,d,h,n,hn=>by
  simp only [DataW.weightsAll,Qx];exact .inr (Qai (i:=i) (by simpa using h) n hn)
theorem El {H:Type} {P:Program} {t:TypeId} {fs:Array Field} {parts:List (DataW H)} (hu:P.underlying t=some (.struct fs)) (hz:((DataW.agg parts).weights P t).all (· <= reachBytes)=true) {i:Nat} {f:Field} {d:DataW H} (hf:fs[i]? = some f) (hd:parts[i]? = some d) :
 (d.weights P f.type).all (· <= reachBytes)=true:=by
 rw [Yl] at hz ⊢;intro n hn;refine hz n ?_;simp only [DataW.weights,hu];exact DataW.weights_mem_each (j:=i) (by rw [Q8]; simp [hf]) hd n hn
variable {H:Type} {enc:TypeId×Value->H} {w:World}
abbrev O0:Nat->Prop:=λ_=>False
def Els (w:World) (cs:List Value) (ls:List LV):Prop:=cs.length=ls.length/\∀ (j:Nat) (u:LV),ls[j]? = some u->∃ v,cs[j]? = some v/\LRep w O0 v u
theorem Qd9 {α:Type} {rw_:α->List LV} {Ok:α->Prop} {t e sz:Nat} (hu:Tryz.prog.underlying t=some (.slice e)) (hc:Tryz.prog.cellsOf e=sz) (hsz:0<sz) (hb:1<=Tryz.prog.bytesOf e) (hw:∀ z,(rw_ z).length=sz)
 (elem:∀ fuel cs x,DataW.trod enc Tryz.prog w 0 (λ_=>true) true fuel e cs=some x->(x.1.weights Tryz.prog e).all (· <= reachBytes)=true->∃ z,Ok z/\Els w cs (rw_ z))
 {fuel:Nat} {cs:List Value} {x:DataW H×List MemPlace} (h:DataW.trod enc Tryz.prog w 0 (λ_=>true) true fuel t cs=some x) (hz:(x.1.weights Tryz.prog t).all (· <= reachBytes)=true) :
 ∃ (v:Value) (l:List α),cs=[v]/\(∀ z∈l,Ok z)/\l.length<2^47/\LRep w O0 v (.row (l.map rw_)):=by
 rcases Go.Deep.open_slice hu h with ⟨rfl,_⟩ | ⟨a',len,cap,m,n,D,Pl,rfl,_,hlc,hcap,hm,rfl,hr⟩
 ·refine ⟨_,[],rfl,by simp,Nat.two_pow_pos 47,?_⟩;exact LRep.row none 0 0 0 0 [] (λ_ _=>.bool true) (Qn _) (by decide) (by simp) (by simp) (by simp) (by simp)
 ·simp only [if_true] at hm;subst hm;rw [Yl] at hz;have hlen:len<2^47:=by
   have h0:=hz ((len+(m-len))*Tryz.prog.bytesOf e) (by simp [DataW.weights,hu]);have h1:len<=(len+(m-len))*Tryz.prog.bytesOf e:=by
    have:=Zy (Kg len (m-len)) hb;omega
   have h2:(len+(m-len))*Tryz.prog.bytesOf e<=reachBytes:=by simpa using h0
   exact Zt (Qd h1 h2) reachBytes_lt
  have hel:∀ i,i<len->((D i).weights Tryz.prog e).all (· <= reachBytes)=true:=λi hi=>by
   rw [Yl];intro k hk;refine hz k ?_;simp only [DataW.weights,hu];refine Qi _ (Qx.2 (.inl (Qai (i:=i) ?_ k hk)));rw [Q8,Xt hi]; rfl
  have hone:∀ i,i<len->∃ z cs',Ok z/\Els w cs' (rw_ z)/\∀ j,j<sz->w.cell? ((a'.add (i*sz)).add j)=cs'[j]? := λi hi=>by
   obtain ⟨cs',hcs,htr⟩:=hr i (by omega);rw [hc] at hcs;obtain ⟨_,hl,hcell⟩:=World.cells?_some hcs;obtain ⟨z,hz1,hz2⟩:=elem _ _ _ htr (hel i hi);refine ⟨z,cs',hz1,hz2,λj hj=>?_⟩;rw [hcell j (by omega)]
  have hspot:0<len->a'.spot=none/\a'.block<w.heap.size:=λh0=>by
   obtain ⟨z,cs',_,⟨hl,_⟩,h3⟩:=hone 0 h0;have h4:=h3 0 hsz;have:(a'.add (0*sz)).add 0=a':=by simp [Addr.add]
   rw [this,Qe (by rw [hl,hw]; exact hsz)] at h4;exact Zdy h4
  obtain ⟨l,hll,hl⟩:∃ l:List α,l.length=len/\∀ i z,l[i]? = some z->Ok z/\∃ cs',Els w cs' (rw_ z)/\∀ j,j<sz->w.cell? ((a'.add (i*sz)).add j)=cs'[j]? := by
   have:∀ k,k<=len->∃ l:List α,l.length=k/\∀ i z,l[i]? = some z->Ok z/\∃ cs',Els w cs' (rw_ z)/\∀ j,j<sz->w.cell? ((a'.add (i*sz)).add j)=cs'[j]? := by
    intro k
    induction k with
    | zero=>intro _; exact ⟨[],rfl,λi z h=>by simp at h⟩
    |
     succ k ih =>
     intro hk;obtain ⟨l,h1,h2⟩:=ih (by omega);obtain ⟨z,cs',h3,h4,h5⟩:=hone k (by omega);refine ⟨l++[z],by simp [h1],λi y hy=>?_⟩;rcases Q9 i l.length with hi | hi
     ·rw [Zk hi] at hy; exact h2 i y hy
     ·rw [Xc hi] at hy;have:i-l.length=0:=by
       rcases Qy (i-l.length) with h | h
       ·exact h
       ·rw [Qu (by rw [Ki]; exact h)] at hy; cases hy
      rw [this] at hy;simp at hy;subst hy;have:i=k:=by omega
      subst this;exact ⟨h3,cs',h4,h5⟩
   exact this len (Qn _)
  refine ⟨_,l,rfl,λz hz=>?_,by rw [hll]; exact hlen,?_⟩
  ·obtain ⟨i,hi⟩:=Zf.1 hz;exact (hl i z hi).1
  ·have key:LRep w O0 (.slice (some a') (l.map rw_).length m) (.row (l.map rw_)):=by
    have hgl:∀ i c,(l.map rw_)[i]? = some c->∃ z,l[i]? = some z/\c=rw_ z/\i<len:=λi c h=>by
     rw [Q8] at h;cases e:l[i]? with
     | none=>rw [e] at h; cases h
     | some z=>rw [e] at h; simp at h; exact ⟨z,rfl,h.symm,by have:=(Qc.1 e).1; omega⟩
    have hcl:∀ i c,(l.map rw_)[i]? = some c->∃ cs':List Value,Els w cs' c/\∀ j,j<sz->w.cell? ⟨a'.block,a'.off+i*sz+j,none⟩=cs'[j]? := λi c h=>by
     obtain ⟨z,hz,rfl,hi⟩:=hgl i c h;obtain ⟨_,cs',h1,h2⟩:=hl i z hz;refine ⟨cs',h1,λj hj=>?_⟩;rw [<-h2 j hj,Zck (hspot (by omega)).1]
    refine LRep.row (some a') m sz a'.block a'.off (l.map rw_) (λi j=>(w.cell? ⟨a'.block,a'.off+i*sz+j,none⟩).getD (.bool true)) (by rw [Q6]; omega) ?_ ?_ ?_ ?_ ?_
    ·have:maxLen=2^63-1:=by rfl
     omega
    ·intro c hc2;obtain ⟨z,_,rfl⟩:=Zc.1 hc2;exact hw z
    ·intro h0;rw [Q6,hll] at h0;obtain ⟨hs,hb⟩:=hspot h0;refine ⟨?_,hb,by simp [O0]⟩;obtain ⟨b,o,s⟩:=a';simp only at hs;rw [hs]
    ·intro i c hi j hj;obtain ⟨z,_,rfl,_⟩:=hgl i c hi;obtain ⟨cs',⟨h1,_⟩,h2⟩:=hcl i _ hi;have hjs:j<sz:=by rw [<-hw z]; exact hj
     rw [h2 j hjs,Qe (by rw [h1]; exact hj)]; rfl
    ·intro i c hi j u hu2;obtain ⟨z,_,rfl,_⟩:=hgl i c hi;obtain ⟨cs',⟨h1,h3⟩,h2⟩:=hcl i _ hi;obtain ⟨v,hv,hr2⟩:=h3 j u hu2;have hjs:j<sz:=by rw [<-hw z]; exact (Qc.1 hu2).1
     show LRep w O0 ((w.cell? ⟨a'.block,a'.off+i*sz+j,none⟩).getD (.bool true)) u;rw [h2 j hjs,hv]; exact hr2
   rw [Q6,hll] at key;exact key
abbrev Znq (x:Nat):List LV:=[.int .u32 (x:Int)]
theorem Zbv:∀ fuel cs x,DataW.trod enc Tryz.prog w 0 (λ_=>true) true fuel 217 cs=some x->(x.1.weights Tryz.prog 217).all (· <= reachBytes)=true->∃ z:Nat,z<4294967296/\Els w cs (Znq z):=by
 intro fuel cs x h _;obtain ⟨n,rfl,_,hwf⟩:=DataW.trod_int Tryz.underlying217 h;have hn:0<=n/\n<4294967296:=by
  have:0<=n/\n<=4294967295:=by simpa [Lit.wf,IntKind.min,IntKind.max,IntKind.signed,IntKind.bits] using hwf
  omega
 refine ⟨n.toNat,by omega,rfl,λj u hu=>?_⟩
 match j,hu with
 |
  0,hu =>
  simp at hu; subst hu;refine ⟨_,rfl,?_⟩;rw [show max n 0=n by omega];exact .int _ _
 | j+1,hu=>simp at hu
set_option maxRecDepth 20000 in
theorem Qj8:∀ fuel cs x,DataW.trod enc Tryz.prog w 0 (λ_=>true) true fuel 55 cs=some x->(x.1.weights Tryz.prog 55).all (· <= reachBytes)=true->∃ z:RawInt,z.Ok/\Els w cs (Qf7 z):=by
 intro fuel cs x h hz;obtain ⟨xs,n,_,rfl,hl,hxs,hf⟩:=DataW.trod_struct Tryz.underlying55 h;have hl:cs.length=2:=hl
 match cs,hl with
 |
  [v0,v1],_ =>
  obtain ⟨z0,hz0⟩:=Di (i:=0) hxs (by decide);obtain ⟨z1,hz1⟩:=Di (i:=1) hxs (by decide);have h0:=hf 0 _ rfl;have h1:=hf 1 _ rfl;rw [hz0] at h0; rw [hz1] at h1;obtain ⟨b,e0,_⟩:=DataW.trod_bool Tryz.underlying4 h0;have f0:v0=.bool b:=(List.cons.inj (show [v0]=[Value.bool b] from e0)).1;have hw1:=El Tryz.underlying55 hz (i:=1) rfl (d:=z1.1) (by rw [Q8,hz1]; rfl);obtain ⟨v,l,e1,hlo,_,hrep⟩:=Qd9 (sz:=1) (Ok:=λu:Nat=>u<4294967296) (rw_:=Znq) Tryz.underlying53 (by kernel_rfl) (by decide) (of_decide_eq_true (by kernel_rfl)) (λ_=>rfl) Zbv h1 hw1;have f1:v1=v:=(List.cons.inj (show [v1]=[v] from e1)).1;subst f0 f1;refine ⟨⟨b,l⟩,⟨hlo⟩,rfl,λj u hu=>?_⟩
  match j,hu with
  | 0,hu=>simp at hu; subst hu; exact ⟨_,rfl,.bool _⟩
  | 1,hu=>simp at hu; subst hu; exact ⟨_,rfl,hrep⟩
  | j+2,hu=>simp at hu
set_option maxRecDepth 20000 in
theorem Qxd:∀ fuel cs x,DataW.trod enc Tryz.prog w 0 (λ_=>true) true fuel 114 cs=some x->(x.1.weights Tryz.prog 114).all (· <= reachBytes)=true->∃ z:RawPt,z.Ok/\Els w cs (rwq z):=by
 intro fuel cs x h hz;obtain ⟨xs,n,_,rfl,hl,hxs,hf⟩:=DataW.trod_struct Tryz.underlying114 h;have hl:cs.length=5:=hl
 match cs,hl with
 |
  [v0,v1,v2,v3,v4],_ =>
  obtain ⟨z0,hz0⟩:=Di (i:=0) hxs (by decide);obtain ⟨z1,hz1⟩:=Di (i:=1) hxs (by decide);have h0:=hf 0 _ rfl;have h1:=hf 1 _ rfl;rw [hz0] at h0; rw [hz1] at h1;obtain ⟨id,e4,_,hwf⟩:=DataW.trod_int Tryz.underlying3 h1;have f4:v4=.int .i64 id:=(List.cons.inj (show [v4]=[Value.int .i64 id] from e4)).1;have hw0:=El Tryz.underlying114 hz (i:=0) rfl (d:=z0.1) (by rw [Q8,hz0]; rfl);obtain ⟨ys,n2,_,e5,_,hys,hg⟩:=DataW.trod_struct Tryz.underlying57 h0;rw [e5] at hw0;obtain ⟨y0,hy0⟩:=Di (i:=0) hys (by decide);obtain ⟨y1,hy1⟩:=Di (i:=1) hys (by decide);obtain ⟨y2,hy2⟩:=Di (i:=2) hys (by decide);have g0:=hg 0 _ rfl;have g1:=hg 1 _ rfl;have g2:=hg 2 _ rfl;rw [hy0] at g0; rw [hy1] at g1; rw [hy2] at g2;have w0:=El Tryz.underlying57 hw0 (i:=0) rfl (d:=y0.1) (by rw [Q8,hy0]; rfl);have w1:=El Tryz.underlying57 hw0 (i:=1) rfl (d:=y1.1) (by rw [Q8,hy1]; rfl);have w2:=El Tryz.underlying57 hw0 (i:=2) rfl (d:=y2.1) (by rw [Q8,hy2]; rfl);obtain ⟨u0,lx,e0,hx,_,rx⟩:=Qd9 (sz:=2) (Ok:=RawInt.Ok) (rw_:=Qf7) Tryz.underlying52 (by kernel_rfl) (by decide) (of_decide_eq_true (by kernel_rfl)) (λ_=>rfl) Qj8 g0 w0;obtain ⟨u1,ly,e1,hy,_,ry⟩:=Qd9 (sz:=2) (Ok:=RawInt.Ok) (rw_:=Qf7) Tryz.underlying52 (by kernel_rfl) (by decide) (of_decide_eq_true (by kernel_rfl)) (λ_=>rfl) Qj8 g1 w1;obtain ⟨d,hd,hde⟩:=Qj8 _ _ _ g2 w2;have f0:v0=u0:=(List.cons.inj (show [v0]=[u0] from e0)).1;have f1:v1=u1:=(List.cons.inj (show [v1]=[u1] from e1)).1;have hde2:Els w [v2,v3] (Qf7 d):=hde;subst f0 f1 f4;obtain ⟨q2,hq2,r2⟩:=hde2.2 0 _ rfl;obtain ⟨q3,hq3,r3⟩:=hde2.2 1 _ rfl;simp at hq2 hq3;subst hq2 hq3;refine ⟨⟨lx,ly,d,id⟩,⟨hx,hy,hd,by simpa [Lit.wf,IntKind.min,IntKind.max,IntKind.signed,IntKind.bits] using hwf⟩,rfl,λj u hu=>?_⟩
  match j,hu with
  | 0,hu=>simp [rwq] at hu; subst hu; exact ⟨_,rfl,rx⟩
  | 1,hu=>simp [rwq] at hu; subst hu; exact ⟨_,rfl,ry⟩
  | 2,hu=>simp [rwq] at hu; subst hu; exact ⟨_,rfl,r2⟩
  | 3,hu=>simp [rwq] at hu; subst hu; exact ⟨_,rfl,r3⟩
  | 4,hu=>simp [rwq] at hu; subst hu; exact ⟨_,rfl,.int _ _⟩
  | j+5,hu=>simp [rwq] at hu
end Orr
namespace Orr
open Go Go.Proofs Go.ChangeShapes Go.WideShapes Go.ChangeAt Go.RowKit Go.WideElems
set_option maxRecDepth 20000 in
theorem Qs2 {f:FuncId} {fn:Func} {s:ChangeSpec} (hp:fn.params = #[22,3,3,3]) (hr:fn.resultTypes = #[4]) (hv:s.vars=[])
 (hs:∀ (H:Type) (d1 d2 d3 d4:DataW H),s.fn H [d1,d2,d3,d4]={ results:=[.lit (.bool true)],args:=[d1,d2,d3,d4] })
 (hlaid:laidOutB Tryz.prog=true) (hr22:Tryz.prog.readableRec 22=true) (hr3:Tryz.prog.readableRec 3=true) (hs22:22<Tryz.prog.types.size) (hs3:3<Tryz.prog.types.size)
 (law:∀ (zs:List RawPt) (n d k:Int),(∀ z∈zs,z.Ok)->(-2^63≤n/\n≤2^63-1)->(-2^63≤d/\d≤2^63-1)->(-2^63≤k/\k≤2^63-1)->W8 Tryz.prog f [.one (.row (Qea zs)),.one (.int .i64 n),.one (.int .i64 d),.one (.int .i64 k)] [.one (.bool true)])
 {H:Type} {enc:TypeId×Value->H} {W:World} {base:Nat} {args:Array Value} {ds gs:List (DataW H)} {Qvc:List MemPlace} {fresh handsOn:Bool}
 (hval:∀ (j:Nat) t v,fn.params[j]? = some t->args[j]? = some v->Value.okWide Tryz.prog W .any base t v)
 (hW:DataW.Whole enc Tryz.prog fn.params.toList s.vars false W args.toList ds gs Qvc)
 (hz:(DataW.weightsEach Tryz.prog (fn.params.toList++s.plain.varTypes Tryz.prog) (ds++gs)).all (· <= reachBytes)=true) :
 Calls Tryz.prog f args W λe W'=>∃ v,e=.returned v/\s.post enc Tryz.prog fn false fresh handsOn false W args v W':=by
 have hW':=hW;obtain ⟨p,q,hA0,hV,rfl,hfz,hnd⟩:=hW;have hA:DataW.TrodAll enc Tryz.prog W 0 (λ_=>true) true fn.params.toList args.toList ds p:=hA0;rw [hv] at hV;obtain ⟨rfl,rfl⟩:=trodVars_none hV;have hlt:=hW'.lt;rw [hp] at hA hval hz;obtain ⟨v0,vs0,d0,ds0,p0,q0,hargs0,rfl,rfl,h0,r0⟩:=trodAll_cons hA;obtain ⟨v1,vs1,d1,ds1,p1,q1,rfl,rfl,rfl,h1,r1⟩:=trodAll_cons r0;obtain ⟨v2,vs2,d2,ds2,p2,q2,rfl,rfl,rfl,h2,r2⟩:=trodAll_cons r1;obtain ⟨v3,vs3,d3,ds3,p3,q3,rfl,rfl,rfl,h3,r3⟩:=trodAll_cons r2;obtain ⟨rfl,rfl,rfl⟩:=trodAll_nil r3;obtain rfl:args = #[v0,v1,v2,v3]:=by cases args; simp_all
 obtain ⟨n,rfl,rfl,rfl,w1⟩:=open_int Tryz.underlying3 (hval 1 3 v1 rfl rfl) h1;obtain ⟨d,rfl,rfl,rfl,w2⟩:=open_int Tryz.underlying3 (hval 2 3 v2 rfl rfl) h2;obtain ⟨k,rfl,rfl,rfl,w3⟩:=open_int Tryz.underlying3 (hval 3 3 v3 rfl rfl) h3;have hv0:=hval 0 22 v0 rfl rfl;obtain ⟨a,len,cap,rfl⟩:=okWide_slice Tryz.underlying22 hv0;have hz0:(d0.weights Tryz.prog 22).all (· <= reachBytes)=true:=by
  rw [Yl] at hz ⊢;intro j hj;exact hz j (DataW.weights_mem_each (j:=0) rfl rfl j hj)
 have h0':=h0;obtain ⟨fu,h0'⟩:=h0';obtain ⟨v,zs,e0,hok,hlen,hrep⟩:=Qd9 (sz:=5) (Ok:=RawPt.Ok) (rw_:=rwq) Tryz.underlying22 (by kernel_rfl) (by decide) (of_decide_eq_true (by kernel_rfl)) (λ_=>rfl) Qxd h0' hz0;have f0:Value.slice a len cap=v:=(List.cons.inj (show [Value.slice a len cap]=[v] from e0)).1;subst f0;have hd1:-2^63<=d/\d<=2^63-1:=by simpa [Lit.wf,IntKind.min,IntKind.max,IntKind.signed,IntKind.bits] using w2
 have hrep:LRep W (λ_=>False) (.slice a len cap) (.row (Qea zs)):=hrep;have hn1:-2^63<=n/\n<=2^63-1:=by simpa [Lit.wf,IntKind.min,IntKind.max,IntKind.signed,IntKind.bits] using w1
 have hk1:-2^63<=k/\k<=2^63-1:=by simpa [Lit.wf,IntKind.min,IntKind.max,IntKind.signed,IntKind.bits] using w3
 have hcall:=(law zs n d k hok hn1 hd1 hk1).2 (fr0 W) (λ_=>none) (λ_=>False) W [.slice a len cap,.int .i64 n,.int .i64 d,.int .i64 k] (hs0 W) (.cons (show XRep W (λ_=>False) (λ_=>none) (.slice a len cap) (.row (Qea zs)) from hrep.x) (.cons (show XRep W (λ_=>False) (λ_=>none) (.int .i64 n) (.int .i64 n) from (LRep.int .i64 n).x) (.cons (show XRep W (λ_=>False) (λ_=>none) (.int .i64 d) (.int .i64 d) from (LRep.int .i64 d).x) (.cons (show XRep W (λ_=>False) (λ_=>none) (.int .i64 k) (.int .i64 k) from (LRep.int .i64 k).x) .nil))));refine hcall.mono λe W' ⟨v,u,Bo,E',M',he,⟨hu,hBo⟩,_,hm,har⟩=>?_
 subst hu;obtain rfl:v=.bool true:=by
  have h:LRep _ _ v (.bool true):=har;cases h;rfl
 refine ⟨_,he,?_⟩;refine ⟨[d0,.lit (.int .i64 n),.lit (.int .i64 d),.lit (.int .i64 k)],[],_,[],p0++([]++([]++([]++[]))),[],hW',?_,?_,?_,Zen hm _,λh=>by cases h⟩
 ·rw [hr,Xe,hs];exact trodAll_cons_mk (shut_bool Tryz.underlying4 true) trodAll_mk0
 ·rw [hp,Xe,hs];have hb:∀ p∈p0,p.block<W.heap.size:=λp hp=>hlt p (by simp [hp])
  exact trodAll_cons_mk (Trod_stays hlaid hr22 hs22 h0 (λp hp=>Zf0 hm (hb p hp)) (λp hp=>by simpa using hb p hp)) (trodAll_cons_mk (shut_int Tryz.underlying3 w1) (trodAll_cons_mk (shut_int Tryz.underlying3 w2) (trodAll_cons_mk (shut_int Tryz.underlying3 w3) trodAll_mk0)))
 ·rw [hv,Xe,hs];rfl
end Orr
