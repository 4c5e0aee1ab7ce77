/- RatOkL R8 R9 RefCL R10 RawL NewsL KGoL SortQ BegL R11 R12 R13 R14 R15 R16 R17 R18 SC1 SplitL NewsN -/
import Derived.Test.YtbnjginelkkonaaGreatPart08
import Derived.Test.YtbnjginelkkonaaGreatPart05
set_option linter.all false

namespace Orr
theorem Ha (f:Nat→Int):Vf 1 f=trim [f 0]:=rfl
theorem Ix (f:Nat→Int):Vf 2 f=trim [f 0,f 1]:=rfl
theorem Cq (x:Int):trim [x]=if x=0 then [] else [x]:=rfl
theorem Qcz (x y:Int):trim [x,y]=if y=0 then trim [x] else [x,y]:=by
  simp only [trim]; split <;> split <;> simp_all
theorem bd1 {s:Nat} {x:Int} (h:Qm x≤s):Bd s [x]:=fun z hz=>by simp at hz; subst hz; exact h
theorem bd2 {s:Nat} {x y:Int} (h:Qm x≤s) (h':Qm y≤s):Bd s [x,y]:=fun z hz=>by
  simp only [List.mem_cons,List.not_mem_nil,or_false] at hz
  rcases hz with rfl | rfl <;> assumption
section
variable {x d:Int} (hd:0<d) (hg:Int.gcd x d=1) (hx:Qm x≤1000000) (hs:Qm d≤1000000)
theorem b1 {s:Nat} (h:1≤s):Bd s [1]:=bd1 (Nat.le_trans (show Qm 1≤1 by decide) h)
include hd in
theorem B7 (hg:Int.gcd x d=1):Xq [x,d]=[x,d]:=by
  have hc:V2 [x,d]=1:=by
    have h1:Me [x,d]=1:=by
      show Int.gcd (Int.gcd ((0:Nat):Int) x:Nat) d=1
      rw [show Int.gcd ((0:Nat):Int) x=x.natAbs by simp,show Int.gcd ((x.natAbs:Nat):Int) d=Int.gcd x d by simp [Int.gcd],hg]
    unfold V2
    rw [if_neg (show ¬Zb [x,d]<0 from by show ¬d<0; omega),h1]; rfl
  unfold Xq
  rw [hc]
  show Vf 2 _=_
  rw [Ix,Qcz]
  show (if d / 1=0 then _ else [x / 1,d / 1])=_
  rw [Int.ediv_one,if_neg (by omega),Int.ediv_one]
theorem Qwr:Xq [1]=[1]:=by decide
include hd in
theorem O3:Xq [d]=[1]:=by
  have hc:V2 [d]=d:=by
    have h1:((Me [d]:Nat):Int)=d:=by
      show ((Int.gcd ((0:Nat):Int) d:Nat):Int)=d
      simp; omega
    unfold V2
    rw [if_neg (show ¬Zb [d]<0 from by show ¬d<0; omega),h1]
  unfold Xq
  rw [hc]
  show Vf 1 _=_
  rw [Ha,Cq]
  show (if d / d=0 then _ else [d / d])=_
  rw [Int.ediv_self (by omega)]; rfl
include hd in
theorem Qds:Zk [x,d]=[d]:=by
  show Vf 1 _=_
  rw [Ha,Cq]
  show (if d*1=0 then _ else [d*1])=_
  rw [Int.mul_one,if_neg (by omega)]
include hd hx hs in
theorem Qh8:∃ m,RRun [1] m [x,d] []:=by
  have h1:Qcn [x,d] [1]=trim [x]:=by
    show Vf 2 _=_
    rw [Ix,Qcz]
    have e1:Gu [x,d] [1] 1=0:=by
      show d*1-(if 1≤1 then S5 [x,d] [1]*1 else 0)=0
      have:S5 [x,d] [1]=d:=by unfold S5; rw [if_neg (by decide)]; rfl
      rw [this]; simp
    have e0:Gu [x,d] [1] 0=x:=by
      show x*1-(if 1≤0 then _ else 0)=x
      simp
    rw [e1,if_pos rfl,e0]
  have hb:Bd 9000000 [x,d]:=bd2 (by omega) (by omega)
  by_cases h0:x=0
  · refine ⟨1,.step (by show 1≤2; decide) (by show 2≤1000; decide) hb (b1 (by decide)) ?_⟩
    rw [h1,h0]
    exact .stop (by decide)
  · refine ⟨2,.step (by show 1≤2; decide) (by show 2≤1000; decide) hb (b1 (by decide)) ?_⟩
    rw [h1,Cq,if_neg h0]
    refine .step (Nat.le_refl 1) (by show 1≤1000; decide) (bd1 (by omega)) (b1 (by decide)) ?_
    have h2:Qcn [x] [1]=[]:=by
      show Vf 1 _=_
      rw [Ha,Cq]
      have e0:Gu [x] [1] 0=0:=by
        show x*1-(if 0≤0 then S5 [x] [1]*1 else 0)=0
        have:S5 [x] [1]=x:=by unfold S5; rw [if_neg (by decide)]; rfl
        rw [this]; simp
      rw [e0,if_pos rfl]
    rw [h2]
    exact .stop (by decide)
include hd hx hs in
theorem Qve:∃ m,GRun m [x,d] [1] [1]:=by
  obtain ⟨m,h⟩:=Qh8 hd hx hs
  exact ⟨1,.step (by decide) (by decide) (b1 (by decide)) h (by decide) We rfl (by rw [show Xq []=[] by decide]; exact .stop _)⟩
theorem Qq7 (c:Int):Vx [c] [c]=[]:=by
  show Vf 1 _=_
  rw [Ha,Cq]
  show (if c-c=0 then _ else _)=_
  rw [if_pos (by omega)]
include hd hx hs in
theorem Qm6:DOk [x,d] [1] [x,d]:=by
  refine ⟨by decide,by decide,by show 2≤1000; decide,b1 (by decide),[x,d],[],?_⟩
  have hpl:Zb [x,d] / Zb [1]=d:=by show d / 1=d; rw [Int.ediv_one]
  have hsc:Qw [1] d=[d]:=by
    show Vf 1 _=_
    rw [Ha,Cq]
    show (if 1*d=0 then _ else [1*d])=_
    rw [Int.one_mul,if_neg (by omega)]
  have hsub:Vx [x,d] (Fs 1 [d])=trim [x]:=by
    show Vf 2 _=_
    rw [Ix,Qcz]
    show (if d-d=0 then trim [x-0] else _)=_
    rw [if_pos (by omega),Int.sub_zero]
  have hb:Bd 9000000 [x,d]:=bd2 (by omega) (by omega)
  have ht:trim [x,d]=[x,d]:=by rw [Qcz,if_neg (by omega)]
  by_cases h0:x=0
  · refine ⟨1,hb,by show 2≤1000; decide,?_,ht.symm⟩
    refine .step (by show 1≤2; decide) (by show 2≤1000; decide) hb (by decide) (by show (1:Int)∣d; exact Int.one_dvd d) (by show 1<2; decide) ?_
    rw [hpl,hsc,show [x,d].length-[(1:Int)].length=1 from rfl,hsub,Cq,if_pos h0]
    show DRun [1] 0 [] [0,d] [x,d] []
    rw [h0]; exact .stop (by decide)
  · refine ⟨2,hb,by show 2≤1000; decide,?_,ht.symm⟩
    refine .step (by show 1≤2; decide) (by show 2≤1000; decide) hb (by decide) (by show (1:Int)∣d; exact Int.one_dvd d) (by show 1<2; decide) ?_
    rw [hpl,hsc,show [x,d].length-[(1:Int)].length=1 from rfl,hsub,Cq,if_neg h0]
    refine .step (by show 1≤1; decide) (by show 1≤1000; decide) (bd1 (by omega)) (by decide) (by show (1:Int)∣x; exact Int.one_dvd x) (by show 0<2; decide) ?_
    have hpl2:Zb [x] / Zb [1]=x:=by show x / 1=x; rw [Int.ediv_one]
    have hsc2:Qw [1] x=[x]:=by
      show Vf 1 _=_
      rw [Ha,Cq]
      show (if 1*x=0 then _ else [1*x])=_
      rw [Int.one_mul,if_neg h0]
    rw [hpl2,hsc2,show [x].length-[(1:Int)].length=0 from rfl,show Fs 0 [x]=[x] from rfl,Qq7]
    exact .stop (by decide)
theorem div_one:DOk [1] [1] [1]:=by
  refine ⟨by decide,by decide,by decide,b1 (by decide),[1],[],1,b1 (by decide),by decide,?_,by decide⟩
  refine .step (by decide) (by decide) (b1 (by decide)) (by decide) (by decide) (by decide) ?_
  exact .stop (by decide)
include hd hg hx hs in
theorem Qux:FRun [x,d] 1 (fun _=>[x,d]):=by
  obtain ⟨m,hm⟩:=Qve (x:=x) hd hx hs
  refine ⟨⟨1,[[x,d],[1]],?_,rfl,?_⟩,by decide⟩
  · rw [B7 hd hg]
    refine .step (by show 1<2; decide) (by show 2≤1000; decide) (by show trim [x,d]=[x,d]; rw [Qcz,if_neg (by omega)]) (by show Bd 9000000 [x,d]; exact bd2 (by omega) (by omega)) ?_ ?_ (by show 1≤1000; decide) (m:=m) (g:=[1]) ?_
    · show Bd 9000000 (Zk [x,d])
      rw [Qds hd]; exact bd1 (by omega)
    · show GRun m (Xq [x,d]) (Xq (Zk [x,d])) [1]
      rw [B7 hd hg,Qds hd,O3 hd]; exact hm
    · exact .stop (by show 1≤1; decide)
  · intro k hk
    have:k=0:=by omega
    subst this
    exact ⟨[x,d],[1],[x,d],Qm6 hd hx hs,div_one,by rw [B7 hd hg,Qwr]; exact Qm6 hd hx hs,(B7 hd hg).symm⟩
theorem Qqy {p:List Int} (hp:Qj p) (h0:0<p.length):Zn [1] p=p:=by
  refine Tw (Zw _ _) hp fun k=>?_
  unfold Zn
  rw [if_neg (by
   rintro (h | h); · cases h
   · omega),Fa]
  show (Kl [1] p (List.replicate (1+p.length-1) 0) 1).getD k 0=_
  simp only [Kl]
  rw [D6 _ _ _ _ _ _ (by simp),Js]
  split
  · show 0+1*p.getD (k-0) 0=_
    rw [Nat.sub_zero]; omega
  · rename_i h
    rw [List.getD_eq_getElem?_getD,List.getElem?_eq_none (by omega)]; rfl
include hd hg hx hs in
theorem Qp7:ChRun [x,d] [x,d] [[x,d],[1]]:=by
  obtain ⟨m,hm⟩:=Qh8 (x:=x) hd hx hs
  have ht:Qj [x,d]:=by show trim [x,d]=_; rw [Qcz,if_neg (by omega)]
  refine ⟨⟨1,fun _=>[x,d],Qux hd hg hx hs,?_,?_⟩,⟨1,?_⟩,bd2 (by omega) (by omega),by show 2≤1000; decide,by show 2≤1000; decide⟩
  · intro i hi
    have:i=0:=by omega
    subst this
    exact ⟨b1 (by decide),by show 1≤1000; decide,bd2 (by omega) (by omega),by show 2≤1000; decide⟩
  · show [x,d]=Zn [1] [x,d]
    rw [Qqy ht (by show 0<2; decide)]
  · have hz:Vg (Zk [x,d])=[1]:=by
      rw [Qds hd]
      unfold Vg
      rw [if_neg (show ¬Zb [d]<0 from by show ¬d<0; omega),O3 hd]
    rw [hz]
    refine .step (by decide) (by decide) (b1 (by decide)) (m:=m) (r:=[]) hm rfl We (by decide) (by show 0<1; decide) (by show 1≤1000; decide) ?_
    exact .stop (by decide)
end
theorem Q86 {q:Rat} (h:Qs 1000000 q):Qlx q [[-q.num,(q.den:Int)],[1]]:=by
  refine ⟨[-q.num,(q.den:Int)],Qp7 (den_pos q) ?_ (by rw [Z4]; exact h.1) h.2⟩
  rw [Int.neg_gcd]
  have:=q.reduced
  unfold Nat.Coprime at this
  simpa [Int.gcd] using this
end Orr

namespace Orr
open Go Go.Proofs
set_option maxRecDepth 10000
theorem Q5h {a b g:List Int} {n:Nat} (ta:Qj a) (tb:Qj b) (ha:Bd 9000000 a) (hb:Bd 9000000 b) (la:a.length≤1000) (lb:b.length≤1000) (hrun:GRun n (Xq a) (Xq b) g):Qc Tryz.prog 306 [.one (rp (zp a)),.one (rp (zp b))] [.one (rp (zp g))]:=by
  refine Z0 Tryz.func306 rfl ?_
  refine go tt [.c [] (H5 ta ha la),.c [] (H5 tb hb lb)] rfl trivial ?_
  refine sb [(0,.v (.one (rp (zp (Xq a))))),(1,.v (.one (rp (zp (Xq b)))))] [] rfl rfl ?_
  refine lp (S:=Nat×List Int×List Int) 0 (fun L1 s=>(0,.v (.one (rp (zp s.2.1))))::(1,.v (.one (rp (zp s.2.2))))::L1) (fun _=>[]) (fun s=>s.1) (fun s=>GRun s.1 s.2.1 s.2.2 g) (n,Xq a,Xq b) hrun rfl (fun _ _=>rfl) rfl fun ⟨k,x,y⟩ hs=>?_
  have hs:GRun k x y g:=hs
  have hyl:=Ep y
  rcases hs.inv with ⟨hk,hy0,hxg⟩ | ⟨j,m2,r,hk,hy0,hy1,hyb,hrr,hrl,hrb,hrt,hgr⟩
  · rw [←hxg]
    exact en tt [.f (decide_eq_false (by dsimp only; omega))] rfl rfl trivial
  · subst hk
    refine go tt [.t (decide_eq_true (by dsimp only; omega)),.c [] (Qmp (a0:=x) (b:=y) (res:=r) hy0 hy1 hyb hrr),.c [] (H5 (p:=r) hrt hrb hrl)] rfl trivial ?_
    exact rd (j,y,Xq r) (by dsimp only; omega) hgr rfl
theorem Qz2 {x y:Int} (hx:Qm x≤9000000) (hy:Qm y≤9000000) (h0:y≠0) (hd:y∣x):Qc Tryz.prog 309 [.agg (fr (x:Rat)),.agg (fr (y:Rat))] [.agg (fr ((x / y:Int):Rat))]:=by
  have hy0:(y:Rat)≠0:=fun e=>h0 (by exact_mod_cast e)
  have h:=Qje (Uo (s:=40000000) (z:=x) (by omega) (by omega)) (Uo (s:=40000000) (z:=y) (by omega) (by omega)) hy0
  obtain ⟨k,rfl⟩:=hd
  rw [Int.mul_ediv_cancel_left _ h0]
  rwa [show (((y*k:Int):Rat)) / (y:Rat)=(k:Rat) by rw [Rat.intCast_mul]; grind] at h
theorem Qpz {p:List Int} {c:Int} (hp:Bd 40000000 p) (hc:Qm c≤40000000) (hl:p.length≤1000000):Qc Tryz.prog 248 [.one (rp (zp p)),.agg (fr (c:Rat))] [.one (rp (zp (Qw p c)))]:=by
  have h:=G5 (Mp hp (by omega)) (Uo hc (by omega)) (by rw [Yh]; exact hl)
  rwa [Qcm] at h
theorem Q2y (k:Nat) (p:List Int):Xg (zp (List.replicate k 0))++Xg (zp p)=Xg (zp (Fs k p)):=by simp [zp,Fs,Xg]
theorem Qqo (l:List Int) (i:Nat) (z:Int):(Xg (zp l)).set i [nd ((z:Rat)).num.natAbs,sg ((z:Rat)).num,nd (((z:Rat)).den:Int).natAbs,sg (((z:Rat)).den:Int)]=Xg (zp (l.set i z)):=Qgw l i z
theorem Q0f {p q:List Int} (hp:Bd 18000000 p) (hq:Bd 18000000 q) (hlp:p.length≤1000000) (hlq:q.length≤1000000):Xv Tryz.prog 208 [.one (rp (zp p)),.one (.orow 0 4 none)] [.row false 49 4 (Xg (zp q))] [.one (rp (zp (Vx p q)))] [.gone]:=by
  have hn:=Qjp ((Mp hq (by decide)).mono (by decide)) (by rw [Yh]; exact hlq)
  have ha:=Qtj (p:=zp p) (q:=Qe4 (zp q)) ((Mp hp (by decide)).mono (by decide)) ((Qxa (Mp hq (by decide))).mono (by decide)) (by rw [Yh]; exact hlp) (Nat.le_trans (Qh9 _) (by rw [Yh]; exact hlq))
  have e:Qra (zp p) (Qe4 (zp q))=zp (Vx p q):=Qoy p q
  rw [e] at ha
  refine Z0 Tryz.func208 rfl ?_
  exact ed tt [] [0] [.c [] hn,.c [] ha] rfl trivial
theorem Qp0 {a0 b qf rem:List Int} {n:Nat} (hb0:0<b.length) (hb1:b.length≤1000) (hl0:a0.length≤1000) (hbb:Bd 9000000 b) (hqb:Bd 9000000 qf) (hrun:DRun b n a0 (List.replicate (a0.length+1-b.length) 0) qf rem):Qc Tryz.prog 307 [.one (rp (zp a0)),.one (rp (zp b))] [.one (rp (zp (trim qf))),.one (rp (zp rem))]:=by
  have h0l:=Ep a0
  have hbl:=Ep b
  obtain ⟨N,hN⟩:∃ N,N=a0.length+1-b.length:=⟨_,rfl⟩
  rw [←hN] at hrun
  have cc:=Tl (p:=zp qf)
  rw [Kz] at cc
  refine Z0 Tryz.func307 rfl ?_
  refine go tt [.r 18 (eI (b:=(N:Int)) (by omega)),.i N,.i N,.r 21 (eI (b:=(N:Int)) (by simp))] rfl (by simp [Qa]; omega) ?_
  refine lp (S:=Nat) 1 (fun L1 i=>(22,.v (.one (.int .i64 (i:Int))))::L1) (fun i=>[.row false 49 4 (List.replicate i (fr 0)++List.replicate (N-i) zR)]) (fun i=>N-i) (fun i=>i≤N) 0 (Nat.zero_le _) rfl (fun _ _=>rfl) rfl fun i hi=>?_
  by_cases hlt:i<N
  · refine go tt [.t (decide_eq_true (by omega)),.c [] Qs8,.i i] rfl (by simp [Qa]; omega) ?_
    rw [Qd0 hlt]
    exact rd (i+1) (by omega) hlt rfl
  have hiN:i=N:=by omega
  rw [hiN,Qag]
  clear hiN hlt hi
  refine go tt [.f (decide_eq_false (by omega))] rfl trivial ?_
  refine sb [(0,.v (.one (rp (zp a0)))),(1,.v (.one (rp (zp b)))),(6,.v (.one (.orow 0 4 none)))] [.row false 49 4 (Xg (zp (List.replicate N 0)))] rfl rfl ?_
  refine lp (S:=Nat×List Int×List Int) 1 (fun L1 s=>(0,.v (.one (rp (zp s.2.1))))::L1) (fun s=>[.row false 49 4 (Xg (zp s.2.2))]) (fun s=>s.1) (fun s=>DRun b s.1 s.2.1 s.2.2 qf rem∧s.2.2.length=N) (n,a0,List.replicate N 0) ⟨hrun,List.length_replicate⟩ rfl (fun _ _=>rfl) rfl fun ⟨k,a,q⟩ ⟨hr0,hr1⟩=>?_
  have hr0:DRun b k a q qf rem:=hr0
  have hr1:q.length=N:=hr1
  have hal:=Ep a
  have hql:=Ep q
  rcases hr0.inv with ⟨hk,hqf,har,hlt⟩ | ⟨j,hk,hba,hal2,hab,hpb,hpd,hkq,hrj⟩
  · subst hqf; subst har
    exact en tt [.f (decide_eq_false (by dsimp only; omega)),.c [] cc] rfl rfl trivial
  subst hk
  obtain ⟨K,hK⟩:∃ K,K=a.length-b.length:=⟨_,rfl⟩
  rw [←hK] at hrj hkq
  have hla:Qm (Zb a)≤9000000:=Qp hab _
  have hlb:Qm (Zb b)≤9000000:=Qp hbb _
  obtain ⟨c,hc⟩:∃ c,c=Zb a / Zb b:=⟨_,rfl⟩
  have cq:=Qz2 hla hlb hpb hpd
  have hcs:Qm (Zb a / Zb b)≤9000000:=Nat.le_trans (Sf _ _) hla
  rw [←hc] at cq hcs hrj
  have hsl:=Q7 b c
  have hqs:∀ x,(q.set K x).length=N:=fun x=>by rw [List.length_set]; exact hr1
  dsimp only
  refine go tt [.t (decide_eq_true (by omega)),.r 39 (eI (b:=(K:Int)) (by omega)),.r 43 (eI (b:=((a.length-1:Nat):Int)) (by omega)),.x (X9 (p:=a) (i:=a.length-1) (by omega)),.r 49 (eI (b:=((b.length-1:Nat):Int)) (by omega)),.x (X9 (p:=b) (i:=b.length-1) (by omega)),.c [] cq,.i K,.i K,.i K,.r 60 (eI (b:=(K:Int)) (by simp))] rfl (by simp [Qa,hql] <;> omega) ?_
  rw [Qqo]
  refine lp (S:=Nat) 3 (fun L1 i=>(61,.v (.one (.int .i64 (i:Int))))::L1) (fun i=>[.row false 49 4 (Xg (zp (q.set K c))),.blk 49 (fr (c:Rat)),.row false 49 4 (List.replicate i (fr 0)++List.replicate (K-i) zR)]) (fun i=>K-i) (fun i=>i≤K) 0 (Nat.zero_le _) rfl (fun _ _=>rfl) rfl fun i hi=>?_
  by_cases hlt:i<K
  · refine go tt [.t (decide_eq_true (by omega)),.c [] Qs8,.i i] rfl (by simp [Qa]; omega) ?_
    rw [Qd0 hlt]
    exact rd (i+1) (by omega) hlt rfl
  have hiK:i=K:=by omega
  rw [hiK,Qag]
  clear hiK hlt hi
  have hzl:=Ep (List.replicate K 0)
  rw [List.length_replicate] at hzl
  have hpl:=Ep (Qw b c)
  refine go tt [.f (decide_eq_false (by omega))] rfl trivial ?_
  refine sb [(10,.v (.one (.orow 2 4 none))),(9,.v (.one (.ow 1 0))),(0,.v (.one (rp (zp a)))),(1,.v (.one (rp (zp b)))),(6,.v (.one (.orow 0 4 none)))] [.row false 49 4 (Xg (zp (q.set K c))),.blk 49 (fr (c:Rat)),.row false 49 4 (Xg (zp (List.replicate K 0)))] rfl rfl ?_
  have p2:=Q0f (p:=a) (q:=Fs K (Qw b c)) (Qd hab (by decide)) (Qd (Qpm (Zm hbb hcs)) (by decide)) (by omega) (by rw [Qld]; omega)
  rw [←Q2y] at p2
  refine go tt [.c [] (Qpz (c:=c) (Qd hbb (by decide)) (by omega) (by omega)),.s (sz:=4) (Dq (zp (Qw b c))),.c [2] p2] rfl (by simp [Qa,hzl,hpl]; omega) ?_
  exact rd (j,Vx a (Fs K (Qw b c)),q.set K c) (by dsimp only; omega) ⟨hrj,hqs c⟩ rfl
end Orr

namespace Orr
open Go Go.Proofs
set_option maxRecDepth 10000
def zls (l:List (List Int)):List (List LV):=l.map fun p=>[rp (zp p)]
theorem Md (l:List (List Int)):(zls l).length=l.length:=by simp [zls]
theorem C0 (l:List (List Int)) (g:List Int):zls l++[[rp (zp g)]]=zls (l++[g]):=by simp [zls]
theorem Mc {l:List (List Int)} {i:Nat} (h:i<l.length):(zls l)[i]? = some [rp (zp (l.getD i []))]:=Z9 (Qj4 h)
theorem Q10 (x:LV):∀ c∈[[x]],c.length=1:=fun c hc=>by rw [List.mem_singleton.1 hc]; rfl
theorem Ic {a b q:List Int} (h:DOk a b q):∃ r,Qc Tryz.prog 307 [.one (rp (zp a)),.one (rp (zp b))] [.one (rp (zp q)),.one (rp (zp r))]:=by
  obtain ⟨h1,h2,h3,h4,qf,r,n,h5,h6,h7,rfl⟩:=h
  exact ⟨r,Qp0 h1 h2 h3 h4 h5 h7⟩
theorem Qjo {a:List Int} {mf:Nat} {f:Nat→List Int} (ta:Qj a) (ha:Bd 9000000 a) (la:a.length≤1000) (h2:2≤a.length) (hF:FRun a mf f):Qc Tryz.prog 282 [.one (rp (zp a))] [.one (.row (zls (Qae f mf)))]:=by
  obtain ⟨⟨n,ls,hrun,hlen,hq⟩,hms⟩:=hF
  have hal:=Ep a
  refine Z0 Tryz.func282 rfl ?_
  refine go tt [.f (decide_eq_false (by omega)),.c [] (H5 ta ha la),.o 3 99 1,.lo] rfl trivial ?_
  refine sb [(3,.v (.one (.orow 0 1 none))),(4,.v (.one (.orow 1 1 none)))] [.row false 99 1 [],.row false 99 1 (zls [Xq a])] rfl rfl ?_
  refine lp (S:=Nat×List (List Int)) 2 (fun L1 s=>(4,.v (.one (.orow 1 1 none)))::L1) (fun s=>[.row false 99 1 [],.row false 99 1 (zls s.2)]) (fun s=>s.1) (fun s=>LRun s.1 s.2 ls∧0<s.2.length∧s.2.length≤1001) (n,[Xq a]) ⟨hrun,by show 0<1; decide,by show 1≤1001; decide⟩ rfl (fun _ _=>rfl) rfl fun ⟨k,l⟩ ⟨hs1,hs2,hs3⟩=>?_
  have hs1:LRun k l ls:=hs1
  have hs2:0<l.length:=hs2
  have hs3:l.length≤1001:=hs3
  have hll:=Md l
  have hlast:(zls l)[l.length-1]? = some [rp (zp (Vd l))]:=Mc (by omega)
  have hpl:=Ep (Vd l)
  dsimp only
  rcases hs1.inv with ⟨hk,hlf,hl1⟩ | ⟨j,m2,g,hk,hg1,hg2,hg3,hg4,hg5,hg6,hg7,hlr⟩
  · have hlm:l.length=mf+1:=by rw [hlf]; exact hlen
    rw [←hlf] at hq
    have hl2:=Md (l++[[1]])
    have hl3:(l++[[1]]).length=mf+2:=by simp [hlm]
    refine go tt [.r 23 (eI (b:=((l.length-1:Nat):Int)) (by omega)),.i (l.length-1),.x hlast,.f (decide_eq_false (by omega)),.c [] Qtm,.s (sz:=1) (Q10 _)] rfl (by simp [Qa,hll]; omega) ?_
    rw [C0]
    refine lp (S:=Nat) 2 (fun L1 i=>(6,.v (.one (.int .i64 (i:Int))))::(3,.v (.one (.orow 0 1 none)))::L1) (fun i=>[.row false 99 1 (zls (Qae f i)),.row false 99 1 (zls (l++[[1]]))]) (fun i=>mf-i) (fun i=>i≤mf) 0 (Nat.zero_le _) rfl (fun _ _=>rfl) rfl fun i hi=>?_
    have htl:=Md (Qae f i)
    rw [Qii] at htl
    by_cases h:i<mf
    · obtain ⟨x,y,z,hx,hy,hz,hf⟩:=hq i h
      obtain ⟨rx,hdx⟩:=Ic hx
      obtain ⟨ry,hdy⟩:=Ic hy
      obtain ⟨rz,hdz⟩:=Ic hz
      refine go tt [.t (decide_eq_true (by omega)),.i i,.x (Mc (by omega)),.i (i+1),.x (Mc (by omega)),.c [] hdx,.i (i+1),.x (Mc (by omega)),.i (i+2),.x (Mc (by omega)),.c [] hdy,.c [] (H5 hx.trim hx.bd hx.len),.c [] (H5 hy.trim hy.bd hy.len),.c [] hdz,.c [] (H5 hz.trim hz.bd hz.len),.s (sz:=1) (Q10 _)] rfl (by simp [Qa,hl2,htl]; omega) ?_
      exact rd (i+1) (by omega) h (by rw [C0,Qrl,hf]; rfl)
    · have e:i=mf:=by omega
      rw [e]
      exact en tt [.f (decide_eq_false (by omega))] rfl rfl (by simp [Qa]; omega)
  · subst hk
    refine go tt [.r 23 (eI (b:=((l.length-1:Nat):Int)) (by omega)),.i (l.length-1),.x hlast,.t (decide_eq_true (by omega)),.r 31 (eI (b:=((l.length-1:Nat):Int)) (by omega)),.i (l.length-1),.x hlast,.c [] (Qjn (Qd hg4 (by decide)) (by omega)),.c [] (Q5h hg3 (Q9 _ _) hg4 hg5 hg2 (Nat.le_trans (Yq _) (by omega)) hg6),.s (sz:=1) (Q10 _)] rfl (by simp [Qa,hll]; omega) ?_
    exact rd (j,l++[g]) (by dsimp only; omega) ⟨hlr,by simp,by simp; omega⟩ (by rw [C0]; rfl)
theorem Qp1 {a:List Int} {mf:Nat} {f:Nat→List Int} (ta:Qj a) (ha:Bd 9000000 a) (la:a.length≤1000) (h2:2≤a.length) (hF:FRun a mf f) (hP:Q7v mf f):Qc Tryz.prog 250 [.one (rp (zp a))] [.one (rp (zp (Ho f mf)))]:=by
  have hms:=hF.small
  have hal:=Ep a
  have htl:=Md (Qae f mf)
  rw [Qii] at htl
  refine Z0 Tryz.func250 rfl ?_
  refine go tt [.f (decide_eq_false (by omega)),.c [] Qtm,.c [] (Qjo ta ha la h2 hF)] rfl trivial ?_
  refine lp (S:=Nat) 0 (fun L1 i=>(15,.v (.one (.int .i64 (i:Int))))::(3,.v (.one (rp (zp (Ho f i)))))::L1) (fun _=>[]) (fun i=>mf-i) (fun i=>i≤mf) 0 (Nat.zero_le _) rfl (fun _ _=>rfl) rfl fun i hi=>?_
  by_cases h:i<mf
  · obtain ⟨g1,g2,g3,g4⟩:=hP i h
    refine go tt [.t (decide_eq_true (by omega)),.x (Z9 (f:=fun p=>[rp (zp p)]) (Qyj h)),.c [] (Qtl (p:=Ho f i) (q:=f i) (by omega) (by omega) g1 g3 (by decide))] rfl (by simp [Qa]; omega) ?_
    exact rd (i+1) (by omega) h rfl
  · have e:i=mf:=by omega
    rw [e]
    exact en tt [.f (decide_eq_false (by omega))] rfl rfl trivial
theorem Qqu {l:List (List Int)} (g:List Int) (h:0<l.length):(zls l++[[rp (zp g)]])[l.length-1]? = some [rp (zp (Vd l))]:=by
  rw [List.getElem?_append_left (by rw [Md]; omega)]
  exact Mc (by omega)
theorem Qtk {a sq:List Int} {c:List (List Int)} (ta:Qj a) (ha:Bd 9000000 a) (la:a.length≤1000) (h2:2≤a.length) (hC:ChRun a sq c):Qc Tryz.prog 207 [.one (rp (zp a))] [.one (.row (zls c))]:=by
  obtain ⟨⟨mf,f,hF,hP,rfl⟩,⟨n,hcr⟩,hbd,hle,hsm⟩:=hC
  refine Z0 Tryz.func207 rfl ?_
  refine go tt [.c [] (Qp1 ta ha la h2 hF hP),.lo,.c [] (Qjn (p:=Ho f mf) (Qd hbd (by decide)) (by omega)),.c [] (Qf6 (p:=Zk (Ho f mf)) (Q9 _ _) (Qd (Ez (t:=10) hbd (by omega)) (by decide)) (Nat.le_trans (Yq _) (by omega)))] rfl trivial ?_
  refine sb [(5,.v (.one (rp (zp (Vg (Zk (Ho f mf))))))),(4,.v (.one (.orow 0 1 none)))] [.row false 99 1 (zls [Ho f mf])] rfl rfl ?_
  refine lp (S:=Nat×List (List Int)×List Int) 1 (fun L1 s=>(5,.v (.one (rp (zp s.2.2))))::(4,.v (.one (.orow 0 1 none)))::L1) (fun s=>[.row false 99 1 (zls s.2.1)]) (fun s=>s.1) (fun s=>CRun s.1 s.2.1 s.2.2 c∧0<s.2.1.length∧s.2.1.length≤1001) (n,[Ho f mf],Vg (Zk (Ho f mf))) ⟨hcr,by show 0<1; decide,by show 1≤1001; decide⟩ rfl (fun _ _=>rfl) rfl fun ⟨k,l,g⟩ ⟨hs1,hs2,hs3⟩=>?_
  have hs1:CRun k l g c:=hs1
  have hs2:0<l.length:=hs2
  have hs3:l.length≤1001:=hs3
  have hll:=Md l
  have hgl:=Ep g
  dsimp only
  rcases hs1.inv with ⟨hk,hlf,hg0⟩ | ⟨j,m2,r,hk,hg1,hg2,hg3,hrr,hrt,hrb,hrl,hl0,hl1,hcj⟩
  · subst hlf
    exact en tt [.f (decide_eq_false (by omega))] rfl rfl trivial
  · subst hk
    refine go tt [.t (decide_eq_true (by omega)),.s (sz:=1) (Q10 _),.r 23 (eI (b:=((l.length-1:Nat):Int)) (by simp; omega)),.i (l.length-1),.x (Qqu g hl0),.c [] (Qmp (a0:=Vd l) (b:=g) (res:=r) hg1 hg2 hg3 hrr),.c [] (Qf6 (p:=r) hrt hrb hrl),.c [] (Qth (p:=Vg r) (Qpl hrb) (Nat.le_trans (Qj9 r) (by omega)))] rfl (by simp [Qa,hll]; omega) ?_
    exact rd (j,l++[g],Y7 (Vg r)) (by dsimp only; omega) ⟨hcj,by simp,by simp; omega⟩ (by rw [C0]; rfl)
theorem Q71 {q:Rat} (h1:Qm q.num≤1000000) (h2:Qm (q.den:Int)≤1000000):Bd 9000000 [-q.num,(q.den:Int)]:=fun z hz=>by
  simp only [List.mem_cons,List.not_mem_nil,or_false] at hz
  rcases hz with rfl | rfl
  · rw [Z4]; omega
  · omega
abbrev aq (q:Rat) (c:List (List Int)):List LV:=[rp (zp [-q.num,(q.den:Int)]),.row (zls c)]++fr q++fr q
theorem Qf5 {q:Rat} {c:List (List Int)} (hq:Qs 1000000 q) (hC:Qlx q c):Qc Tryz.prog 147 [.agg (fr q)] [.agg (aq q c)]:=by
  obtain ⟨sq,hch⟩:=hC
  have co:=Uq (n:=1) (by decide)
  exact w tt Tryz.func147 rfl [.c [] co,.c [] (Vj (n:=q.num)),.c [] (Qsm (z:=q.num)),.c [] co,.c [] (Vj (n:=(q.den:Int))),.c [] (Qtk (a:=[-q.num,(q.den:Int)]) (Qo9 q) (Q71 hq.1 hq.2) (by show 2≤1000; decide) (Nat.le_refl 2) hch)] rfl rfl trivial
theorem Qf7 {q:Rat} {c:List (List Int)} (hq:Qs 1000000 q):Qc Tryz.prog 337 [.agg (aq q c)] [.one (.bool true)]:=by
  have cr:=Qdl (a:=q) (b:=q) (hq.mono (by decide)) (hq.mono (by decide))
  rw [Wi] at cr
  exact w tt Tryz.func337 rfl [.c [] cr] rfl rfl trivial
theorem Qq6 {p:List Int} (h:p.length=0) (q:Rat):Zv p q=0:=by rw [List.eq_nil_of_length_eq_zero h]; rfl
theorem Qmo {p:List Int} {q:Rat} {c:List (List Int)} (hp:Bd 30000000 p) (hl:p.length≤64) (hq:Qs 1000000 q):Qc Tryz.prog 336 [.one (rp (zp p)),.agg (aq q c)] [.one (.bool (decide (Zv p q=0)))]:=by
  have hpl:=Ep p
  rcases Nat.eq_zero_or_pos p.length with h0 | h0
  · rw [decide_eq_true (Qq6 h0 q)]
    exact w tt Tryz.func336 rfl [.t (decide_eq_true (by omega))] rfl rfl trivial
  · exact w tt Tryz.func336 rfl [.f (decide_eq_false (by omega)),.c [] (Qf7 hq),.t rfl,.c [] (Qmn hp hl hq)] rfl rfl trivial
theorem Qa1 {p:List Int} {q:Rat} {c:List (List Int)} (hp:Bd 30000000 p) (hl:p.length≤64) (hq:Qs 1000000 q):Qc Tryz.prog 327 [.one (rp (zp p)),.agg (aq q c)] [.one (.int .i64 (Zv p q))]:=by
  by_cases h0:Zv p q=0
  · have cz:=Qmo (c:=c) hp hl hq
    rw [h0] at cz ⊢
    exact w tt Tryz.func327 rfl [.c [] cz,.t rfl] rfl rfl trivial
  · exact w tt Tryz.func327 rfl [.c [] (Qmo hp hl hq),.f (decide_eq_false h0),.c [] (Qf7 hq),.g 11 true rfl,.t rfl,.c [] (Qmn hp hl hq)] rfl rfl trivial
theorem Nv {p:List Int} {q:Rat} {c:List (List Int)} (hp:Bd 20000000 p) (hl:p.length≤64) (hq:Qs 1000000 q):Qc Tryz.prog 315 [.one (rp (zp p)),.agg (aq q c)] [.one (.int .i64 (Sa p q))]:=by
  refine Z0 Tryz.func315 rfl ?_
  refine go tt [] rfl trivial ?_
  refine lp (S:=List Int) 1 (fun L1 r=>(0,.v (.one (rp (zp r))))::L1) (fun _=>[.blk 102 (aq q c)]) (fun r=>r.length) (fun r=>r.length≤64∧Bd (25000000-30*r.length) r∧J0 (fun p=>Zv p q) r.length r=Sa p q) p ⟨hl,Qd hp (by omega),rfl⟩ rfl (fun _ _=>rfl) rfl fun r ⟨hr0,hr1,hr2⟩=>?_
  have hrl:=Ep r
  rcases Nat.eq_zero_or_pos r.length with h0 | h0
  · rw [Lz _ h0] at hr2
    exact en tt [.f (decide_eq_false (by omega))] rfl (by rw [←hr2]) trivial
  by_cases hs:Zv r q=0
  · have hd:=Yq r
    refine go tt [.t (decide_eq_true (by omega)),.c [] (Qa1 (p:=r) (c:=c) (Qd hr1 (by omega)) hr0 hq),.f (decide_eq_false (fun h=>h hs)),.c [] (Qjn (p:=r) (Qd hr1 (by omega)) (by omega))] rfl trivial ?_
    exact rd (Zk r) (by omega) ⟨by omega,Qd (Ez (t:=6) hr1 (by omega)) (by omega),by rw [←hr2,Ly _ h0 hs]⟩ rfl
  · exact en tt [.t (decide_eq_true (by omega)),.c [] (Qa1 (p:=r) (c:=c) (Qd hr1 (by omega)) hr0 hq),.t (decide_eq_true hs)] rfl (by rw [←hr2,Lx _ h0 hs]) trivial
end Orr

namespace Orr
def Nl (p:List Int) (d:Int):List Rat:=p.map fun (z:Int)=>(z:Rat) / (d:Rat)
theorem Gi (p:List Int) (d:Int):(Nl p d).length=p.length:=List.length_map _
theorem Q2p {p:List Int} {i:Nat} {z:Int} {d:Int} (h:p[i]? = some z):(Nl p d)[i]? = some ((z:Rat) / (d:Rat)):=by simp [Nl,h]
theorem Qxs (p:List Int) (d:Int) (i:Nat):(Nl p d).getD i 0=((p.getD i 0:Int):Rat) / (d:Rat):=by
  simp only [List.getD_eq_getElem?_getD,Nl,List.getElem?_map]
  cases p[i]? with
  | none=>simp; grind
  | some z=>rfl
theorem Ff (z d:Int):(z:Rat) / (d:Rat)=Rat.divInt z d:=by
  by_cases h:d=0
  · subst h; simp; grind
  · rw [Rat.div_def]
    have e1:(z:Rat)=Rat.divInt z 1:=by have:=Rat.num_divInt_den (z:Rat); simpa using this.symm
    have e2:(d:Rat)⁻¹=Rat.divInt 1 d:=by
      have:(d:Rat)=Rat.divInt d 1:=by have:=Rat.num_divInt_den (d:Rat); simpa using this.symm
      rw [this,Rat.inv_divInt]
    rw [e1,e2,Rat.divInt_mul_divInt]
    simp
theorem Q0y {z d:Int} (hd:0<d):(((z:Rat) / (d:Rat)).den:Int)*(Int.gcd z d:Nat)=d:=by
  rw [Ff]
  have h:=(Qef (n:=z) hd).2
  rw [←h,Kg,Int.gcd_comm]
  exact Int.ediv_mul_cancel (Int.gcd_dvd_right ..)
theorem Qvq {d a b L:Nat} (hd:0<d) (ha:L*a=d) {D:Nat} (hb:D*b=d):L*D / Nat.gcd L D*Nat.gcd a b=d:=by
  have hL:0<L:=Nat.pos_of_ne_zero fun e=>by rw [e] at ha; omega
  have hD:0<D:=Nat.pos_of_ne_zero fun e=>by rw [e] at hb; omega
  have hg:0<Nat.gcd L D:=Nat.gcd_pos_of_pos_left _ hL
  show Nat.lcm L D*Nat.gcd a b=d
  rw [←Nat.gcd_mul_left]
  refine Nat.dvd_antisymm ?_ ?_
  · -- gcd (M a) (M b) | d
    obtain ⟨u,hu⟩:=Nat.gcd_dvd_left L D
    obtain ⟨v,hv⟩:=Nat.gcd_dvd_right L D
    have hM:Nat.lcm L D=Nat.gcd L D*(u*v):=by
      unfold Nat.lcm
      conv=>lhs; rw [show L*D=Nat.gcd L D*u*(Nat.gcd L D*v) by rw [←hu,←hv]]
      rw [show Nat.gcd L D*u*(Nat.gcd L D*v)=Nat.gcd L D*(Nat.gcd L D*(u*v)) by rw [Nat.mul_assoc,Nat.mul_left_comm u,]]
      exact Nat.mul_div_cancel_left _ hg
    have h1:Nat.lcm L D*a=v*d:=by
      rw [hM,←ha]
      conv=>rhs; rw [hu]
      simp [Nat.mul_comm,Nat.mul_left_comm,Nat.mul_assoc]
    have h2:Nat.lcm L D*b=u*d:=by
      rw [hM,←hb]
      conv=>rhs; rw [hv]
      simp [Nat.mul_comm,Nat.mul_left_comm,Nat.mul_assoc]
    have huv:Nat.gcd u v=1:=by
      have:=Nat.gcd_mul_left (Nat.gcd L D) u v
      rw [←hu,←hv] at this
      exact Nat.eq_of_mul_eq_mul_left hg (by omega)
    rw [h1,h2,Nat.gcd_mul_right,Nat.gcd_comm,huv,Nat.one_mul]
    exact Nat.dvd_refl d
  · refine Nat.dvd_gcd ?_ ?_
    · rw [←ha]; exact Nat.mul_dvd_mul_right (Nat.dvd_lcm_left L D) a
    · rw [←hb]; exact Nat.mul_dvd_mul_right (Nat.dvd_lcm_right L D) b
def lcd (z:List Int) (d:Int):Nat→Int
  | 0=>1
  | i+1=>lcd z d i*((((z.getD i 0:Int):Rat) / (d:Rat)).den:Int) / (Int.gcd (lcd z d i) ((((z.getD i 0:Int):Rat) / (d:Rat)).den:Int):Nat)
theorem Qj8 {z:List Int} {d:Int} (hd:0<d):∀ i,i≤z.length→lcd z d i*((Z6 (d::z.take i):Nat):Int)=d
  |
   0,_=>by
   show 1*_=d
   have:((Z6 [d]:Nat):Int)=d:=by unfold Z6; simp; omega
   rw [List.take_zero,this,Int.one_mul]
  |
   i+1,hi=>by
   have ih:=Qj8 (z:=z) hd i (by omega)
   have hz:z[i]? = some (z.getD i 0):=getD_some (l:=z) (by omega)
   have hstep:Z6 (d::z.take (i+1))=Nat.gcd (Z6 (d::z.take i)) (z.getD i 0).natAbs:=by
     have:=Qbr (l:=d::z) (i:=i+1) (z:=z.getD i 0) (by simpa using hz)
     simpa using this
   have hdn:=Q0y (z:=z.getD i 0) hd
   simp only [lcd]
   generalize hL:lcd z d i=L at *
   generalize hD:(((z.getD i 0:Int):Rat) / (d:Rat)).den=D at *
   have hLp:0<L:=by
     rcases Int.lt_trichotomy L 0 with h | h | h
     · have:=Int.mul_nonneg (Int.neg_nonneg_of_nonpos (Int.le_of_lt h)) (Int.natCast_nonneg (Z6 (d::z.take i)))
       rw [Int.neg_mul] at this; omega
     · rw [h,Int.zero_mul] at ih; omega
     · exact h
   obtain ⟨l,rfl⟩:=Int.eq_ofNat_of_zero_le (Int.le_of_lt hLp)
   obtain ⟨e,rfl⟩:=Int.eq_ofNat_of_zero_le (Int.le_of_lt hd)
   have h1:l*Z6 (((e:Nat):Int)::z.take i)=e:=by exact_mod_cast ih
   have h2:D*Int.gcd (z.getD i 0) ((e:Nat):Int)=e:=by exact_mod_cast hdn
   have h3:=Qvq (d:=e) (by omega) h1 h2
   have h4:Nat.gcd (Z6 (((e:Nat):Int)::z.take i)) (Int.gcd (z.getD i 0) ((e:Nat):Int))=Nat.gcd (Z6 (((e:Nat):Int)::z.take i)) (z.getD i 0).natAbs:=by
     have hge:Z6 (((e:Nat):Int)::z.take i)∣e:=⟨l,by rw [Nat.mul_comm]; exact h1.symm⟩
     show Nat.gcd _ (Nat.gcd (z.getD i 0).natAbs e)=_
     rw [Nat.gcd_comm (z.getD i 0).natAbs e,←Nat.gcd_assoc,Nat.gcd_eq_left hge]
   rw [hstep,←h4]
   rw [show Int.gcd ((l:Nat):Int) ((D:Nat):Int)=Nat.gcd l D by simp [Int.gcd]]
   exact_mod_cast h3
theorem Q1f {x y:List Int} {d:Int} (hd:0<d) (hg:Z6 (d::(x++y))=1):lcd (x++y) d (x++y).length=d:=by
  have:=Qj8 (z:=x++y) hd (x++y).length (Nat.le_refl _)
  rw [List.take_length,hg] at this
  simpa using this
theorem Q1h {z:List Int} {d:Int} (hd:0<d) {i:Nat} (hi:i≤z.length):Qm (lcd z d i)≤Qm d:=by
  have h:=Qj8 (z:=z) hd i hi
  refine Xz ?_
  have h0:Z6 (d::z.take i)≠0:=fun e=>by rw [e] at h; simp at h; omega
  have:d.natAbs=(lcd z d i).natAbs*Z6 (d::z.take i):=by
    conv=>lhs; rw [←h]
    rw [Int.natAbs_mul]; simp
  rw [this]
  exact Nat.le_mul_of_pos_right _ (Nat.pos_of_ne_zero h0)
end Orr

namespace Orr
open Go Go.Proofs
set_option maxRecDepth 10000
abbrev cl4 (k:Crv):List LV:=[pl k.x,pl k.y,sg k.d,mg k.d]
abbrev rcl (c:Crv):List LV:=[rp (Nl c.x c.d),rp (Nl c.y c.d)]++cl4 c
def rpt (p:Pt):List LV:=rcl p.c++[.int .i64 p.id]
def Q4 (l:List Pt):List (List LV):=l.map rpt
structure Rs (k:Crv):Prop where
  n:Nml k
  c:Cs 100000 16 k
theorem Rs.d0 {k:Crv} (h:Rs k):0<k.d:=h.n.2.2.1
theorem Qk3 {x:List Int} {d:Int} {s:Nat} (hx:Bd s x) (hd:Qm d≤s) (h1:1≤s):Rb s (Nl x d):=fun q hq=>by
  obtain ⟨z,hz,rfl⟩:=List.mem_map.1 hq
  rw [Ff]
  exact Qs.divInt (hx z hz) hd h1
theorem O8 {x:List Int} {d:Int} (tx:Qj x) (hd:d≠0):Vi (Nl x d) (d:Rat)=zp x:=by
  have hd':(d:Rat)≠0:=fun e=>hd (by exact_mod_cast e)
  unfold Vi
  rw [Ax (g:=fun i=>x.getD i 0) _ fun i _=>?_,Gi,Oo,Kz,tx]
  rw [Qxs]; grind
theorem Qf8 {p:List Rat} {c:Int} (hp:Rb 40000000 p) (hc:Qm c≤40000000) (hl:p.length≤1000000):Qc Tryz.prog 278 [.one (rp p),.agg (ri c)] [.one (rp (Vi p (c:Rat)))] :=
  w tt Tryz.func278 rfl [.c [] (Uq (n:=1) (by decide)),.c [] (Vj (n:=c)),.c [] (G5 (p:=p) (c:=(c:Rat)) hp (Uo hc (by omega)) hl)] rfl rfl trivial
theorem Q2o (x y:List Int) (d:Int):Xg (Nl x d)++Xg (Nl y d)=Xg (Nl (x++y) d):=by simp [Nl,Xg]
theorem Ch {z:List Int} {d:Int} {i:Nat} (h:i<z.length):(Nl z d)[i]? = some (((z.getD i 0:Int):Rat) / (d:Rat)):=Q2p (getD_some h)
theorem Qam (a b:Int) (hb:b≠0) {s:Nat} (h:Qm b≤s):Qm ((Int.gcd a b:Nat):Int)≤s:=by
  refine Nat.le_trans (Xz ?_) h
  simp only [Int.natAbs_natCast]
  exact Nat.le_of_dvd (by omega) (by simpa using Int.natAbs_dvd_natAbs.2 (Int.gcd_dvd_right a b))
theorem Q1g (a b:Int):(a*b) % ((Int.gcd a b:Nat):Int)=0:=Int.emod_eq_zero_of_dvd (Int.dvd_trans (Int.gcd_dvd_left ..) (Int.dvd_mul_right a b))
theorem Qa2 {k:Crv} (hs:Rs k):Qc Tryz.prog 247 [.one (rp (Nl k.x k.d)),.one (rp (Nl k.y k.d))] [.agg (rcl k)]:=by
  have hlx:=hs.c.lx
  have hly:=hs.c.ly
  have hds:=hs.c.d
  have hxy:Bd 100000 (k.x++k.y):=fun z hz=>by rcases List.mem_append.1 hz with h | h; exact hs.c.x z h; exact hs.c.y z h
  have hfx:(Xg (Nl k.x k.d)).length=k.x.length:=by rw [Ji,Gi]
  have hfy:(Xg (Nl k.y k.d)).length=k.y.length:=by rw [Ji,Gi]
  have hfl:(Xg (Nl (k.x++k.y) k.d)).length=k.x.length+k.y.length:=by rw [Ji,Gi,List.length_append]
  have hd0:=hs.d0
  refine Z0 Tryz.func247 rfl ?_
  refine go tt [.c [] (Uq (n:=1) (by decide)),.s (sz:=4) (Dq _),.s (sz:=4) (Dq _)] rfl (by simp [Qa,hfx,hfy]; omega) ?_
  rw [Q2o]
  refine lp (S:=Nat) 3 (fun L1 i=>(15,.v (.one (.int .i64 (i:Int))))::L1) (fun i=>[.blk 110 [.nils,.nils,.nils,.nils,.bool false,.nils],.blk 47 (ri (lcd (k.x++k.y) k.d i)),.row false 49 4 (Xg (Nl (k.x++k.y) k.d))]) (fun i=>k.x.length+k.y.length-i) (fun i=>i≤k.x.length+k.y.length) 0 (Nat.zero_le _) rfl (fun _ _=>rfl) rfl fun i hi=>?_
  have hll:(k.x++k.y).length=k.x.length+k.y.length:=List.length_append
  by_cases h:i<k.x.length+k.y.length
  · have hlt:i<(k.x++k.y).length:=by omega
    have hqe:=Qk3 (x:=(k.x++k.y)) (d:=k.d) (s:=100000) hxy hs.c.d (by decide)
    have hqi:=hqe.get (Ch hlt)
    obtain ⟨D,hD⟩:∃ D,D=((((k.x++k.y).getD i 0:Int):Rat) / (k.d:Rat)):=⟨_,rfl⟩
    have hg:=Fi (Ch (d:=k.d) hlt)
    have es:lcd (k.x++k.y) k.d (i+1)=lcd (k.x++k.y) k.d i*(D.den:Int) / ((Int.gcd (lcd (k.x++k.y) k.d i) (D.den:Int):Nat):Int):=by rw [hD]; rfl
    rw [←hD] at hqi hg
    have hq2:=hqi.2
    have hli:=Nat.le_trans (Q1h (z:=(k.x++k.y)) hs.d0 (i:=i) (by omega)) hs.c.d
    have hg0:((Int.gcd (lcd (k.x++k.y) k.d i) (D.den:Int):Nat):Int)≠0:=by have:=Int.gcd_ne_zero_right (a:=(lcd (k.x++k.y) k.d i)) (Wj D); omega
    have hmu:=Q0 (lcd (k.x++k.y) k.d i) (D.den:Int)
    refine go tt [.t (decide_eq_true (by omega)),.i i,.x hg,.c [] (Yo (a:=lcd (k.x++k.y) k.d i) (b:=(D.den:Int)) (by omega) (by omega)),.i i,.x hg,.c [] (Ia (a:=lcd (k.x++k.y) k.d i) (b:=(D.den:Int)) (by omega) (by omega)),.c [] (Dc (by omega) (Nat.le_trans (Qam _ _ (Wj D) hq2) (by decide)) hg0 (Q1g _ _))] rfl (by simp [Qa,hfl]; omega) ?_
    exact rd (i+1) (by omega) h (by rw [es]; rfl)
  have e:lcd (k.x++k.y) k.d i=k.d:=by rw [show i=(k.x++k.y).length by omega]; exact Q1f hs.d0 hs.n.2.2.2
  rw [e]
  have hx:=Qf8 (p:=Nl k.x k.d) (c:=k.d) ((Qk3 (s:=100000) hs.c.x hs.c.d (by decide)).mono (by omega)) (by omega) (by rw [Gi]; omega)
  have hy:=Qf8 (p:=Nl k.y k.d) (c:=k.d) ((Qk3 (s:=100000) hs.c.y hs.c.d (by decide)).mono (by omega)) (by omega) (by rw [Gi]; omega)
  rw [O8 hs.n.1 (by omega)] at hx
  rw [O8 hs.n.2.1 (by omega)] at hy
  exact en tt [.f (decide_eq_false (by omega)),.c [] hx,.c [] (Q3v (p:=k.x) (Qd hs.c.x (by omega)) (by omega)),.c [] hy,.c [] (Q3v (p:=k.y) (Qd hs.c.y (by omega)) (by omega)),.c [] (Qs1 (z:=k.d) (by omega))] rfl rfl trivial
theorem Qe0 (k:Crv):Zd 1 k.d'=((1:Int):Rat) / (k.d':Rat):=by
  unfold Zd; rw [if_neg k.d'_ne,Ff]
theorem Eg {x:List Int} {g d:Int} (hg:g≠0) (hd:d≠0) (hgd:g∣d) (tx:Qj x) (hx:∀ z∈x,g∣z):Vi (zp x) (((1:Int):Rat) / (d:Rat))=Nl (trim (x.map (· / g))) (d / g):=by
  have ht:Qj (x.map (· / g)):=Fu tx hg hx
  rw [show trim (x.map (· / g))=x.map (· / g) from ht]
  obtain ⟨e,rfl⟩:=hgd
  have he:e≠0:=fun h=>hd (by rw [h,Int.mul_zero])
  rw [Int.mul_ediv_cancel_left _ hg]
  have hgq:(g:Rat)≠0:=fun h=>hg (by exact_mod_cast h)
  have heq:(e:Rat)≠0:=fun h=>he (by exact_mod_cast h)
  unfold Vi
  rw [Yh]
  have hval:∀ i,i<x.length→(zp x).getD i 0*(((1:Int):Rat) / ((g*e:Int):Rat))=(((x.map (· / g)).getD i 0:Int):Rat) / (e:Rat):=fun i hi=>by
    rw [C3]
    have hz:=getD_some hi
    have hm:(x.map (· / g)).getD i 0=x.getD i 0 / g:=by simp [List.getD_eq_getElem?_getD,List.getElem?_eq_getElem hi]
    obtain ⟨w,hw⟩:=hx _ (List.mem_of_getElem? hz)
    rw [hm,hw,Int.mul_ediv_cancel_left _ hg,Rat.intCast_mul,Rat.intCast_mul]
    have:((1:Int):Rat)=1:=rfl
    rw [this]
    grind
  have htab:Td (fun i=>(zp x).getD i 0*(((1:Int):Rat) / ((g*e:Int):Rat))) x.length=Nl (x.map (· / g)) e:=by
    apply List.ext_getElem?
    intro i
    by_cases hi:i<x.length
    · rw [Ch (by simpa using hi)]
      simp only [Td,List.getElem?_map,List.getElem?_range hi,Option.map_some]
      rw [hval i hi]
    · rw [List.getElem?_eq_none (by rw [Cm]; omega),List.getElem?_eq_none (by rw [Gi]; simp; omega)]
  rw [htab]
  rcases Nat.eq_zero_or_pos x.length with h0 | h0
  · have:=List.eq_nil_of_length_eq_zero h0; subst this; rfl
  · have hl:(Nl (x.map (· / g)) e).length=x.length:=by rw [Gi,List.length_map]
    have:=Lk (l:=Nl (x.map (· / g)) e) (m:=x.length) (by omega) (fun j y hj hy=>by rw [List.getElem?_eq_none (by omega)] at hy; cases hy) (fun _=>⟨_,Ch (z:=x.map (· / g)) (d:=e) (i:=x.length-1) (by rw [List.length_map]; omega),fun h=>by
      have h3:(((x.map (· / g)).getD (x.length-1) 0:Int):Rat)=0:=by grind
      have h4:(x.map (· / g)).getD (x.length-1) 0=0:=by exact_mod_cast h3
      have:=Xc ht (by rw [List.length_map]; omega)
      rw [List.length_map] at this
      exact this h4⟩)
    rw [this,List.take_of_length_le (by omega)]
theorem Qw9 {k:Crv} (hk:Cs 100000 16 k):Qs 40000000 (Zd 1 k.d'):=by
  have h1:=Qd7 hk.d (by decide)
  rw [Qe0,Ff]
  exact Qs.divInt (by decide) (by omega) (by decide)
theorem Crv.g_dvd' (k:Crv) {z:Int} (h:z∈k.d'::(trim k.x++trim k.y)):k.g∣z:=Int.dvd_of_emod_eq_zero (k.g_dvd z h)
theorem Qxm (k:Crv):Vi (zp (trim k.x)) (Zd 1 k.d')=Nl k.norm.x k.norm.d:=by
  rw [Qe0]
  exact Eg k.g_ne k.d'_ne (k.g_dvd' (by simp)) (Xo _) (fun z hz=>k.g_dvd' (by simp [hz]))
theorem Qxn (k:Crv):Vi (zp (trim k.y)) (Zd 1 k.d')=Nl k.norm.y k.norm.d:=by
  rw [Qe0]
  exact Eg k.g_ne k.d'_ne (k.g_dvd' (by simp)) (Xo _) (fun z hz=>k.g_dvd' (by simp [hz]))
theorem Qox {k:Crv} (h:Cs 100000 16 k):Rs k.norm:=⟨k.nml,h.norm (by decide)⟩
theorem Q0h {k:Crv} (hk:Cs 100000 16 k):Qc Tryz.prog 205 [.agg (cl4 k)] [.agg (rcl (Crv.norm k))]:=by
  have hlx:=hk.lx
  have hly:=hk.ly
  have hkd:=hk.d
  have hrq:=Qw9 hk
  have hdi:Qm k.d'≤100000:=Qd7 hk.d (by decide)
  have hx:=G5 (p:=zp (trim k.x)) (c:=Zd 1 k.d') (Mp (Qd (Jd hk.x) (by omega)) (by omega)) hrq (by rw [Yh]; have:=Xb k.x; omega)
  have hy:=G5 (p:=zp (trim k.y)) (c:=Zd 1 k.d') (Mp (Qd (Jd hk.y) (by omega)) (by omega)) hrq (by rw [Yh]; have:=Xb k.y; omega)
  rw [Qxm] at hx
  rw [Qxn] at hy
  have c1:=Uq (n:=1) (by decide)
  have cm:=Ns (a:=1) (b:=k.d') (by decide) (by omega)
  by_cases h0:k.d=0
  · have e:k.d'=1:=by unfold Crv.d'; rw [if_pos h0]
    rw [e] at hx hy cm
    exact w tt Tryz.func205 rfl [.c [] (Qdb (z:=k.d) (by omega)),.c [] Vp,.t (decide_eq_true h0),.c [] c1,.c [] c1,.c [] cm,.c [] (Pk (p:=k.x) (Qd hk.x (by omega)) (by omega)),.c [] hx,.c [] (Pk (p:=k.y) (Qd hk.y (by omega)) (by omega)),.c [] hy,.c [] (Qa2 (Qox hk))] rfl rfl trivial
  · have e:k.d'=k.d:=by unfold Crv.d'; rw [if_neg h0]
    rw [e] at hx hy cm
    exact w tt Tryz.func205 rfl [.c [] (Qdb (z:=k.d) (by omega)),.c [] Vp,.f (decide_eq_false h0),.c [] c1,.c [] cm,.c [] (Pk (p:=k.x) (Qd hk.x (by omega)) (by omega)),.c [] hx,.c [] (Pk (p:=k.y) (Qd hk.y (by omega)) (by omega)),.c [] hy,.c [] (Qa2 (Qox hk))] rfl rfl trivial
theorem Qtp {k:Crv} {id:Int} (hk:Cs 100000 16 k):Qc Tryz.prog 146 [.agg (cl4 k++[.int .i64 id])] [.agg (rpt ⟨Crv.norm k,id⟩)] :=
  w tt Tryz.func146 rfl [.c [] (Q0h hk)] rfl rfl trivial
theorem Qdp {k:Crv} (hk:Rs k):Qc Tryz.prog 328 [.agg (rcl k)] [.one (rp (zp k.x)),.one (rp (zp k.y)),.one (rp (zp [k.d]))]:=by
  have hlx:=hk.c.lx
  have hly:=hk.c.ly
  have hkd:=hk.c.d
  have hx:=Pk (p:=k.x) (Qd hk.c.x (by omega)) (by omega)
  have hy:=Pk (p:=k.y) (Qd hk.c.y (by omega)) (by omega)
  rw [show trim k.x=k.x from hk.n.1] at hx
  rw [show trim k.y=k.y from hk.n.2.1] at hy
  exact w tt Tryz.func328 rfl [.c [] (Qdb (z:=k.d) (by omega)),.c [] (Uq (n:=1) (by decide)),.c [] (Vj (n:=k.d)),.c [] hx,.c [] hy] rfl rfl trivial
theorem Qko {p:List Int} {d:Int} (tp:Qj p) (hd:d≠0):Zn p [d]=Qw p d:=by
  refine Tw (Zw _ _) (Q9 _ _) fun m=>?_
  unfold Qw
  rw [Yb]
  unfold Zn
  by_cases h0:p.length=0
  · rw [if_pos (.inl h0),if_neg (by omega)]; rfl
  · rw [if_neg (by simp; exact fun h=>h0 (by rw [h]; rfl)),Fa]
    show (Kl p [d] (List.replicate (p.length+1-1) 0) p.length).getD m 0=_
    have key:∀ i,i≤p.length→(Kl p [d] (List.replicate (p.length+1-1) 0) i).getD m 0=if m<i then p.getD m 0*d else 0:=by
      intro i
      induction i with
      | zero=>intro _; simp only [Kl]; rw [Js,if_neg (by omega)]
      |
       succ i ih =>
       intro hi
       simp only [Kl]
       rw [D6 _ _ _ _ _ _ (by rw [Km,List.length_replicate]; show i+1≤_; omega),ih (by omega)]
       show (if i≤m∧m<i+1 then (if m<i then p.getD m 0*d else 0)+p.getD i 0*[d].getD (m-i) 0 else _)=_
       by_cases e:m=i
       · subst e
         rw [if_pos ⟨Nat.le_refl _,by omega⟩,if_neg (by omega),if_pos (by omega),Nat.sub_self]
         show 0+p.getD m 0*d=_
         omega
       · rw [if_neg (by omega)]
         by_cases h1:m<i
         · rw [if_pos h1,if_pos (by omega)]
         · rw [if_neg h1,if_neg (by omega)]
    rw [key _ (Nat.le_refl _)]
theorem Zbg {s:Nat} {d:Int} (h:Qm d≤s):Bd s [d]:=fun z hz=>by simp at hz; subst hz; exact h
theorem Qdm {p:List Int} {d:Int} (tp:Qj p) (hd:d≠0) (hp:Bd 9000000 p) (hs:Qm d≤9000000) (hl:p.length≤1000):Qc Tryz.prog 283 [.one (rp (zp p)),.one (rp (zp [d]))] [.one (rp (zp (Qw p d)))]:=by
  have h:=Qtl (p:=p) (q:=[d]) (by omega) (by show 1≤1000000; decide) hp (Zbg hs) (by decide)
  rwa [Qko tp hd] at h
theorem Rs.dn {k:Crv} (h:Rs k):k.d≠0:=by have:=h.d0; omega
theorem Qmm {p q:List Int} (hp:Bd 19000000 p) (hq:Bd 19000000 q) (hlp:p.length≤1000000) (hlq:q.length≤1000000):Qc Tryz.prog 208 [.one (rp (zp p)),.one (rp (zp q))] [.one (rp (zp (Vx p q)))]:=by
  have h:=Q5i (Mp hp (by decide)) (Mp hq (by decide)) (by rw [Yh]; exact hlp) (by rw [Yh]; exact hlq)
  rwa [Qoy] at h
theorem Tn {a b:Crv} (ha:Rs a) (hb:Rs b):Qc Tryz.prog 323 [.agg (rcl a),.agg (rcl b)] [.one (rp (zp (Xn a b)))] :=
  w tt Tryz.func323 rfl [.c [] (Qdp ha),.c [] (Qdp hb),.c [] (Qdm (p:=b.x) (d:=a.d) hb.n.1 ha.dn (Qd hb.c.x (by decide)) (Nat.le_trans ha.c.d (by decide)) (by have:=hb.c.lx; omega)),.c [] (Qdm (p:=a.x) (d:=b.d) ha.n.1 hb.dn (Qd ha.c.x (by decide)) (Nat.le_trans hb.c.d (by decide)) (by have:=ha.c.lx; omega)),.c [] (Qmm (p:=Qw b.x a.d) (q:=Qw a.x b.d) (Qd (Zm hb.c.x ha.c.d) (by decide)) (Qd (Zm ha.c.x hb.c.d) (by decide)) (by have:=Q7 b.x a.d; have:=hb.c.lx; omega) (by have:=Q7 a.x b.d; have:=ha.c.lx; omega))] rfl rfl trivial
theorem Id {a b:Crv} (ha:Rs a) (hb:Rs b):Qc Tryz.prog 324 [.agg (rcl a),.agg (rcl b)] [.one (rp (zp (Jb a b)))] :=
  w tt Tryz.func324 rfl [.c [] (Qdp ha),.c [] (Qdp hb),.c [] (Qdm (p:=b.y) (d:=a.d) hb.n.2.1 ha.dn (Qd hb.c.y (by decide)) (Nat.le_trans ha.c.d (by decide)) (by have:=hb.c.ly; omega)),.c [] (Qdm (p:=a.y) (d:=b.d) ha.n.2.1 hb.dn (Qd ha.c.y (by decide)) (Nat.le_trans hb.c.d (by decide)) (by have:=ha.c.ly; omega)),.c [] (Qmm (p:=Qw b.y a.d) (q:=Qw a.y b.d) (Qd (Zm hb.c.y ha.c.d) (by decide)) (Qd (Zm ha.c.y hb.c.d) (by decide)) (by have:=Q7 b.y a.d; have:=hb.c.ly; omega) (by have:=Q7 a.y b.d; have:=ha.c.ly; omega))] rfl rfl trivial
theorem Pz {a b:Crv} (ha:Rs a) (hb:Rs b):Bd 200001 (Xn a b)∧(Xn a b).length≤16:=by
  refine ⟨Qd (Pi (Zm hb.c.x ha.c.d) (Zm ha.c.x hb.c.d)) (by omega),Nat.le_trans (He _ _) ?_⟩
  have:=Q7 b.x a.d; have:=Q7 a.x b.d; have:=ha.c.lx; have:=hb.c.lx; omega
theorem Py {a b:Crv} (ha:Rs a) (hb:Rs b):Bd 200001 (Jb a b)∧(Jb a b).length≤16:=by
  refine ⟨Qd (Pi (Zm hb.c.y ha.c.d) (Zm ha.c.y hb.c.d)) (by omega),Nat.le_trans (He _ _) ?_⟩
  have:=Q7 b.y a.d; have:=Q7 a.y b.d; have:=ha.c.ly; have:=hb.c.ly; omega
end Orr

namespace Orr
open Go
structure RawInt where
  b:Bool
  l:List Nat
structure RawPt where
  x:List RawInt
  y:List RawInt
  d:RawInt
  id:Int
abbrev Lf (z:RawInt):List LV:=[.bool z.b,Q7e z.l]
structure RawInt.Ok (z:RawInt):Prop where
  u:∀ u∈z.l,u<4294967296
structure RawPt.Ok (z:RawPt):Prop where
  x:∀ a∈z.x,a.Ok
  y:∀ a∈z.y,a.Ok
  d:z.d.Ok
  id:-9223372036854775808≤z.id∧z.id≤9223372036854775807
def RawInt.cut (z:RawInt):RawInt:=⟨z.b,z.l.take 1⟩
def Ja (most:Int) (z:RawInt):Int:=match z.l with
  | []=>0
  | u::_=>if z.b=true then -((u:Int) % (most+1)) else (u:Int) % (most+1)
theorem M3 {most:Int} (h:0≤most) (z:RawInt):-most≤Ja most z∧Ja most z≤most:=by
  unfold Ja
  split
  · omega
  · rename_i u _ _
    have h1:=Int.emod_nonneg (u:Int) (b:=most+1) (by omega)
    have h2:=Int.emod_lt_of_pos (u:Int) (b:=most+1) (by omega)
    split <;> omega
def Zz (most:Int) (l:List RawInt):List Int:=(l.take 3).map (Ja most)
def Bq (most:Int) (x y:List RawInt) (d:RawInt):Crv:=⟨Zz most x,Zz most y,Ja 3 d⟩
def Pv (most:Int) (z:RawPt):Pt:=⟨Bq most z.x z.y z.d,z.id % 1000⟩
theorem L9 (most:Int) (l:List RawInt):(Zz most l).length≤3:=by unfold Zz; rw [List.length_map,List.length_take]; omega
theorem Qee {most:Int} {l:List RawInt} {i:Nat} {z:RawInt} (hi:i<3) (h:l[i]? = some z):Zz most (l.take (i+1))=Zz most (l.take i)++[Ja most z]:=by
  unfold Zz
  rw [List.take_take,List.take_take,Nat.min_eq_right (by omega),Nat.min_eq_right (by omega),List.take_succ,h]
  simp
theorem L8 (most:Int) {l:List RawInt} {i:Nat} (h:l.length≤i∨3≤i):Zz most (l.take i)=Zz most l:=by
  unfold Zz
  rw [List.take_take]
  rcases Nat.le_total 3 i with h3 | h3
  · rw [Nat.min_eq_left h3]
  · rcases h with h | h
    · rw [Nat.min_eq_right h3,List.take_of_length_le (l:=l) (i:=i) (by omega),List.take_of_length_le (l:=l) (i:=3) (by omega)]
    · rw [Nat.min_eq_right h3,show i=3 by omega]
theorem Ea {most:Int} {l:List RawInt} {z:Int} (hm:0≤most) (h:z∈Zz most l):-most≤z∧z≤most:=by
  obtain ⟨a,_,rfl⟩:=List.mem_map.1 h
  exact M3 hm a
theorem Qa5 {most:Int} (hm:0≤most∧most≤999) (x y:List RawInt) (d:RawInt):Cs 10 3 (Bq most x y d):=by
  have key:∀ z:Int,-999≤z∧z≤999→Qm z≤10:=fun z h=>Jt.2 (by omega)
  refine ⟨fun z hz=>?_,fun z hz=>?_,?_,L9 _ _,L9 _ _⟩
  · have:=Ea hm.1 hz; exact key _ (by omega)
  · have:=Ea hm.1 hz; exact key _ (by omega)
  · have:=M3 (most:=3) (by decide) d
    show Qm (Ja 3 d)≤10
    exact key _ (by omega)
def Yj (n:Nat):List Pt→List Pt→List Pt
  | out,[]=>out
  | out,p::l=>if out.length<n then (if out.any (fun x=>decide (x.id=p.id))=true then Yj n out l else Yj n (out++[p]) l) else out
theorem Rg {n:Nat}:∀ (l out:List Pt) (p:Pt),(Yj n out l).length<n→(Yj n out l).any (fun x=>decide (x.id=p.id))=true→Yj n out (l++[p])=Yj n out l
  |
   [],out,p,h,ha=>by
   simp only [Yj] at h ha
   show Yj n out [p]=out
   simp only [Yj]
   rw [if_pos h,if_pos ha]
  |
   x::l,out,p,h,ha=>by
   show Yj n out (x::(l++[p]))=Yj n out (x::l)
   simp only [Yj] at h ha ⊢
   split
   · rename_i h0
     rw [if_pos h0] at h ha
     split
     · rename_i h1
       rw [if_pos h1] at h ha
       exact Rg l out p h ha
     · rename_i h1
       rw [if_neg h1] at h ha
       exact Rg l _ p h ha
   · rfl
theorem Gn {n:Nat}:∀ (l out:List Pt) (p:Pt),(Yj n out l).length<n→(Yj n out l).any (fun x=>decide (x.id=p.id))=false→Yj n out (l++[p])=Yj n out l++[p]
  |
   [],out,p,h,ha=>by
   simp only [Yj] at h ha
   show Yj n out [p]=out++[p]
   simp only [Yj]
   rw [if_pos h,if_neg (by rw [ha]; simp)]
  |
   x::l,out,p,h,ha=>by
   show Yj n out (x::(l++[p]))=Yj n out (x::l)++[p]
   simp only [Yj] at h ha ⊢
   split
   · rename_i h0
     rw [if_pos h0] at h ha
     split
     · rename_i h1
       rw [if_pos h1] at h ha
       exact Gn l out p h ha
     · rename_i h1
       rw [if_neg h1] at h ha
       exact Gn l _ p h ha
   · rename_i h0
     rw [if_neg h0] at h
     omega
theorem Ds {n:Nat}:∀ (l m out:List Pt),n≤(Yj n out l).length→Yj n out (l++m)=Yj n out l
  |
   [],m,out,h=>by
   simp only [Yj] at h
   show Yj n out m=out
   match m with
   | []=>rfl
   | p::m=>simp only [Yj]; rw [if_neg (by omega)]
  |
   x::l,m,out,h=>by
   show Yj n out (x::(l++m))=Yj n out (x::l)
   simp only [Yj] at h ⊢
   split
   · rename_i h0
     rw [if_pos h0] at h
     split
     · rename_i h1
       rw [if_pos h1] at h
       exact Ds l m out h
     · rename_i h1
       rw [if_neg h1] at h
       exact Ds l m _ h
   · rfl
theorem Tz {n:Nat}:∀ (l out:List Pt),out.length≤n→(Yj n out l).length≤n
  | [],out,h=>h
  |
   x::l,out,h=>by
   simp only [Yj]
   split
   · split
     · exact Tz l out h
     · exact Tz l _ (by rw [List.length_append]; show _+1≤_; omega)
   · exact h
theorem Bf {n:Nat}:∀ (l out:List Pt) {p:Pt},p∈Yj n out l→p∈out∨p∈l
  | [],out,p,h=>.inl h
  |
   x::l,out,p,h=>by
   simp only [Yj] at h
   split at h
   · split at h
     · rcases Bf l out h with h | h
       · exact .inl h
       · exact .inr (List.mem_cons_of_mem _ h)
     · rcases Bf l _ h with h | h
       · rcases List.mem_append.1 h with h | h
         · exact .inl h
         · exact .inr (by rw [List.mem_singleton.1 h]; exact List.mem_cons_self ..)
       · exact .inr (List.mem_cons_of_mem _ h)
   · exact .inl h
def Lb (n:Nat) (most:Int) (zs:List RawPt):List Pt:=Yj n [] (zs.map (Pv most))
def Pt.nrm (p:Pt):Pt:=⟨p.c.norm,p.id⟩
end Orr

namespace Orr
def Wu (l:List Pt):Prop:=l.Pairwise fun a b=>a.id<b.id
theorem Q07 (id:Int):has [] id=false:=rfl
theorem Qg0 (p:Pt) (l:List Pt) (id:Int):has (p::l) id=if p.id<id then has l id else decide (p.id=id):=by
  by_cases h:p.id<id
  · rw [if_pos h]; unfold has; simp only [pos]; rw [if_pos h]; simp
  · rw [if_neg h]; unfold has; simp only [pos]; rw [if_neg h]; simp
theorem Qw1 (p:Pt) (l:List Pt) (q:Pt):put (p::l) q=if p.id<q.id then p::put l q else q::p::l:=by
  unfold put
  simp only [pos]
  split <;> simp
theorem Qd5:∀ {l:List Pt} {id:Int},Wu l→(has l id=true↔∃ p∈l,p.id=id)
  | [],id,_=>by simp [Q07]
  |
   p::l,id,h=>by
   have h1:=List.pairwise_cons.1 h
   rw [Qg0]
   split
   · rename_i hlt
     rw [Qd5 h1.2]
     constructor
     · rintro ⟨x,hx,e⟩; exact ⟨x,List.mem_cons_of_mem _ hx,e⟩
     · rintro ⟨x,hx,e⟩
       rcases List.mem_cons.1 hx with rfl | hx
       · omega
       · exact ⟨x,hx,e⟩
   · rename_i hge
     rw [decide_eq_true_iff]
     constructor
     · intro e; exact ⟨p,List.mem_cons_self ..,e⟩
     · rintro ⟨x,hx,e⟩
       rcases List.mem_cons.1 hx with rfl | hx
       · exact e
       · have:=h1.1 x hx; omega
theorem O5:∀ {l:List Pt} {q:Pt},Wu l→has l q.id=false→Wu (put l q)
  | [],q,_,_=>by simp [put,pos,Wu]
  |
   p::l,q,h,hn=>by
   have h1:=List.pairwise_cons.1 h
   rw [Qg0] at hn
   rw [Qw1]
   split
   · rename_i hlt
     rw [if_pos hlt] at hn
     refine List.pairwise_cons.2 ⟨fun x hx=>?_,O5 h1.2 hn⟩
     rcases Qoq hx with rfl | hx
     · exact hlt
     · exact h1.1 x hx
   · rename_i hge
     rw [if_neg hge,decide_eq_false_iff_not] at hn
     refine List.pairwise_cons.2 ⟨fun x hx=>?_,h⟩
     rcases List.mem_cons.1 hx with rfl | hx
     · omega
     · have:=h1.1 x hx; omega
theorem Qn2 {l:List Pt} {q p:Pt} (h:p=q∨p∈l):p∈put l q:=by
  unfold put
  rcases h with rfl | h
  · simp
  · rw [←List.take_append_drop (pos l q.id) l] at h
    simp only [List.mem_append,List.mem_cons] at h ⊢
    rcases h with h | h
    · exact .inl h
    · exact .inr (.inr h)
theorem Qw0 {l:List Pt} {q:Pt} (h:l.length<6):Sz l q=if has l q.id=true then 6 else 0:=by
  unfold Sz
  split
  · rfl
  · rw [if_neg (by omega)]
theorem Qb6:∀ (qs acc:List Pt),Wu acc→acc.length+qs.length≤6 →
    ((Ju acc qs).2=0∧Wu (Ju acc qs).1∧(Ju acc qs).1.length=acc.length+qs.length∧qs.Pairwise (fun a b=>a.id≠b.id)∧∀ q∈qs,∀ p∈acc,p.id≠q.id) ∨
    ((Ju acc qs).2=6∧¬(qs.Pairwise (fun a b=>a.id≠b.id)∧∀ q∈qs,∀ p∈acc,p.id≠q.id))
  | [],acc,hs,_=>.inl ⟨rfl,hs,rfl,List.Pairwise.nil,fun _ h=>absurd h (by simp)⟩
  |
   q::qs,acc,hs,hl=>by
   simp only [List.length_cons] at hl
   have he:=Qw0 (l:=acc) (q:=q) (by omega)
   simp only [Ju]
   cases hh:has acc q.id with
   |
    true =>
    rw [hh,if_pos rfl] at he
    rw [he,if_neg (by decide)]
    obtain ⟨p,hp,e⟩:=(Qd5 hs).1 hh
    exact .inr ⟨rfl,fun h=>h.2 q (List.mem_cons_self ..) p hp e⟩
   |
    false =>
    rw [hh,if_neg (by decide)] at he
    rw [he,if_pos rfl]
    have hno:∀ p∈acc,p.id≠q.id:=fun p hp e=>by
      have:=(Qd5 hs).2 ⟨p,hp,e⟩
      rw [hh] at this; cases this
    have hpl:=Qop acc q
    rcases Qb6 qs (put acc q) (O5 hs hh) (by omega) with ⟨h1,h2,h3,h4,h5⟩ | ⟨h1,h2⟩
    · refine .inl ⟨h1,h2,by simp only [List.length_cons]; omega,List.pairwise_cons.2 ⟨fun x hx=>h5 x hx q (Qn2 (.inl rfl)),h4⟩,fun x hx p hp=>?_⟩
      rcases List.mem_cons.1 hx with rfl | hx
      · exact hno p hp
      · exact h5 x hx p (Qn2 (.inr hp))
    · refine .inr ⟨h1,fun h=>h2 ⟨(List.pairwise_cons.1 h.1).2,fun x hx p hp=>?_⟩⟩
      rcases Qoq hp with rfl | hp
      · exact (List.pairwise_cons.1 h.1).1 x hx
      · exact h.2 x (List.mem_cons_of_mem _ hx) p hp
theorem Qqz {qs:List Pt} (hl:qs.length≤6) :
    ((Ju [] qs).2=0∧Wu (Ju [] qs).1∧(Ju [] qs).1.length=qs.length∧qs.Pairwise (fun a b=>a.id≠b.id))∨((Ju [] qs).2=6∧¬qs.Pairwise (fun a b=>a.id≠b.id)):=by
  rcases Qb6 qs [] List.Pairwise.nil (by simpa using hl) with ⟨h1,h2,h3,h4,_⟩ | ⟨h1,h2⟩
  · exact .inl ⟨h1,h2,by simpa using h3,h4⟩
  · exact .inr ⟨h1,fun h=>h2 ⟨h,fun _ _ _ hp=>absurd hp (by simp)⟩⟩
end Orr

namespace Orq
open Orr Go
theorem Q8z {a b c:Tm} (hb:Cut (Qr b)) (hc:Cut (Qr c)) (h:Ym a b) (h':Ym b c):Ym a c:=by
  obtain ⟨q,q1,q2⟩:=h
  obtain ⟨r,r1,r2⟩:=h'
  exact ⟨q,q1,hc.mono' (hb.lt q2 r1) (by omega)⟩
theorem D2 {a b:Tm} (ha:Cut (Qr a)) (hb:Cut (Qr b)) (h:¬Ym b a):Leq a (Qr b):=fun q hq=>by
  rcases ha.val q with e | e | e
  · exact absurd ⟨q,hq,e⟩ h
  · obtain ⟨r,r1,r2⟩:=hb.dn q hq
    exact absurd ⟨r,r2,ha.mono' r1 (by omega)⟩ h
  · exact e
theorem Qnt {a b c:Tm} (_:Cut (Qr a)) (hb:Cut (Qr b)) (hc:Cut (Qr c)) (h:Ym a b) (h':¬Ym c b):Ym a c:=by
  obtain ⟨q,q1,q2⟩:=h
  refine ⟨q,q1,?_⟩
  have hl:=D2 hb hc h'
  rcases hc.val q with e | e | e
  · exact e
  · obtain ⟨r,r1,r2⟩:=hb.up q q2
    have h1:=hc.mono q r r1 (by omega)
    have:=hl r h1
    omega
  · have:=hl q e; omega
theorem Qeg {a b:Tm} (ha:Cut (Qr a)) (hb:Cut (Qr b)) (h:Ym a b):¬Ym b a:=fun h'=>M4 ha hb h h'
theorem Hj {p:List Int} {a b:Tm} {o:Option Tm} (ha:Cut (Qr a)) (hb:Cut (Qr b)) (hab:¬Ym b a) (h:J4 p a o) (ho:∀ t,o=some t→Ym b t):J4 p b o:=by
  have hl:=D2 ha hb hab
  cases o with
  |
   none =>
   rcases h with h | ⟨s,s0,h⟩
   · exact .inl h
   · exact .inr ⟨s,s0,fun c hc hbc=>h c hc fun q hq=>hl q (hbc q hq)⟩
  |
   some t =>
   obtain ⟨h1,h2,_,s,s0,h4,h5⟩:=h
   exact ⟨h1,h2,ho t rfl,s,s0,fun c hc hbc hm=>h4 c hc (fun q hq=>hl q (hbc q hq)) hm,h5⟩
theorem Qbt {p:List Int} {a b:Tm} {o:Option Tm} (hp:Dp p) (ha:Va a) (hb:Va b) (hab:¬Ym b a) (h:J4 p a o) (ho:∀ t,o=some t→Ym b t):Uv (Wc b) p=Uv (Wc a) p:=by
  by_cases h0:p.length=0
  · obtain rfl:=List.eq_nil_of_length_eq_zero h0; rfl
  obtain ⟨ra,_⟩:=Bh ha hp h0
  obtain ⟨rb,_⟩:=Bh hb hp h0
  have hl:=D2 ha.cut hb.cut hab
  cases o with
  |
   none =>
   rcases h with h | ⟨s,s0,h⟩
   · exact absurd (by rw [h]; rfl) h0
   · exact (Cf rb (h _ hb.cut hl)).trans (Cf ra (h _ ha.cut fun _ h=>h)).symm
  |
   some t =>
   obtain ⟨h1,h2,h3,s,s0,h4,h5⟩:=h
   exact (Cf rb (h4 _ hb.cut hl (ho t rfl))).trans (Cf ra (h4 _ ha.cut (fun _ h=>h) h3)).symm
theorem Hy (t q:Rat):Qr (tq t) q=Zr t q:=F0 (t:=tq t) rfl q
theorem Ij {a:Tm} {t:Rat} (ha:Cut (Qr a)):0<Qr a t↔Ym (tq t) a:=by
  constructor
  · intro h
    have h1:Qr a t=1:=by rcases ha.val t with e | e | e <;> omega
    obtain ⟨r,r1,r2⟩:=ha.up t h1
    exact ⟨r,by rw [Hy]; rcases Jr t r with ⟨e,e'⟩ | ⟨e,e'⟩ | ⟨e,e'⟩ <;> first | exact e | (exfalso; grind),r2⟩
  · rintro ⟨q,q1,q2⟩
    rw [Hy] at q1
    have:t<q:=by rcases Jr t q with ⟨e,e'⟩ | ⟨e,e'⟩ | ⟨e,e'⟩ <;> first | exact e' | omega
    have:=ha.mono' this (by omega)
    omega
open Classical in
noncomputable def mu (T:List Tm) (a:Tm):Nat:=(T.filter fun t=>decide (Ym a t)).length
theorem Qbh {α:Type} {p q:α→Bool} (h:∀ x,p x=true→q x=true):∀ l:List α,(l.filter p).length≤(l.filter q).length
  | []=>Nat.le_refl _
  |
   x::l=>by
   have ih:=Qbh h l
   by_cases hp:p x=true
   · rw [List.filter_cons_of_pos hp,List.filter_cons_of_pos (h x hp)]; simp; exact ih
   · rw [List.filter_cons_of_neg hp]
     by_cases hq:q x=true
     · rw [List.filter_cons_of_pos hq]; simp; omega
     · rw [List.filter_cons_of_neg hq]; exact ih
theorem Qbi {α:Type} {p q:α→Bool} (h:∀ x,p x=true→q x=true) {y:α} (hp:p y=false) (hq:q y=true):∀ {l:List α},y∈l→(l.filter p).length<(l.filter q).length
  | [],hy=>by cases hy
  |
   x::l,hy=>by
   rcases List.mem_cons.1 hy with rfl | hy
   · rw [List.filter_cons_of_neg (by simp [hp]),List.filter_cons_of_pos hq]
     have:=Qbh h l
     simp; omega
   · have ih:=Qbi h hp hq hy
     by_cases hp:p x=true
     · rw [List.filter_cons_of_pos hp,List.filter_cons_of_pos (h x hp)]; simp; exact ih
     · rw [List.filter_cons_of_neg hp]
       by_cases hq:q x=true
       · rw [List.filter_cons_of_pos hq]; simp; omega
       · rw [List.filter_cons_of_neg hq]; exact ih
open Classical in
theorem Q4e {T:List Tm} {a b:Tm} (ha:Cut (Qr a)) (hb:Cut (Qr b)) (hT:∀ t∈T,Cut (Qr t)) (h:Ym a b) (hm:b∈T):mu T b<mu T a:=by
  have key:∀ l:List Tm,(∀ t∈l,Cut (Qr t))→l.filter (fun t=>decide (Ym b t))=l.filter (fun t=>decide (Cut (Qr t)∧Ym b t)):=fun l hl=>List.filter_congr fun x hx=>by simp [hl x hx]
  have key2:∀ l:List Tm,(∀ t∈l,Cut (Qr t))→l.filter (fun t=>decide (Ym a t))=l.filter (fun t=>decide (Cut (Qr t)∧Ym a t)):=fun l hl=>List.filter_congr fun x hx=>by simp [hl x hx]
  unfold mu
  rw [key T hT,key2 T hT]
  refine Qbi (fun x hx=>?_) (y:=b) ?_ ?_ hm
  · have hx:=of_decide_eq_true hx
    exact decide_eq_true ⟨hx.1,Q8z hb hx.1 h hx.2⟩
  · exact decide_eq_false fun hx=>M4 hb hb hx.2 hx.2
  · exact decide_eq_true ⟨hb,h⟩
def tms (p:List Int):List Tm:=(Ng p).getD []
structure KInv (c:Cr):Prop where
  ok:CrOk c
  k:∀ w∈c.l,w.known=true→J4 w.c.p c.now w.fails∧∀ t,w.fails=some t→t∈tms w.c.p
theorem Or {p:List Int} (h:Cp p) {a:Tm} (ha:Va a):∃ r,Ec p a=some r∧J4 p a r∧∀ t,r=some t→t∈tms p:=by
  obtain ⟨l,l1,_,_,l3⟩:=Pd h
  obtain ⟨r,r1,r2,r3⟩:=l3 a ha
  refine ⟨r,?_,r2,fun t ht=>by unfold tms; rw [l1]; exact r3 t ht⟩
  unfold Ec; rw [l1]; exact r1
theorem Q7d {p:List Int} (h:Cp p):∀ t∈tms p,Va t:=by
  obtain ⟨l,l1,_,l2,_⟩:=Pd h
  unfold tms; rw [l1]; exact l2
theorem Qnx {now:Tm} (hn:Va now):∀ {l:List Wt},(∀ w∈l,WtOk w)→(∀ w∈l,w.known=true→J4 w.c.p now w.fails∧∀ t,w.fails=some t→t∈tms w.c.p) →
    ∃ ws,Sl now l=some ws∧ws.map (·.c)=l.map (·.c)∧∀ w∈ws,w.known=true∧J4 w.c.p now w.fails∧∀ t,w.fails=some t→t∈tms w.c.p
  | [],_,_=>⟨[],rfl,rfl,fun w hw=>by cases hw⟩
  |
   w::l,h,h'=>by
   obtain ⟨ws,w1,w2,w3⟩:=Qnx hn (fun v hv=>h v (List.mem_cons_of_mem _ hv)) (fun v hv=>h' v (List.mem_cons_of_mem _ hv))
   by_cases hk:w.known=true
   · refine ⟨w::ws,by simp only [Sl,hk,if_true,w1]; rfl,by simp [w2],fun v hv=>?_⟩
     rcases List.mem_cons.1 hv with rfl | hv
     · exact ⟨hk,h' v (by simp) hk⟩
     · exact w3 v hv
   · obtain ⟨r,r1,r2,r3⟩:=Or (h w (by simp)).p hn
     refine ⟨⟨w.c,true,r⟩::ws,by simp only [Sl]; rw [if_neg hk,r1,w1]; rfl,by simp [w2],fun v hv=>?_⟩
     rcases List.mem_cons.1 hv with rfl | hv
     · exact ⟨rfl,r2,r3⟩
     · exact w3 v hv
theorem Qnp {at_:Tm} (ha:Va at_) {x:Ct}:∀ {l:List Wt},(∀ w∈l,WtOk w)→∃ w,Fl l x at_=some w∧w.c=x
  | [],_=>⟨fresh x,rfl,rfl⟩
  |
   v::l,h=>by
   obtain ⟨w,w1,w2⟩:=Qnp ha (x:=x) fun v hv=>h v (List.mem_cons_of_mem _ hv)
   simp only [Fl]
   split
   · cases hf:v.fails with
     | none=>exact ⟨_,rfl,rfl⟩
     |
      some t =>
      obtain ⟨c,c1,_⟩:=E9 ((h v (by simp)).f t hf) ha
      dsimp only
      rw [c1]
      show ∃ w,(if 0<c then some ⟨x,true,some t⟩ else Fl l x at_)=some w∧w.c=x
      split
      · exact ⟨_,rfl,rfl⟩
      · exact ⟨w,w1,w2⟩
   · exact ⟨w,w1,w2⟩
theorem Qvp {at_:Tm} (ha:Va at_) {ol:List Wt} (ho:∀ w∈ol,WtOk w):∀ l:List Ct,∃ ws,Bn ol at_ l=some ws∧ws.map (·.c)=l
  | []=>⟨[],rfl,rfl⟩
  |
   x::l=>by
   obtain ⟨w,w1,w2⟩:=Qnp ha (x:=x) ho
   obtain ⟨ws,s1,s2⟩:=Qvp ha ho l
   exact ⟨w::ws,by simp only [Bn,w1,s1]; rfl,by simp [w2,s2]⟩
theorem Qqq {out:List Ct} {c x:Ct}:x∈Mz out c↔x=c∨x∈out:=by
  have h:x∈out↔x∈out.take (Ss out c out.length)∨x∈out.drop (Ss out c out.length):=by
    rw [←List.mem_append,List.take_append_drop]
  simp only [Mz,List.mem_append,List.mem_cons,h]
  constructor
  · rintro (h | h | h)
    · exact .inr (.inl h)
    · exact .inl h
    · exact .inr (.inr h)
  · rintro (h | h | h)
    · exact .inr (.inl h)
    · exact .inl h
    · exact .inr (.inr h)
theorem Qbl:∀ (l acc:List Ct) {y:Ct},y∈l.foldl Mz acc↔y∈l∨y∈acc
  | [],acc,y=>by simp
  |
   c::l,acc,y=>by
   simp only [List.foldl_cons]
   rw [Qbl l,Qqq,List.mem_cons]
   constructor
   · rintro (h | h | h)
     · exact .inl (.inr h)
     · exact .inl (.inl h)
     · exact .inr h
   · rintro ((h | h) | h)
     · exact .inr (.inl h)
     · exact .inl h
     · exact .inr (.inr h)
theorem Qct {l:List Ct} {x:Ct}:x∈Z3 l↔x∈l:=by unfold Z3; rw [Qbl]; simp
theorem Q6i {ws:List Wt} (hw:∀ w∈ws,WtOk w):∃ o,Qhn ws=some o∧match o with
    | none=>∀ w∈ws,w.fails=none
    | some a=>Va a∧(∃ w∈ws,w.fails=some a)∧∀ w∈ws,∀ t,w.fails=some t→¬Ym t a:=by
  have hv:∀ t∈ws.filterMap (·.fails),Va t:=fun t ht=>by
    obtain ⟨w,w1,w2⟩:=List.mem_filterMap.1 ht
    exact (hw w w1).f t w2
  unfold Qhn
  cases hf:ws.filterMap (·.fails) with
  |
   nil =>
   refine ⟨none,rfl,fun w h=>?_⟩
   cases e:w.fails with
   | none=>rfl
   |
    some t =>
    have:t∈ws.filterMap (·.fails):=List.mem_filterMap.2 ⟨w,h,e⟩
    rw [hf] at this; cases this
  |
   cons b l =>
   rw [hf] at hv
   obtain ⟨m,m1,m2,m3⟩:=Dz l b hv
   refine ⟨some m,by show (Rj b l).map some=_; rw [m1]; rfl,hv m m2,?_,fun w h t e=>?_⟩
   · rw [←hf] at m2
     exact List.mem_filterMap.1 m2
   · exact m3 t (by rw [←hf]; exact List.mem_filterMap.2 ⟨w,h,e⟩)
theorem Q5k {t a:Tm} (ht:Va t) (ha:Va a) {c:Int} (h:Ii t a=some c) (h0:0<c):Ym a t:=by
  obtain ⟨c',c1,c2⟩:=E9 ht ha
  rw [h] at c1; injection c1 with c1; subst c1
  rcases c2 with ⟨e,_⟩ | ⟨e,_⟩ | ⟨_,e⟩
  · omega
  · omega
  · exact e
theorem Q1e {ol ws:List Wt} {now a:Tm} {l:List Ct} (hn:Va now) (ha:Va a) (hna:¬Ym a now) (ho:∀ w∈ol,WtOk w) (hk:∀ w∈ol,w.known=true→J4 w.c.p now w.fails∧∀ t,w.fails=some t→t∈tms w.c.p) (h:Bn ol a l=some ws) :
    ∀ w∈ws,w.known=true→J4 w.c.p a w.fails∧∀ t,w.fails=some t→t∈tms w.c.p:=by
  obtain ⟨h1,h2⟩:=Bp h
  intro w hw hkn
  obtain ⟨i,hi⟩:=List.getElem?_of_mem hw
  have hil:i<l.length:=by rw [←h1]; exact (List.getElem?_eq_some_iff.1 hi).1
  obtain ⟨v,h3,h4⟩:=h2 i _ (List.getElem?_eq_getElem hil)
  rw [hi] at h4; injection h4 with h4; subst h4
  rcases Ol h3 with e | ⟨v,v1,v2,v3,e,v5⟩
  · rw [e] at hkn; cases hkn
  · obtain ⟨k1,k2⟩:=hk v v1 v2
    rw [e]
    show J4 (l[i]).p a v.fails∧∀ t,v.fails=some t→t∈tms (l[i]).p
    rw [←v3]
    refine ⟨Hj hn.cut ha.cut hna k1 fun t ht=>?_,k2⟩
    obtain ⟨c,c1,c2⟩:=v5 t ht
    exact Q5k ((ho v v1).f t ht) ha c1 c2
structure Stab {β:Type} (Bc:Tm→List Ct) (Br:Tm→β):Prop where
  ok:BuildOk Bc
  fin:∃ Ps:List (List Int),(∀ p∈Ps,Cp p)∧∀ a,Va a→∀ x∈Bc a,x.p∈Ps
  st:∀ a b,Va a→Va b→(∀ x∈Bc a,Uv (Wc b) x.p=Uv (Wc a) x.p)→Bc b=Bc a∧Br b=Br a
structure KSt {β:Type} (Bc:Tm→List Ct) (Br:Tm→β) (c:Cr) (r1:β):Prop where
  inv:KInv c
  cs:c.l.map (·.c)=Z3 (Bc c.now)
  r:r1=Br c.now
inductive Evs (Bc:Tm→List Ct) (t:Rat):Tm→List Tm→Prop
  | nil {a:Tm} (h:∀ x∈Bc a,∃ o,J4 x.p a o∧∀ u,o=some u→Ym (tq t) u):Evs Bc t a []
  | cons {a e:Tm} {E:List Tm} (he:Va e) (h1:Ym a e) (h2:¬Ym (tq t) e) (h3:∀ x∈Bc a,∃ o,J4 x.p a o∧∀ u,o=some u→¬Ym u e) (h4:∃ x∈Bc a,J4 x.p a (some e)) (h5:Evs Bc t e E):Evs Bc t a (e::E)
theorem Q8q {β:Type} {Bc:Tm→List Ct} {Br:Tm→β} (S:Stab Bc Br) {t:Rat} (ht:Qs 900 t) {Ps:List (List Int)} (hP:∀ p∈Ps,Cp p) (hPs:∀ a,Va a→∀ x∈Bc a,x.p∈Ps) :
    ∀ (m:Nat) (c:Cr) (r1:β) (n:Int),mu (Ps.flatMap tms) c.now≤m→KSt Bc Br c r1→¬Ym (tq t) c.now →
    ∃ c' r' E,goF Bc Br t (m+1) c r1 n=some (c',r',n+(E.length:Nat))∧c'.now=tq t∧KSt Bc Br c' r'∧c'.ev=c.ev+(E.length:Nat)∧E.length≤m∧Evs Bc t c.now E:=by
  have hT:∀ t∈Ps.flatMap tms,Cut (Qr t):=fun u hu=>by
    obtain ⟨p,p1,p2⟩:=List.mem_flatMap.1 hu
    exact (Q7d (hP p p1) u p2).cut
  have hq:=Qyt ht
  intro m
  induction m with
  | zero=>?_
  | succ m ih=>?_
  all_goals
    intro c r1 n hm hS hnow
    obtain ⟨⟨ok,kk⟩,hcs,hr⟩:=hS
    obtain ⟨ws,w1,w2,w3⟩:=Qnx ok.n ok.l kk
    have ok':=Ah ok w1
    rw [hcs] at w2
    have hc_w:∀ x∈Bc c.now,∃ w∈ws,w.c=x:=fun x hx=>by
      have:x∈ws.map (·.c):=by rw [w2]; exact Qct.2 hx
      exact List.mem_map.1 this
    have hw_c:∀ w∈ws,w.c∈Bc c.now:=fun w hw=>Qct.1 (by rw [←w2]; exact List.mem_map_of_mem hw)
    obtain ⟨o,o1,o2⟩:=Q6i ok'.l
    -- the end
    have fin:(∀ w∈ws,∀ u,w.fails=some u→Ym (tq t) u)→KSt Bc Br ⟨tq t,ws,c.ev⟩ r1∧Evs Bc t c.now []:=fun hall=>by
      have hg:∀ x∈Bc c.now,Uv (Wc (tq t)) x.p=Uv (Wc c.now) x.p:=fun x hx=>by
        obtain ⟨w,hw,rfl⟩:=hc_w x hx
        exact Qbt (S.ok.p _ ok.n _ hx).dp ok.n hq hnow (w3 w hw).2.1 (hall w hw)
      obtain ⟨s1,s2⟩:=S.st _ _ ok.n hq hg
      refine ⟨⟨⟨⟨hq,ok'.l,ok'.k⟩,fun w hw _=>⟨Hj ok.n.cut hq.cut hnow (w3 w hw).2.1 (hall w hw),(w3 w hw).2.2⟩⟩,?_,?_⟩,.nil fun x hx=>?_⟩
      · show ws.map (·.c)=Z3 (Bc (tq t)); rw [w2,s1]
      · show r1=Br (tq t); rw [s2,hr]
      · obtain ⟨w,hw,rfl⟩:=hc_w x hx
        exact ⟨_,(w3 w hw).2.1,hall w hw⟩
  · cases o with
    |
     none =>
     obtain ⟨f1,f2⟩:=fin fun w hw u hu=>by rw [o2 w hw] at hu; cases hu
     exact ⟨_,_,[],by simp only [goF]; rw [w1]; simp only [Option.bind_some]; rw [o1]; simp,rfl,f1,by simp,by simp,f2⟩
    |
     some a =>
     obtain ⟨va,⟨w,hw,hwa⟩,hmin⟩:=o2
     by_cases h0:0<Qr a t
     · obtain ⟨f1,f2⟩:=fin fun v hv u hu=>by
         have hu':=(ok'.l v hv).f u hu
         exact Qnt hq.cut va.cut hu'.cut ((Ij va.cut).1 h0) (hmin v hv u hu)
       exact ⟨_,_,[],by simp only [goF]; rw [w1]; simp only [Option.bind_some]; rw [o1]; simp [h0],rfl,f1,by simp,by simp,f2⟩
     · exfalso
       obtain ⟨k1,k2,k3⟩:=w3 w hw
       rw [hwa] at k2
       have:a∈Ps.flatMap tms:=List.mem_flatMap.2 ⟨_,hPs _ ok.n _ (hw_c w hw),k3 a hwa⟩
       have:=Q4e ok.n.cut va.cut hT k2.2.2.1 this
       omega
  · cases o with
    |
     none =>
     obtain ⟨f1,f2⟩:=fin fun w hw u hu=>by rw [o2 w hw] at hu; cases hu
     exact ⟨_,_,[],by simp only [goF]; rw [w1]; simp only [Option.bind_some]; rw [o1]; simp,rfl,f1,by simp,by simp,f2⟩
    |
     some a =>
     obtain ⟨va,⟨w,hw,hwa⟩,hmin⟩:=o2
     by_cases h0:0<Qr a t
     · obtain ⟨f1,f2⟩:=fin fun v hv u hu=>by
         have hu':=(ok'.l v hv).f u hu
         exact Qnt hq.cut va.cut hu'.cut ((Ij va.cut).1 h0) (hmin v hv u hu)
       exact ⟨_,_,[],by simp only [goF]; rw [w1]; simp only [Option.bind_some]; rw [o1]; simp [h0],rfl,f1,by simp,by simp,f2⟩
     · obtain ⟨k1,k2,k3⟩:=w3 w hw
       rw [hwa] at k2
       have hna:=Qeg ok.n.cut va.cut k2.2.2.1
       have hmem:a∈Ps.flatMap tms:=List.mem_flatMap.2 ⟨_,hPs _ ok.n _ (hw_c w hw),k3 a hwa⟩
       have hlt:=Q4e ok.n.cut va.cut hT k2.2.2.1 hmem
       obtain ⟨w2',l1,l2⟩:=Qvp va ok'.l (Z3 (Bc a))
       have hl:=Q1e ok.n va hna ok'.l (fun v hv _=>(w3 v hv).2) l1
       have hS':KSt Bc Br ⟨a,w2',c.ev+1⟩ (Br a):=⟨⟨Orr.lay_ok _ ok' va (S.ok.p a va) (S.ok.n a va) l1,hl⟩,l2,rfl⟩
       obtain ⟨c',r',E,g1,g2,g3,g4,g5,g6⟩:=ih ⟨a,w2',c.ev+1⟩ (Br a) (n+1) (by show mu _ a≤m; omega) hS' (fun h=>h0 ((Ij va.cut).2 h))
       refine ⟨c',r',a::E,?_,g2,g3,by rw [g4]; simp; omega,by simp; omega,.cons va k2.2.2.1 (fun h=>h0 ((Ij va.cut).2 h)) (fun x hx=>?_) ⟨w.c,hw_c w hw,k2⟩ g6⟩
       · conv=>lhs; unfold goF
         rw [w1]; simp only [Option.bind_some]; rw [o1]; simp only [Option.bind_some]; rw [if_neg h0,l1]; simp only [Option.bind_some]
         rw [g1]; simp; omega
       · obtain ⟨v,hv,rfl⟩:=hc_w x hx
         exact ⟨_,(w3 v hv).2.1,hmin v hv⟩
end Orq

namespace Orq
open Orr Go
theorem Qgy {a:Tm} (ha:Va a):∀ (L:List (List Int)),(∀ p∈L,Dp p)→∃ y,Qr a y=-1∧∀ q,Qr a q=-1→q≤y→∀ p∈L,Uv (Wc a) p=Qo (Qh p q)
  |
   [],_=>by
   obtain ⟨y,hy⟩:=ha.cut.hi
   exact ⟨y,hy,fun q _ _ p hp=>by cases hp⟩
  |
   p::L,h=>by
   obtain ⟨y,y1,y2⟩:=Qgy ha L (fun q hq=>h q (List.mem_cons_of_mem _ hq))
   by_cases h0:p.length=0
   · obtain rfl:=List.eq_nil_of_length_eq_zero h0
     refine ⟨y,y1,fun q q1 q2 r hr=>?_⟩
     rcases List.mem_cons.1 hr with rfl | hr
     · rw [I9]; exact (Za.2 rfl).symm
     · exact y2 q q1 q2 r hr
   · obtain ⟨⟨z,z1,z2⟩,_⟩:=Bh ha (h p (by simp)) h0
     refine ⟨if y≤z then y else z,by split <;> assumption,fun q q1 q2 r hr=>?_⟩
     rcases List.mem_cons.1 hr with rfl | hr
     · rw [←Qg]; exact (z2 q q1 (by grind)).symm
     · exact y2 q q1 (by grind) r hr
section Srt
variable {α:Type} {lt:α→α→Bool} {R:α→α→Prop}
theorem Qcf (irr:∀ x,¬R x x) (tr:∀ x y z,R x y→R y z→R x z):∀ {l m:List α},l.Pairwise R→m.Pairwise R→(∀ x,x∈l↔x∈m)→l=m
  | [],[],_,_,_=>rfl
  | [],y::m,_,_,h=>by have:=(h y).2 (by simp); cases this
  | x::l,[],_,_,h=>by have:=(h x).1 (by simp); cases this
  |
   x::l,y::m,hl,hm,h=>by
   rw [List.pairwise_cons] at hl hm
   have e:x=y:=by
     rcases List.mem_cons.1 ((h x).1 (by simp)) with e | h1
     · exact e
     · rcases List.mem_cons.1 ((h y).2 (by simp)) with e | h2
       · exact e.symm
       · exact absurd (tr _ _ _ (hl.1 y h2) (hm.1 x h1)) (irr x)
   subst e
   rw [Qcf irr tr hl.2 hm.2 fun z=>?_]
   constructor
   · intro hz
     rcases List.mem_cons.1 ((h z).1 (List.mem_cons_of_mem _ hz)) with e | h1
     · subst e; exact absurd (hl.1 z hz) (irr z)
     · exact h1
   · intro hz
     rcases List.mem_cons.1 ((h z).2 (List.mem_cons_of_mem _ hz)) with e | h1
     · subst e; exact absurd (hm.1 z hz) (irr z)
     · exact h1
theorem Qcc {out:List α} {x:α}:∀ k,k≤out.length→(∀ j y,J7 lt out x k≤j→j<k→out[j]? = some y→lt x y=true)∧(0<J7 lt out x k→∃ y,out[J7 lt out x k-1]? = some y∧lt x y=false)
  | 0,_=>⟨fun j y _ h=>by omega,fun h=>by simp [J7] at h⟩
  |
   k+1,hk=>by
   obtain ⟨y,hy⟩:∃ y,out[k]? = some y:=⟨_,List.getElem?_eq_getElem (by omega)⟩
   by_cases h:lt x y=true
   · rw [B5 hy h]
     obtain ⟨h1,h2⟩:=Qcc (out:=out) (x:=x) k (by omega)
     refine ⟨fun j z a1 a2 a3=>?_,h2⟩
     by_cases e:j=k
     · subst e; rw [hy] at a3; injection a3 with a3; subst a3; exact h
     · exact h1 j z a1 (by omega) a3
   · have h:lt x y=false:=by simpa using h
     rw [Su hy h]
     exact ⟨fun j z a1 a2 _=>by omega,fun _=>⟨y,by simpa using hy,h⟩⟩
theorem Q1b (tr:∀ x y z,R x y→R y z→R x z) {out:List α} {x:α} (ho:out.Pairwise R) (h1:∀ y∈out,lt x y=true→R x y) (h2:∀ y∈out,lt x y=false→R y x):(K5 lt out x).Pairwise R:=by
  obtain ⟨s1,s2⟩:=Qcc (lt:=lt) (out:=out) (x:=x) out.length (Nat.le_refl _)
  have hle:=Qeu lt out x out.length
  unfold K5
  obtain ⟨k,hk⟩:∃ k,k=J7 lt out x out.length:=⟨_,rfl⟩
  rw [←hk] at s1 s2 hle ⊢
  have hd:(out.take k++out.drop k).Pairwise R:=by rw [List.take_append_drop]; exact ho
  obtain ⟨d1,d2,d3⟩:=List.pairwise_append.1 hd
  have hR:∀ y∈out.drop k,R x y:=fun y hy=>by
    obtain ⟨i,hi⟩:=List.getElem?_of_mem hy
    rw [List.getElem?_drop] at hi
    have:k+i<out.length:=(List.getElem?_eq_some_iff.1 hi).1
    exact h1 y (List.mem_of_mem_drop hy) (s1 (k+i) y (by omega) this hi)
  have hL:∀ y∈out.take k,R y x:=fun y hy=>by
    obtain ⟨i,hi⟩:=List.getElem?_of_mem hy
    have hik:i<k:=by have:=(List.getElem?_eq_some_iff.1 hi).1; simp at this; omega
    rw [List.getElem?_take_of_lt hik] at hi
    obtain ⟨z,z1,z2⟩:=s2 (by omega)
    have hz:=h2 z (List.mem_of_getElem? z1) z2
    by_cases e:i=k-1
    · subst e; rw [hi] at z1; injection z1 with z1; subst z1; exact hz
    · have hp:=List.pairwise_iff_getElem.1 ho i (k-1) (by omega) (by omega) (by omega)
      obtain ⟨_,e1⟩:=List.getElem?_eq_some_iff.1 hi
      obtain ⟨_,e2⟩:=List.getElem?_eq_some_iff.1 z1
      rw [e1,e2] at hp
      exact tr _ _ _ hp hz
  refine List.pairwise_append.2 ⟨d1,List.pairwise_cons.2 ⟨hR,d2⟩,fun y hy z hz=>?_⟩
  rcases List.mem_cons.1 hz with rfl | hz
  · exact hL y hy
  · exact d3 y hy z hz
theorem foldG_pw (tr:∀ x y z,R x y→R y z→R x z) {S:α→Prop} (h1:∀ x y,S x→S y→lt x y=true→R x y) {D:α→α→Prop} (h2:∀ x y,S x→S y→D y x→lt x y=false→R y x) :
    ∀ (l acc:List α),acc.Pairwise R→(∀ x∈acc,S x)→(∀ x∈l,S x)→l.Pairwise D→(∀ x∈acc,∀ y∈l,D x y)→(l.foldl (K5 lt) acc).Pairwise R
  | [],acc,ha,_,_,_,_=>ha
  |
   x::l,acc,ha,hs,hl,hd,hx=>by
   rw [List.pairwise_cons] at hd
   refine foldG_pw tr h1 h2 l (K5 lt acc x) ?_ ?_ (fun y hy=>hl y (List.mem_cons_of_mem _ hy)) hd.2 ?_
   · exact Q1b tr ha (fun y hy=>h1 x y (hl x (by simp)) (hs y hy)) (fun y hy=>h2 x y (hl x (by simp)) (hs y hy) (hx y hy x (by simp)))
   · intro y hy
     rcases Od.1 hy with rfl | hy
     · exact hl _ (by simp)
     · exact hs y hy
   · intro y hy z hz
     rcases Od.1 hy with rfl | hy
     · exact hd.1 z hz
     · exact hx y hy z (List.mem_cons_of_mem _ hz)
end Srt
def px (p:Pt) (q:Rat):Rat:=Qh p.c.x q / (p.c.d:Rat)
def py (p:Pt) (q:Rat):Rat:=Qh p.c.y q / (p.c.d:Rat)
def Gq (q:Rat) (x y:Pt):Prop:=px x q<px y q∨px x q=px y q∧(py x q<py y q∨py x q=py y q∧x.id<y.id)
theorem Qvu (q:Rat) (x:Pt):¬Gq q x x:=by unfold Gq; grind
theorem Qec (q:Rat) (x y z:Pt) (h:Gq q x y) (h':Gq q y z):Gq q x z:=by unfold Gq at *; grind
theorem Qvv {q:Rat} {x y:Pt} (h:x.id≠y.id) (h':¬Gq q x y):Gq q y x:=by unfold Gq at *; grind
theorem Qcr {u v:Rat} {c d:Int} (hc:0<c) (hd:0<d):Qo (v*(c:Rat)-u*(d:Rat))=Qo (v / (d:Rat)-u / (c:Rat)):=by
  have hc':(0:Rat)<(c:Rat):=by exact_mod_cast hc
  have hd':(0:Rat)<(d:Rat):=by exact_mod_cast hd
  have e:v*(c:Rat)-u*(d:Rat)=((c:Rat)*(d:Rat))*(v / (d:Rat)-u / (c:Rat)):=by
    rw [Rat.div_def,Rat.div_def]
    have h1:=Rat.mul_inv_cancel (c:Rat) (by grind)
    have h2:=Rat.mul_inv_cancel (d:Rat) (by grind)
    grind
  rw [e,Rt (Rat.mul_pos hc' hd')]
theorem Qrg {x y:Pt} (hx:Sc x.c) (hy:Sc y.c) (q:Rat):Qo (Qh (Xn x.c y.c) q)=Qo (px y q-px x q):=by
  unfold Xn px; rw [Ud,X2,X2]; exact Qcr hx.n.2.2.1 hy.n.2.2.1
theorem Qrf {x y:Pt} (hx:Sc x.c) (hy:Sc y.c) (q:Rat):Qo (Qh (Jb x.c y.c) q)=Qo (py y q-py x q):=by
  unfold Jb py; rw [Ud,X2,X2]; exact Qcr hx.n.2.2.1 hy.n.2.2.1
theorem Qi3 {a:Tm} (ha:Va a) {x y:Pt} (hx:Sc x.c) (hy:Sc y.c) {q:Rat} (h1:Uv (Wc a) (Xn x.c y.c)=Qo (Qh (Xn x.c y.c) q)) (h2:Uv (Wc a) (Jb x.c y.c)=Qo (Qh (Jb x.c y.c) q)):Vr (Wc a) x y=true↔Gq q x y:=by
  rw [Qrg hx hy] at h1
  rw [Qrf hx hy] at h2
  have d1:=(Tq hx hy).dp
  have d2:=(Tp hx hy).dp
  unfold Vr
  simp only [Rp]
  have t1:=Zc (px y q-px x q)
  have t2:=Zc (py y q-py x q)
  by_cases e1:(Xn x.c y.c).length=0
  · rw [if_neg (by omega)]
    rw [List.eq_nil_of_length_eq_zero e1,I9] at h1
    have:px x q=px y q:=by grind
    by_cases e2:(Jb x.c y.c).length=0
    · rw [if_neg (by omega)]
      rw [List.eq_nil_of_length_eq_zero e2,I9] at h2
      unfold Gq
      simp only [decide_eq_true_eq]
      grind
    · rw [if_pos (by omega)]
      have:=(Bh ha d2 e2).2
      unfold Gq
      simp only [decide_eq_true_eq]
      grind
  · rw [if_pos (by omega)]
    have:=(Bh ha d1 e1).2
    unfold Gq
    simp only [decide_eq_true_eq]
    grind
def Qc5 (l:List Pt):List (List Int):=l.flatMap fun x=>l.flatMap fun y=>[Xn x.c y.c,Jb x.c y.c]
theorem Nn {l:List Pt} {x y:Pt} (hx:x∈l) (hy:y∈l):Xn x.c y.c∈Qc5 l∧Jb x.c y.c∈Qc5 l :=
  ⟨List.mem_flatMap.2 ⟨x,hx,List.mem_flatMap.2 ⟨y,hy,by simp⟩⟩,List.mem_flatMap.2 ⟨x,hx,List.mem_flatMap.2 ⟨y,hy,by simp⟩⟩⟩
theorem Qc6 {l:List Pt} (hl:∀ p∈l,Sc p.c):∀ p∈Qc5 l,Cp p:=fun p hp=>by
  obtain ⟨x,hx,hp⟩:=List.mem_flatMap.1 hp
  obtain ⟨y,hy,hp⟩:=List.mem_flatMap.1 hp
  simp at hp
  rcases hp with rfl | rfl
  · exact Tq (hl x hx) (hl y hy)
  · exact Tp (hl x hx) (hl y hy)
theorem Qov {l:List Pt} (hl:∀ p∈l,Sc p.c) (hd:l.Pairwise fun x y=>x.id≠y.id) {a:Tm} (ha:Va a):∃ y,Qr a y=-1∧∀ q,Qr a q=-1→q≤y→(∀ u∈l,∀ v∈l,(Vr (Wc a) u v=true↔Gq q u v))∧(Ht a l).Pairwise (Gq q):=by
  obtain ⟨y,y1,y2⟩:=Qgy ha (Qc5 l) fun p hp=>(Qc6 hl p hp).dp
  refine ⟨y,y1,fun q q1 q2=>?_⟩
  have h:=y2 q q1 q2
  have hb:∀ u∈l,∀ v∈l,(Vr (Wc a) u v=true↔Gq q u v):=fun u hu v hv=>Qi3 ha (hl u hu) (hl v hv) (h _ (Nn hu hv).1) (h _ (Nn hu hv).2)
  refine ⟨hb,?_⟩
  exact foldG_pw (S:=fun x=>x∈l) (D:=fun x y=>x.id≠y.id) (Qec q) (fun u v hu hv h=>(hb u hu v hv).1 h) (fun u v hu hv hne h=>Qvv (fun e=>hne e.symm) fun h'=>by
    rw [(hb u hu v hv).2 h'] at h; cases h) l [] .nil (fun x hx=>by cases hx) (fun x hx=>hx) hd (fun x hx=>by cases hx)
theorem Qkk {a b:Tm} {x y:Pt} (h:Uv (Wc b) (Wm x y)=Uv (Wc a) (Wm x y)):Vr (Wc b) x y=Vr (Wc a) x y:=by
  unfold Wm Tv at h
  unfold Vr
  simp only [Rp]
  by_cases e1:0<(Xn x.c y.c).length
  · rw [if_pos e1,if_pos e1]; rw [if_pos e1] at h; rw [h]
  · rw [if_neg e1,if_neg e1]; rw [if_neg e1] at h; rw [h]
theorem If {a b:Tm} {q r:Rat}:∀ (l:List Pt),(∀ u∈l,∀ v∈l,(Vr (Wc a) u v=true↔Gq q u v))→(∀ u∈l,∀ v∈l,(Vr (Wc b) u v=true↔Gq r u v))→l.Pairwise (Gq q)→(∀ x∈Jn (Wc a) l,Uv (Wc b) x.p=Uv (Wc a) x.p)→l.Pairwise (Gq r)∧Jn (Wc b) l=Jn (Wc a) l
  | [],_,_,_,_=>⟨.nil,rfl⟩
  | [x],_,_,_,_=>⟨List.pairwise_singleton _ _,rfl⟩
  |
   x::y::l,ha,hb,hp,hc=>by
   rw [List.pairwise_cons] at hp
   obtain ⟨i1,i2⟩:=If (a:=a) (b:=b) (q:=q) (r:=r) (y::l) (fun u hu v hv=>ha u (List.mem_cons_of_mem _ hu) v (List.mem_cons_of_mem _ hv)) (fun u hu v hv=>hb u (List.mem_cons_of_mem _ hu) v (List.mem_cons_of_mem _ hv)) hp.2 (fun z hz=>hc z (by simp only [Jn]; exact List.mem_cons_of_mem _ hz))
   have h0:Uv (Wc b) (Wm x y)=Uv (Wc a) (Wm x y):=hc (Kj (Wc a) x y) (by simp [Jn])
   have h1:Gq r x y:=(hb x (by simp) y (by simp)).1 (by rw [Qkk h0]; exact (ha x (by simp) y (by simp)).2 (hp.1 y (by simp)))
   refine ⟨List.pairwise_cons.2 ⟨fun z hz=>?_,i1⟩,?_⟩
   · rcases List.mem_cons.1 hz with rfl | hz
     · exact h1
     · exact Qec r x y z h1 ((List.pairwise_cons.1 i1).1 z hz)
   · simp only [Jn]
     rw [i2]; congr 1
     unfold Kj; rw [h0]
theorem Li {sg:List Int→Int}:∀ {l:List Pt},∀ x∈Jn sg l,∃ u∈l,∃ v∈l,x.p=Wm u v
  | [],x,hx=>by cases hx
  | [_],x,hx=>by cases hx
  |
   a::b::l,x,hx=>by
   simp only [Jn] at hx
   rcases List.mem_cons.1 hx with rfl | hx
   · exact ⟨a,by simp,b,by simp,rfl⟩
   · obtain ⟨u,hu,v,hv,e⟩:=Li (l:=b::l) x hx
     exact ⟨u,List.mem_cons_of_mem _ hu,v,List.mem_cons_of_mem _ hv,e⟩
theorem Qb8 {l:List Pt} {u v:Pt} (hu:u∈l) (hv:v∈l):Wm u v∈Qc5 l:=by
  unfold Wm Tv; split
  · exact (Nn hu hv).1
  · exact (Nn hu hv).2
theorem Qzi {l:List Pt} {a:Tm}:∀ x∈bcS l a,x.p∈Qc5 l:=fun x hx=>by
  obtain ⟨u,hu,v,hv,e⟩:=Li x hx
  rw [e]; exact Qb8 (Jw.1 hu) (Jw.1 hv)
theorem Qrz (l:List Pt):(Qc5 l).length=l.length*(l.length*2):=by
  have h1:∀ (x:Pt) (m:List Pt),(m.flatMap fun y=>[Xn x.c y.c,Jb x.c y.c]).length=m.length*2:=fun x m=>by
    induction m with
    | nil=>rfl
    | cons y m ih=>rw [List.flatMap_cons,List.length_append,ih,List.length_cons]; simp; omega
  have h2:∀ m:List Pt,(m.flatMap fun x=>l.flatMap fun y=>[Xn x.c y.c,Jb x.c y.c]).length=m.length*(l.length*2):=fun m=>by
    induction m with
    | nil=>simp
    | cons y m ih=>rw [List.flatMap_cons,List.length_append,ih,List.length_cons,h1,Nat.add_mul,Nat.one_mul,Nat.add_comm]
  exact h2 l
theorem Qxj {l:List Pt} (hl:∀ p∈l,Sc p.c) (hd:l.Pairwise fun x y=>x.id≠y.id) {a b:Tm} (ha:Va a) (hb:Va b) (h:∀ x∈bcS l a,Uv (Wc b) x.p=Uv (Wc a) x.p):Ht b l=Ht a l∧bcS l b=bcS l a:=by
  obtain ⟨q,q1,q2⟩:=Qov hl hd ha
  obtain ⟨r,r1,r2⟩:=Qov hl hd hb
  obtain ⟨a1,a2⟩:=q2 q q1 Rat.le_refl
  obtain ⟨b1,b2⟩:=r2 r r1 Rat.le_refl
  obtain ⟨c1,c2⟩:=If (a:=a) (b:=b) (Ht a l) (fun u hu v hv=>a1 u (Jw.1 hu) v (Jw.1 hv)) (fun u hu v hv=>b1 u (Jw.1 hu) v (Jw.1 hv)) a2 h
  have e:Ht b l=Ht a l:=Qcf (Qvu r) (Qec r) b2 c1 fun x=>by rw [Jw,Jw]
  exact ⟨e,by unfold bcS; rw [e,c2]⟩
theorem Q9f {l:List Pt} (hl:∀ p∈l,Sc p.c) (hn:l.length≤1000) (hd:l.Pairwise fun x y=>x.id≠y.id):Stab (bcS l) (brS l):=by
  refine ⟨Qc8 hl hn,⟨Qc5 l,Qc6 hl,fun a _ x hx=>?_⟩,fun a b ha hb h=>?_⟩
  · obtain ⟨u,hu,v,hv,e⟩:=Li x hx
    rw [e]; exact Qb8 (Jw.1 hu) (Jw.1 hv)
  · obtain ⟨e1,e2⟩:=Qxj hl hd ha hb h
    exact ⟨e2,by unfold brS; rw [e1]⟩
end Orq

namespace Orr
open Go
section
variable {α:Type} {lt:α→α→Bool}
theorem Qqr (out:List α) (c:α):(K5 lt out c).Perm (c::out):=by
  unfold K5
  exact (List.perm_middle).trans (by rw [List.take_append_drop])
theorem I4:∀ (l acc:List α),(l.foldl (K5 lt) acc).Perm (l++acc)
  | [],acc=>List.Perm.refl _
  |
   c::l,acc=>by
   simp only [List.foldl_cons]
   exact (I4 l _).trans (((Qqr acc c).append_left l).trans List.perm_middle)
theorem Qli (l:List α):(Xa lt l).Perm l:=by
  have:=I4 (lt:=lt) l []
  rwa [List.append_nil] at this
end
def Mg (a b:Pt):Bool:=decide (a.id<b.id)
def Pt.m5 (p:Pt):Pt:=⟨p.c,p.id % 5⟩
def Pw (O:List Pt) (i:Nat):List Pt:=(O.take i).map Pt.m5++O.drop i
theorem Qv3 (O:List Pt):Pw O 0=O:=by simp [Pw]
theorem Ai (O:List Pt) (i:Nat):(Pw O i).length=O.length:=by
  unfold Pw; rw [List.length_append,List.length_map,List.length_take,List.length_drop]; omega
theorem Qn4 {O:List Pt} {i:Nat} {p:Pt} (h:O[i]? = some p):(Pw O i).set i p.m5=Pw O (i+1):=by
  have hi:=(List.getElem?_eq_some_iff.1 h).1
  have hl:((O.take i).map Pt.m5).length=i:=by rw [List.length_map,List.length_take]; omega
  unfold Pw
  rw [List.set_append,if_neg (by omega),hl,Nat.sub_self,List.take_succ,h,Option.toList_some,List.map_append,List.append_assoc]
  congr 1
  rw [List.drop_eq_getElem_cons hi]
  have:O[i]=p:=by
    have:=(List.getElem?_eq_some_iff.1 h).2
    exact this
  rfl
theorem Q1n {O:List Pt} {i:Nat} {p:Pt} (h:O[i]? = some p):(Pw O i)[i]? = some p:=by
  have hi:=(List.getElem?_eq_some_iff.1 h).1
  have hl:((O.take i).map Pt.m5).length=i:=by rw [List.length_map,List.length_take]; omega
  unfold Pw
  rw [List.getElem?_append_right (by omega),hl,Nat.sub_self,List.getElem?_drop]
  exact h
theorem Qn3 {O:List Pt} {i k:Nat} {p:Pt} (hk:k<i) (h:O[k]? = some p):(Pw O i)[k]? = some p.m5:=by
  have hi:=(List.getElem?_eq_some_iff.1 h).1
  unfold Pw
  rw [List.getElem?_append_left (by rw [List.length_map,List.length_take]; omega),List.getElem?_map,List.getElem?_take,if_pos hk,h]; rfl
theorem Qhg {O:List Pt} {e i:Nat} (h:e≤i) (hi:i≤O.length):(Pw O i).take e=(O.take e).map Pt.m5:=by
  unfold Pw
  rw [List.take_append_of_le_length (by rw [List.length_map,List.length_take]; omega),←List.map_take,List.take_take,Nat.min_eq_left h]
def J5 (O:List Pt) (e:Nat):List Pt:=(O.take e).map Pt.m5
def Mf (O:List Pt) (e:Nat):List Pt:=(J5 O e).map Pt.nrm
def Gj (l:List Pt):Prop:=l.Pairwise fun a b=>a.id≠b.id
theorem Qp9 {O:List Pt} {i:Nat} {p:Pt} (h:O[i]? = some p):J5 O (i+1)=J5 O i++[p.m5]:=by
  unfold J5; rw [List.take_succ,h,Option.toList_some,List.map_append]; rfl
theorem Qqf {O:List Pt} {i:Nat} {p:Pt} (h:O[i]? = some p) (hd:Gj (J5 O i)) (hn:∀ k x,k<i→O[k]? = some x→x.m5.id≠p.m5.id):Gj (J5 O (i+1)):=by
  rw [Qp9 h]
  refine List.pairwise_append.2 ⟨hd,List.pairwise_singleton _ _,fun a ha b hb=>?_⟩
  rw [List.mem_singleton.1 hb]
  obtain ⟨x,hx,rfl⟩:=List.mem_map.1 ha
  obtain ⟨k,hk,rfl⟩:=List.mem_iff_getElem.1 hx
  rw [List.length_take] at hk
  rw [List.getElem_take]
  exact hn k _ (by omega) (List.getElem?_eq_getElem (by omega))
theorem Qa7 {O:List Pt} {e:Nat} (h:Gj (J5 O e)):Gj (Mf O e):=List.Pairwise.map Pt.nrm (fun _ _ h=>h) h
theorem Eb (O:List Pt) (e:Nat):(Mf O e).length=(J5 O e).length:=by unfold Mf; rw [List.length_map]
theorem Ny {O:List Pt} {e:Nat} (h:e≤O.length):(J5 O e).length=e:=by unfold J5; rw [List.length_map,List.length_take]; omega
def Qpg (p:Pt):Prop:=Cs 10 3 p.c
theorem Qb2 {n:Nat} {most:Int} (hm:0≤most∧most≤999) {l:List RawPt}:∀ p∈Lb n most l,Qpg p:=fun p hp=>by
  rcases Bf _ _ hp with h | h
  · cases h
  · obtain ⟨z,_,rfl⟩:=List.mem_map.1 h
    exact Qa5 hm _ _ _
theorem Qgh {O:List Pt} (h:∀ p∈O,Qpg p) (e:Nat):∀ p∈J5 O e,Qpg p:=fun p hp=>by
  obtain ⟨x,hx,rfl⟩:=List.mem_map.1 hp
  exact h x (List.mem_of_mem_take hx)
theorem Qm2 {O:List Pt} (h:∀ p∈O,Qpg p) (e:Nat):∀ p∈Mf O e,Nml p.c∧Cs 10 3 p.c:=fun p hp=>by
  obtain ⟨x,hx,rfl⟩:=List.mem_map.1 hp
  exact ⟨x.c.nml,(Qgh h e x hx).norm (by decide)⟩
theorem Qbz {s n:Nat}:∀ {l:List Pt},(∀ p∈l,Cs s n p.c)→IsPts s n (l.map Vw) (l.map Pt.nrm)
  | [],_=>trivial
  | p::l,h=>⟨⟨p.c.x.map Zf,p.c.y.map Zf,_,_,_,_,p.c.d,rfl,Z2 _,Z2 _,Qe _,h p (List.mem_cons_self ..),rfl⟩,Qbz fun x hx=>h x (List.mem_cons_of_mem _ hx)⟩
theorem Qcu:∀ {l m:List Pt},Wu l→Wu m→(∀ x,x∈l↔x∈m)→l=m
  | [],[],_,_,_=>rfl
  | [],b::m,_,_,h=>absurd ((h b).2 (List.mem_cons_self ..)) (by simp)
  | a::l,[],_,_,h=>absurd ((h a).1 (List.mem_cons_self ..)) (by simp)
  |
   a::l,b::m,h1,h2,h=>by
   have h1':=List.pairwise_cons.1 h1
   have h2':=List.pairwise_cons.1 h2
   have hab:a=b:=by
     rcases List.mem_cons.1 ((h a).1 (List.mem_cons_self ..)) with e | e
     · exact e
     · rcases List.mem_cons.1 ((h b).2 (List.mem_cons_self ..)) with e2 | e2
       · exact e2.symm
       · have:=h2'.1 a e; have:=h1'.1 b e2; omega
   subst hab
   congr 1
   refine Qcu h1'.2 h2'.2 fun x=>⟨fun hx=>?_,fun hx=>?_⟩
   · rcases List.mem_cons.1 ((h x).1 (List.mem_cons_of_mem _ hx)) with e | e
     · have:=h1'.1 x hx; rw [e] at this; omega
     · exact e
   · rcases List.mem_cons.1 ((h x).2 (List.mem_cons_of_mem _ hx)) with e | e
     · have:=h2'.1 x hx; rw [e] at this; omega
     · exact e
theorem Qfc {l:List Pt} (h:Gj l):Wu (Xa Mg l) :=
  Orq.foldG_pw (R:=fun a b:Pt=>a.id<b.id) (S:=fun _=>True) (D:=fun a b:Pt=>a.id≠b.id) (fun x y z h1 h2=>Int.lt_trans h1 h2) (fun x y _ _ h=>of_decide_eq_true h) (fun x y _ _ h1 h=>by have:=of_decide_eq_false h; omega) l [] .nil (fun x hx=>by cases hx) (fun _ _=>trivial) h (fun x hx=>by cases hx)
theorem Qw2 (l:List Pt) (q:Pt):(put l q).Perm (q::l):=by
  unfold put
  exact List.perm_middle.trans (by rw [List.take_append_drop])
theorem Qb7:∀ (qs acc:List Pt),(Ju acc qs).2=0→(Ju acc qs).1.Perm (qs++acc)
  | [],acc,_=>List.Perm.refl _
  |
   q::qs,acc,h=>by
   simp only [Ju] at h ⊢
   split
   · rename_i h0
     rw [if_pos h0] at h
     refine (Qb7 qs _ h).trans ?_
     exact ((Qw2 acc q).append_left qs).trans List.perm_middle
   · rename_i h0
     rw [if_neg h0] at h
     exact absurd h h0
theorem Qq0 {qs:List Pt} (hl:qs.length≤6) (hd:Gj qs):(Ju [] qs).2=0∧(Ju [] qs).1=Xa Mg qs:=by
  rcases Qqz hl with ⟨h1,h2,_,_⟩ | ⟨_,h2⟩
  · refine ⟨h1,Qcu h2 (Qfc hd) fun x=>?_⟩
    have h3:=Qb7 qs [] h1
    rw [List.append_nil] at h3
    rw [h3.mem_iff,U9]
  · exact absurd hd h2
end Orr

namespace Orr
open Go Go.Proofs
set_option maxRecDepth 10000
theorem Q1a {α:Type} {f:α→List LV} {lt:α→α→Bool} {O:List α} {c:α} {k:Nat} (hp:J7 lt O c O.length=k):(O.map f).take k++(f c::(O.map f).drop k)=(K5 lt O c).map f:=by
  simp [K5,hp,List.map_take,List.map_drop]
theorem Qg4 {α:Type} {f:α→List LV} {lt:α→α→Bool} {O:List α} {c:α} {k:Nat} (hp:J7 lt O c O.length=k):(O.map f).take k++([f c]++((O.map f).drop k).take ((O.map f).length-k))=(K5 lt O c).map f:=by
  rw [List.take_of_length_le (l:=(O.map f).drop k) (by simp)]
  exact Q1a hp
theorem Bm {lt:Pt→Pt→Bool} {O:List Pt} {c:Pt} {k:Nat} (hp:J7 lt O c O.length=k):(Q4 O).take k++([rpt c]++((Q4 O).drop k).take ((Q4 O).length-k))=Q4 (K5 lt O c):=Qg4 hp
theorem Yx (l:List Pt):(Q4 l).length=l.length:=by simp [Q4]
theorem Ce (l:List Pt):∀ c∈Q4 l,c.length=7:=fun c hc=>by obtain ⟨x,_,rfl⟩:=List.mem_map.1 hc; rfl
theorem J3 {l:List Pt} {i:Nat} {c:Pt} (h:l[i]? = some c):(Q4 l)[i]? = some (rpt c):=Z9 h
theorem Q0g {l:List Pt} (hn:l.length≤1000000):Qc Tryz.prog 86 [.one (.row (Q4 l))] [.one (.row (Q4 (Xa Mg l)))]:=by
  have hcl:=Yx l
  refine Z0 Tryz.func86 rfl ?_
  refine go tt [.o 3 112 7] rfl trivial ?_
  refine lp (S:=Nat) 1 (fun L1 i=>(8,.v (.one (.int .i64 (i:Int))))::(3,.v (.one (.orow 0 7 none)))::L1) (fun i=>[.row false 112 7 (Q4 (Xa Mg (l.take i)))]) (fun i=>l.length-i) (fun i=>i≤l.length) 0 (Nat.zero_le _) rfl (fun _ _=>rfl) rfl fun i hi=>?_
  by_cases hlt:i<l.length
  · obtain ⟨c,hc⟩:∃ c,l[i]? = some c:=⟨_,List.getElem?_eq_getElem hlt⟩
    have hst:Xa Mg (l.take (i+1))=K5 Mg (Xa Mg (l.take i)) c:=Ru hc
    obtain ⟨O,hO⟩:∃ O,O=Xa Mg (l.take i):=⟨_,rfl⟩
    have hOl:O.length=i:=by rw [hO,Ye,List.length_take]; omega
    have hrl:=Yx O
    rw [←hO] at hst ⊢
    refine go tt [.t (decide_eq_true (by omega))] rfl trivial ?_
    refine lp (S:=Nat) 1 (fun L1 k=>(5,.v (.one (.int .i64 (k:Int))))::L1) (fun _=>[.row false 112 7 (Q4 O)]) id (fun k=>k≤O.length∧J7 Mg O c k=J7 Mg O c O.length) (Q4 O).length ⟨by omega,by rw [hrl]⟩ rfl (fun _ _=>rfl) rfl fun k ⟨hk,hp⟩=>?_
    have h7:=Ce O
    have h7z:∀ y∈[rpt c],y.length=7:=fun y hy=>by rw [List.mem_singleton.1 hy]; rfl
    cases k with
    |
     zero =>
     have hp:J7 Mg O c O.length=0:=by rw [←hp]; rfl
     refine go tt [.g 15 false (by simp),.f rfl,.i 0,.x (J3 hc),.lo,.i 0,.s (sz:=7) (fun y hy=>h7 y (List.mem_of_mem_take hy)),.s (sz:=7) (fun y hy=>(List.mem_append.1 hy).elim (h7z y) fun hy=>h7 y (List.mem_of_mem_take hy))] rfl (by simp [Qa]; omega) ?_
     exact rd (i+1) (by omega) hlt (by rw [hst,←Bm hp]; rfl)
    |
     succ k =>
     obtain ⟨x,hx⟩:∃ x,O[k]? = some x:=⟨_,List.getElem?_eq_getElem (by omega)⟩
     by_cases hlc:Mg c x=true
     · refine go tt [.g 15 true (by simp),.x (J3 hc),.r 23 (eI (b:=(k:Int)) (by simp)),.i k,.x (J3 hx),.t hlc,.r 30 (eI (b:=(k:Int)) (by simp))] rfl (by simp [Qa]; omega) ?_
       exact rd k (by simp) ⟨by omega,by rw [←hp,B5 hx hlc]⟩ rfl
     · have hlc:Mg c x=false:=by simpa using hlc
       have hp:J7 Mg O c O.length=k+1:=by rw [←hp,Su hx hlc]
       refine go tt [.g 15 true (by simp),.x (J3 hc),.r 23 (eI (b:=(k:Int)) (by simp)),.i k,.x (J3 hx),.f hlc,.i (k+1),.x (J3 hc),.lo,.i (k+1),.s (sz:=7) (fun y hy=>h7 y (List.mem_of_mem_drop (List.mem_of_mem_take hy))),.s (sz:=7) (fun y hy=>(List.mem_append.1 hy).elim (h7z y) fun hy=>h7 y (List.mem_of_mem_drop (List.mem_of_mem_take hy)))] rfl (by simp [Qa]; omega) ?_
       exact rd (i+1) (by omega) hlt (by rw [hst,←Bm hp]; rfl)
  · obtain rfl:i=l.length:=by omega
    rw [List.take_length]
    exact en tt [.f (decide_eq_false (by omega))] rfl rfl trivial
end Orr

namespace Orr
open Go Go.Proofs
set_option maxRecDepth 10000
def Qav (q:Rat) (a b:Pt):Bool:=if Sa (Xn a.c b.c) q≠0 then decide (0<Sa (Xn a.c b.c) q) else if Sa (Jb a.c b.c) q≠0 then decide (0<Sa (Jb a.c b.c) q) else decide (a.id<b.id)
theorem Qp2 {a b:Pt} {q:Rat} {c:List (List Int)} (ha:Rs a.c) (hb:Rs b.c) (hq:Qs 1000000 q):Qc Tryz.prog 310 [.agg (rpt a),.agg (rpt b),.agg (aq q c)] [.one (.bool (Qav q a b))]:=by
  have c1:=Nv (p:=Xn a.c b.c) (c:=c) (Qd (Pz ha hb).1 (by decide)) (Nat.le_trans (Pz ha hb).2 (by decide)) hq
  have c2:=Nv (p:=Jb a.c b.c) (c:=c) (Qd (Py ha hb).1 (by decide)) (Nat.le_trans (Py ha hb).2 (by decide)) hq
  by_cases h1:Sa (Xn a.c b.c) q≠0
  · exact w tt Tryz.func310 rfl [.c [] (Tn ha hb),.c [] c1,.t (decide_eq_true h1)] rfl (by unfold Qav; rw [if_pos h1]) trivial
  by_cases h2:Sa (Jb a.c b.c) q≠0
  · exact w tt Tryz.func310 rfl [.c [] (Tn ha hb),.c [] c1,.f (decide_eq_false h1),.c [] (Id ha hb),.c [] c2,.t (decide_eq_true h2)] rfl (by unfold Qav; rw [if_neg h1,if_pos h2]) trivial
  · exact w tt Tryz.func310 rfl [.c [] (Tn ha hb),.c [] c1,.f (decide_eq_false h1),.c [] (Id ha hb),.c [] c2,.f (decide_eq_false h2)] rfl (by unfold Qav; rw [if_neg h1,if_neg h2]) trivial
theorem Qp4 {l:List Pt} {q:Rat} {cs:List (List Int)} (hl:∀ p∈l,Rs p.c) (hn:l.length≤1000000) (hq:Qs 1000000 q):Qc Tryz.prog 287 [.one (.row (Q4 l)),.agg (aq q cs)] [.one (.row (Q4 (Xa (Qav q) l)))]:=by
  have hcl:=Yx l
  obtain ⟨lt,hlt0⟩:∃ lt,lt=Qav q:=⟨_,rfl⟩
  rw [←hlt0]
  refine Z0 Tryz.func287 rfl ?_
  refine go tt [.o 5 112 7] rfl trivial ?_
  refine lp (S:=Nat) 2 (fun L1 i=>(10,.v (.one (.int .i64 (i:Int))))::(5,.v (.one (.orow 1 7 none)))::L1) (fun i=>[.blk 102 (aq q cs),.row false 112 7 (Q4 (Xa lt (l.take i)))]) (fun i=>l.length-i) (fun i=>i≤l.length) 0 (Nat.zero_le _) rfl (fun _ _=>rfl) rfl fun i hi=>?_
  by_cases hlt:i<l.length
  · obtain ⟨c,hc⟩:∃ c,l[i]? = some c:=⟨_,List.getElem?_eq_getElem hlt⟩
    have hst:Xa lt (l.take (i+1))=K5 lt (Xa lt (l.take i)) c:=Ru hc
    have hcp:=hl c (List.mem_of_getElem? hc)
    obtain ⟨O,hO⟩:∃ O,O=Xa lt (l.take i):=⟨_,rfl⟩
    have hOl:O.length=i:=by rw [hO,Ye,List.length_take]; omega
    have hOm:∀ x∈O,Rs x.c:=fun x hx=>by rw [hO,U9] at hx; exact hl x (List.mem_of_mem_take hx)
    have hrl:=Yx O
    rw [←hO] at hst ⊢
    refine go tt [.t (decide_eq_true (by omega))] rfl trivial ?_
    refine lp (S:=Nat) 2 (fun L1 k=>(7,.v (.one (.int .i64 (k:Int))))::L1) (fun _=>[.blk 102 (aq q cs),.row false 112 7 (Q4 O)]) id (fun k=>k≤O.length∧J7 lt O c k=J7 lt O c O.length) (Q4 O).length ⟨by omega,by rw [hrl]⟩ rfl (fun _ _=>rfl) rfl fun k ⟨hk,hp⟩=>?_
    have h7:=Ce O
    have h7z:∀ y∈[rpt c],y.length=7:=fun y hy=>by rw [List.mem_singleton.1 hy]; rfl
    cases k with
    |
     zero =>
     have hp:J7 lt O c O.length=0:=by rw [←hp]; rfl
     refine go tt [.g 17 false (by simp),.f rfl,.i 0,.x (J3 hc),.lo,.i 0,.s (sz:=7) (fun y hy=>h7 y (List.mem_of_mem_take hy)),.s (sz:=7) (fun y hy=>(List.mem_append.1 hy).elim (h7z y) fun hy=>h7 y (List.mem_of_mem_take hy))] rfl (by simp [Qa]; omega) ?_
     exact rd (i+1) (by omega) hlt (by rw [hst,←Bm hp]; rfl)
    |
     succ k =>
     obtain ⟨x,hx⟩:∃ x,O[k]? = some x:=⟨_,List.getElem?_eq_getElem (by omega)⟩
     have cb:=Qp2 (c:=cs) hcp (hOm x (List.mem_of_getElem? hx)) hq
     rw [←hlt0] at cb
     by_cases hlc:lt c x=true
     · refine go tt [.g 17 true (by simp),.x (J3 hc),.r 24 (eI (b:=(k:Int)) (by simp)),.i k,.x (J3 hx),.c [] cb,.t hlc,.r 31 (eI (b:=(k:Int)) (by simp))] rfl (by simp [Qa]; omega) ?_
       exact rd k (by simp) ⟨by omega,by rw [←hp,B5 hx hlc]⟩ rfl
     · have hlc:lt c x=false:=by simpa using hlc
       have hp:J7 lt O c O.length=k+1:=by rw [←hp,Su hx hlc]
       refine go tt [.g 17 true (by simp),.x (J3 hc),.r 24 (eI (b:=(k:Int)) (by simp)),.i k,.x (J3 hx),.c [] cb,.f hlc,.i (k+1),.x (J3 hc),.lo,.i (k+1),.s (sz:=7) (fun y hy=>h7 y (List.mem_of_mem_drop (List.mem_of_mem_take hy))),.s (sz:=7) (fun y hy=>(List.mem_append.1 hy).elim (h7z y) fun hy=>h7 y (List.mem_of_mem_drop (List.mem_of_mem_take hy)))] rfl (by simp [Qa]; omega) ?_
       exact rd (i+1) (by omega) hlt (by rw [hst,←Bm hp]; rfl)
  · obtain rfl:i=l.length:=by omega
    rw [List.take_length]
    exact en tt [.f (decide_eq_false (by omega))] rfl rfl trivial
def rct (c:Ct):List LV:=[.int .i64 c.kind,.int .i64 c.i0,.int .i64 c.i1,.int .i64 c.i2,.int .i64 c.i3,rp (zp c.p),.int .i64 c.want,.row [],.bool false]
def Jg (l:List Ct):List (List LV):=l.map rct
theorem Rr (l:List Ct):(Jg l).length=l.length:=by simp [Jg]
theorem Qh6 (l:List Ct):∀ c∈Jg l,c.length=9:=fun c hc=>by obtain ⟨x,_,rfl⟩:=List.mem_map.1 hc; rfl
theorem P3 {l:List Ct} {i:Nat} {c:Ct} (h:l[i]? = some c):(Jg l)[i]? = some (rct c):=Z9 h
theorem Qg3 {lt:Ct→Ct→Bool} {O:List Ct} {c:Ct} {k:Nat} (hp:J7 lt O c O.length=k):(Jg O).take k++([rct c]++((Jg O).drop k).take ((Jg O).length-k))=Jg (K5 lt O c):=Qg4 hp
theorem Q0i {k i0 i1 i2 i3 l j0 j1 j2 j3:Int}:Qc Tryz.prog 312 [.agg [.int .i64 k,.int .i64 i0,.int .i64 i1,.int .i64 i2,.int .i64 i3],.agg [.int .i64 l,.int .i64 j0,.int .i64 j1,.int .i64 j2,.int .i64 j3]] [.one (.bool (Xw [k,i0,i1,i2,i3] [l,j0,j1,j2,j3]))]:=by
  by_cases hk:k=l
  · subst hk
    rw [show Xw [k,i0,i1,i2,i3] [k,j0,j1,j2,j3]=Xw [i0,i1,i2,i3] [j0,j1,j2,j3] from by simp [Xw]]
    refine Z0 Tryz.func312 rfl ?_
    refine go tt [.f (by simp)] rfl trivial ?_
    refine lp (S:=Nat) 2 (fun L1 i=>(5,.v (.one (.int .i64 (i:Int))))::L1) (fun _=>[.blk 159 [.int .i64 k,.int .i64 i0,.int .i64 i1,.int .i64 i2,.int .i64 i3],.blk 159 [.int .i64 k,.int .i64 j0,.int .i64 j1,.int .i64 j2,.int .i64 j3]]) (fun i=>4-i) (fun i=>i≤4∧Xw ([i0,i1,i2,i3].drop i) ([j0,j1,j2,j3].drop i)=Xw [i0,i1,i2,i3] [j0,j1,j2,j3]) 0 ⟨by omega,rfl⟩ rfl (fun _ _=>rfl) rfl fun i ⟨hi,he⟩=>?_
    rw [←he]
    rcases (show i=0∨i=1∨i=2∨i=3∨i=4 by omega) with rfl | rfl | rfl | rfl | rfl
    · by_cases h:i0=j0
      · exact go tt [.t rfl,.i 0,.i 0,.f (by simpa using h)] rfl (by simp [Qa]) (rd 1 (by omega) ⟨by omega,by simp [Xw,h]⟩ rfl)
      · exact en tt [.t rfl,.i 0,.i 0,.t (by simpa using h),.i 0,.i 0] rfl (by simp [Xw,h]) trivial
    · by_cases h:i1=j1
      · exact go tt [.t rfl,.i 1,.i 1,.f (by simpa using h)] rfl (by simp [Qa]) (rd 2 (by omega) ⟨by omega,by simp [Xw,h]⟩ rfl)
      · exact en tt [.t rfl,.i 1,.i 1,.t (by simpa using h),.i 1,.i 1] rfl (by simp [Xw,h]) trivial
    · by_cases h:i2=j2
      · exact go tt [.t rfl,.i 2,.i 2,.f (by simpa using h)] rfl (by simp [Qa]) (rd 3 (by omega) ⟨by omega,by simp [Xw,h]⟩ rfl)
      · exact en tt [.t rfl,.i 2,.i 2,.t (by simpa using h),.i 2,.i 2] rfl (by simp [Xw,h]) trivial
    · by_cases h:i3=j3
      · exact go tt [.t rfl,.i 3,.i 3,.f (by simpa using h)] rfl (by simp [Qa]) (rd 4 (by omega) ⟨by omega,by simp [Xw,h]⟩ rfl)
      · exact en tt [.t rfl,.i 3,.i 3,.t (by simpa using h),.i 3,.i 3] rfl (by simp [Xw,h]) trivial
    · exact en tt [.f rfl] rfl (by simp [Xw]) trivial
  · exact w tt Tryz.func312 rfl [.t (by simpa using hk)] rfl (by simp [Xw,hk]) trivial
theorem Q0m {l:List Ct} (hn:l.length≤1000000):Qc Tryz.prog 289 [.one (.row (Jg l))] [.one (.row (Jg (Xa K9 l)))]:=by
  have hcl:=Rr l
  refine Z0 Tryz.func289 rfl ?_
  refine go tt [.o 3 265 9] rfl trivial ?_
  refine lp (S:=Nat) 1 (fun L1 i=>(8,.v (.one (.int .i64 (i:Int))))::(3,.v (.one (.orow 0 9 none)))::L1) (fun i=>[.row false 265 9 (Jg (Xa K9 (l.take i)))]) (fun i=>l.length-i) (fun i=>i≤l.length) 0 (Nat.zero_le _) rfl (fun _ _=>rfl) rfl fun i hi=>?_
  by_cases hlt:i<l.length
  · obtain ⟨c,hc⟩:∃ c,l[i]? = some c:=⟨_,List.getElem?_eq_getElem hlt⟩
    have hst:Xa K9 (l.take (i+1))=K5 K9 (Xa K9 (l.take i)) c:=Ru hc
    obtain ⟨O,hO⟩:∃ O,O=Xa K9 (l.take i):=⟨_,rfl⟩
    have hOl:O.length=i:=by rw [hO,Ye,List.length_take]; omega
    have hrl:=Rr O
    rw [←hO] at hst ⊢
    refine go tt [.t (decide_eq_true (by omega))] rfl trivial ?_
    refine lp (S:=Nat) 1 (fun L1 k=>(5,.v (.one (.int .i64 (k:Int))))::L1) (fun _=>[.row false 265 9 (Jg O)]) id (fun k=>k≤O.length∧J7 K9 O c k=J7 K9 O c O.length) (Jg O).length ⟨by omega,by rw [hrl]⟩ rfl (fun _ _=>rfl) rfl fun k ⟨hk,hp⟩=>?_
    have h7:=Qh6 O
    have h7z:∀ y∈[rct c],y.length=9:=fun y hy=>by rw [List.mem_singleton.1 hy]; rfl
    cases k with
    |
     zero =>
     have hp:J7 K9 O c O.length=0:=by rw [←hp]; rfl
     refine go tt [.g 15 false (by simp),.f rfl,.i 0,.x (P3 hc),.lo,.i 0,.s (sz:=9) (fun y hy=>h7 y (List.mem_of_mem_take hy)),.s (sz:=9) (fun y hy=>(List.mem_append.1 hy).elim (h7z y) fun hy=>h7 y (List.mem_of_mem_take hy))] rfl (by simp [Qa]; omega) ?_
     exact rd (i+1) (by omega) hlt (by rw [hst,←Qg3 hp]; rfl)
    |
     succ k =>
     obtain ⟨x,hx⟩:∃ x,O[k]? = some x:=⟨_,List.getElem?_eq_getElem (by omega)⟩
     have cb:=Q0i (k:=c.kind) (i0:=c.i0) (i1:=c.i1) (i2:=c.i2) (i3:=c.i3) (l:=x.kind) (j0:=x.i0) (j1:=x.i1) (j2:=x.i2) (j3:=x.i3)
     by_cases hlc:K9 c x=true
     · refine go tt [.g 15 true (by simp),.x (P3 hc),.r 23 (eI (b:=(k:Int)) (by simp)),.i k,.x (P3 hx),.c [] cb,.t hlc,.r 30 (eI (b:=(k:Int)) (by simp))] rfl (by simp [Qa]; omega) ?_
       exact rd k (by simp) ⟨by omega,by rw [←hp,B5 hx hlc]⟩ rfl
     · have hlc:K9 c x=false:=by simpa using hlc
       have hp:J7 K9 O c O.length=k+1:=by rw [←hp,Su hx hlc]
       refine go tt [.g 15 true (by simp),.x (P3 hc),.r 23 (eI (b:=(k:Int)) (by simp)),.i k,.x (P3 hx),.c [] cb,.f hlc,.i (k+1),.x (P3 hc),.lo,.i (k+1),.s (sz:=9) (fun y hy=>h7 y (List.mem_of_mem_drop (List.mem_of_mem_take hy))),.s (sz:=9) (fun y hy=>(List.mem_append.1 hy).elim (h7z y) fun hy=>h7 y (List.mem_of_mem_drop (List.mem_of_mem_take hy)))] rfl (by simp [Qa]; omega) ?_
       exact rd (i+1) (by omega) hlt (by rw [hst,←Qg3 hp]; rfl)
  · obtain rfl:i=l.length:=by omega
    rw [List.take_length]
    exact en tt [.f (decide_eq_false (by omega))] rfl rfl trivial
end Orr

namespace Orr
open Go Go.Proofs
set_option maxRecDepth 10000
abbrev sgq (q:Rat):List Int→Int:=fun p=>Zv p q
abbrev rzc:List LV:=[.int .i64 0,.int .i64 0,.int .i64 0,.int .i64 0,.int .i64 0,.nils,.int .i64 0,.nils,.bool false]
theorem Qtr {a b:Pt} {q:Rat} {c:List (List Int)} (ha:Rs a.c) (hb:Rs b.c) (hq:Qs 1000000 q):Qc Tryz.prog 311 [.one (.int .i64 1),.agg (aq q c),.one (.row [rpt a,rpt b])] [.agg (rct (Kj (sgq q) a b)),.one (.bool true)]:=by
  have hfl:=Ep (Xn a.c b.c)
  have x0:[rpt a,rpt b][0]? = some (rpt a):=rfl
  have x1:[rpt a,rpt b][1]? = some (rpt b):=rfl
  refine Z0 Tryz.func311 rfl ?_
  refine go tt [.g 14 false rfl,.g 18 false rfl,.x (l:=[[.int .i64 0],[.int .i64 2],[.int .i64 2],[.int .i64 3],[.int .i64 4],[.int .i64 4]]) (i:=1) (xs:=[.int .i64 2]) rfl,.f rfl] rfl trivial ?_
  refine lp (S:=Nat) 3 (fun L1 i=>(33,.v (.one (.int .i64 (i:Int))))::L1) (fun i=>[.blk 102 (aq q c),.blk 265 rzc,.blk 265 [.int .i64 1,.int .i64 (if 0<i then a.id else 0),.int .i64 (if 1<i then b.id else 0),.int .i64 0,.int .i64 0,.nils,.int .i64 0,.nils,.bool false]]) (fun i=>2-i) (fun i=>i≤2) 0 (by decide) rfl (fun _ _=>rfl) rfl fun i hi=>?_
  rcases (show i=0∨i=1∨i=2 by omega) with rfl | rfl | rfl
  · exact go tt [.t rfl,.x x0,.i 0] rfl (by simp [Qa]) (rd 1 (by omega) (by omega) rfl)
  · exact go tt [.t rfl,.x x1,.i 1] rfl (by simp [Qa]) (rd 2 (by omega) (by omega) rfl)
  by_cases h0:(Xn a.c b.c).length=0
  · have e:Wm a b=Jb a.c b.c:=if_neg (by omega)
    exact en tt [.f rfl,.t rfl,.x x0,.x x1,.c [] (Tn ha hb),.t (decide_eq_true (by omega)),.x x0,.x x1,.c [] (Id ha hb),.c [] (Nv (p:=Jb a.c b.c) (c:=c) (Qd (Py ha hb).1 (by decide)) (Nat.le_trans (Py ha hb).2 (by decide)) hq)] rfl (by unfold Kj; rw [e]; rfl) trivial
  · have e:Wm a b=Xn a.c b.c:=if_pos (by omega)
    exact en tt [.f rfl,.t rfl,.x x0,.x x1,.c [] (Tn ha hb),.f (decide_eq_false (by omega)),.c [] (Nv (p:=Xn a.c b.c) (c:=c) (Qd (Pz ha hb).1 (by decide)) (Nat.le_trans (Pz ha hb).2 (by decide)) hq)] rfl (by unfold Kj; rw [e]; rfl) trivial
theorem Q0n {a b:Pt} {q:Rat} {c:List (List Int)} (ha:Rs a.c) (hb:Rs b.c) (hq:Qs 1000000 q):Qc Tryz.prog 288 [.one (.int .i64 1),.agg (aq q c),.one (.row [rpt a,rpt b])] [.agg (rct (Kj (sgq q) a b))] :=
  w tt Tryz.func288 rfl [.c [] (Qtr ha hb hq)] rfl rfl trivial
def Cd (q:Rat) (l:List Pt):List Ct:=Xa K9 (Jn (sgq q) (Xa (Qav q) l))
theorem Qdn {l:List Pt} {q:Rat} {cs:List (List Int)} (hl:∀ p∈l,Rs p.c) (hn:l.length≤1000) (hq:Qs 1000000 q):Qc Tryz.prog 256 [.one (.row (Q4 l)),.agg (aq q cs)] [.one (.row (Jg (Cd q l)))]:=by
  have c1:=Qp4 (cs:=cs) hl (by omega) hq
  have hML:(Xa (Qav q) l).length=l.length:=Ye _ _
  have hMl:∀ p∈Xa (Qav q) l,Rs p.c:=fun p hp=>hl p (U9.1 hp)
  unfold Cd
  obtain ⟨M,hM⟩:∃ M,M=Xa (Qav q) l:=⟨_,rfl⟩
  rw [←hM] at c1 hML hMl ⊢
  have hcl:=Yx M
  have hrl:=U7 (sgq q) M
  have c2:=Q0m (l:=Jn (sgq q) M) (by omega)
  refine Z0 Tryz.func256 rfl ?_
  refine go tt [.c [] c1,.o 6 265 9] rfl trivial ?_
  refine lp (S:=Nat) 2 (fun L1 i=>(7,.v (.one (.int .i64 (i:Int))))::(6,.v (.one (.orow 1 9 none)))::L1) (fun i=>[.blk 102 (aq q cs),.row false 265 9 (Jg ((Jn (sgq q) M).take i))]) (fun i=>M.length-i) (fun i=>i≤M.length-1) 0 (Nat.zero_le _) rfl (fun _ _=>rfl) rfl fun i hi=>?_
  have htl:(Jg ((Jn (sgq q) M).take i)).length=i:=by rw [Rr,List.length_take]; omega
  by_cases hlt:i+1<M.length
  · obtain ⟨a,ha⟩:∃ a,M[i]? = some a:=⟨_,List.getElem?_eq_getElem (by omega)⟩
    obtain ⟨b,hb⟩:∃ b,M[i+1]? = some b:=⟨_,List.getElem?_eq_getElem hlt⟩
    have hg:=Lh (sgq q) ha hb
    have hm:∀ y∈[rct (Kj (sgq q) a b)],y.length=9:=fun y hy=>by rw [List.mem_singleton.1 hy]; rfl
    refine go tt [.t (decide_eq_true (by omega)),.x (J3 ha),.x (J3 hb),.c [] (Q0n (hMl a (List.mem_of_getElem? ha)) (hMl b (List.mem_of_getElem? hb)) hq),.s (sz:=9) hm] rfl (by simp [Qa,htl]; omega) ?_
    exact rd (i+1) (by omega) (by omega) (by rw [hg]; simp [Jg]; rfl)
  · have e:(Jn (sgq q) M).take i=Jn (sgq q) M:=List.take_of_length_le (by omega)
    rw [e]
    exact en tt [.f (decide_eq_false (by omega)),.c [] c2] rfl rfl (by simp [Qa]; omega)
theorem Qp3 {l:List Pt} {q:Rat} {cs:List (List Int)} (hl:∀ p∈l,Rs p.c) (hn:l.length≤1000) (hq:Qs 1000000 q):Qc Tryz.prog 209 [.one (.int .i64 0),.one (.row (Q4 l)),.agg (aq q cs)] [.one (.row (Jg (Cd q l)))] :=
  w tt Tryz.func209 rfl [.t rfl,.c [] (Qdn hl hn hq)] rfl rfl trivial
theorem Qi7 {l:List Pt} {q:Rat} {cs:List (List Int)} (hl:∀ p∈l,Rs p.c) (hn:l.length≤1000) (hq:Qs 1000000 q):Qc Tryz.prog 149 [.one (.int .i64 0),.one (.row (Q4 l)),.agg (aq q cs)] [.one (.row (Jg (Cd q l)))] :=
  w tt Tryz.func149 rfl [.c [] (Qp3 hl hn hq)] rfl rfl trivial
theorem Qtq {l:List Ct} (hn:l.length≤1000000):Qc Tryz.prog 148 [.one (.row []),.one (.row (Jg l))] [.one (.row (Jg l))]:=by
  have hcl:=Rr l
  refine Z0 Tryz.func148 rfl ?_
  refine go tt [] rfl trivial ?_
  refine lp (S:=Nat) 0 (fun L1 i=>(9,.v (.one (.int .i64 (i:Int))))::L1) (fun _=>[]) (fun i=>l.length-i) (fun i=>i≤l.length) 0 (Nat.zero_le _) rfl (fun _ _=>rfl) rfl fun i hi=>?_
  by_cases hlt:i<l.length
  · refine go tt [.t (decide_eq_true (by omega))] rfl trivial ?_
    refine lp (S:=Nat) 0 (fun L1 k=>(14,.v (.one (.int .i64 (k:Int))))::L1) (fun _=>[]) (fun k=>0-k) (fun k=>k=0) 0 rfl rfl (fun _ _=>rfl) rfl fun k hk=>?_
    subst hk
    exact go tt [.f rfl] rfl (by simp [Qa]; omega) (rd (i+1) (by omega) hlt rfl)
  · exact en tt [.f (decide_eq_false (by omega))] rfl rfl trivial
end Orr

namespace Orr
open Go Go.Proofs
set_option maxRecDepth 10000
theorem Q1k (l:List Nat) (n:Nat):(lm l).take (min l.length n)=lm (l.take n):=by
  rw [lm,lm,←List.map_take]
  rcases Nat.le_total l.length n with h | h
  · rw [Nat.min_eq_left h,List.take_length,List.take_of_length_le h]
  · rw [Nat.min_eq_right h]
theorem Q5f {l:List Nat} {n:Nat} (hn:n≤1000):Qc Tryz.prog 246 [.one (.row (lm l)),.one (.int .i64 (n:Int))] [.one (.row (lm (l.take n)))]:=by
  rw [←Q1k]
  have hll:(lm l).length=l.length:=by simp [lm]
  exact w tt Tryz.func246 rfl [.r 9 (eI (b:=((min l.length n:Nat):Int)) (by omega)),.i (min l.length n)] rfl rfl (by simp [Qa,hll]; omega)
theorem Qtb {z:RawInt}:Qc Tryz.prog 203 [.agg (Lf z),.one (.int .i64 1)] [.agg (Lf z.cut)] :=
  w tt Tryz.func203 rfl [.c [] (Q5f (l:=z.l) (n:=1) (by decide))] rfl rfl trivial
def Mq (l:List RawInt):List (List LV):=l.map Lf
theorem P4 (l:List RawInt):(Mq l).length=l.length:=by simp [Mq]
theorem Qmk {l:List RawInt}:Qc Tryz.prog 202 [.one (.row (Mq l)),.one (.int .i64 3),.one (.int .i64 1)] [.one (.row (Mq ((l.take 3).map RawInt.cut)))]:=by
  have hll:=P4 l
  refine Z0 Tryz.func202 rfl (ln 0 rfl rfl fun hzl=>?_)
  rw [hll] at hzl
  refine go tt [.o 7 29 2] rfl trivial ?_
  refine lp (S:=Nat) 1 (fun L1 i=>(8,.v (.one (.int .i64 (i:Int))))::(7,.v (.one (.orow 0 2 none)))::L1) (fun i=>[.row false 29 2 (Mq ((l.take i).map RawInt.cut))]) (fun i=>3-i) (fun i=>i≤3∧i≤l.length) 0 ⟨by decide,Nat.zero_le _⟩ rfl (fun _ _=>rfl) rfl fun i ⟨hi,hi2⟩=>?_
  have hil:(Mq ((l.take i).map RawInt.cut)).length=i:=by rw [P4,List.length_map,List.length_take]; omega
  by_cases h1:i<l.length
  · by_cases h2:i<3
    · obtain ⟨z,hz⟩:∃ z,l[i]? = some z:=⟨_,List.getElem?_eq_getElem h1⟩
      have hm:∀ y∈[Lf z.cut],y.length=2:=fun y hy=>by rw [List.mem_singleton.1 hy]; rfl
      refine go tt [.g 13 true (decide_eq_true (by omega)),.t (decide_eq_true (by omega)),.x (Z9 (f:=Lf) hz),.c [] Qtb,.s (sz:=2) hm] rfl (by simp [Qa,hil,-List.map_take]; omega) ?_
      exact rd (i+1) (by omega) ⟨h2,h1⟩ (by rw [List.take_succ,hz]; simp [Mq]; rfl)
    · have e:i=3:=by omega
      have e2:l.take 3=l.take i:=by rw [e]
      rw [e2]
      exact en tt [.g 13 true (decide_eq_true (by omega)),.f (decide_eq_false (by omega))] rfl rfl trivial
  · have e:l.take i=l.take 3:=by rw [List.take_of_length_le (by omega),List.take_of_length_le (by omega)]
    rw [e]
    exact en tt [.g 13 false (decide_eq_false (by omega)),.f rfl] rfl rfl trivial
abbrev rcw (z:RawPt):List LV:=[.row (Mq z.x),.row (Mq z.y),.bool z.d.b,.row (lm z.d.l)]
def RawPt.cut (z:RawPt):RawPt:=⟨(z.x.take 3).map RawInt.cut,(z.y.take 3).map RawInt.cut,z.d.cut,z.id⟩
theorem Q73 {z:RawPt}:Qc Tryz.prog 144 [.agg (rcw z),.one (.int .i64 3),.one (.int .i64 1)] [.agg (rcw z.cut)] :=
  w tt Tryz.func144 rfl [.c [] (Qmk (l:=z.x)),.c [] (Qmk (l:=z.y)),.c [] (Qtb (z:=z.d))] rfl rfl trivial
theorem Nt {z:RawInt} (hz:z.Ok) {most:Int} (hm:0≤most∧most≤999):Qc Tryz.prog 204 [.agg (Lf z),.one (.int .i64 most)] [.agg (Zf (Ja most z))]:=by
  obtain ⟨b,l⟩:=z
  have hb:=M3 hm.1 ⟨b,l⟩
  have hs:Qm (Ja most ⟨b,l⟩)≤100000000:=Nat.le_trans (Jt.2 (show (Ja most ⟨b,l⟩).natAbs<2^10 by omega)) (by decide)
  cases l with
  | nil=>exact w tt Tryz.func204 rfl [.t rfl] rfl (by simp [Ja,Fo]) trivial
  |
   cons u l =>
   have hu:=hz.u u (List.mem_cons_self ..)
   have co:=Uq (n:=Ja most ⟨b,u::l⟩) (by omega)
   have ct:=Qs1 hs
   have hr:Int.tmod (u:Int) (most+1)=(u:Int) % (most+1):=Int.tmod_eq_emod_of_nonneg (by omega)
   have h1:=Int.emod_nonneg (u:Int) (b:=most+1) (by omega)
   have h2:=Int.emod_lt_of_pos (u:Int) (b:=most+1) (by omega)
   cases b with
   |
    true =>
    rw [show Ja most ⟨true,u::l⟩=-((u:Int) % (most+1)) from rfl] at co ct ⊢
    exact w tt Tryz.func204 rfl [.f (decide_eq_false (by simp [lm]; try omega)),.x (l:=lm (u::l)) (i:=0) (xs:=[.int .u32 (u:Int)]) rfl,.r 18 (eI hr),.t rfl,.c [] co,.c [] ct] rfl rfl (by simp [Qa]; omega)
   |
    false =>
    rw [show Ja most ⟨false,u::l⟩=(u:Int) % (most+1) from rfl] at co ct ⊢
    exact w tt Tryz.func204 rfl [.f (decide_eq_false (by simp [lm]; try omega)),.x (l:=lm (u::l)) (i:=0) (xs:=[.int .u32 (u:Int)]) rfl,.r 18 (eI hr),.f rfl,.c [] co,.c [] ct] rfl rfl (by simp [Qa]; omega)
end Orr

namespace Orr
open Go Go.Proofs
set_option maxRecDepth 10000
theorem oz2 {P:Program} [Mo P] {n:Nat} {Q:Exit→Sg→List OB→Prop} {L L':Sg} {B B':List OB} (d off T sz:Nat) {it:List It} (hs:Jp it=true) (h:Qwv (P:=P) d L B [.oc d off T sz]=some (L',B',[],[])) (k:AK P n Q it L' B'):AK P n Q it L B:=AK.sub (Qkv h EqOk.nil) hs k
theorem pz {P:Program} [Mo P] {n:Nat} {Q:Exit→Sg→List OB→Prop} {L L':Sg} {B B':List OB} (i:Nat) {it:List It} (hs:Jp it=true) (h:Qwz [i] L B=some (L',B')) (k:AK P n Q it L' B'):AK P n Q it L B:=AK.sub (Am h) hs k
def Hf (l:List Int):List (List LV):=l.map Zf
theorem Qqw (l:List Int):(Hf l).length=l.length:=by simp [Hf]
theorem D4 {most:Int} {l:List RawInt} {i:Nat} {a:RawInt} (hi:i<3) (h:l[i]? = some a):Hf (Zz most (l.take (i+1)))=Hf (Zz most (l.take i))++[Zf (Ja most a)]:=by
  rw [Qee hi h]; simp [Hf]
theorem Qed {most:Int} {l:List RawInt} {i:Nat} (hi:i≤3) (h:i≤l.length):(Hf (Zz most (l.take i))).length=i:=by
  rw [Qqw]; unfold Zz; rw [List.length_map,List.length_take,List.length_take]; omega
theorem Qsj {z:RawPt} (hz:z.Ok) {most:Int} (hm:0≤most∧most≤999):Qc Tryz.prog 145 [.agg (rcw z),.one (.int .i64 most)] [.agg (cl4 (Bq most z.x z.y z.d))]:=by
  have hxl:=P4 z.x
  have hyl:=P4 z.y
  obtain ⟨D,hD⟩:∃ D,D=Ja 3 z.d:=⟨_,rfl⟩
  have cd:=Nt hz.d (most:=3) (by decide)
  have hx0:∀ {i:Nat},z.x.length≤i∨3≤i→Zz most (z.x.take i)=Zz most z.x:=L8 most
  have hy0:∀ {i:Nat},z.y.length≤i∨3≤i→Zz most (z.y.take i)=Zz most z.y:=L8 most
  unfold Bq
  rw [←hD] at cd ⊢
  refine Z0 Tryz.func145 rfl ?_
  refine go tt [.c [] cd] rfl trivial ?_
  refine oz2 5 0 29 2 rfl rfl ?_
  refine lp (S:=Nat) 4 (fun L1 i=>(6,.v (.one (.int .i64 (i:Int))))::L1) (fun i=>[.blk 31 (rcw z),.blk 31 [.nils,.nils,.bool false,.nils],.blk 31 [.orow 3 2 none,.nils,sg D,mg D],.row false 29 2 (Hf (Zz most (z.x.take i)))]) (fun i=>3-i) (fun i=>i≤3∧i≤z.x.length) 0 ⟨by decide,Nat.zero_le _⟩ rfl (fun _ _=>rfl) rfl fun i ⟨hi,hi2⟩=>?_
  have hll:=Qed (most:=most) hi hi2
  by_cases hr:i<z.x.length∧i<3
  · obtain ⟨a,ha⟩:∃ a,z.x[i]? = some a:=⟨_,List.getElem?_eq_getElem hr.1⟩
    have hs:∀ y∈[Zf (Ja most a)],y.length=2:=fun y hy=>by rw [List.mem_singleton.1 hy]; rfl
    refine go tt [.g 17 true (decide_eq_true (by omega)),.t (decide_eq_true (by omega)),.x (Z9 (f:=Lf) ha),.c [] (Nt (hz.x a (List.mem_of_getElem? ha)) hm),.s (sz:=2) hs] rfl (by simp [Qa,hll]; omega) ?_
    exact rd (i+1) (by omega) ⟨hr.2,hr.1⟩ (by rw [D4 hr.2 ha]; rfl)
  have hg1:decide ((i:Int)<((Mq z.x).length:Int))=true→i<z.x.length:=fun h=>by have:=of_decide_eq_true h; omega
  rw [hx0 (by omega)]
  clear hll
  have hfin:∀ {j:Nat},j≤3∧j≤z.y.length→¬(j<z.y.length∧j<3)→Hf (Zz most (z.y.take j))=Hf (Zz most z.y):=fun h1 h2=>by rw [hy0 (by omega)]
  by_cases hxx:i<z.x.length
  · refine go tt [.g 17 true (decide_eq_true (by omega)),.f (decide_eq_false (by omega))] rfl trivial ?_
    refine pz 3 rfl rfl ?_
    refine oz2 5 1 29 2 rfl rfl ?_
    refine lp (S:=Nat) 5 (fun L1 j=>(7,.v (.one (.int .i64 (j:Int))))::L1) (fun j=>[.blk 31 (rcw z),.blk 31 [.nils,.nils,.bool false,.nils],.blk 31 [.row (Hf (Zz most z.x)),.orow 4 2 none,sg D,mg D],.gone,.row false 29 2 (Hf (Zz most (z.y.take j)))]) (fun j=>3-j) (fun j=>j≤3∧j≤z.y.length) 0 ⟨by decide,Nat.zero_le _⟩ rfl (fun _ _=>rfl) rfl fun j ⟨hj,hj2⟩=>?_
    have hll:=Qed (most:=most) hj hj2
    by_cases hr:j<z.y.length∧j<3
    · obtain ⟨a,ha⟩:∃ a,z.y[j]? = some a:=⟨_,List.getElem?_eq_getElem hr.1⟩
      have hs:∀ y∈[Zf (Ja most a)],y.length=2:=fun y hy=>by rw [List.mem_singleton.1 hy]; rfl
      refine go tt [.g 40 true (decide_eq_true (by omega)),.t (decide_eq_true (by omega)),.x (Z9 (f:=Lf) ha),.c [] (Nt (hz.y a (List.mem_of_getElem? ha)) hm),.s (sz:=2) hs] rfl (by simp [Qa,hll]; omega) ?_
      exact rd (j+1) (by omega) ⟨hr.2,hr.1⟩ (by rw [D4 hr.2 ha]; rfl)
    rw [hfin ⟨hj,hj2⟩ hr]
    by_cases hyy:j<z.y.length
    · exact ed tt [4] [] [.g 40 true (decide_eq_true (by omega)),.f (decide_eq_false (by omega))] rfl trivial
    · exact ed tt [4] [] [.g 40 false (decide_eq_false (by omega)),.f rfl] rfl trivial
  · refine go tt [.g 17 false (decide_eq_false (by omega)),.f rfl] rfl trivial ?_
    refine pz 3 rfl rfl ?_
    refine oz2 5 1 29 2 rfl rfl ?_
    refine lp (S:=Nat) 5 (fun L1 j=>(7,.v (.one (.int .i64 (j:Int))))::L1) (fun j=>[.blk 31 (rcw z),.blk 31 [.nils,.nils,.bool false,.nils],.blk 31 [.row (Hf (Zz most z.x)),.orow 4 2 none,sg D,mg D],.gone,.row false 29 2 (Hf (Zz most (z.y.take j)))]) (fun j=>3-j) (fun j=>j≤3∧j≤z.y.length) 0 ⟨by decide,Nat.zero_le _⟩ rfl (fun _ _=>rfl) rfl fun j ⟨hj,hj2⟩=>?_
    have hll:=Qed (most:=most) hj hj2
    by_cases hr:j<z.y.length∧j<3
    · obtain ⟨a,ha⟩:∃ a,z.y[j]? = some a:=⟨_,List.getElem?_eq_getElem hr.1⟩
      have hs:∀ y∈[Zf (Ja most a)],y.length=2:=fun y hy=>by rw [List.mem_singleton.1 hy]; rfl
      refine go tt [.g 40 true (decide_eq_true (by omega)),.t (decide_eq_true (by omega)),.x (Z9 (f:=Lf) ha),.c [] (Nt (hz.y a (List.mem_of_getElem? ha)) hm),.s (sz:=2) hs] rfl (by simp [Qa,hll]; omega) ?_
      exact rd (j+1) (by omega) ⟨hr.2,hr.1⟩ (by rw [D4 hr.2 ha]; rfl)
    rw [hfin ⟨hj,hj2⟩ hr]
    by_cases hyy:j<z.y.length
    · exact ed tt [4] [] [.g 40 true (decide_eq_true (by omega)),.f (decide_eq_false (by omega))] rfl trivial
    · exact ed tt [4] [] [.g 40 false (decide_eq_false (by omega)),.f rfl] rfl trivial
theorem Qmd {n d:Int} (hn:-9223372036854775808≤n∧n≤9223372036854775807) (hd:-9223372036854775808≤d∧d≤9223372036854775807):Qc Tryz.prog 32 [.one (.int .i64 n),.one (.int .i64 d)] [.agg (fr (Zd (Uk n 61-30) (1+Uk d 6)))]:=by
  have h1:Uk n 61=n % 61:=rfl
  have h2:Uk d 6=d % 6:=rfl
  exact w tt Tryz.func32 rfl [.c [] (Nq (v:=n) (n:=61) hn (by decide)),.c [] (Nq (v:=d) (n:=6) hd (by decide)),.c [] (Q78 (n:=Uk n 61-30) (d:=1+Uk d 6) (by omega) (by omega))] rfl rfl (by simp [Qa]; omega)
end Orr

namespace Orr
open Go Go.Proofs
set_option maxRecDepth 10000
def rwq (z:RawPt):List LV:=rcw z++[.int .i64 z.id]
def Cg (l:List RawPt):List (List LV):=l.map rwq
theorem Qre (l:List RawPt):(Cg l).length=l.length:=by simp [Cg]
theorem Qe9 {l:List RawPt} {i:Nat} {z:RawPt} (h:l[i]? = some z):(Cg l)[i]? = some (rwq z):=Z9 h
theorem Q5m {most:Int} (hm:0≤most∧most≤999) (z:RawPt):Cs 100000 16 (Pv most z).c:=(Qa5 hm z.x z.y z.d).mono (by decide) (by decide)
def Hs (n:Nat) (most:Int) (zs:List RawPt) (i:Nat):List Pt:=Lb n most (zs.take i)
theorem Qwx (n:Nat) (most:Int) (zs:List RawPt) (i:Nat):(Hs n most zs i).length≤n:=Tz _ _ (Nat.zero_le _)
theorem Q17 {n:Nat} {most:Int} {zs:List RawPt} {i:Nat} {z:RawPt} (h:zs[i]? = some z) (hl:(Hs n most zs i).length<n) (ha:(Hs n most zs i).any (fun x=>decide (x.id=(Pv most z).id))=true):Hs n most zs (i+1)=Hs n most zs i:=by
  unfold Hs Lb at *
  rw [List.take_succ,h,Option.toList_some,List.map_append]
  exact Rg _ _ _ hl ha
theorem Qwy {n:Nat} {most:Int} {zs:List RawPt} {i:Nat} {z:RawPt} (h:zs[i]? = some z) (hl:(Hs n most zs i).length<n) (ha:(Hs n most zs i).any (fun x=>decide (x.id=(Pv most z).id))=false):Hs n most zs (i+1)=Hs n most zs i++[Pv most z]:=by
  unfold Hs Lb at *
  rw [List.take_succ,h,Option.toList_some,List.map_append]
  exact Gn _ _ _ hl ha
theorem Qww {n:Nat} {most:Int} {zs:List RawPt} {i:Nat} (h:¬(i<zs.length∧(Hs n most zs i).length<n)):Hs n most zs i=Lb n most zs:=by
  by_cases h1:i<zs.length
  · have hl:n≤(Hs n most zs i).length:=Nat.le_of_not_lt fun h2=>h ⟨h1,h2⟩
    unfold Hs Lb at *
    conv=>rhs; rw [←List.take_append_drop i zs,List.map_append]
    exact (Ds _ _ _ hl).symm
  · unfold Hs; rw [List.take_of_length_le (by omega)]
theorem Qr1 {f:Pt→Bool} {l:List Pt} {k:Nat} {x:Pt} (h:l[k]? = some x):(l.take (k+1)).any f=((l.take k).any f || f x):=by
  rw [List.take_succ,h]; simp
theorem Qpt {zs:List RawPt} (hz:∀ z∈zs,z.Ok):Xv Tryz.prog 85 [.one (.row (Cg zs)),.one (.int .i64 4)] [] [.one (.orow 0 5 none),.one (.orow 1 7 none)] [.row false 35 5 (Qt (Lb 4 20 zs)),.row false 112 7 (Q4 ((Lb 4 20 zs).map Pt.nrm))]:=by
  have hzl:=Qre zs
  refine Z0 Tryz.func85 rfl (ln 0 rfl rfl fun hz63=>?_)
  rw [hzl] at hz63
  refine go tt [.o 6 35 5,.o 7 112 7] rfl trivial ?_
  refine lp (S:=Nat) 2 (fun L1 i=>(8,.v (.one (.int .i64 (i:Int))))::(6,.v (.one (.orow 0 5 none)))::(7,.v (.one (.orow 1 7 none)))::L1) (fun i=>[.row false 35 5 (Qt (Hs 4 20 zs i)),.row false 112 7 (Q4 ((Hs 4 20 zs i).map Pt.nrm))]) (fun i=>zs.length-i) (fun i=>i≤zs.length) 0 (Nat.zero_le _) rfl (fun _ _=>rfl) rfl fun i hi=>?_
  have hOl:=Qwx 4 20 zs i
  have hend:=Qww (n:=4) (most:=20) (zs:=zs) (i:=i)
  by_cases h1:i<zs.length
  · by_cases h2:(Hs 4 20 zs i).length<4
    · obtain ⟨z,hzi⟩:∃ z,zs[i]? = some z:=⟨_,List.getElem?_eq_getElem h1⟩
      have hzok:=hz z (List.mem_of_getElem? hzi)
      have hin:=Q17 hzi h2
      have hout:=Qwy hzi h2
      obtain ⟨O,hO⟩:∃ O,O=Hs 4 20 zs i:=⟨_,rfl⟩
      rw [←hO] at hOl h2 hin hout ⊢
      have hpl:=Vh O
      have hrl:(Q4 (O.map Pt.nrm)).length=O.length:=by rw [Yx,List.length_map]
      obtain ⟨p,hp⟩:∃ p,p=Pv 20 z:=⟨_,rfl⟩
      have hid:Uk z.id 1000=p.id:=by rw [hp]; rfl
      have cw:=Nq (v:=z.id) (n:=1000) hzok.id (by decide)
      have cl:=Qsj hzok (most:=20) (by decide)
      have ecl:cl4 (Bq 20 z.x z.y z.d)=cl4 p.c:=by rw [hp]; rfl
      rw [hid] at cw
      rw [ecl] at cl
      rw [←hp] at hin hout
      refine go tt [.g 16 true (decide_eq_true (by omega)),.t (decide_eq_true (by omega)),.x (Qe9 hzi),.c [] (Q73 (z:=z)),.x (Qe9 hzi),.c [] cw,.f rfl,.t rfl,.x (Qe9 hzi),.c [] cl] rfl trivial ?_
      refine lp (S:=Nat) 3 (fun L1 k=>(57,.v (.one (.int .i64 (k:Int))))::(10,.v (.one (.bool ((O.take k).any (fun x=>decide (x.id=p.id))))))::L1) (fun _=>[.row false 35 5 (Qt O),.row false 112 7 (Q4 (O.map Pt.nrm)),.blk 35 [pl p.c.x,pl p.c.y,sg p.c.d,mg p.c.d,.int .i64 p.id]]) (fun k=>O.length-k) (fun k=>k≤O.length) 0 (Nat.zero_le _) rfl (fun _ _=>rfl) rfl fun k hk=>?_
      by_cases hk2:k<O.length
      · obtain ⟨x,hx⟩:∃ x,O[k]? = some x:=⟨_,List.getElem?_eq_getElem hk2⟩
        have ha:=Qr1 (f:=fun x=>decide (x.id=p.id)) hx
        cases hb:(O.take k).any (fun x=>decide (x.id=p.id)) with
        |
         true =>
         rw [hb,Bool.true_or] at ha
         exact go tt [.t (decide_eq_true (by omega)),.g 61 true rfl] rfl (by simp [Qa]; omega) (rd (k+1) (by omega) hk2 (by rw [ha]; rfl))
        |
         false =>
         rw [hb,Bool.false_or] at ha
         exact go tt [.t (decide_eq_true (by omega)),.g 61 false rfl,.i k,.x (Ks hx)] rfl (by simp [Qa,hpl]; omega) (rd (k+1) (by omega) hk2 (by rw [ha]; rfl))
      have hk3:O.take k=O:=List.take_of_length_le (by omega)
      rw [hk3]
      cases hb:O.any (fun x=>decide (x.id=p.id)) with
      |
       true =>
       refine go tt [.f (decide_eq_false (by omega)),.f rfl] rfl (by simp [Qa]; omega) ?_
       exact rd (i+1) (by omega) h1 (by rw [hin hb]; rfl)
      |
       false =>
       have cf:=Qtp (k:=p.c) (id:=p.id) (by rw [hp]; exact Q5m (by decide) z)
       have hm1:∀ y∈[Vw p],y.length=5:=fun y hy=>by rw [List.mem_singleton.1 hy]; rfl
       have hm2:∀ y∈[rpt p.nrm],y.length=7:=fun y hy=>by rw [List.mem_singleton.1 hy]; rfl
       have e1:Qt (O++[p])=Qt O++[Vw p]:=by simp [Qt]
       have e2:Q4 ((O++[p]).map Pt.nrm)=Q4 (O.map Pt.nrm)++[rpt p.nrm]:=by simp [Q4]
       refine go tt [.f (decide_eq_false (by omega)),.t rfl,.s (sz:=5) hm1,.c [] cf,.s (sz:=7) hm2] rfl (by simp [Qa,hpl,hrl]; omega) ?_
       exact rd (i+1) (by omega) h1 (by rw [hout hb,e1,e2]; rfl)
    · rw [hend (fun h=>h2 h.2)]
      rw [hend (fun h=>h2 h.2)] at h2
      have hpl:=Vh (Lb 4 20 zs)
      exact ed tt [] [0,1] [.g 16 true (decide_eq_true (by omega)),.f (decide_eq_false (by omega))] rfl trivial
  · rw [hend (fun h=>h1 h.1)]
    exact ed tt [] [0,1] [.g 16 false (decide_eq_false (by omega)),.f rfl] rfl trivial
end Orr

namespace Orr
open Go Go.Proofs
set_option maxRecDepth 10000
abbrev plZ (M:List Pt) (q:Rat):List LV:=.row (Q4 M)::(fr q++[.nils,.nils,.nils,.bool false,.nils,.bool false,.nils,.bool false,.nils,.bool false,.nils,.int .i64 0,.nils])
abbrev plB (M:List Pt) (q:Rat) (c:List (List Int)) (w:List Ct):List LV:=.row (Q4 M)::(fr q++(aq q c++[.row (Jg w),.int .i64 0,.nils]))
theorem Qjm {M:List Pt} {q:Rat} {c:List (List Int)} (hM:∀ p∈M,Rs p.c) (hl:M.length≤1000) (hq:Qs 1000000 q) (hC:Qlx q c):Xv Tryz.prog 105 [.one (.ow 0 0)] [.blk 128 (plZ M q)] [] [.blk 128 (plB M q c (Cd q M))]:=by
  have hw:(Cd q M).length≤1000000:=by
    unfold Cd
    rw [Ye,U7,Ye]; omega
  refine Z0 Tryz.func105 rfl ?_
  exact ed tt [] [0] [.c [] (Qf5 hq hC),.c [] (Qi7 (cs:=c) hM hl hq),.c [] (Qtq hw)] rfl trivial
end Orr

namespace Orr
open Go Go.Proofs Orq
set_option maxRecDepth 10000
theorem Q00 {O:List Pt} {e j:Nat} (h:Gj (J5 O e)) (hj:j≤e):Gj (J5 O j):=by
  have:J5 O j=(J5 O e).take j:=by unfold J5; rw [←List.map_take,List.take_take,Nat.min_eq_left hj]
  rw [this]
  exact List.Pairwise.sublist (List.take_sublist _ _) h
theorem Q5o (O:List Pt):∃ e,e≤O.length∧Gj (J5 O e)∧(e<O.length→¬Gj (J5 O (e+1))):=by
  have key:∀ k,Gj (J5 O k)∨∃ e,e<k∧Gj (J5 O e)∧¬Gj (J5 O (e+1)):=by
    intro k
    induction k with
    | zero=>exact .inl List.Pairwise.nil
    |
     succ k ih =>
     rcases ih with h | ⟨e,h1,h2,h3⟩
     · by_cases h4:Gj (J5 O (k+1))
       · exact .inl h4
       · exact .inr ⟨k,Nat.lt_succ_self k,h,h4⟩
     · exact .inr ⟨e,by omega,h2,h3⟩
  rcases key O.length with h | ⟨e,h1,h2,h3⟩
  · exact ⟨O.length,Nat.le_refl _,h,fun h=>absurd h (Nat.lt_irrefl _)⟩
  · exact ⟨e,by omega,h2,fun _=>h3⟩
theorem Qev {O:List Pt} {i:Nat} {p:Pt} (h:O[i]? = some p):(Qt (Pw O i)).set i [pl p.c.x,pl p.c.y,sg p.c.d,mg p.c.d,.int .i64 p.m5.id]=Qt (Pw O (i+1)):=by
  rw [←Qn4 h]; simp only [Qt,List.map_set]; rfl
theorem Qaw {O:List Pt} {i:Nat} {p:Pt} (h:O[i]? = some p):(Q4 ((Pw O i).map Pt.nrm)).set i [rp (Nl p.nrm.c.x p.nrm.c.d),rp (Nl p.nrm.c.y p.nrm.c.d),pl p.nrm.c.x,pl p.nrm.c.y,sg p.nrm.c.d,mg p.nrm.c.d,.int .i64 p.m5.id]=Q4 ((Pw O (i+1)).map Pt.nrm):=by
  rw [←Qn4 h]; simp only [Q4,List.map_set]; rfl
theorem Qq8 {O:List Pt} {e i:Nat} (h:e≤i) (hi:i≤O.length):(Qt (Pw O i)).take e=Qt (J5 O e):=by
  unfold Qt; rw [←List.map_take,Qhg h hi]; rfl
theorem Qk9 {O:List Pt} {e i:Nat} (h:e≤i) (hi:i≤O.length):(Q4 ((Pw O i).map Pt.nrm)).take e=Q4 (Mf O e):=by
  unfold Q4; rw [←List.map_take,←List.map_take,Qhg h hi]; rfl
theorem Qhf {O:List Pt}:Pw O O.length=J5 O O.length:=by unfold Pw J5; simp
abbrev Wq (n d:Int):Rat:=Zd (Uk n 61-30) (1+Uk d 6)
theorem Ll (n d:Int):Qs 100 (Wq n d):=by
  have h1:Uk n 61=n % 61:=rfl
  have h2:Uk d 6=d % 6:=rfl
  unfold Wq Zd
  rw [if_neg (by omega)]
  exact Qs.divInt (Nat.le_trans (Jt.2 (show (Uk n 61-30).natAbs<2^10 by omega)) (by decide)) (Nat.le_trans (Jt.2 (show (1+Uk d 6).natAbs<2^10 by omega)) (by decide)) (by decide)
theorem Q18 {n:Nat} {most:Int} {l:List RawPt}:∀ p∈Lb n most l,0≤p.id∧p.id<1000:=fun p hp=>by
  rcases Bf _ _ hp with h | h
  · cases h
  · obtain ⟨z,_,rfl⟩:=List.mem_map.1 h
    exact ⟨Int.emod_nonneg _ (by decide),Int.emod_lt_of_pos _ (by decide)⟩
theorem Qpx {zs:List RawPt} {n d:Int} {O M:List Pt} {e:Nat} {c:List (List Int)} (hz:∀ z∈zs,z.Ok) (hO:Lb 4 20 zs=O) (he:e≤O.length) (hd:Gj (J5 O e)) (hm:e<O.length→¬Gj (J5 O (e+1))) (hn:-9223372036854775808≤n∧n≤9223372036854775807) (hdd:-9223372036854775808≤d∧d≤9223372036854775807) (hC:Qlx (Wq n d) c) (hM:M=Xa Mg (Mf O e)) :
    Xv Tryz.prog 54 [.one (.row (Cg zs)),.one (.int .i64 n),.one (.int .i64 d)] [] [.one (.ow 0 0),.one (.ow 1 0),.one (.bool true)] [.blk 96 (Ul (Qpn M (tq (Wq n d))) (Qt M) (brS M (tq (Wq n d)))),.blk 128 (plB M (Wq n d) c (Cd (Wq n d) M))]:=by
  have hO4:O.length≤4:=by rw [←hO]; exact Tz _ _ (Nat.zero_le _)
  have hid:∀ p∈O,-9223372036854775808≤p.id∧p.id≤9223372036854775807:=fun p hp=>by
    rw [←hO] at hp; have:=Q18 p hp; omega
  have hlit:∀ p∈O,Qpg p:=fun p hp=>by rw [←hO] at hp; exact Qb2 (by decide) p hp
  have hcl:(J5 O e).length=e:=Ny he
  have hcn:(Mf O e).length=e:=by rw [Eb,hcl]
  have hMl:M.length=e:=by rw [hM,Ye,hcn]
  have hok:∀ p∈M,Nml p.c∧Cs 10 3 p.c:=fun p hp=>by rw [hM,U9] at hp; exact Qm2 hlit e p hp
  have hq:=Ll n d
  obtain ⟨q,hqq⟩:∃ q,q=Wq n d:=⟨_,rfl⟩
  have cb:=Q0g (l:=Mf O e) (by omega)
  rw [←hM] at cb
  rw [←hqq] at hq hC ⊢
  have csm:=Qmd hn hdd
  have c2:=Qjm (M:=M) (q:=q) (c:=c) (fun p hp=>⟨(hok p hp).1,(hok p hp).2.mono (by decide) (by decide)⟩) (by omega) (hq.mono (by decide)) hC
  have ctr:=Qmf (q:=q) (hq.mono (by decide))
  have hnl:=Qq0 (qs:=Mf O e) (by omega) (Qa7 hd)
  have hnl2:Ju [] (Mf O e)=(M,0):=by rw [hM,←hnl.2,←hnl.1]
  have cs:=Qme (zs:=Qt (J5 O e)) (qs:=Mf O e) (l:=M) (n:=q.num) (d:=(q.den:Int)) (Qbz fun p hp=>(Qgh hlit e p hp).mono (by decide) (by decide)) (by omega) hnl2 (fun p hp=>⟨(hok p hp).1,(hok p hp).2.mono (by decide) (by decide)⟩) (by omega) (Qe q.num) (Qe (q.den:Int)) (Nat.le_trans hq.1 (by decide)) (Nat.le_trans hq.2 (by decide)) (by rw [Rq]; exact hq.mono (by decide))
  rw [Rq] at cs
  rw [show Zd (Uk n 61-30) (1+Uk d 6)=q from hqq.symm] at csm
  have cp:=Qpt hz
  rw [hO] at cp
  refine Z0 Tryz.func54 rfl ?_
  refine go tt [.c [0,1] cp] rfl trivial ?_
  have h0l:=Vh O
  refine ct 2 (S:=Unit) (fun _=>[(1,.v (.one (.int .i64 n))),(2,.v (.one (.int .i64 d))),(9,.v (.one (.row (Qt (J5 O e))))),(10,.v (.one (.row (Q4 (Mf O e)))))]) (fun _=>[.gone,.gone]) (fun _=>True) rfl ?_ (fun _ _=>?_)
  · refine lp (S:=Nat) 2 (fun L1 i=>(23,.v (.one (.int .i64 (i:Int))))::(9,.v (.one (.orow 0 5 none)))::(10,.v (.one (.orow 1 7 none)))::L1) (fun i=>[.row false 35 5 (Qt (Pw O i)),.row false 112 7 (Q4 ((Pw O i).map Pt.nrm))]) (fun i=>O.length-i) (fun i=>i≤O.length∧i≤e∧Gj (J5 O i)) 0 ⟨Nat.zero_le _,Nat.zero_le _,List.Pairwise.nil⟩ rfl (fun _ _=>rfl) (by rw [Qv3]; rfl) fun i ⟨hi,hie,hdi⟩=>?_
    have hl1:(Qt (Pw O (i+1))).length=O.length:=by rw [Vh,Ai]
    have hl0:(Qt (Pw O i)).length=O.length:=by rw [Vh,Ai]
    have hr0:(Q4 ((Pw O i).map Pt.nrm)).length=O.length:=by rw [Yx,List.length_map,Ai]
    have hr1:(Q4 ((Pw O (i+1)).map Pt.nrm)).length=O.length:=by rw [Yx,List.length_map,Ai]
    by_cases h:i<O.length
    · obtain ⟨p,hp⟩:∃ p,O[i]? = some p:=⟨_,List.getElem?_eq_getElem h⟩
      have hx:=Q1n hp
      have hxn:((Pw O i).map Pt.nrm)[i]? = some p.nrm:=by rw [List.getElem?_map,hx]; rfl
      have cw:=Nq (v:=p.id) (n:=5) (hid p (List.mem_of_getElem? hp)) (by decide)
      rw [show Uk p.id 5=p.m5.id from rfl] at cw
      refine go tt [.t (decide_eq_true (by omega)),.i i,.x (Ks hx),.c [] cw,.i i,.x (Ks hx),.c [] cw,.i i,.x (Ks hx),.i i,.x (J3 hxn)] rfl (by simp [Qa,hl0,hr0]; omega) ?_
      rw [Qev hp,Qaw hp]
      refine lp (S:=Nat) 2 (fun L1 j=>(12,.v (.one (.int .i64 (j:Int))))::(9,.v (.one (.orow 0 5 none)))::(10,.v (.one (.orow 1 7 none)))::L1) (fun _=>[.row false 35 5 (Qt (Pw O (i+1))),.row false 112 7 (Q4 ((Pw O (i+1)).map Pt.nrm))]) (fun j=>i-j) (fun j=>j≤i∧∀ k x,k<j→O[k]? = some x→x.m5.id≠p.m5.id) 0 ⟨Nat.zero_le _,fun k x h=>absurd h (Nat.not_lt_zero _)⟩ rfl (fun _ _=>rfl) rfl fun j ⟨hj,hjn⟩=>?_
      by_cases hji:j<i
      · obtain ⟨x,hxj⟩:∃ x,O[j]? = some x:=⟨_,List.getElem?_eq_getElem (by omega)⟩
        have g1:=Qn3 (i:=i+1) (show j<i+1 by omega) hxj
        have g2:=Qn3 (i:=i+1) (show i<i+1 by omega) hp
        by_cases hq:x.m5.id=p.m5.id
        · have hnd:¬Gj (J5 O (i+1)):=fun hD=>by
            have:=List.pairwise_iff_getElem.1 hD j i (by rw [Ny (by omega)]; omega) (by rw [Ny (by omega)]; omega) hji
            refine this ?_
            have e1:(J5 O (i+1))[j]? = some x.m5:=by unfold J5; rw [List.getElem?_map,List.getElem?_take,if_pos (by omega),hxj]; rfl
            have e2:(J5 O (i+1))[i]? = some p.m5:=by unfold J5; rw [List.getElem?_map,List.getElem?_take,if_pos (by omega),hp]; rfl
            rw [(List.getElem?_eq_some_iff.1 e1).2,(List.getElem?_eq_some_iff.1 e2).2]; exact hq
          have hie2:i=e:=by
            rcases Nat.lt_or_ge i e with h3 | h3
            · exact absurd (Q00 hd h3) hnd
            · omega
          have c1:(Qt (Pw O (i+1))).take i=Qt (J5 O e):=by rw [Qq8 (by omega) (by omega),hie2]
          have c2:(Q4 ((Pw O (i+1)).map Pt.nrm)).take i=Q4 (Mf O e):=by rw [Qk9 (by omega) (by omega),hie2]
          refine go tt [.t (decide_eq_true (by omega)),.i j,.x (Ks g1),.i i,.x (Ks g2),.t (decide_eq_true hq),.i i,.i i] rfl (by simp [Qa,hl1,hr1]; omega) ?_
          refine pz 0 rfl rfl ?_
          refine pz 1 rfl rfl ?_
          exact go tt [.t (decide_eq_true (by omega))] rfl trivial (rc () trivial (by rw [c1,c2]; rfl))
        · refine go tt [.t (decide_eq_true (by omega)),.i j,.x (Ks g1),.i i,.x (Ks g2),.f (decide_eq_false hq)] rfl (by simp [Qa,hl1]; omega) ?_
          exact rd (j+1) (by omega) ⟨hji,fun k y hk hy=>by
            rcases Nat.lt_or_ge k j with h3 | h3
            · exact hjn k y h3 hy
            · have:k=j:=by omega
              subst this; rw [hxj] at hy; injection hy with hy; rw [←hy]; exact hq⟩ rfl
      · have hji2:j=i:=by omega
        rw [hji2] at hjn
        have hD:=Qqf hp hdi hjn
        have hle:i+1≤e:=by
          rcases Nat.lt_or_ge i e with h3 | h3
          · exact h3
          · have:i=e:=by omega
            rw [this] at hD h
            exact absurd hD (hm h)
        refine go tt [.f (decide_eq_false (by omega)),.f (decide_eq_false (by omega))] rfl (by simp [Qa]; omega) ?_
        exact rd (i+1) (by omega) ⟨h,hle,hD⟩ rfl
    · have hiO:i=O.length:=by omega
      have hie2:i=e:=by omega
      have c1:Qt (Pw O i)=Qt (J5 O e):=by rw [←hie2,hiO,Qhf]
      have c2:Q4 ((Pw O i).map Pt.nrm)=Q4 (Mf O e):=by rw [←hie2,hiO,Qhf]; rfl
      refine go tt [] rfl trivial ?_
      rw [c1,c2]
      refine pz 0 rfl rfl ?_
      refine pz 1 rfl rfl ?_
      exact go tt [.f (decide_eq_false (by omega))] rfl trivial (rc () trivial rfl)
  · exact ed tt [] [3,2] [.c [] cb,.c [] csm,.c [2] c2,.c [] ctr,.c [3] cs,.g 96 true rfl] rfl trivial
end Orr

namespace Orr
open Go Go.Proofs Orq
set_option maxRecDepth 10000
theorem Qz7 {l:List Nat} (hl:l.length≤1000000000):Qc Tryz.prog 211 [.one (.row (lm l)),.one (.row (lm l))] [.one (.bool true)]:=by
  have hll:(lm l).length=l.length:=by simp [lm]
  refine Z0 Tryz.func211 rfl ?_
  refine go tt [.f (decide_eq_false (fun h=>h rfl))] rfl trivial ?_
  refine lp (S:=Nat) 0 (fun L1 i=>(5,.v (.one (.int .i64 (i:Int))))::L1) (fun _=>[]) (fun i=>l.length-i) (fun i=>i≤l.length) 0 (Nat.zero_le _) rfl (fun _ _=>rfl) rfl fun i hi=>?_
  by_cases h:i<l.length
  · have hx:(lm l)[i]? = some [.int .u32 ((l[i]:Nat):Int)]:=Z9 (List.getElem?_eq_getElem h)
    refine go tt [.t (decide_eq_true (by omega)),.x hx,.x hx,.f (decide_eq_false (fun h=>h rfl))] rfl (by simp [Qa]; omega) ?_
    exact rd (i+1) (by omega) h rfl
  · exact en tt [.f (decide_eq_false (by omega))] rfl rfl trivial
theorem Qz5 {z:Int} (hz:Qm z≤4294967295):Qc Tryz.prog 152 [.agg (Zf z),.agg (Zf z)] [.one (.bool true)] :=
  w tt Tryz.func152 rfl [.g 10 true (decide_eq_true rfl),.c [] (Qz7 (l:=Qx z.natAbs) (by have:=Xx (x:=z.natAbs) (k:=4294967295) hz; omega))] rfl rfl trivial
theorem Qz6 {p:List Int} (hp:Bd 4294967295 p) (hl:p.length≤1000000):Qc Tryz.prog 89 [pr p,pr p] [.one (.bool true)]:=by
  have hpl:(p.map Zf).length=p.length:=by simp
  show Qc Tryz.prog 89 [.one (.row (p.map Zf)),.one (.row (p.map Zf))] _
  refine Z0 Tryz.func89 rfl ?_
  refine go tt [.f (decide_eq_false (fun h=>h rfl))] rfl trivial ?_
  refine lp (S:=Nat) 0 (fun L1 i=>(13,.v (.one (.int .i64 (i:Int))))::L1) (fun _=>[]) (fun i=>p.length-i) (fun i=>i≤p.length) 0 (Nat.zero_le _) rfl (fun _ _=>rfl) rfl fun i hi=>?_
  by_cases h:i<p.length
  · have hx:=J1 (Xh h)
    refine go tt [.t (decide_eq_true (by omega)),.x hx,.x hx,.c [] (Qz5 (Qp hp i)),.f rfl] rfl (by simp [Qa]; omega) ?_
    exact rd (i+1) (by omega) h rfl
  · exact en tt [.f (decide_eq_false (by omega))] rfl rfl trivial
theorem Qsy {l:List Ct} (hl:∀ c∈l,Cp c.p) (hn:l.length≤1000000):Qc Tryz.prog 36 [.one (.row (Z1 l)),.one (.row (Z1 l))] [.one (.bool true)]:=by
  have hcl:=Fe l
  refine Z0 Tryz.func36 rfl ?_
  refine go tt [.f (decide_eq_false (fun h=>h rfl))] rfl trivial ?_
  refine lp (S:=Nat) 0 (fun L1 i=>(13,.v (.one (.int .i64 (i:Int))))::L1) (fun _=>[]) (fun i=>l.length-i) (fun i=>i≤l.length) 0 (Nat.zero_le _) rfl (fun _ _=>rfl) rfl fun i hi=>?_
  by_cases h:i<l.length
  · obtain ⟨c,hc⟩:∃ c,l[i]? = some c:=⟨_,List.getElem?_eq_getElem h⟩
    have hx:=Df hc
    have hp:=hl c (List.mem_of_getElem? hc)
    refine go tt [.t (decide_eq_true (by omega)),.x hx,.x hx,.g 27 false (by simp),.x hx,.x hx,.g 40 false (by simp),.x hx,.x hx,.c [] (Qz6 (Qd hp.b (by decide)) (by have:=hp.l; omega)),.f rfl] rfl (by simp [Qa]; omega) ?_
    exact rd (i+1) (by omega) h rfl
  · exact en tt [.f (decide_eq_false (by omega))] rfl rfl trivial
theorem Qzo {c c':Cr} {l l' s s':List Pt} (hs:s.length≤1000000) (hs':s'.length≤1000000):Xv Tryz.prog 56 [.one (.ow 0 0),.one (.ow 1 0)] [.blk 96 (Ul c (Qt l) (Qt s)),.blk 96 (Ul c' (Qt l') (Qt s'))] [.one (.bool (decide (s.map (·.id)=s'.map (·.id))))] [.blk 96 (Ul c (Qt l) (Qt s)),.blk 96 (Ul c' (Qt l') (Qt s'))]:=by
  have h1:=Qdf (c:=c) (l:=l) (s:=s) hs
  have h2:=Qdf (c:=c') (l:=l') (s:=s') hs'
  have h3:=Qjg (a:=s.map (·.id)) (b:=s'.map (·.id)) (by simpa using hs) (by simpa using hs')
  refine Z0 Tryz.func56 rfl ?_
  exact ed tt [] [0,1] [.c [0] h1,.c [1] h2,.c [] h3] rfl trivial
theorem Qr8 {c c':Cr} {l l' m:List Pt} {a:Tm} {r:List (List LV)} (hm:m.length≤1000000) (hr:r=brS m a):Xv Tryz.prog 56 [.one (.ow 0 0),.one (.ow 1 0)] [.blk 96 (Ul c (Qt l) r),.blk 96 (Ul c' (Qt l') r)] [.one (.bool true)] [.blk 96 (Ul c (Qt l) r),.blk 96 (Ul c' (Qt l') r)]:=by
  have h:=Qzo (c:=c) (c':=c') (l:=l) (l':=l') (s:=Ht a m) (s':=Ht a m) (by rw [Uf]; exact hm) (by rw [Uf]; exact hm)
  rw [decide_eq_true rfl] at h
  rw [hr]; exact h
end Orr

namespace Orq
open Orr Go
theorem Qem {p:List Int} {a a':Tm} (h:∀ q,Qr a q=Qr a' q) {o:Option Tm} (hn:J4 p a o):J4 p a' o:=by
  have e:Qr a=Qr a':=funext h
  unfold J4 Leq Ym at *
  rw [←e]; exact hn
theorem Qlq {a b:Tm} (ha:Cut (Qr a)) (hb:Cut (Qr b)) (h:¬Ym a b) (h':¬Ym b a):∀ q,Qr a q=Qr b q:=by
  rcases tri ha hb with h1 | h1 | h1
  · exact absurd h1 h
  · exact h1
  · exact absurd h1 h'
theorem Qo4 {a b b':Tm} (h:∀ q,Qr b q=Qr b' q):Ym a b↔Ym a b':=by
  unfold Ym; simp only [h]
theorem Pa {a b b':Tm} (h:∀ q,Qr b q=Qr b' q):Ym b a↔Ym b' a:=by
  unfold Ym; simp only [h]
theorem Ro {p:List Int} {a:Tm} (ha:Va a) {t t':Tm} (h:J4 p a (some t)) (h':J4 p a (some t')):∀ q,Qr t q=Qr t' q:=by
  obtain ⟨_,v,l,s,s0,h4,h5⟩:=h
  obtain ⟨_,v',l',s',s0',h4',h5'⟩:=h'
  have es:s=s':=Cf (h4 _ ha.cut (fun _ h=>h) l) (h4' _ ha.cut (fun _ h=>h) l')
  refine Qlq v.cut v'.cut (fun hlt=>?_) fun hlt=>?_
  · have:=Cf (h4' _ v.cut (D2 ha.cut v.cut (Qeg ha.cut v.cut l)) hlt) h5
    omega
  · have:=Cf (h4 _ v'.cut (D2 ha.cut v'.cut (Qeg ha.cut v'.cut l')) hlt) h5'
    omega
theorem Yt {p:List Int} {a:Tm} (ha:Va a) {t:Tm} (h:J4 p a (some t)) (h':J4 p a none):False:=by
  obtain ⟨h1,v,l,s,s0,h4,h5⟩:=h
  rcases h' with h' | ⟨s',s0',h'⟩
  · exact h1 h'
  · have e1:=Cf (h' _ ha.cut fun _ h=>h) (h4 _ ha.cut (fun _ h=>h) l)
    have e2:=Cf (h' _ v.cut (D2 ha.cut v.cut (Qeg ha.cut v.cut l))) h5
    omega
structure Quiet {β:Type} (Bc:Tm→List Ct) (Br:Tm→β) (a b:Tm):Prop where
  va:Va a
  vb:Va b
  le:¬Ym b a
  n:∀ x∈Bc a,∃ o,J4 x.p a o∧∀ u,o=some u→Ym b u
section
variable {β:Type} {Bc:Tm→List Ct} {Br:Tm→β} (S:Stab Bc Br)
include S
theorem Quiet.same {a b:Tm} (h:Quiet Bc Br a b):Bc b=Bc a∧Br b=Br a:=by
  refine S.st a b h.va h.vb fun x hx=>?_
  obtain ⟨o,o1,o2⟩:=h.n x hx
  exact Qbt (S.ok.p _ h.va _ hx).dp h.va h.vb h.le o1 o2
theorem Qcx {a b:Tm} (ha:Va a) (hb:Va b) (h:∀ q,Qr a q=Qr b q):Quiet Bc Br a b:=by
  refine ⟨ha,hb,fun h'=>M4 hb.cut hb.cut ((Qo4 h).1 h') ((Qo4 h).1 h'),fun x hx=>?_⟩
  obtain ⟨r,_,r2,_⟩:=Or (S.ok.p _ ha _ hx) ha
  refine ⟨r,r2,fun u hu=>?_⟩
  subst hu
  obtain ⟨q,q1,q2⟩:=r2.2.2.1
  exact ⟨q,by rw [←h]; exact q1,q2⟩
theorem Qqk {t:Rat} {a:Tm} {E:List Tm} (hE:Evs Bc t a E):∀ {b:Tm} {E':List Tm},Quiet Bc Br a b→Evs Bc t b E'→E.length=E'.length:=by
  induction hE with
  |
   @nil a h =>
   intro b E' hq hE'
   have hs:=(Quiet.same S hq).1
   cases hE' with
   | nil _=>rfl
   |
    cons he h1 h2 h3 h4 h5 =>
    exfalso
    obtain ⟨x,hx,hx2⟩:=h4
    rw [hs] at hx
    obtain ⟨o,o1,o2⟩:=h x hx
    obtain ⟨o',o1',o2'⟩:=hq.n x hx
    cases o with
    |
     none =>
     cases o' with
     | none=>exact Yt hq.vb hx2 (Hj hq.va.cut hq.vb.cut hq.le o1' o2')
     | some u=>exact Yt hq.va o1' o1
    |
     some u =>
     cases o' with
     | none=>exact Yt hq.va o1 o1'
     |
      some u' =>
      have e1:=Ro hq.va o1 o1'
      have e2:=Ro hq.vb (Hj hq.va.cut hq.vb.cut hq.le o1' o2') hx2
      obtain ⟨q,q1,q2⟩:=o2 u rfl
      exact h2 ⟨q,q1,by rw [←e2,←e1]; exact q2⟩
  |
   @cons a e E he h1 h2 h3 h4 h5 ih =>
   intro b E' hq hE'
   have hs:=(Quiet.same S hq).1
   -- next V8 from b on are those from a on
   have nx:∀ x∈Bc a,∀ u,J4 x.p a (some u)→Ym b u∧J4 x.p b (some u):=fun x hx u hu=>by
     obtain ⟨o',o1',o2'⟩:=hq.n x hx
     cases o' with
     | none=>exact (Yt hq.va hu o1').elim
     |
      some u' =>
      have e1:=Ro hq.va o1' hu
      have hb':=o2' u' rfl
      have hb2:Ym b u:=by obtain ⟨q,q1,q2⟩:=hb'; exact ⟨q,q1,by rw [←e1]; exact q2⟩
      exact ⟨hb2,Hj hq.va.cut hq.vb.cut hq.le hu fun v hv=>by injection hv with hv; subst hv; exact hb2⟩
   obtain ⟨x0,hx0,hn0⟩:=h4
   obtain ⟨hb0,hnb0⟩:=nx x0 hx0 e hn0
   cases hE' with
   |
    nil h' =>
    exfalso
    obtain ⟨o,o1,o2⟩:=h' x0 (by rw [hs]; exact hx0)
    cases o with
    | none=>exact Yt hq.vb hnb0 o1
    |
     some u =>
     have e1:=Ro hq.vb o1 hnb0
     obtain ⟨q,q1,q2⟩:=o2 u rfl
     exact h2 ⟨q,q1,by rw [←e1]; exact q2⟩
   |
    @cons _ e' E'' he' h1' h2' h3' h4' h5' =>
    obtain ⟨x1,hx1,hn1⟩:=h4'
    rw [hs] at hx1
    -- e is not above e'
    have a1:¬Ym e' e:=fun hlt=>by
      obtain ⟨o,o1,o2⟩:=h3 x1 hx1
      cases o with
      |
       none =>
       obtain ⟨o',o1',o2'⟩:=hq.n x1 hx1
       cases o' with
       | none=>exact Yt hq.vb hn1 (Hj hq.va.cut hq.vb.cut hq.le o1' o2')
       | some u=>exact Yt hq.va o1' o1
      |
       some u =>
       have e2:=Ro hq.vb (nx x1 hx1 u o1).2 hn1
       exact o2 u rfl ((Pa e2).2 hlt)
    have a2:¬Ym e e':=fun hlt=>by
      obtain ⟨o,o1,o2⟩:=h3' x0 (by rw [hs]; exact hx0)
      cases o with
      | none=>exact Yt hq.vb hnb0 o1
      |
       some u =>
       have e2:=Ro hq.vb o1 hnb0
       exact o2 u rfl ((Pa e2).2 hlt)
    have:=ih (Qcx S he he' (Qlq he.cut he'.cut a2 a1)) h5'
    simp [this]
theorem Qnd {t1 t2:Rat} (h12:t1≤t2) (ht:Va (tq t1)) {a:Tm} {E1:List Tm} (h:Evs Bc t1 a E1):∀ {E2 E:List Tm},Va a→¬Ym (tq t1) a→Evs Bc t2 (tq t1) E2→Evs Bc t2 a E→E.length=E1.length+E2.length:=by
  have lt12:∀ {u:Tm},Ym (tq t2) u→Ym (tq t1) u:=fun ⟨q,q1,q2⟩=>⟨q,by
    rw [Hy] at q1 ⊢
    rcases Jr t1 q with ⟨e,h⟩ | ⟨e,h⟩ | ⟨e,h⟩ <;> rcases Jr t2 q with ⟨e',h'⟩ | ⟨e',h'⟩ | ⟨e',h'⟩ <;> grind,q2⟩
  induction h with
  |
   @nil a h =>
   intro E2 E ha hle h2 h'
   have:=Qqk S h' ⟨ha,ht,hle,h⟩ h2
   simp [this]
  |
   @cons a e E1 he b1 b2 b3 b4 b5 ih =>
   intro E2 E ha hle h2 h'
   obtain ⟨x0,hx0,hn0⟩:=b4
   cases h' with
   |
    nil g =>
    exfalso
    obtain ⟨o,o1,o2⟩:=g x0 hx0
    cases o with
    | none=>exact Yt ha hn0 o1
    |
     some u =>
     have e1:=Ro ha o1 hn0
     obtain ⟨q,q1,q2⟩:=lt12 (o2 u rfl)
     exact b2 ⟨q,q1,by rw [←e1]; exact q2⟩
   |
    @cons _ e' E'' he' c1 c2 c3 c4 c5 =>
    obtain ⟨x1,hx1,hn1⟩:=c4
    have a1:¬Ym e' e:=fun hlt=>by
      obtain ⟨o,o1,o2⟩:=b3 x1 hx1
      cases o with
      | none=>exact Yt ha hn1 o1
      | some u=>exact o2 u rfl ((Pa (Ro ha o1 hn1)).2 hlt)
    have a2:¬Ym e e':=fun hlt=>by
      obtain ⟨o,o1,o2⟩:=c3 x0 hx0
      cases o with
      | none=>exact Yt ha hn0 o1
      | some u=>exact o2 u rfl ((Pa (Ro ha o1 hn0)).2 hlt)
    have eq:=Qlq he'.cut he.cut a1 a2
    -- told from e on
    have hE:∃ E3,Evs Bc t2 e E3∧E3.length=E''.length:=by
      have hs:=(Quiet.same S (Qcx S he' he eq)).1
      cases c5 with
      | nil g=>exact ⟨[],.nil fun x hx=>by
          rw [hs] at hx
          obtain ⟨o,o1,o2⟩:=g x hx
          exact ⟨o,Qem eq o1,o2⟩,rfl⟩
      |
       @cons _ f F hf d1 d2 d3 d4 d5 =>
       refine ⟨f::F,.cons hf ((Pa eq).1 d1) d2 (fun x hx=>?_) ?_ d5,rfl⟩
       · rw [hs] at hx
         obtain ⟨o,o1,o2⟩:=d3 x hx
         exact ⟨o,Qem eq o1,o2⟩
       · obtain ⟨x,hx,hxn⟩:=d4
         exact ⟨x,by rw [hs]; exact hx,Qem eq hxn⟩
    obtain ⟨E3,h3,h4⟩:=hE
    have:=ih he b2 h2 h3
    simp only [List.length_cons]
    omega
end
theorem Q26 {p:List Int} (h:Cp p):(tms p).length≤67:=by
  obtain ⟨l,l1,l2,_⟩:=Pd h
  unfold tms; rw [l1]; exact l2
theorem Qo7:∀ {Ps:List (List Int)},(∀ p∈Ps,Cp p)→(Ps.flatMap tms).length≤67*Ps.length
  | [],_=>Nat.zero_le _
  |
   p::Ps,h=>by
   have h1:=Q26 (h p (by simp))
   have h2:=Qo7 (Ps:=Ps) fun q hq=>h q (List.mem_cons_of_mem _ hq)
   rw [List.flatMap_cons,List.length_append,List.length_cons]; omega
theorem Q80 (T:List Tm) (a:Tm):mu T a≤T.length:=List.length_filter_le _ _
theorem Q4t {β:Type} {Bc:Tm→List Ct} {Br:Tm→β} (S:Stab Bc Br) {Ps:List (List Int)} (hP:∀ p∈Ps,Cp p) (hPs:∀ a,Va a→∀ x∈Bc a,x.p∈Ps) (hl:Ps.length≤1000000) {t:Rat} (ht:Qs 900 t) {c:Cr} {r:β} (hS:KSt Bc Br c r) (h:Qr c.now t≤0) :
    ∃ (K:Nat) (c':Cr) (E:List Tm),K≤67000001∧goF Bc Br t K c r 0=some (c',Br (tq t),((E.length:Nat):Int))∧c'.now=tq t∧KSt Bc Br c' (Br (tq t))∧c'.ev=c.ev+((E.length:Nat):Int)∧E.length≤67000000∧Evs Bc t c.now E:=by
  have hm:=Qo7 hP
  have hmu:=Q80 (Ps.flatMap tms) c.now
  have hv:=hS.inv.ok.n
  obtain ⟨c',r',E,g1,g2,g3,g4,g5,g6⟩:=Q8q S ht hP hPs (mu (Ps.flatMap tms) c.now) c r 0 (Nat.le_refl _) hS fun h'=>by
    have:=(Ij hv.cut).2 h'; omega
  have hr:r'=Br (tq t):=by rw [g3.r,g2]
  rw [hr] at g1 g3
  rw [Int.zero_add] at g1
  exact ⟨_,c',E,by omega,g1,g2,g3,g4,by omega,g6⟩
theorem Q40 {β:Type} {Bc:Tm→List Ct} {Br:Tm→β} (S:Stab Bc Br) {a:Tm} (ha:Va a):KSt Bc Br ⟨a,(Z3 (Bc a)).map fresh,0⟩ (Br a):=by
  refine ⟨⟨⟨ha,fun w hw=>?_,?_⟩,fun w hw hk=>?_⟩,?_,rfl⟩
  · obtain ⟨x,hx,rfl⟩:=List.mem_map.1 hw
    exact ⟨S.ok.p _ ha x (Hw hx),fun t ht=>by cases ht⟩
  · show ((Z3 (Bc a)).map fresh).length≤1000
    rw [List.length_map,Ws]; exact S.ok.n _ ha
  · obtain ⟨x,hx,rfl⟩:=List.mem_map.1 hw
    cases hk
  · show ((Z3 (Bc a)).map fresh).map (·.c)=Z3 (Bc a)
    rw [List.map_map]
    show (Z3 (Bc a)).map (fun x=>x)=_
    rw [List.map_id']
end Orq

namespace Orr
open Go Go.Proofs Orq
theorem Qxu {x y:Int} (hx:-9223372036854775808≤x∧x≤9223372036854775807) (hy:-9223372036854775808≤y∧y≤9223372036854775807):Sc (Qyc x y):=⟨Crv.nml _,((Qgg hx hy).norm (by decide)).mono (by decide) (by decide)⟩
theorem Sc.pt {p:Pt} (h:Sc p.c):Qrw 4294967294 1073741824 p:=⟨h.n,h.c.mono (by decide) (by decide)⟩
end Orr
