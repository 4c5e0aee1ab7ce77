/- R7 RatOkL R8 R9 RefCL R10 RawL NewsL KGoL SortQ BegL R11 R12 R13 R14 R15 R16 R17 R18 SC1 -/
import Derived.Test.YtbnjginelkkonaaGreatPart08
import Derived.Test.YtbnjginelkkonaaGreatPart05
set_option linter.all false

namespace Orr
open Go Go.Proofs
set_option maxRecDepth 10000
theorem RRun.inv {b a r:List Int} {k:Nat} (h:RRun b k a r):(k=0∧a=r∧a.length<b.length)∨(∃ j,k=j+1∧b.length≤a.length∧a.length≤1000∧Bd 9000000 a∧Bd 9000000 b∧RRun b j (Qdp a b) r):=by
  cases h with
  | stop h=>exact .inl ⟨rfl,rfl,h⟩
  | step h1 h2 h3 h4 h5=>exact .inr ⟨_,rfl,h1,h2,h3,h4,h5⟩
theorem Q3s {a b:List Int} (ha:Bd 9000000 a):Qm (Pk a b)≤9000000:=by
  unfold Pk; split
  · rw [Z7]; exact Qq ha _
  · exact Qq ha _
theorem Q3n (n:Nat):ri (n:Int)=[nd n,.bool false]:=by
  show [nd n,sg (n:Int)]=_
  unfold sg
  rw [decide_eq_false (by omega)]
def Qf1 (a b:List Int) (n:Nat):List Int:=(List.range n).map (G0 a b)
theorem Qys (a b:List Int) (n:Nat):(Qf1 a b n).length=n:=by simp [Qf1]
theorem Qdq (a b:List Int) (n:Nat):Qf1 a b (n+1)=Qf1 a b n++[G0 a b n]:=by simp [Qf1,List.range_succ]
theorem Qnp {a0 b res:List Int} {n:Nat} (hb0:0<b.length) (hb1:b.length≤1000) (hbb0:Bd 9000000 b) (hrun:RRun b n a0 res):Qc Tryz.prog 254 [.one (rp (zp a0)),.one (rp (zp b))] [.one (rp (zp res))]:=by
  have hbl:=Al b
  have hle:Qm (((Zc b).natAbs:Nat):Int)≤9000000:=Qq hbb0 _
  refine Zy Tryz.func254 rfl ?_
  refine go tt [.r 15 (eI (b:=((b.length-1:Nat):Int)) (by omega)),.x (X9 (p:=b) (i:=b.length-1) (by omega))] rfl (by simp [Qa]; omega) ?_
  refine sb [(0,.v (.one (rp (zp a0)))),(1,.v (.one (rp (zp b)))),(5,.v (.one (.ow 0 0))),(6,.v (.one (.ow 1 0)))] [.blk 47 (ri (Zc b)),.blk 47 [nd (Zc b).natAbs,.bool false]] rfl rfl ?_
  refine lp (S:=Nat×List Int) 2 (fun L1 s=>(0,.v (.one (rp (zp s.2))))::L1) (fun _=>[.blk 47 (ri (Zc b)),.blk 47 [nd (Zc b).natAbs,.bool false]]) (fun s=>s.1) (fun s=>RRun b s.1 s.2 res) (n,a0) hrun rfl (fun _ _=>rfl) rfl fun ⟨k,a⟩ hs=>?_
  have hal:=Al a
  have hs:RRun b k a res:=hs
  rcases RRun.inv hs with ⟨rfl,rfl,h1⟩ | ⟨j,rfl,h1,h2,ha,hb,hr⟩
  · exact en tt [.f (decide_eq_false (by dsimp only; omega))] rfl rfl trivial
  obtain ⟨K,hK⟩:∃ K,K=a.length-b.length:=⟨_,rfl⟩
  have htb:=Q3s (b:=b) ha
  have cc:=Tx (p:=zp (Qf1 a b a.length))
  rw [Ky,show trim (Qf1 a b a.length)=Qdp a b from rfl] at cc
  refine go tt [.t (decide_eq_true (by dsimp only; omega)),.r 30 (eI (b:=(K:Int)) (by dsimp only; omega)),.r 34 (eI (b:=((a.length-1:Nat):Int)) (by dsimp only; omega)),.x (X9 (p:=a) (i:=a.length-1) (by omega))] rfl (by simp [Qa]; omega) ?_
  refine ct 1 (S:=Unit) (fun _=>[(0,.v (.one (rp (zp a)))),(1,.v (.one (rp (zp b)))),(5,.v (.one (.ow 0 0))),(6,.v (.one (.ow 1 0))),(7,.v (.one (.int .i64 (K:Int)))),(8,.v (.one (.ow 2 0)))]) (fun _=>[.blk 47 (ri (Zc b)),.blk 47 [nd (Zc b).natAbs,.bool false],.blk 47 (ri (Pk a b))]) (fun _=>True) rfl ?_ (fun _ _=>?_)
  · by_cases hn:Zc b<0
    · have e:Pk a b=-(Zc a):=if_pos hn
      rw [e]
      exact go tt [.t (decide_eq_true hn),.c [] (Rh (z:=Zc a))] rfl trivial (rc () trivial rfl)
    · have e:Pk a b=Zc a:=if_neg hn
      rw [e]
      exact go tt [.f (decide_eq_false hn)] rfl trivial (rc () trivial rfl)
  refine go tt [.o 9 49 4] rfl trivial ?_
  refine lp (S:=Nat) 4 (fun L1 i=>(44,.v (.one (.int .i64 (i:Int))))::(9,.v (.one (.orow 3 4 none)))::L1) (fun i=>[.blk 47 (ri (Zc b)),.blk 47 [nd (Zc b).natAbs,.bool false],.blk 47 (ri (Pk a b)),.row false 49 4 (Xi (zp (Qf1 a b i)))]) (fun i=>a.length-i) (fun i=>i≤a.length) 0 (Nat.zero_le _) rfl (fun _ _=>rfl) rfl fun i hi=>?_
  have hfl:=Al (Qf1 a b i)
  rw [Qys] at hfl
  by_cases h:i<a.length
  · have cm:=Yg (a:=a.getD i 0) (b:=(((Zc b).natAbs:Nat):Int)) (Nat.le_trans (Qq ha i) (by decide)) (by omega)
    have hm:=Q0 (a.getD i 0) (((Zc b).natAbs:Nat):Int)
    have hai:=Qq ha i
    rw [Q3n (Zc b).natAbs] at cm
    by_cases hk:K≤i
    · have hbi:=Qq hb (i-K)
      have hm2:=Q0 (Pk a b) (b.getD (i-K) 0)
      have e:G0 a b i=a.getD i 0*(((Zc b).natAbs:Nat):Int)-Pk a b*b.getD (i-K) 0:=by unfold G0; rw [if_pos (by omega),hK]
      refine go tt [.t (decide_eq_true (by omega)),.x (X9 h),.c [] cm,.t (decide_eq_true (by omega)),.r 62 (eI (b:=((i-K:Nat):Int)) (by omega)),.x (X9 (p:=b) (i:=i-K) (by omega)),.c [] (Yg (a:=Pk a b) (b:=b.getD (i-K) 0) (by omega) (by omega)),.c [] (Qub (by omega) (by omega)),.c [] (W6 (n:=1) (by decide)),.c [] (Vj (n:=a.getD i 0*(((Zc b).natAbs:Nat):Int)-Pk a b*b.getD (i-K) 0)),.s (sz:=4) (Qlj _)] rfl (by simp [Qa,hfl,-List.getD_eq_getElem?_getD] <;> omega) ?_
      exact rd (i+1) (by omega) h (by rw [Qdq,Qgn,e]; rfl)
    · have e:G0 a b i=a.getD i 0*(((Zc b).natAbs:Nat):Int):=by unfold G0; rw [if_neg (by omega),Int.sub_zero]
      refine go tt [.t (decide_eq_true (by omega)),.x (X9 h),.c [] cm,.f (decide_eq_false (by omega)),.c [] (W6 (n:=1) (by decide)),.c [] (Vj (n:=a.getD i 0*(((Zc b).natAbs:Nat):Int))),.s (sz:=4) (Qlj _)] rfl (by simp [Qa,hfl,-List.getD_eq_getElem?_getD] <;> omega) ?_
      exact rd (i+1) (by omega) h (by rw [Qdq,Qgn,e]; rfl)
  · have e:i=a.length:=by omega
    rw [e]
    exact go tt [.f (decide_eq_false (by omega)),.c [] cc] rfl trivial (rd (j,Qdp a b) (by omega) hr rfl)
theorem Q6o:Qc Tryz.prog 47 [.agg (ri 1),.agg (ri 1)] [.agg (ri 1)]:=Yg (a:=1) (b:=1) (by decide) (by decide)
theorem Q1g:Qc Tryz.prog 141 [.agg (ri 1),.agg (ri 1)] [.agg (ri 1)]:=Oa (a:=1) (b:=1) (by decide) (by decide)
theorem Q0z {z:Int} (hz:Qm z≤90000000):Qc Tryz.prog 47 [.agg (ri z),.agg (ri 1)] [.agg (ri z)]:=by
  have h:=Yg (a:=z) (b:=1) (by omega) (by decide)
  rwa [Int.mul_one] at h
theorem Qna {z:Int} (hz:Qm z≤90000000):Qc Tryz.prog 142 [.agg (ri z),.agg (ri 1)] [.agg (ri z)]:=by
  have h:=D4 (a:=z) (b:=1) hz (by decide) (by decide) (Int.emod_one z)
  rwa [Int.ediv_one] at h
theorem Qtk {z:Int}:Qc Tryz.prog 206 [.agg (fr (z:Rat))] [.agg (fr ((-z:Int):Rat))]:=by
  have h:=Q6g (a:=(z:Rat))
  rwa [←Rat.intCast_neg] at h
theorem Q7z {c:Int} (hc:c≠0) (hs:Qm c≤9000000):Qs 40000000 (((1:Int):Rat) / (c:Rat)):=by
  have h0:(c:Rat)≠0:=fun e=>hc (by exact_mod_cast e)
  rw [←Qdj h0]
  unfold Zl
  rw [if_neg (Int.mul_ne_zero (Wi _) (fun e=>hc (by simpa using e)))]
  refine Qs.divInt (by show Qm (1*1)≤_; decide) ?_ (by decide)
  show Qm (1*c)≤_
  rw [Int.one_mul]; omega
theorem Qkf {p:List Int} {c:Int} (hc:c≠0) (hs:Qm c≤9000000) (hd:∀ j,c∣p.getD j 0) (hp:Bd 9000000 p) (hl:p.length≤1000):Qc Tryz.prog 248 [.one (rp (zp p)),.agg (fr (((1:Int):Rat) / (c:Rat)))] [.one (rp (zp (Vf p.length fun i=>p.getD i 0 / c)))]:=by
  have h:=He ((M6 hp (by omega)).mono (by omega)) (Q7z hc hs) (by rw [Yj]; omega)
  rwa [show ((1:Int):Rat)=1 from rfl,Qma hc hd] at h
theorem Rj {p:List Int} (tp:Qj p) (hp:Bd 9000000 p) (hl:p.length≤1000):Qc Tryz.prog 284 [.one (rp (zp p))] [.agg (fr ((V2 p:Int):Rat)),.one (rp (zp (Xs p)))]:=by
  have hpl:=Al p
  rcases Nat.eq_zero_or_pos p.length with h0 | h0
  · have e:=List.eq_nil_of_length_eq_zero h0
    subst e
    exact w tt Tryz.func284 rfl [.t rfl,.c [] Qua] rfl rfl trivial
  have hc:=Qvw tp h0
  refine Zy Tryz.func284 rfl ?_
  refine go tt [.f (decide_eq_false (by omega)),.c [] (W6 (n:=1) (by decide))] rfl trivial ?_
  refine lp (S:=Nat) 2 (fun L1 i=>(16,.v (.one (.int .i64 (i:Int))))::L1) (fun i=>[.blk 49 [.nils,.bool false,.nils,.bool false],.blk 47 (ri 1)]) (fun i=>p.length-i) (fun i=>i≤p.length) 0 (Nat.zero_le _) rfl (fun _ _=>rfl) rfl fun i hi=>?_
  by_cases h:i<p.length
  · refine go tt [.t (decide_eq_true (by omega)),.x (X9 h),.c [] Q6o,.x (X9 h),.c [] Q1g,.c [] (Qna (z:=1) (by decide))] rfl (by simp [Qa]; omega) ?_
    exact rd (i+1) (by omega) h rfl
  refine go tt [.f (decide_eq_false (by omega))] rfl trivial ?_
  clear h hi
  refine nlb 2 rfl rfl rfl ?_
  rw [Qpt]
  refine lp (S:=Nat) 3 (fun L1 i=>(37,.v (.one (.int .i64 (i:Int))))::L1) (fun i=>[.blk 49 [.nils,.bool false,.nils,.bool false],.blk 47 (ri 1),.blk 47 (ri ((Hg p i:Nat):Int))]) (fun i=>p.length-i) (fun i=>i≤p.length) 0 (Nat.zero_le _) rfl (fun _ _=>rfl) rfl fun i hi=>?_
  by_cases h:i<p.length
  · have hb:=Qq hp i
    have hg:=Tz hp i
    refine go tt [.t (decide_eq_true (by omega)),.x (X9 h),.c [] (Q0z (z:=p.getD i 0) (by omega)),.x (X9 h),.c [] (Qna (z:=p.getD i 0) (by omega)),.c [] (Oa (a:=((Hg p i:Nat):Int)) (b:=p.getD i 0) (by omega) (by omega))] rfl (by simp [Qa]; omega) ?_
    exact rd (i+1) (by omega) h rfl
  have e:i=p.length:=by omega
  rw [e]
  have co:=D3 (n:=1) (by decide)
  have cs:=Qkf hc (Qci hp) (Qrl p) hp hl
  by_cases hn:Zc p<0
  · have e2:V2 p=-((Mr p:Nat):Int):=if_pos hn
    rw [show (fun i=>p.getD i 0 / V2 p)=fun i=>p.getD i 0 / V2 p from rfl] at cs
    have cn:=Qtk (z:=((Mr p:Nat):Int))
    rw [←e2] at cn
    exact en tt [.f (decide_eq_false (by omega)),.c [] (Vj (n:=((Mr p:Nat):Int))),.r 62 (eI (b:=((p.length-1:Nat):Int)) (by omega)),.x (X9 (p:=p) (i:=p.length-1) (by omega)),.t (decide_eq_true hn),.c [] cn,.c [] co,.c [] (Qkc (a:=((1:Int):Rat)) (b:=((V2 p:Int):Rat)) ⟨by decide,by decide⟩ (Um (by have:=Qci hp; omega) (by decide)) (fun e=>hc (by exact_mod_cast e))),.c [] cs] rfl rfl (by simp [Qa]; omega)
  · have e2:V2 p=((Mr p:Nat):Int):=if_neg hn
    have cm:=Vj (n:=V2 p)
    rw [e2] at cm cs hc ⊢
    exact en tt [.f (decide_eq_false (by omega)),.c [] cm,.r 62 (eI (b:=((p.length-1:Nat):Int)) (by omega)),.x (X9 (p:=p) (i:=p.length-1) (by omega)),.f (decide_eq_false hn),.c [] co,.c [] (Qkc (a:=((1:Int):Rat)) (b:=((((Mr p:Nat):Int):Int):Rat)) ⟨by decide,by decide⟩ (Um (by have:=Tz hp p.length; unfold Mr; omega) (by decide)) (fun e=>hc (by exact_mod_cast e))),.c [] cs] rfl (by unfold Xs; rw [e2]; rfl) (by simp [Qa]; omega)
theorem Ri {p:List Int} (tp:Qj p) (hp:Bd 9000000 p) (hl:p.length≤1000):Qc Tryz.prog 305 [.one (rp (zp p))] [.one (rp (zp (Xs p)))] :=
  w tt Tryz.func305 rfl [.c [] (Rj tp hp hl)] rfl rfl trivial
theorem Qcj {p:List Int} (tp:Qj p):V2 p<0↔Zc p<0:=by
  unfold V2
  rcases Nat.eq_zero_or_pos p.length with h0 | h0
  · have:=List.eq_nil_of_length_eq_zero h0; subst this; decide
  · have:=Qha tp h0
    split <;> omega
theorem Quj {p:List Int} (hp:Bd 9000000 p) (hl:p.length≤1000000):Qc Tryz.prog 253 [.one (rp (zp p))] [.one (rp (zp (Y6 p)))]:=by
  have h:=Qkn ((M6 hp (by decide)).mono (by decide)) (by rw [Yj]; exact hl)
  rwa [Qpu] at h
theorem Qg1 {p:List Int} (tp:Qj p) (hp:Bd 9000000 p) (hl:p.length≤1000):Qc Tryz.prog 251 [.one (rp (zp p))] [.one (rp (zp (Vg p)))]:=by
  by_cases hn:Zc p<0
  · have e:Vg p=Y6 (Xs p):=if_pos hn
    rw [e]
    exact w tt Tryz.func251 rfl [.c [] (Rj tp hp hl),.t (decide_eq_true ((Qcj tp).2 hn)),.c [] (Quj (I1 hp) (Nat.le_trans (Lt p) (by omega)))] rfl rfl trivial
  · have e:Vg p=Xs p:=if_neg hn
    rw [e]
    exact w tt Tryz.func251 rfl [.c [] (Rj tp hp hl),.f (decide_eq_false fun h=>hn ((Qcj tp).1 h))] rfl rfl trivial
end Orr

namespace Orr
theorem Hj (f:Nat→Int):Vf 1 f=trim [f 0]:=rfl
theorem Oy (f:Nat→Int):Vf 2 f=trim [f 0,f 1]:=rfl
theorem Df (x:Int):trim [x]=if x=0 then [] else [x]:=rfl
theorem Qd0 (x y:Int):trim [x,y]=if y=0 then trim [x] else [x,y]:=by
  simp only [trim]; split <;> split <;> simp_all
theorem bd1 {s:Nat} {x:Int} (h:Qm x≤s):Bd s [x]:=fun z hz=>by simp at hz; subst hz; exact h
theorem bd2 {s:Nat} {x y:Int} (h:Qm x≤s) (h':Qm y≤s):Bd s [x,y]:=fun z hz=>by
  simp only [List.mem_cons,List.not_mem_nil,or_false] at hz
  rcases hz with rfl | rfl <;> assumption
section
variable {x d:Int} (hd:0<d) (hg:Int.gcd x d=1) (hx:Qm x≤1000000) (hs:Qm d≤1000000)
theorem b1 {s:Nat} (h:1≤s):Bd s [1]:=bd1 (Nat.le_trans (show Qm 1≤1 by decide) h)
include hd in
theorem Cw (hg:Int.gcd x d=1):Xs [x,d]=[x,d]:=by
  have hc:V2 [x,d]=1:=by
    have h1:Mr [x,d]=1:=by
      show Int.gcd (Int.gcd ((0:Nat):Int) x:Nat) d=1
      rw [show Int.gcd ((0:Nat):Int) x=x.natAbs by simp,show Int.gcd ((x.natAbs:Nat):Int) d=Int.gcd x d by simp [Int.gcd],hg]
    unfold V2
    rw [if_neg (show ¬Zc [x,d]<0 from by show ¬d<0; omega),h1]; rfl
  unfold Xs
  rw [hc]
  show Vf 2 _=_
  rw [Oy,Qd0]
  show (if d / 1=0 then _ else [x / 1,d / 1])=_
  rw [Int.ediv_one,if_neg (by omega),Int.ediv_one]
theorem Qxt:Xs [1]=[1]:=by decide
include hd in
theorem Qa3:Xs [d]=[1]:=by
  have hc:V2 [d]=d:=by
    have h1:((Mr [d]:Nat):Int)=d:=by
      show ((Int.gcd ((0:Nat):Int) d:Nat):Int)=d
      simp; omega
    unfold V2
    rw [if_neg (show ¬Zc [d]<0 from by show ¬d<0; omega),h1]
  unfold Xs
  rw [hc]
  show Vf 1 _=_
  rw [Hj,Df]
  show (if d / d=0 then _ else [d / d])=_
  rw [Int.ediv_self (by omega)]; rfl
include hd in
theorem Qeo:Zm [x,d]=[d]:=by
  show Vf 1 _=_
  rw [Hj,Df]
  show (if d*1=0 then _ else [d*1])=_
  rw [Int.mul_one,if_neg (by omega)]
include hd hx hs in
theorem Qi5:∃ m,RRun [1] m [x,d] []:=by
  have h1:Qdp [x,d] [1]=trim [x]:=by
    show Vf 2 _=_
    rw [Oy,Qd0]
    have e1:G0 [x,d] [1] 1=0:=by
      show d*1-(if 1≤1 then Pk [x,d] [1]*1 else 0)=0
      have:Pk [x,d] [1]=d:=by unfold Pk; rw [if_neg (by decide)]; rfl
      rw [this]; simp
    have e0:G0 [x,d] [1] 0=x:=by
      show x*1-(if 1≤0 then _ else 0)=x
      simp
    rw [e1,if_pos rfl,e0]
  have hb:Bd 9000000 [x,d]:=bd2 (by omega) (by omega)
  by_cases h0:x=0
  · refine ⟨1,.step (by show 1≤2; decide) (by show 2≤1000; decide) hb (b1 (by decide)) ?_⟩
    rw [h1,h0]
    exact .stop (by decide)
  · refine ⟨2,.step (by show 1≤2; decide) (by show 2≤1000; decide) hb (b1 (by decide)) ?_⟩
    rw [h1,Df,if_neg h0]
    refine .step (Nat.le_refl 1) (by show 1≤1000; decide) (bd1 (by omega)) (b1 (by decide)) ?_
    have h2:Qdp [x] [1]=[]:=by
      show Vf 1 _=_
      rw [Hj,Df]
      have e0:G0 [x] [1] 0=0:=by
        show x*1-(if 0≤0 then Pk [x] [1]*1 else 0)=0
        have:Pk [x] [1]=x:=by unfold Pk; rw [if_neg (by decide)]; rfl
        rw [this]; simp
      rw [e0,if_pos rfl]
    rw [h2]
    exact .stop (by decide)
include hd hx hs in
theorem Qwh:∃ m,GRun m [x,d] [1] [1]:=by
  obtain ⟨m,h⟩:=Qi5 hd hx hs
  exact ⟨1,.step (by decide) (by decide) (b1 (by decide)) h (by decide) Wd rfl (by rw [show Xs []=[] by decide]; exact .stop _)⟩
theorem Qr6 (c:Int):Vx [c] [c]=[]:=by
  show Vf 1 _=_
  rw [Hj,Df]
  show (if c-c=0 then _ else _)=_
  rw [if_pos (by omega)]
include hd hx hs in
theorem Qn6:DOk [x,d] [1] [x,d]:=by
  refine ⟨by decide,by decide,by show 2≤1000; decide,b1 (by decide),[x,d],[],?_⟩
  have hpl:Zc [x,d] / Zc [1]=d:=by show d / 1=d; rw [Int.ediv_one]
  have hsc:Qw [1] d=[d]:=by
    show Vf 1 _=_
    rw [Hj,Df]
    show (if 1*d=0 then _ else [1*d])=_
    rw [Int.one_mul,if_neg (by omega)]
  have hsub:Vx [x,d] (Fv 1 [d])=trim [x]:=by
    show Vf 2 _=_
    rw [Oy,Qd0]
    show (if d-d=0 then trim [x-0] else _)=_
    rw [if_pos (by omega),Int.sub_zero]
  have hb:Bd 9000000 [x,d]:=bd2 (by omega) (by omega)
  have ht:trim [x,d]=[x,d]:=by rw [Qd0,if_neg (by omega)]
  by_cases h0:x=0
  · refine ⟨1,hb,by show 2≤1000; decide,?_,ht.symm⟩
    refine .step (by show 1≤2; decide) (by show 2≤1000; decide) hb (by decide) (by show (1:Int)∣d; exact Int.one_dvd d) (by show 1<2; decide) ?_
    rw [hpl,hsc,show [x,d].length-[(1:Int)].length=1 from rfl,hsub,Df,if_pos h0]
    show DRun [1] 0 [] [0,d] [x,d] []
    rw [h0]; exact .stop (by decide)
  · refine ⟨2,hb,by show 2≤1000; decide,?_,ht.symm⟩
    refine .step (by show 1≤2; decide) (by show 2≤1000; decide) hb (by decide) (by show (1:Int)∣d; exact Int.one_dvd d) (by show 1<2; decide) ?_
    rw [hpl,hsc,show [x,d].length-[(1:Int)].length=1 from rfl,hsub,Df,if_neg h0]
    refine .step (by show 1≤1; decide) (by show 1≤1000; decide) (bd1 (by omega)) (by decide) (by show (1:Int)∣x; exact Int.one_dvd x) (by show 0<2; decide) ?_
    have hpl2:Zc [x] / Zc [1]=x:=by show x / 1=x; rw [Int.ediv_one]
    have hsc2:Qw [1] x=[x]:=by
      show Vf 1 _=_
      rw [Hj,Df]
      show (if 1*x=0 then _ else [1*x])=_
      rw [Int.one_mul,if_neg h0]
    rw [hpl2,hsc2,show [x].length-[(1:Int)].length=0 from rfl,show Fv 0 [x]=[x] from rfl,Qr6]
    exact .stop (by decide)
theorem div_one:DOk [1] [1] [1]:=by
  refine ⟨by decide,by decide,by decide,b1 (by decide),[1],[],1,b1 (by decide),by decide,?_,by decide⟩
  refine .step (by decide) (by decide) (b1 (by decide)) (by decide) (by decide) (by decide) ?_
  exact .stop (by decide)
include hd hg hx hs in
theorem Qvz:FRun [x,d] 1 (fun _=>[x,d]):=by
  obtain ⟨m,hm⟩:=Qwh (x:=x) hd hx hs
  refine ⟨⟨1,[[x,d],[1]],?_,rfl,?_⟩,by decide⟩
  · rw [Cw hd hg]
    refine .step (by show 1<2; decide) (by show 2≤1000; decide) (by show trim [x,d]=[x,d]; rw [Qd0,if_neg (by omega)]) (by show Bd 9000000 [x,d]; exact bd2 (by omega) (by omega)) ?_ ?_ (by show 1≤1000; decide) (m:=m) (g:=[1]) ?_
    · show Bd 9000000 (Zm [x,d])
      rw [Qeo hd]; exact bd1 (by omega)
    · show GRun m (Xs [x,d]) (Xs (Zm [x,d])) [1]
      rw [Cw hd hg,Qeo hd,Qa3 hd]; exact hm
    · exact .stop (by show 1≤1; decide)
  · intro k hk
    have:k=0:=by omega
    subst this
    exact ⟨[x,d],[1],[x,d],Qn6 hd hx hs,div_one,by rw [Cw hd hg,Qxt]; exact Qn6 hd hx hs,(Cw hd hg).symm⟩
theorem Qrx {p:List Int} (hp:Qj p) (h0:0<p.length):Zp [1] p=p:=by
  refine Sk (Zz _ _) hp fun k=>?_
  unfold Zp
  rw [if_neg (by
   rintro (h | h); · cases h
   · omega),U9]
  show (Kk [1] p (List.replicate (1+p.length-1) 0) 1).getD k 0=_
  simp only [Kk]
  rw [Lz _ _ _ _ _ _ (by simp),Jt]
  split
  · show 0+1*p.getD (k-0) 0=_
    rw [Nat.sub_zero]; omega
  · rename_i h
    rw [List.getD_eq_getElem?_getD,List.getElem?_eq_none (by omega)]; rfl
include hd hg hx hs in
theorem Qq7:ChRun [x,d] [x,d] [[x,d],[1]]:=by
  obtain ⟨m,hm⟩:=Qi5 (x:=x) hd hx hs
  have ht:Qj [x,d]:=by show trim [x,d]=_; rw [Qd0,if_neg (by omega)]
  refine ⟨⟨1,fun _=>[x,d],Qvz hd hg hx hs,?_,?_⟩,⟨1,?_⟩,bd2 (by omega) (by omega),by show 2≤1000; decide,by show 2≤1000; decide⟩
  · intro i hi
    have:i=0:=by omega
    subst this
    exact ⟨b1 (by decide),by show 1≤1000; decide,bd2 (by omega) (by omega),by show 2≤1000; decide⟩
  · show [x,d]=Zp [1] [x,d]
    rw [Qrx ht (by show 0<2; decide)]
  · have hz:Vg (Zm [x,d])=[1]:=by
      rw [Qeo hd]
      unfold Vg
      rw [if_neg (show ¬Zc [d]<0 from by show ¬d<0; omega),Qa3 hd]
    rw [hz]
    refine .step (by decide) (by decide) (b1 (by decide)) (m:=m) (r:=[]) hm rfl Wd (by decide) (by show 0<1; decide) (by show 1≤1000; decide) ?_
    exact .stop (by decide)
end
theorem Zah {q:Rat} (h:Qs 1000000 q):Qmv q [[-q.num,(q.den:Int)],[1]]:=by
  refine ⟨[-q.num,(q.den:Int)],Qq7 (den_pos q) ?_ (by rw [Z7]; exact h.1) h.2⟩
  rw [Int.neg_gcd]
  have:=q.reduced
  unfold Nat.Coprime at this
  simpa [Int.gcd] using this
end Orr

namespace Orr
open Go Go.Proofs
set_option maxRecDepth 10000
theorem Q6p {a b g:List Int} {n:Nat} (ta:Qj a) (tb:Qj b) (ha:Bd 9000000 a) (hb:Bd 9000000 b) (la:a.length≤1000) (lb:b.length≤1000) (hrun:GRun n (Xs a) (Xs b) g):Qc Tryz.prog 306 [.one (rp (zp a)),.one (rp (zp b))] [.one (rp (zp g))]:=by
  refine Zy Tryz.func306 rfl ?_
  refine go tt [.c [] (Ri ta ha la),.c [] (Ri tb hb lb)] rfl trivial ?_
  refine sb [(0,.v (.one (rp (zp (Xs a))))),(1,.v (.one (rp (zp (Xs b)))))] [] rfl rfl ?_
  refine lp (S:=Nat×List Int×List Int) 0 (fun L1 s=>(0,.v (.one (rp (zp s.2.1))))::(1,.v (.one (rp (zp s.2.2))))::L1) (fun _=>[]) (fun s=>s.1) (fun s=>GRun s.1 s.2.1 s.2.2 g) (n,Xs a,Xs b) hrun rfl (fun _ _=>rfl) rfl fun ⟨k,x,y⟩ hs=>?_
  have hs:GRun k x y g:=hs
  have hyl:=Al y
  rcases hs.inv with ⟨hk,hy0,hxg⟩ | ⟨j,m2,r,hk,hy0,hy1,hyb,hrr,hrl,hrb,hrt,hgr⟩
  · rw [←hxg]
    exact en tt [.f (decide_eq_false (by dsimp only; omega))] rfl rfl trivial
  · subst hk
    refine go tt [.t (decide_eq_true (by dsimp only; omega)),.c [] (Qnp (a0:=x) (b:=y) (res:=r) hy0 hy1 hyb hrr),.c [] (Ri (p:=r) hrt hrb hrl)] rfl trivial ?_
    exact rd (j,y,Xs r) (by dsimp only; omega) hgr rfl
theorem Q01 {x y:Int} (hx:Qm x≤9000000) (hy:Qm y≤9000000) (h0:y≠0) (hd:y∣x):Qc Tryz.prog 309 [.agg (fr (x:Rat)),.agg (fr (y:Rat))] [.agg (fr ((x / y:Int):Rat))]:=by
  have hy0:(y:Rat)≠0:=fun e=>h0 (by exact_mod_cast e)
  have h:=Qkc (Um (s:=40000000) (z:=x) (by omega) (by omega)) (Um (s:=40000000) (z:=y) (by omega) (by omega)) hy0
  obtain ⟨k,rfl⟩:=hd
  rw [Int.mul_ediv_cancel_left _ h0]
  rwa [show (((y*k:Int):Rat)) / (y:Rat)=(k:Rat) by rw [Rat.intCast_mul]; grind] at h
theorem Qqz {p:List Int} {c:Int} (hp:Bd 40000000 p) (hc:Qm c≤40000000) (hl:p.length≤1000000):Qc Tryz.prog 248 [.one (rp (zp p)),.agg (fr (c:Rat))] [.one (rp (zp (Qw p c)))]:=by
  have h:=He (M6 hp (by omega)) (Um hc (by omega)) (by rw [Yj]; exact hl)
  rwa [Qdo] at h
theorem Q34 (k:Nat) (p:List Int):Xi (zp (List.replicate k 0))++Xi (zp p)=Xi (zp (Fv k p)):=by simp [zp,Fv,Xi]
theorem Qro (l:List Int) (i:Nat) (z:Int):(Xi (zp l)).set i [nd ((z:Rat)).num.natAbs,sg ((z:Rat)).num,nd (((z:Rat)).den:Int).natAbs,sg (((z:Rat)).den:Int)]=Xi (zp (l.set i z)):=Qhr l i z
theorem Q1j {p q:List Int} (hp:Bd 18000000 p) (hq:Bd 18000000 q) (hlp:p.length≤1000000) (hlq:q.length≤1000000):Z5 Tryz.prog 208 [.one (rp (zp p)),.one (.orow 0 4 none)] [.row false 49 4 (Xi (zp q))] [.one (rp (zp (Vx p q)))] [.gone]:=by
  have hn:=Qkn ((M6 hq (by decide)).mono (by decide)) (by rw [Yj]; exact hlq)
  have ha:=Qul (p:=zp p) (q:=Qfz (zp q)) ((M6 hp (by decide)).mono (by decide)) ((Qyd (M6 hq (by decide))).mono (by decide)) (by rw [Yj]; exact hlp) (Nat.le_trans (Qi6 _) (by rw [Yj]; exact hlq))
  have e:Qr9 (zp p) (Qfz (zp q))=zp (Vx p q):=Qpz p q
  rw [e] at ha
  refine Zy Tryz.func208 rfl ?_
  exact ed tt [] [0] [.c [] hn,.c [] ha] rfl trivial
theorem Qq0 {a0 b qf rem:List Int} {n:Nat} (hb0:0<b.length) (hb1:b.length≤1000) (hl0:a0.length≤1000) (hbb:Bd 9000000 b) (hqb:Bd 9000000 qf) (hrun:DRun b n a0 (List.replicate (a0.length+1-b.length) 0) qf rem):Qc Tryz.prog 307 [.one (rp (zp a0)),.one (rp (zp b))] [.one (rp (zp (trim qf))),.one (rp (zp rem))]:=by
  have h0l:=Al a0
  have hbl:=Al b
  obtain ⟨N,hN⟩:∃ N,N=a0.length+1-b.length:=⟨_,rfl⟩
  rw [←hN] at hrun
  have cc:=Tx (p:=zp qf)
  rw [Ky] at cc
  refine Zy Tryz.func307 rfl ?_
  refine go tt [.r 18 (eI (b:=(N:Int)) (by omega)),.i N,.i N,.r 21 (eI (b:=(N:Int)) (by simp))] rfl (by simp [Qa]; omega) ?_
  refine lp (S:=Nat) 1 (fun L1 i=>(22,.v (.one (.int .i64 (i:Int))))::L1) (fun i=>[.row false 49 4 (List.replicate i (fr 0)++List.replicate (N-i) zR)]) (fun i=>N-i) (fun i=>i≤N) 0 (Nat.zero_le _) rfl (fun _ _=>rfl) rfl fun i hi=>?_
  by_cases hlt:i<N
  · refine go tt [.t (decide_eq_true (by omega)),.c [] Qua,.i i] rfl (by simp [Qa]; omega) ?_
    rw [Qew hlt]
    exact rd (i+1) (by omega) hlt rfl
  have hiN:i=N:=by omega
  rw [hiN,Qbi]
  clear hiN hlt hi
  refine go tt [.f (decide_eq_false (by omega))] rfl trivial ?_
  refine sb [(0,.v (.one (rp (zp a0)))),(1,.v (.one (rp (zp b)))),(6,.v (.one (.orow 0 4 none)))] [.row false 49 4 (Xi (zp (List.replicate N 0)))] rfl rfl ?_
  refine lp (S:=Nat×List Int×List Int) 1 (fun L1 s=>(0,.v (.one (rp (zp s.2.1))))::L1) (fun s=>[.row false 49 4 (Xi (zp s.2.2))]) (fun s=>s.1) (fun s=>DRun b s.1 s.2.1 s.2.2 qf rem∧s.2.2.length=N) (n,a0,List.replicate N 0) ⟨hrun,List.length_replicate⟩ rfl (fun _ _=>rfl) rfl fun ⟨k,a,q⟩ ⟨hr0,hr1⟩=>?_
  have hr0:DRun b k a q qf rem:=hr0
  have hr1:q.length=N:=hr1
  have hal:=Al a
  have hql:=Al q
  rcases hr0.inv with ⟨hk,hqf,har,hlt⟩ | ⟨j,hk,hba,hal2,hab,hpb,hpd,hkq,hrj⟩
  · subst hqf; subst har
    exact en tt [.f (decide_eq_false (by dsimp only; omega)),.c [] cc] rfl rfl trivial
  subst hk
  obtain ⟨K,hK⟩:∃ K,K=a.length-b.length:=⟨_,rfl⟩
  rw [←hK] at hrj hkq
  have hla:Qm (Zc a)≤9000000:=Qq hab _
  have hlb:Qm (Zc b)≤9000000:=Qq hbb _
  obtain ⟨c,hc⟩:∃ c,c=Zc a / Zc b:=⟨_,rfl⟩
  have cq:=Q01 hla hlb hpb hpd
  have hcs:Qm (Zc a / Zc b)≤9000000:=Nat.le_trans (Sw _ _) hla
  rw [←hc] at cq hcs hrj
  have hsl:=Q8 b c
  have hqs:∀ x,(q.set K x).length=N:=fun x=>by rw [List.length_set]; exact hr1
  dsimp only
  refine go tt [.t (decide_eq_true (by omega)),.r 39 (eI (b:=(K:Int)) (by omega)),.r 43 (eI (b:=((a.length-1:Nat):Int)) (by omega)),.x (X9 (p:=a) (i:=a.length-1) (by omega)),.r 49 (eI (b:=((b.length-1:Nat):Int)) (by omega)),.x (X9 (p:=b) (i:=b.length-1) (by omega)),.c [] cq,.i K,.i K,.i K,.r 60 (eI (b:=(K:Int)) (by simp))] rfl (by simp [Qa,hql] <;> omega) ?_
  rw [Qro]
  refine lp (S:=Nat) 3 (fun L1 i=>(61,.v (.one (.int .i64 (i:Int))))::L1) (fun i=>[.row false 49 4 (Xi (zp (q.set K c))),.blk 49 (fr (c:Rat)),.row false 49 4 (List.replicate i (fr 0)++List.replicate (K-i) zR)]) (fun i=>K-i) (fun i=>i≤K) 0 (Nat.zero_le _) rfl (fun _ _=>rfl) rfl fun i hi=>?_
  by_cases hlt:i<K
  · refine go tt [.t (decide_eq_true (by omega)),.c [] Qua,.i i] rfl (by simp [Qa]; omega) ?_
    rw [Qew hlt]
    exact rd (i+1) (by omega) hlt rfl
  have hiK:i=K:=by omega
  rw [hiK,Qbi]
  clear hiK hlt hi
  have hzl:=Al (List.replicate K 0)
  rw [List.length_replicate] at hzl
  have hpl:=Al (Qw b c)
  refine go tt [.f (decide_eq_false (by omega))] rfl trivial ?_
  refine sb [(10,.v (.one (.orow 2 4 none))),(9,.v (.one (.ow 1 0))),(0,.v (.one (rp (zp a)))),(1,.v (.one (rp (zp b)))),(6,.v (.one (.orow 0 4 none)))] [.row false 49 4 (Xi (zp (q.set K c))),.blk 49 (fr (c:Rat)),.row false 49 4 (Xi (zp (List.replicate K 0)))] rfl rfl ?_
  have p2:=Q1j (p:=a) (q:=Fv K (Qw b c)) (Qd hab (by decide)) (Qd (Qql (Zo hbb hcs)) (by decide)) (by omega) (by rw [Qmd]; omega)
  rw [←Q34] at p2
  refine go tt [.c [] (Qqz (c:=c) (Qd hbb (by decide)) (by omega) (by omega)),.s (sz:=4) (Lj (zp (Qw b c))),.c [2] p2] rfl (by simp [Qa,hzl,hpl]; omega) ?_
  exact rd (j,Vx a (Fv K (Qw b c)),q.set K c) (by dsimp only; omega) ⟨hrj,hqs c⟩ rfl
end Orr

namespace Orr
open Go Go.Proofs
set_option maxRecDepth 10000
def zls (l:List (List Int)):List (List LV):=l.map fun p=>[rp (zp p)]
theorem Mq (l:List (List Int)):(zls l).length=l.length:=by simp [zls]
theorem Do (l:List (List Int)) (g:List Int):zls l++[[rp (zp g)]]=zls (l++[g]):=by simp [zls]
theorem Mp {l:List (List Int)} {i:Nat} (h:i<l.length):(zls l)[i]? = some [rp (zp (l.getD i []))]:=Z4 (Qk2 h)
theorem Q25 (x:LV):∀ c∈[[x]],c.length=1:=fun c hc=>by rw [List.mem_singleton.1 hc]; rfl
theorem Oc {a b q:List Int} (h:DOk a b q):∃ r,Qc Tryz.prog 307 [.one (rp (zp a)),.one (rp (zp b))] [.one (rp (zp q)),.one (rp (zp r))]:=by
  obtain ⟨h1,h2,h3,h4,qf,r,n,h5,h6,h7,rfl⟩:=h
  exact ⟨r,Qq0 h1 h2 h3 h4 h5 h7⟩
theorem Qkm {a:List Int} {mf:Nat} {f:Nat→List Int} (ta:Qj a) (ha:Bd 9000000 a) (la:a.length≤1000) (h2:2≤a.length) (hF:FRun a mf f):Qc Tryz.prog 282 [.one (rp (zp a))] [.one (.row (zls (Qbf f mf)))]:=by
  obtain ⟨⟨n,ls,hrun,hlen,hq⟩,hms⟩:=hF
  have hal:=Al a
  refine Zy Tryz.func282 rfl ?_
  refine go tt [.f (decide_eq_false (by omega)),.c [] (Ri ta ha la),.o 3 99 1,.lo] rfl trivial ?_
  refine sb [(3,.v (.one (.orow 0 1 none))),(4,.v (.one (.orow 1 1 none)))] [.row false 99 1 [],.row false 99 1 (zls [Xs a])] rfl rfl ?_
  refine lp (S:=Nat×List (List Int)) 2 (fun L1 s=>(4,.v (.one (.orow 1 1 none)))::L1) (fun s=>[.row false 99 1 [],.row false 99 1 (zls s.2)]) (fun s=>s.1) (fun s=>LRun s.1 s.2 ls∧0<s.2.length∧s.2.length≤1001) (n,[Xs a]) ⟨hrun,by show 0<1; decide,by show 1≤1001; decide⟩ rfl (fun _ _=>rfl) rfl fun ⟨k,l⟩ ⟨hs1,hs2,hs3⟩=>?_
  have hs1:LRun k l ls:=hs1
  have hs2:0<l.length:=hs2
  have hs3:l.length≤1001:=hs3
  have hll:=Mq l
  have hlast:(zls l)[l.length-1]? = some [rp (zp (Vd l))]:=Mp (by omega)
  have hpl:=Al (Vd l)
  dsimp only
  rcases hs1.inv with ⟨hk,hlf,hl1⟩ | ⟨j,m2,g,hk,hg1,hg2,hg3,hg4,hg5,hg6,hg7,hlr⟩
  · have hlm:l.length=mf+1:=by rw [hlf]; exact hlen
    rw [←hlf] at hq
    have hl2:=Mq (l++[[1]])
    have hl3:(l++[[1]]).length=mf+2:=by simp [hlm]
    refine go tt [.r 23 (eI (b:=((l.length-1:Nat):Int)) (by omega)),.i (l.length-1),.x hlast,.f (decide_eq_false (by omega)),.c [] Quo,.s (sz:=1) (Q25 _)] rfl (by simp [Qa,hll]; omega) ?_
    rw [Do]
    refine lp (S:=Nat) 2 (fun L1 i=>(6,.v (.one (.int .i64 (i:Int))))::(3,.v (.one (.orow 0 1 none)))::L1) (fun i=>[.row false 99 1 (zls (Qbf f i)),.row false 99 1 (zls (l++[[1]]))]) (fun i=>mf-i) (fun i=>i≤mf) 0 (Nat.zero_le _) rfl (fun _ _=>rfl) rfl fun i hi=>?_
    have htl:=Mq (Qbf f i)
    rw [Qjf] at htl
    by_cases h:i<mf
    · obtain ⟨x,y,z,hx,hy,hz,hf⟩:=hq i h
      obtain ⟨rx,hdx⟩:=Oc hx
      obtain ⟨ry,hdy⟩:=Oc hy
      obtain ⟨rz,hdz⟩:=Oc hz
      refine go tt [.t (decide_eq_true (by omega)),.i i,.x (Mp (by omega)),.i (i+1),.x (Mp (by omega)),.c [] hdx,.i (i+1),.x (Mp (by omega)),.i (i+2),.x (Mp (by omega)),.c [] hdy,.c [] (Ri hx.trim hx.bd hx.len),.c [] (Ri hy.trim hy.bd hy.len),.c [] hdz,.c [] (Ri hz.trim hz.bd hz.len),.s (sz:=1) (Q25 _)] rfl (by simp [Qa,hl2,htl]; omega) ?_
      exact rd (i+1) (by omega) h (by rw [Do,Qsk,hf]; rfl)
    · have e:i=mf:=by omega
      rw [e]
      exact en tt [.f (decide_eq_false (by omega))] rfl rfl (by simp [Qa]; omega)
  · subst hk
    refine go tt [.r 23 (eI (b:=((l.length-1:Nat):Int)) (by omega)),.i (l.length-1),.x hlast,.t (decide_eq_true (by omega)),.r 31 (eI (b:=((l.length-1:Nat):Int)) (by omega)),.i (l.length-1),.x hlast,.c [] (Qkl (Qd hg4 (by decide)) (by omega)),.c [] (Q6p hg3 (Za _ _) hg4 hg5 hg2 (Nat.le_trans (Ys _) (by omega)) hg6),.s (sz:=1) (Q25 _)] rfl (by simp [Qa,hll]; omega) ?_
    exact rd (j,l++[g]) (by dsimp only; omega) ⟨hlr,by simp,by simp; omega⟩ (by rw [Do]; rfl)
theorem Qq1 {a:List Int} {mf:Nat} {f:Nat→List Int} (ta:Qj a) (ha:Bd 9000000 a) (la:a.length≤1000) (h2:2≤a.length) (hF:FRun a mf f) (hP:Q86 mf f):Qc Tryz.prog 250 [.one (rp (zp a))] [.one (rp (zp (Hx f mf)))]:=by
  have hms:=hF.small
  have hal:=Al a
  have htl:=Mq (Qbf f mf)
  rw [Qjf] at htl
  refine Zy Tryz.func250 rfl ?_
  refine go tt [.f (decide_eq_false (by omega)),.c [] Quo,.c [] (Qkm ta ha la h2 hF)] rfl trivial ?_
  refine lp (S:=Nat) 0 (fun L1 i=>(15,.v (.one (.int .i64 (i:Int))))::(3,.v (.one (rp (zp (Hx f i)))))::L1) (fun _=>[]) (fun i=>mf-i) (fun i=>i≤mf) 0 (Nat.zero_le _) rfl (fun _ _=>rfl) rfl fun i hi=>?_
  by_cases h:i<mf
  · obtain ⟨g1,g2,g3,g4⟩:=hP i h
    refine go tt [.t (decide_eq_true (by omega)),.x (Z4 (f:=fun p=>[rp (zp p)]) (Qzm h)),.c [] (Qun (p:=Hx f i) (q:=f i) (by omega) (by omega) g1 g3 (by decide))] rfl (by simp [Qa]; omega) ?_
    exact rd (i+1) (by omega) h rfl
  · have e:i=mf:=by omega
    rw [e]
    exact en tt [.f (decide_eq_false (by omega))] rfl rfl trivial
theorem Qru {l:List (List Int)} (g:List Int) (h:0<l.length):(zls l++[[rp (zp g)]])[l.length-1]? = some [rp (zp (Vd l))]:=by
  rw [List.getElem?_append_left (by rw [Mq]; omega)]
  exact Mp (by omega)
theorem Qum {a sq:List Int} {c:List (List Int)} (ta:Qj a) (ha:Bd 9000000 a) (la:a.length≤1000) (h2:2≤a.length) (hC:ChRun a sq c):Qc Tryz.prog 207 [.one (rp (zp a))] [.one (.row (zls c))]:=by
  obtain ⟨⟨mf,f,hF,hP,rfl⟩,⟨n,hcr⟩,hbd,hle,hsm⟩:=hC
  refine Zy Tryz.func207 rfl ?_
  refine go tt [.c [] (Qq1 ta ha la h2 hF hP),.lo,.c [] (Qkl (p:=Hx f mf) (Qd hbd (by decide)) (by omega)),.c [] (Qg1 (p:=Zm (Hx f mf)) (Za _ _) (Qd (Aw (t:=10) hbd (by omega)) (by decide)) (Nat.le_trans (Ys _) (by omega)))] rfl trivial ?_
  refine sb [(5,.v (.one (rp (zp (Vg (Zm (Hx f mf))))))),(4,.v (.one (.orow 0 1 none)))] [.row false 99 1 (zls [Hx f mf])] rfl rfl ?_
  refine lp (S:=Nat×List (List Int)×List Int) 1 (fun L1 s=>(5,.v (.one (rp (zp s.2.2))))::(4,.v (.one (.orow 0 1 none)))::L1) (fun s=>[.row false 99 1 (zls s.2.1)]) (fun s=>s.1) (fun s=>CRun s.1 s.2.1 s.2.2 c∧0<s.2.1.length∧s.2.1.length≤1001) (n,[Hx f mf],Vg (Zm (Hx f mf))) ⟨hcr,by show 0<1; decide,by show 1≤1001; decide⟩ rfl (fun _ _=>rfl) rfl fun ⟨k,l,g⟩ ⟨hs1,hs2,hs3⟩=>?_
  have hs1:CRun k l g c:=hs1
  have hs2:0<l.length:=hs2
  have hs3:l.length≤1001:=hs3
  have hll:=Mq l
  have hgl:=Al g
  dsimp only
  rcases hs1.inv with ⟨hk,hlf,hg0⟩ | ⟨j,m2,r,hk,hg1,hg2,hg3,hrr,hrt,hrb,hrl,hl0,hl1,hcj⟩
  · subst hlf
    exact en tt [.f (decide_eq_false (by omega))] rfl rfl trivial
  · subst hk
    refine go tt [.t (decide_eq_true (by omega)),.s (sz:=1) (Q25 _),.r 23 (eI (b:=((l.length-1:Nat):Int)) (by simp; omega)),.i (l.length-1),.x (Qru g hl0),.c [] (Qnp (a0:=Vd l) (b:=g) (res:=r) hg1 hg2 hg3 hrr),.c [] (Qg1 (p:=r) hrt hrb hrl),.c [] (Quj (p:=Vg r) (Qqk hrb) (Nat.le_trans (Qk7 r) (by omega)))] rfl (by simp [Qa,hll]; omega) ?_
    exact rd (j,l++[g],Y6 (Vg r)) (by dsimp only; omega) ⟨hcj,by simp,by simp; omega⟩ (by rw [Do]; rfl)
theorem Q9c {q:Rat} (h1:Qm q.num≤1000000) (h2:Qm (q.den:Int)≤1000000):Bd 9000000 [-q.num,(q.den:Int)]:=fun z hz=>by
  simp only [List.mem_cons,List.not_mem_nil,or_false] at hz
  rcases hz with rfl | rfl
  · rw [Z7]; omega
  · omega
abbrev aq (q:Rat) (c:List (List Int)):List LV:=[rp (zp [-q.num,(q.den:Int)]),.row (zls c)]++fr q++fr q
theorem Qg0 {q:Rat} {c:List (List Int)} (hq:Qs 1000000 q) (hC:Qmv q c):Qc Tryz.prog 147 [.agg (fr q)] [.agg (aq q c)]:=by
  obtain ⟨sq,hch⟩:=hC
  have co:=W6 (n:=1) (by decide)
  exact w tt Tryz.func147 rfl [.c [] co,.c [] (Vj (n:=q.num)),.c [] (Qtk (z:=q.num)),.c [] co,.c [] (Vj (n:=(q.den:Int))),.c [] (Qum (a:=[-q.num,(q.den:Int)]) (Qp8 q) (Q9c hq.1 hq.2) (by show 2≤1000; decide) (Nat.le_refl 2) hch)] rfl rfl trivial
theorem Qg2 {q:Rat} {c:List (List Int)} (hq:Qs 1000000 q):Qc Tryz.prog 337 [.agg (aq q c)] [.one (.bool true)]:=by
  have cr:=Q1e (a:=q) (b:=q) (hq.mono (by decide)) (hq.mono (by decide))
  rw [Wh] at cr
  exact w tt Tryz.func337 rfl [.c [] cr] rfl rfl trivial
theorem Qr5 {p:List Int} (h:p.length=0) (q:Rat):Zx p q=0:=by rw [List.eq_nil_of_length_eq_zero h]; rfl
theorem Qno {p:List Int} {q:Rat} {c:List (List Int)} (hp:Bd 30000000 p) (hl:p.length≤64) (hq:Qs 1000000 q):Qc Tryz.prog 336 [.one (rp (zp p)),.agg (aq q c)] [.one (.bool (decide (Zx p q=0)))]:=by
  have hpl:=Al p
  rcases Nat.eq_zero_or_pos p.length with h0 | h0
  · rw [decide_eq_true (Qr5 h0 q)]
    exact w tt Tryz.func336 rfl [.t (decide_eq_true (by omega))] rfl rfl trivial
  · exact w tt Tryz.func336 rfl [.f (decide_eq_false (by omega)),.c [] (Qg2 hq),.t rfl,.c [] (Qnn hp hl hq)] rfl rfl trivial
theorem Qb5 {p:List Int} {q:Rat} {c:List (List Int)} (hp:Bd 30000000 p) (hl:p.length≤64) (hq:Qs 1000000 q):Qc Tryz.prog 327 [.one (rp (zp p)),.agg (aq q c)] [.one (.int .i64 (Zx p q))]:=by
  by_cases h0:Zx p q=0
  · have cz:=Qno (c:=c) hp hl hq
    rw [h0] at cz ⊢
    exact w tt Tryz.func327 rfl [.c [] cz,.t rfl] rfl rfl trivial
  · exact w tt Tryz.func327 rfl [.c [] (Qno hp hl hq),.f (decide_eq_false h0),.c [] (Qg2 hq),.g 11 true rfl,.t rfl,.c [] (Qnn hp hl hq)] rfl rfl trivial
theorem Bn {p:List Int} {q:Rat} {c:List (List Int)} (hp:Bd 20000000 p) (hl:p.length≤64) (hq:Qs 1000000 q):Qc Tryz.prog 315 [.one (rp (zp p)),.agg (aq q c)] [.one (.int .i64 (Sr p q))]:=by
  refine Zy Tryz.func315 rfl ?_
  refine go tt [] rfl trivial ?_
  refine lp (S:=List Int) 1 (fun L1 r=>(0,.v (.one (rp (zp r))))::L1) (fun _=>[.blk 102 (aq q c)]) (fun r=>r.length) (fun r=>r.length≤64∧Bd (25000000-30*r.length) r∧J3 (fun p=>Zx p q) r.length r=Sr p q) p ⟨hl,Qd hp (by omega),rfl⟩ rfl (fun _ _=>rfl) rfl fun r ⟨hr0,hr1,hr2⟩=>?_
  have hrl:=Al r
  rcases Nat.eq_zero_or_pos r.length with h0 | h0
  · rw [Ex _ h0] at hr2
    exact en tt [.f (decide_eq_false (by omega))] rfl (by rw [←hr2]) trivial
  by_cases hs:Zx r q=0
  · have hd:=Ys r
    refine go tt [.t (decide_eq_true (by omega)),.c [] (Qb5 (p:=r) (c:=c) (Qd hr1 (by omega)) hr0 hq),.f (decide_eq_false (fun h=>h hs)),.c [] (Qkl (p:=r) (Qd hr1 (by omega)) (by omega))] rfl trivial ?_
    exact rd (Zm r) (by omega) ⟨by omega,Qd (Aw (t:=6) hr1 (by omega)) (by omega),by rw [←hr2,Ew _ h0 hs]⟩ rfl
  · exact en tt [.t (decide_eq_true (by omega)),.c [] (Qb5 (p:=r) (c:=c) (Qd hr1 (by omega)) hr0 hq),.t (decide_eq_true hs)] rfl (by rw [←hr2,Ev _ h0 hs]) trivial
end Orr

namespace Orr
def Bb (p:List Int) (d:Int):List Rat:=p.map fun (z:Int)=>(z:Rat) / (d:Rat)
theorem Gp (p:List Int) (d:Int):(Bb p d).length=p.length:=List.length_map _
theorem Q3u {p:List Int} {i:Nat} {z:Int} {d:Int} (h:p[i]? = some z):(Bb p d)[i]? = some ((z:Rat) / (d:Rat)):=by simp [Bb,h]
theorem Qyv (p:List Int) (d:Int) (i:Nat):(Bb p d).getD i 0=((p.getD i 0:Int):Rat) / (d:Rat):=by
  simp only [List.getD_eq_getElem?_getD,Bb,List.getElem?_map]
  cases p[i]? with
  | none=>simp; grind
  | some z=>rfl
theorem Ro (z d:Int):(z:Rat) / (d:Rat)=Rat.divInt z d:=by
  by_cases h:d=0
  · subst h; simp; grind
  · rw [Rat.div_def]
    have e1:(z:Rat)=Rat.divInt z 1:=by have:=Rat.num_divInt_den (z:Rat); simpa using this.symm
    have e2:(d:Rat)⁻¹=Rat.divInt 1 d:=by
      have:(d:Rat)=Rat.divInt d 1:=by have:=Rat.num_divInt_den (d:Rat); simpa using this.symm
      rw [this,Rat.inv_divInt]
    rw [e1,e2,Rat.divInt_mul_divInt]
    simp
theorem Q12 {z d:Int} (hd:0<d):(((z:Rat) / (d:Rat)).den:Int)*(Int.gcd z d:Nat)=d:=by
  rw [Ro]
  have h:=(Qfc (n:=z) hd).2
  rw [←h,Kf,Int.gcd_comm]
  exact Int.ediv_mul_cancel (Int.gcd_dvd_right ..)
theorem Qwr {d a b L:Nat} (hd:0<d) (ha:L*a=d) {D:Nat} (hb:D*b=d):L*D / Nat.gcd L D*Nat.gcd a b=d:=by
  have hL:0<L:=Nat.pos_of_ne_zero fun e=>by rw [e] at ha; omega
  have hD:0<D:=Nat.pos_of_ne_zero fun e=>by rw [e] at hb; omega
  have hg:0<Nat.gcd L D:=Nat.gcd_pos_of_pos_left _ hL
  show Nat.lcm L D*Nat.gcd a b=d
  rw [←Nat.gcd_mul_left]
  refine Nat.dvd_antisymm ?_ ?_
  · -- gcd (M a) (M b) | d
    obtain ⟨u,hu⟩:=Nat.gcd_dvd_left L D
    obtain ⟨v,hv⟩:=Nat.gcd_dvd_right L D
    have hM:Nat.lcm L D=Nat.gcd L D*(u*v):=by
      unfold Nat.lcm
      conv=>lhs; rw [show L*D=Nat.gcd L D*u*(Nat.gcd L D*v) by rw [←hu,←hv]]
      rw [show Nat.gcd L D*u*(Nat.gcd L D*v)=Nat.gcd L D*(Nat.gcd L D*(u*v)) by rw [Nat.mul_assoc,Nat.mul_left_comm u,]]
      exact Nat.mul_div_cancel_left _ hg
    have h1:Nat.lcm L D*a=v*d:=by
      rw [hM,←ha]
      conv=>rhs; rw [hu]
      simp [Nat.mul_comm,Nat.mul_left_comm,Nat.mul_assoc]
    have h2:Nat.lcm L D*b=u*d:=by
      rw [hM,←hb]
      conv=>rhs; rw [hv]
      simp [Nat.mul_comm,Nat.mul_left_comm,Nat.mul_assoc]
    have huv:Nat.gcd u v=1:=by
      have:=Nat.gcd_mul_left (Nat.gcd L D) u v
      rw [←hu,←hv] at this
      exact Nat.eq_of_mul_eq_mul_left hg (by omega)
    rw [h1,h2,Nat.gcd_mul_right,Nat.gcd_comm,huv,Nat.one_mul]
    exact Nat.dvd_refl d
  · refine Nat.dvd_gcd ?_ ?_
    · rw [←ha]; exact Nat.mul_dvd_mul_right (Nat.dvd_lcm_left L D) a
    · rw [←hb]; exact Nat.mul_dvd_mul_right (Nat.dvd_lcm_right L D) b
def lcd (z:List Int) (d:Int):Nat→Int
  | 0=>1
  | i+1=>lcd z d i*((((z.getD i 0:Int):Rat) / (d:Rat)).den:Int) / (Int.gcd (lcd z d i) ((((z.getD i 0:Int):Rat) / (d:Rat)).den:Int):Nat)
theorem Qk6 {z:List Int} {d:Int} (hd:0<d):∀ i,i≤z.length→lcd z d i*((Z6 (d::z.take i):Nat):Int)=d
  |
   0,_=>by
   show 1*_=d
   have:((Z6 [d]:Nat):Int)=d:=by unfold Z6; simp; omega
   rw [List.take_zero,this,Int.one_mul]
  |
   i+1,hi=>by
   have ih:=Qk6 (z:=z) hd i (by omega)
   have hz:z[i]? = some (z.getD i 0):=getD_some (l:=z) (by omega)
   have hstep:Z6 (d::z.take (i+1))=Nat.gcd (Z6 (d::z.take i)) (z.getD i 0).natAbs:=by
     have:=Qcu (l:=d::z) (i:=i+1) (z:=z.getD i 0) (by simpa using hz)
     simpa using this
   have hdn:=Q12 (z:=z.getD i 0) hd
   simp only [lcd]
   generalize hL:lcd z d i=L at *
   generalize hD:(((z.getD i 0:Int):Rat) / (d:Rat)).den=D at *
   have hLp:0<L:=by
     rcases Int.lt_trichotomy L 0 with h | h | h
     · have:=Int.mul_nonneg (Int.neg_nonneg_of_nonpos (Int.le_of_lt h)) (Int.natCast_nonneg (Z6 (d::z.take i)))
       rw [Int.neg_mul] at this; omega
     · rw [h,Int.zero_mul] at ih; omega
     · exact h
   obtain ⟨l,rfl⟩:=Int.eq_ofNat_of_zero_le (Int.le_of_lt hLp)
   obtain ⟨e,rfl⟩:=Int.eq_ofNat_of_zero_le (Int.le_of_lt hd)
   have h1:l*Z6 (((e:Nat):Int)::z.take i)=e:=by exact_mod_cast ih
   have h2:D*Int.gcd (z.getD i 0) ((e:Nat):Int)=e:=by exact_mod_cast hdn
   have h3:=Qwr (d:=e) (by omega) h1 h2
   have h4:Nat.gcd (Z6 (((e:Nat):Int)::z.take i)) (Int.gcd (z.getD i 0) ((e:Nat):Int))=Nat.gcd (Z6 (((e:Nat):Int)::z.take i)) (z.getD i 0).natAbs:=by
     have hge:Z6 (((e:Nat):Int)::z.take i)∣e:=⟨l,by rw [Nat.mul_comm]; exact h1.symm⟩
     show Nat.gcd _ (Nat.gcd (z.getD i 0).natAbs e)=_
     rw [Nat.gcd_comm (z.getD i 0).natAbs e,←Nat.gcd_assoc,Nat.gcd_eq_left hge]
   rw [hstep,←h4]
   rw [show Int.gcd ((l:Nat):Int) ((D:Nat):Int)=Nat.gcd l D by simp [Int.gcd]]
   exact_mod_cast h3
theorem Q2k {x y:List Int} {d:Int} (hd:0<d) (hg:Z6 (d::(x++y))=1):lcd (x++y) d (x++y).length=d:=by
  have:=Qk6 (z:=x++y) hd (x++y).length (Nat.le_refl _)
  rw [List.take_length,hg] at this
  simpa using this
theorem Q2m {z:List Int} {d:Int} (hd:0<d) {i:Nat} (hi:i≤z.length):Qm (lcd z d i)≤Qm d:=by
  have h:=Qk6 (z:=z) hd i hi
  refine Xz ?_
  have h0:Z6 (d::z.take i)≠0:=fun e=>by rw [e] at h; simp at h; omega
  have:d.natAbs=(lcd z d i).natAbs*Z6 (d::z.take i):=by
    conv=>lhs; rw [←h]
    rw [Int.natAbs_mul]; simp
  rw [this]
  exact Nat.le_mul_of_pos_right _ (Nat.pos_of_ne_zero h0)
end Orr

namespace Orr
open Go Go.Proofs
set_option maxRecDepth 10000
abbrev cl4 (k:Crv):List LV:=[pl k.x,pl k.y,sg k.d,mg k.d]
abbrev rcl (c:Crv):List LV:=[rp (Bb c.x c.d),rp (Bb c.y c.d)]++cl4 c
def rpt (p:Pt):List LV:=rcl p.c++[.int .i64 p.id]
def Q4 (l:List Pt):List (List LV):=l.map rpt
structure Rs (k:Crv):Prop where
  n:Nml k
  c:Cs 100000 16 k
theorem Rs.d0 {k:Crv} (h:Rs k):0<k.d:=h.n.2.2.1
theorem Ql3 {x:List Int} {d:Int} {s:Nat} (hx:Bd s x) (hd:Qm d≤s) (h1:1≤s):Rb s (Bb x d):=fun q hq=>by
  obtain ⟨z,hz,rfl⟩:=List.mem_map.1 hq
  rw [Ro]
  exact Qs.divInt (hx z hz) hd h1
theorem Qa9 {x:List Int} {d:Int} (tx:Qj x) (hd:d≠0):Vi (Bb x d) (d:Rat)=zp x:=by
  have hd':(d:Rat)≠0:=fun e=>hd (by exact_mod_cast e)
  unfold Vi
  rw [Is (g:=fun i=>x.getD i 0) _ fun i _=>?_,Gp,Qas,Ky,tx]
  rw [Qyv]; grind
theorem Qg3 {p:List Rat} {c:Int} (hp:Rb 40000000 p) (hc:Qm c≤40000000) (hl:p.length≤1000000):Qc Tryz.prog 278 [.one (rp p),.agg (ri c)] [.one (rp (Vi p (c:Rat)))] :=
  w tt Tryz.func278 rfl [.c [] (W6 (n:=1) (by decide)),.c [] (Vj (n:=c)),.c [] (He (p:=p) (c:=(c:Rat)) hp (Um hc (by omega)) hl)] rfl rfl trivial
theorem Q3t (x y:List Int) (d:Int):Xi (Bb x d)++Xi (Bb y d)=Xi (Bb (x++y) d):=by simp [Bb,Xi]
theorem C6 {z:List Int} {d:Int} {i:Nat} (h:i<z.length):(Bb z d)[i]? = some (((z.getD i 0:Int):Rat) / (d:Rat)):=Q3u (getD_some h)
theorem Qbn (a b:Int) (hb:b≠0) {s:Nat} (h:Qm b≤s):Qm ((Int.gcd a b:Nat):Int)≤s:=by
  refine Nat.le_trans (Xz ?_) h
  simp only [Int.natAbs_natCast]
  exact Nat.le_of_dvd (by omega) (by simpa using Int.natAbs_dvd_natAbs.2 (Int.gcd_dvd_right a b))
theorem Q2l (a b:Int):(a*b) % ((Int.gcd a b:Nat):Int)=0:=Int.emod_eq_zero_of_dvd (Int.dvd_trans (Int.gcd_dvd_left ..) (Int.dvd_mul_right a b))
theorem Qb6 {k:Crv} (hs:Rs k):Qc Tryz.prog 247 [.one (rp (Bb k.x k.d)),.one (rp (Bb k.y k.d))] [.agg (rcl k)]:=by
  have hlx:=hs.c.lx
  have hly:=hs.c.ly
  have hds:=hs.c.d
  have hxy:Bd 100000 (k.x++k.y):=fun z hz=>by rcases List.mem_append.1 hz with h | h; exact hs.c.x z h; exact hs.c.y z h
  have hfx:(Xi (Bb k.x k.d)).length=k.x.length:=by rw [Jj,Gp]
  have hfy:(Xi (Bb k.y k.d)).length=k.y.length:=by rw [Jj,Gp]
  have hfl:(Xi (Bb (k.x++k.y) k.d)).length=k.x.length+k.y.length:=by rw [Jj,Gp,List.length_append]
  have hd0:=hs.d0
  refine Zy Tryz.func247 rfl ?_
  refine go tt [.c [] (W6 (n:=1) (by decide)),.s (sz:=4) (Lj _),.s (sz:=4) (Lj _)] rfl (by simp [Qa,hfx,hfy]; omega) ?_
  rw [Q3t]
  refine lp (S:=Nat) 3 (fun L1 i=>(15,.v (.one (.int .i64 (i:Int))))::L1) (fun i=>[.blk 110 [.nils,.nils,.nils,.nils,.bool false,.nils],.blk 47 (ri (lcd (k.x++k.y) k.d i)),.row false 49 4 (Xi (Bb (k.x++k.y) k.d))]) (fun i=>k.x.length+k.y.length-i) (fun i=>i≤k.x.length+k.y.length) 0 (Nat.zero_le _) rfl (fun _ _=>rfl) rfl fun i hi=>?_
  have hll:(k.x++k.y).length=k.x.length+k.y.length:=List.length_append
  by_cases h:i<k.x.length+k.y.length
  · have hlt:i<(k.x++k.y).length:=by omega
    have hqe:=Ql3 (x:=(k.x++k.y)) (d:=k.d) (s:=100000) hxy hs.c.d (by decide)
    have hqi:=hqe.get (C6 hlt)
    obtain ⟨D,hD⟩:∃ D,D=((((k.x++k.y).getD i 0:Int):Rat) / (k.d:Rat)):=⟨_,rfl⟩
    have hg:=Fh (C6 (d:=k.d) hlt)
    have es:lcd (k.x++k.y) k.d (i+1)=lcd (k.x++k.y) k.d i*(D.den:Int) / ((Int.gcd (lcd (k.x++k.y) k.d i) (D.den:Int):Nat):Int):=by rw [hD]; rfl
    rw [←hD] at hqi hg
    have hq2:=hqi.2
    have hli:=Nat.le_trans (Q2m (z:=(k.x++k.y)) hs.d0 (i:=i) (by omega)) hs.c.d
    have hg0:((Int.gcd (lcd (k.x++k.y) k.d i) (D.den:Int):Nat):Int)≠0:=by have:=Int.gcd_ne_zero_right (a:=(lcd (k.x++k.y) k.d i)) (Wi D); omega
    have hmu:=Q0 (lcd (k.x++k.y) k.d i) (D.den:Int)
    refine go tt [.t (decide_eq_true (by omega)),.i i,.x hg,.c [] (Yg (a:=lcd (k.x++k.y) k.d i) (b:=(D.den:Int)) (by omega) (by omega)),.i i,.x hg,.c [] (Oa (a:=lcd (k.x++k.y) k.d i) (b:=(D.den:Int)) (by omega) (by omega)),.c [] (D4 (by omega) (Nat.le_trans (Qbn _ _ (Wi D) hq2) (by decide)) hg0 (Q2l _ _))] rfl (by simp [Qa,hfl]; omega) ?_
    exact rd (i+1) (by omega) h (by rw [es]; rfl)
  have e:lcd (k.x++k.y) k.d i=k.d:=by rw [show i=(k.x++k.y).length by omega]; exact Q2k hs.d0 hs.n.2.2.2
  rw [e]
  have hx:=Qg3 (p:=Bb k.x k.d) (c:=k.d) ((Ql3 (s:=100000) hs.c.x hs.c.d (by decide)).mono (by omega)) (by omega) (by rw [Gp]; omega)
  have hy:=Qg3 (p:=Bb k.y k.d) (c:=k.d) ((Ql3 (s:=100000) hs.c.y hs.c.d (by decide)).mono (by omega)) (by omega) (by rw [Gp]; omega)
  rw [Qa9 hs.n.1 (by omega)] at hx
  rw [Qa9 hs.n.2.1 (by omega)] at hy
  exact en tt [.f (decide_eq_false (by omega)),.c [] hx,.c [] (Q42 (p:=k.x) (Qd hs.c.x (by omega)) (by omega)),.c [] hy,.c [] (Q42 (p:=k.y) (Qd hs.c.y (by omega)) (by omega)),.c [] (Qqv (z:=k.d) (by omega))] rfl rfl trivial
theorem Qfv (k:Crv):Zl 1 k.d'=((1:Int):Rat) / (k.d':Rat):=by
  unfold Zl; rw [if_neg k.d'_ne,Ro]
theorem Ab {x:List Int} {g d:Int} (hg:g≠0) (hd:d≠0) (hgd:g∣d) (tx:Qj x) (hx:∀ z∈x,g∣z):Vi (zp x) (((1:Int):Rat) / (d:Rat))=Bb (trim (x.map (· / g))) (d / g):=by
  have ht:Qj (x.map (· / g)):=Fx tx hg hx
  rw [show trim (x.map (· / g))=x.map (· / g) from ht]
  obtain ⟨e,rfl⟩:=hgd
  have he:e≠0:=fun h=>hd (by rw [h,Int.mul_zero])
  rw [Int.mul_ediv_cancel_left _ hg]
  have hgq:(g:Rat)≠0:=fun h=>hg (by exact_mod_cast h)
  have heq:(e:Rat)≠0:=fun h=>he (by exact_mod_cast h)
  unfold Vi
  rw [Yj]
  have hval:∀ i,i<x.length→(zp x).getD i 0*(((1:Int):Rat) / ((g*e:Int):Rat))=(((x.map (· / g)).getD i 0:Int):Rat) / (e:Rat):=fun i hi=>by
    rw [Dq]
    have hz:=getD_some hi
    have hm:(x.map (· / g)).getD i 0=x.getD i 0 / g:=by simp [List.getD_eq_getElem?_getD,List.getElem?_eq_getElem hi]
    obtain ⟨w,hw⟩:=hx _ (List.mem_of_getElem? hz)
    rw [hm,hw,Int.mul_ediv_cancel_left _ hg,Rat.intCast_mul,Rat.intCast_mul]
    have:((1:Int):Rat)=1:=rfl
    rw [this]
    grind
  have htab:Tp (fun i=>(zp x).getD i 0*(((1:Int):Rat) / ((g*e:Int):Rat))) x.length=Bb (x.map (· / g)) e:=by
    apply List.ext_getElem?
    intro i
    by_cases hi:i<x.length
    · rw [C6 (by simpa using hi)]
      simp only [Tp,List.getElem?_map,List.getElem?_range hi,Option.map_some]
      rw [hval i hi]
    · rw [List.getElem?_eq_none (by rw [Dc]; omega),List.getElem?_eq_none (by rw [Gp]; simp; omega)]
  rw [htab]
  rcases Nat.eq_zero_or_pos x.length with h0 | h0
  · have:=List.eq_nil_of_length_eq_zero h0; subst this; rfl
  · have hl:(Bb (x.map (· / g)) e).length=x.length:=by rw [Gp,List.length_map]
    have:=Ei (l:=Bb (x.map (· / g)) e) (m:=x.length) (by omega) (fun j y hj hy=>by rw [List.getElem?_eq_none (by omega)] at hy; cases hy) (fun _=>⟨_,C6 (z:=x.map (· / g)) (d:=e) (i:=x.length-1) (by rw [List.length_map]; omega),fun h=>by
      have h3:(((x.map (· / g)).getD (x.length-1) 0:Int):Rat)=0:=by grind
      have h4:(x.map (· / g)).getD (x.length-1) 0=0:=by exact_mod_cast h3
      have:=Xb ht (by rw [List.length_map]; omega)
      rw [List.length_map] at this
      exact this h4⟩)
    rw [this,List.take_of_length_le (by omega)]
theorem Qyc {k:Crv} (hk:Cs 100000 16 k):Qs 40000000 (Zl 1 k.d'):=by
  have h1:=Qe3 hk.d (by decide)
  rw [Qfv,Ro]
  exact Qs.divInt (by decide) (by omega) (by decide)
theorem Crv.g_dvd' (k:Crv) {z:Int} (h:z∈k.d'::(trim k.x++trim k.y)):k.g∣z:=Int.dvd_of_emod_eq_zero (k.g_dvd z h)
theorem Qyp (k:Crv):Vi (zp (trim k.x)) (Zl 1 k.d')=Bb k.norm.x k.norm.d:=by
  rw [Qfv]
  exact Ab k.g_ne k.d'_ne (k.g_dvd' (by simp)) (Xq _) (fun z hz=>k.g_dvd' (by simp [hz]))
theorem Qyq (k:Crv):Vi (zp (trim k.y)) (Zl 1 k.d')=Bb k.norm.y k.norm.d:=by
  rw [Qfv]
  exact Ab k.g_ne k.d'_ne (k.g_dvd' (by simp)) (Xq _) (fun z hz=>k.g_dvd' (by simp [hz]))
theorem Qpx {k:Crv} (h:Cs 100000 16 k):Rs k.norm:=⟨k.nml,h.norm (by decide)⟩
theorem Q1l {k:Crv} (hk:Cs 100000 16 k):Qc Tryz.prog 205 [.agg (cl4 k)] [.agg (rcl (Crv.norm k))]:=by
  have hlx:=hk.lx
  have hly:=hk.ly
  have hkd:=hk.d
  have hrq:=Qyc hk
  have hdi:Qm k.d'≤100000:=Qe3 hk.d (by decide)
  have hx:=He (p:=zp (trim k.x)) (c:=Zl 1 k.d') (M6 (Qd (Je hk.x) (by omega)) (by omega)) hrq (by rw [Yj]; have:=Xe k.x; omega)
  have hy:=He (p:=zp (trim k.y)) (c:=Zl 1 k.d') (M6 (Qd (Je hk.y) (by omega)) (by omega)) hrq (by rw [Yj]; have:=Xe k.y; omega)
  rw [Qyp] at hx
  rw [Qyq] at hy
  have c1:=W6 (n:=1) (by decide)
  have cm:=Bj (a:=1) (b:=k.d') (by decide) (by omega)
  by_cases h0:k.d=0
  · have e:k.d'=1:=by unfold Crv.d'; rw [if_pos h0]
    rw [e] at hx hy cm
    exact w tt Tryz.func205 rfl [.c [] (I4 (z:=k.d) (by omega)),.c [] Vq,.t (decide_eq_true h0),.c [] c1,.c [] c1,.c [] cm,.c [] (P0 (p:=k.x) (Qd hk.x (by omega)) (by omega)),.c [] hx,.c [] (P0 (p:=k.y) (Qd hk.y (by omega)) (by omega)),.c [] hy,.c [] (Qb6 (Qpx hk))] rfl rfl trivial
  · have e:k.d'=k.d:=by unfold Crv.d'; rw [if_neg h0]
    rw [e] at hx hy cm
    exact w tt Tryz.func205 rfl [.c [] (I4 (z:=k.d) (by omega)),.c [] Vq,.f (decide_eq_false h0),.c [] c1,.c [] cm,.c [] (P0 (p:=k.x) (Qd hk.x (by omega)) (by omega)),.c [] hx,.c [] (P0 (p:=k.y) (Qd hk.y (by omega)) (by omega)),.c [] hy,.c [] (Qb6 (Qpx hk))] rfl rfl trivial
theorem Qur {k:Crv} {id:Int} (hk:Cs 100000 16 k):Qc Tryz.prog 146 [.agg (cl4 k++[.int .i64 id])] [.agg (rpt ⟨Crv.norm k,id⟩)] :=
  w tt Tryz.func146 rfl [.c [] (Q1l hk)] rfl rfl trivial
theorem Qel {k:Crv} (hk:Rs k):Qc Tryz.prog 328 [.agg (rcl k)] [.one (rp (zp k.x)),.one (rp (zp k.y)),.one (rp (zp [k.d]))]:=by
  have hlx:=hk.c.lx
  have hly:=hk.c.ly
  have hkd:=hk.c.d
  have hx:=P0 (p:=k.x) (Qd hk.c.x (by omega)) (by omega)
  have hy:=P0 (p:=k.y) (Qd hk.c.y (by omega)) (by omega)
  rw [show trim k.x=k.x from hk.n.1] at hx
  rw [show trim k.y=k.y from hk.n.2.1] at hy
  exact w tt Tryz.func328 rfl [.c [] (I4 (z:=k.d) (by omega)),.c [] (W6 (n:=1) (by decide)),.c [] (Vj (n:=k.d)),.c [] hx,.c [] hy] rfl rfl trivial
theorem Qlo {p:List Int} {d:Int} (tp:Qj p) (hd:d≠0):Zp p [d]=Qw p d:=by
  refine Sk (Zz _ _) (Za _ _) fun m=>?_
  unfold Qw
  rw [Yc]
  unfold Zp
  by_cases h0:p.length=0
  · rw [if_pos (.inl h0),if_neg (by omega)]; rfl
  · rw [if_neg (by simp; exact fun h=>h0 (by rw [h]; rfl)),U9]
    show (Kk p [d] (List.replicate (p.length+1-1) 0) p.length).getD m 0=_
    have key:∀ i,i≤p.length→(Kk p [d] (List.replicate (p.length+1-1) 0) i).getD m 0=if m<i then p.getD m 0*d else 0:=by
      intro i
      induction i with
      | zero=>intro _; simp only [Kk]; rw [Jt,if_neg (by omega)]
      |
       succ i ih =>
       intro hi
       simp only [Kk]
       rw [Lz _ _ _ _ _ _ (by rw [Kl,List.length_replicate]; show i+1≤_; omega),ih (by omega)]
       show (if i≤m∧m<i+1 then (if m<i then p.getD m 0*d else 0)+p.getD i 0*[d].getD (m-i) 0 else _)=_
       by_cases e:m=i
       · subst e
         rw [if_pos ⟨Nat.le_refl _,by omega⟩,if_neg (by omega),if_pos (by omega),Nat.sub_self]
         show 0+p.getD m 0*d=_
         omega
       · rw [if_neg (by omega)]
         by_cases h1:m<i
         · rw [if_pos h1,if_pos (by omega)]
         · rw [if_neg h1,if_neg (by omega)]
    rw [key _ (Nat.le_refl _)]
theorem Zcr {s:Nat} {d:Int} (h:Qm d≤s):Bd s [d]:=fun z hz=>by simp at hz; subst hz; exact h
theorem Qei {p:List Int} {d:Int} (tp:Qj p) (hd:d≠0) (hp:Bd 9000000 p) (hs:Qm d≤9000000) (hl:p.length≤1000):Qc Tryz.prog 283 [.one (rp (zp p)),.one (rp (zp [d]))] [.one (rp (zp (Qw p d)))]:=by
  have h:=Qun (p:=p) (q:=[d]) (by omega) (by show 1≤1000000; decide) hp (Zcr hs) (by decide)
  rwa [Qlo tp hd] at h
theorem Rs.dn {k:Crv} (h:Rs k):k.d≠0:=by have:=h.d0; omega
theorem Qnm {p q:List Int} (hp:Bd 19000000 p) (hq:Bd 19000000 q) (hlp:p.length≤1000000) (hlq:q.length≤1000000):Qc Tryz.prog 208 [.one (rp (zp p)),.one (rp (zp q))] [.one (rp (zp (Vx p q)))]:=by
  have h:=Q6q (M6 hp (by decide)) (M6 hq (by decide)) (by rw [Yj]; exact hlp) (by rw [Yj]; exact hlq)
  rwa [Qpz] at h
theorem Ty {a b:Crv} (ha:Rs a) (hb:Rs b):Qc Tryz.prog 323 [.agg (rcl a),.agg (rcl b)] [.one (rp (zp (Xp a b)))] :=
  w tt Tryz.func323 rfl [.c [] (Qel ha),.c [] (Qel hb),.c [] (Qei (p:=b.x) (d:=a.d) hb.n.1 ha.dn (Qd hb.c.x (by decide)) (Nat.le_trans ha.c.d (by decide)) (by have:=hb.c.lx; omega)),.c [] (Qei (p:=a.x) (d:=b.d) ha.n.1 hb.dn (Qd ha.c.x (by decide)) (Nat.le_trans hb.c.d (by decide)) (by have:=ha.c.lx; omega)),.c [] (Qnm (p:=Qw b.x a.d) (q:=Qw a.x b.d) (Qd (Zo hb.c.x ha.c.d) (by decide)) (Qd (Zo ha.c.x hb.c.d) (by decide)) (by have:=Q8 b.x a.d; have:=hb.c.lx; omega) (by have:=Q8 a.x b.d; have:=ha.c.lx; omega))] rfl rfl trivial
theorem Od {a b:Crv} (ha:Rs a) (hb:Rs b):Qc Tryz.prog 324 [.agg (rcl a),.agg (rcl b)] [.one (rp (zp (Jb a b)))] :=
  w tt Tryz.func324 rfl [.c [] (Qel ha),.c [] (Qel hb),.c [] (Qei (p:=b.y) (d:=a.d) hb.n.2.1 ha.dn (Qd hb.c.y (by decide)) (Nat.le_trans ha.c.d (by decide)) (by have:=hb.c.ly; omega)),.c [] (Qei (p:=a.y) (d:=b.d) ha.n.2.1 hb.dn (Qd ha.c.y (by decide)) (Nat.le_trans hb.c.d (by decide)) (by have:=ha.c.ly; omega)),.c [] (Qnm (p:=Qw b.y a.d) (q:=Qw a.y b.d) (Qd (Zo hb.c.y ha.c.d) (by decide)) (Qd (Zo ha.c.y hb.c.d) (by decide)) (by have:=Q8 b.y a.d; have:=hb.c.ly; omega) (by have:=Q8 a.y b.d; have:=ha.c.ly; omega))] rfl rfl trivial
theorem Md {a b:Crv} (ha:Rs a) (hb:Rs b):Bd 200001 (Xp a b)∧(Xp a b).length≤16:=by
  refine ⟨Qd (Pz (Zo hb.c.x ha.c.d) (Zo ha.c.x hb.c.d)) (by omega),Nat.le_trans (Hn _ _) ?_⟩
  have:=Q8 b.x a.d; have:=Q8 a.x b.d; have:=ha.c.lx; have:=hb.c.lx; omega
theorem Mc {a b:Crv} (ha:Rs a) (hb:Rs b):Bd 200001 (Jb a b)∧(Jb a b).length≤16:=by
  refine ⟨Qd (Pz (Zo hb.c.y ha.c.d) (Zo ha.c.y hb.c.d)) (by omega),Nat.le_trans (Hn _ _) ?_⟩
  have:=Q8 b.y a.d; have:=Q8 a.y b.d; have:=ha.c.ly; have:=hb.c.ly; omega
end Orr

namespace Orr
open Go
structure RawInt where
  b:Bool
  l:List Nat
structure RawPt where
  x:List RawInt
  y:List RawInt
  d:RawInt
  id:Int
abbrev Ee (z:RawInt):List LV:=[.bool z.b,Q8o z.l]
structure RawInt.Ok (z:RawInt):Prop where
  u:∀ u∈z.l,u<4294967296
structure RawPt.Ok (z:RawPt):Prop where
  x:∀ a∈z.x,a.Ok
  y:∀ a∈z.y,a.Ok
  d:z.d.Ok
  id:-9223372036854775808≤z.id∧z.id≤9223372036854775807
def RawInt.cut (z:RawInt):RawInt:=⟨z.b,z.l.take 1⟩
def Ja (most:Int) (z:RawInt):Int:=match z.l with
  | []=>0
  | u::_=>if z.b=true then -((u:Int) % (most+1)) else (u:Int) % (most+1)
theorem Nk {most:Int} (h:0≤most) (z:RawInt):-most≤Ja most z∧Ja most z≤most:=by
  unfold Ja
  split
  · omega
  · rename_i u _ _
    have h1:=Int.emod_nonneg (u:Int) (b:=most+1) (by omega)
    have h2:=Int.emod_lt_of_pos (u:Int) (b:=most+1) (by omega)
    split <;> omega
def Z3 (most:Int) (l:List RawInt):List Int:=(l.take 3).map (Ja most)
def Cf (most:Int) (x y:List RawInt) (d:RawInt):Crv:=⟨Z3 most x,Z3 most y,Ja 3 d⟩
def P9 (most:Int) (z:RawPt):Pt:=⟨Cf most z.x z.y z.d,z.id % 1000⟩
theorem E4 (most:Int) (l:List RawInt):(Z3 most l).length≤3:=by unfold Z3; rw [List.length_map,List.length_take]; omega
theorem Qfb {most:Int} {l:List RawInt} {i:Nat} {z:RawInt} (hi:i<3) (h:l[i]? = some z):Z3 most (l.take (i+1))=Z3 most (l.take i)++[Ja most z]:=by
  unfold Z3
  rw [List.take_take,List.take_take,Nat.min_eq_right (by omega),Nat.min_eq_right (by omega),List.take_succ,h]
  simp
theorem E3 (most:Int) {l:List RawInt} {i:Nat} (h:l.length≤i∨3≤i):Z3 most (l.take i)=Z3 most l:=by
  unfold Z3
  rw [List.take_take]
  rcases Nat.le_total 3 i with h3 | h3
  · rw [Nat.min_eq_left h3]
  · rcases h with h | h
    · rw [Nat.min_eq_right h3,List.take_of_length_le (l:=l) (i:=i) (by omega),List.take_of_length_le (l:=l) (i:=3) (by omega)]
    · rw [Nat.min_eq_right h3,show i=3 by omega]
theorem E5 {most:Int} {l:List RawInt} {z:Int} (hm:0≤most) (h:z∈Z3 most l):-most≤z∧z≤most:=by
  obtain ⟨a,_,rfl⟩:=List.mem_map.1 h
  exact Nk hm a
theorem Qb9 {most:Int} (hm:0≤most∧most≤999) (x y:List RawInt) (d:RawInt):Cs 10 3 (Cf most x y d):=by
  have key:∀ z:Int,-999≤z∧z≤999→Qm z≤10:=fun z h=>Ju.2 (by omega)
  refine ⟨fun z hz=>?_,fun z hz=>?_,?_,E4 _ _,E4 _ _⟩
  · have:=E5 hm.1 hz; exact key _ (by omega)
  · have:=E5 hm.1 hz; exact key _ (by omega)
  · have:=Nk (most:=3) (by decide) d
    show Qm (Ja 3 d)≤10
    exact key _ (by omega)
def Yl (n:Nat):List Pt→List Pt→List Pt
  | out,[]=>out
  | out,p::l=>if out.length<n then (if out.any (fun x=>decide (x.id=p.id))=true then Yl n out l else Yl n (out++[p]) l) else out
theorem Ru {n:Nat}:∀ (l out:List Pt) (p:Pt),(Yl n out l).length<n→(Yl n out l).any (fun x=>decide (x.id=p.id))=true→Yl n out (l++[p])=Yl n out l
  |
   [],out,p,h,ha=>by
   simp only [Yl] at h ha
   show Yl n out [p]=out
   simp only [Yl]
   rw [if_pos h,if_pos ha]
  |
   x::l,out,p,h,ha=>by
   show Yl n out (x::(l++[p]))=Yl n out (x::l)
   simp only [Yl] at h ha ⊢
   split
   · rename_i h0
     rw [if_pos h0] at h ha
     split
     · rename_i h1
       rw [if_pos h1] at h ha
       exact Ru l out p h ha
     · rename_i h1
       rw [if_neg h1] at h ha
       exact Ru l _ p h ha
   · rfl
theorem Gv {n:Nat}:∀ (l out:List Pt) (p:Pt),(Yl n out l).length<n→(Yl n out l).any (fun x=>decide (x.id=p.id))=false→Yl n out (l++[p])=Yl n out l++[p]
  |
   [],out,p,h,ha=>by
   simp only [Yl] at h ha
   show Yl n out [p]=out++[p]
   simp only [Yl]
   rw [if_pos h,if_neg (by rw [ha]; simp)]
  |
   x::l,out,p,h,ha=>by
   show Yl n out (x::(l++[p]))=Yl n out (x::l)++[p]
   simp only [Yl] at h ha ⊢
   split
   · rename_i h0
     rw [if_pos h0] at h ha
     split
     · rename_i h1
       rw [if_pos h1] at h ha
       exact Gv l out p h ha
     · rename_i h1
       rw [if_neg h1] at h ha
       exact Gv l _ p h ha
   · rename_i h0
     rw [if_neg h0] at h
     omega
theorem Ll {n:Nat}:∀ (l m out:List Pt),n≤(Yl n out l).length→Yl n out (l++m)=Yl n out l
  |
   [],m,out,h=>by
   simp only [Yl] at h
   show Yl n out m=out
   match m with
   | []=>rfl
   | p::m=>simp only [Yl]; rw [if_neg (by omega)]
  |
   x::l,m,out,h=>by
   show Yl n out (x::(l++m))=Yl n out (x::l)
   simp only [Yl] at h ⊢
   split
   · rename_i h0
     rw [if_pos h0] at h
     split
     · rename_i h1
       rw [if_pos h1] at h
       exact Ll l m out h
     · rename_i h1
       rw [if_neg h1] at h
       exact Ll l m _ h
   · rfl
theorem Sp {n:Nat}:∀ (l out:List Pt),out.length≤n→(Yl n out l).length≤n
  | [],out,h=>h
  |
   x::l,out,h=>by
   simp only [Yl]
   split
   · split
     · exact Sp l out h
     · exact Sp l _ (by rw [List.length_append]; show _+1≤_; omega)
   · exact h
theorem B6 {n:Nat}:∀ (l out:List Pt) {p:Pt},p∈Yl n out l→p∈out∨p∈l
  | [],out,p,h=>.inl h
  |
   x::l,out,p,h=>by
   simp only [Yl] at h
   split at h
   · split at h
     · rcases B6 l out h with h | h
       · exact .inl h
       · exact .inr (List.mem_cons_of_mem _ h)
     · rcases B6 l _ h with h | h
       · rcases List.mem_append.1 h with h | h
         · exact .inl h
         · exact .inr (by rw [List.mem_singleton.1 h]; exact List.mem_cons_self ..)
       · exact .inr (List.mem_cons_of_mem _ h)
   · exact .inl h
def Eb (n:Nat) (most:Int) (zs:List RawPt):List Pt:=Yl n [] (zs.map (P9 most))
def Pt.nrm (p:Pt):Pt:=⟨p.c.norm,p.id⟩
end Orr

namespace Orr
def Jd (l:List Pt):Prop:=l.Pairwise fun a b=>a.id<b.id
theorem Q2b (id:Int):has [] id=false:=rfl
theorem Qhw (p:Pt) (l:List Pt) (id:Int):has (p::l) id=if p.id<id then has l id else decide (p.id=id):=by
  by_cases h:p.id<id
  · rw [if_pos h]; unfold has; simp only [Gl]; rw [if_pos h]; simp
  · rw [if_neg h]; unfold has; simp only [Gl]; rw [if_neg h]; simp
theorem Qx4 (p:Pt) (l:List Pt) (q:Pt):put (p::l) q=if p.id<q.id then p::put l q else q::p::l:=by
  unfold put
  simp only [Gl]
  split <;> simp
theorem Qe1:∀ {l:List Pt} {id:Int},Jd l→(has l id=true↔∃ p∈l,p.id=id)
  | [],id,_=>by simp [Q2b]
  |
   p::l,id,h=>by
   have h1:=List.pairwise_cons.1 h
   rw [Qhw]
   split
   · rename_i hlt
     rw [Qe1 h1.2]
     constructor
     · rintro ⟨x,hx,e⟩; exact ⟨x,List.mem_cons_of_mem _ hx,e⟩
     · rintro ⟨x,hx,e⟩
       rcases List.mem_cons.1 hx with rfl | hx
       · omega
       · exact ⟨x,hx,e⟩
   · rename_i hge
     rw [decide_eq_true_iff]
     constructor
     · intro e; exact ⟨p,List.mem_cons_self ..,e⟩
     · rintro ⟨x,hx,e⟩
       rcases List.mem_cons.1 hx with rfl | hx
       · exact e
       · have:=h1.1 x hx; omega
theorem Qa5:∀ {l:List Pt} {q:Pt},Jd l→has l q.id=false→Jd (put l q)
  | [],q,_,_=>by simp [put,Gl,Jd]
  |
   p::l,q,h,hn=>by
   have h1:=List.pairwise_cons.1 h
   rw [Qhw] at hn
   rw [Qx4]
   split
   · rename_i hlt
     rw [if_pos hlt] at hn
     refine List.pairwise_cons.2 ⟨fun x hx=>?_,Qa5 h1.2 hn⟩
     rcases Qpq hx with rfl | hx
     · exact hlt
     · exact h1.1 x hx
   · rename_i hge
     rw [if_neg hge,decide_eq_false_iff_not] at hn
     refine List.pairwise_cons.2 ⟨fun x hx=>?_,h⟩
     rcases List.mem_cons.1 hx with rfl | hx
     · omega
     · have:=h1.1 x hx; omega
theorem Qo1 {l:List Pt} {q p:Pt} (h:p=q∨p∈l):p∈put l q:=by
  unfold put
  rcases h with rfl | h
  · simp
  · rw [←List.take_append_drop (Gl l q.id) l] at h
    simp only [List.mem_append,List.mem_cons] at h ⊢
    rcases h with h | h
    · exact .inl h
    · exact .inr (.inr h)
theorem Qx2 {l:List Pt} {q:Pt} (h:l.length<6):Fq l q=if has l q.id=true then 6 else 0:=by
  unfold Fq
  split
  · rfl
  · rw [if_neg (by omega)]
theorem Qc9:∀ (qs acc:List Pt),Jd acc→acc.length+qs.length≤6 →
    ((Jv acc qs).2=0∧Jd (Jv acc qs).1∧(Jv acc qs).1.length=acc.length+qs.length∧qs.Pairwise (fun a b=>a.id≠b.id)∧∀ q∈qs,∀ p∈acc,p.id≠q.id) ∨
    ((Jv acc qs).2=6∧¬(qs.Pairwise (fun a b=>a.id≠b.id)∧∀ q∈qs,∀ p∈acc,p.id≠q.id))
  | [],acc,hs,_=>.inl ⟨rfl,hs,rfl,List.Pairwise.nil,fun _ h=>absurd h (by simp)⟩
  |
   q::qs,acc,hs,hl=>by
   simp only [List.length_cons] at hl
   have he:=Qx2 (l:=acc) (q:=q) (by omega)
   simp only [Jv]
   cases hh:has acc q.id with
   |
    true =>
    rw [hh,if_pos rfl] at he
    rw [he,if_neg (by decide)]
    obtain ⟨p,hp,e⟩:=(Qe1 hs).1 hh
    exact .inr ⟨rfl,fun h=>h.2 q (List.mem_cons_self ..) p hp e⟩
   |
    false =>
    rw [hh,if_neg (by decide)] at he
    rw [he,if_pos rfl]
    have hno:∀ p∈acc,p.id≠q.id:=fun p hp e=>by
      have:=(Qe1 hs).2 ⟨p,hp,e⟩
      rw [hh] at this; cases this
    have hpl:=Qpp acc q
    rcases Qc9 qs (put acc q) (Qa5 hs hh) (by omega) with ⟨h1,h2,h3,h4,h5⟩ | ⟨h1,h2⟩
    · refine .inl ⟨h1,h2,by simp only [List.length_cons]; omega,List.pairwise_cons.2 ⟨fun x hx=>h5 x hx q (Qo1 (.inl rfl)),h4⟩,fun x hx p hp=>?_⟩
      rcases List.mem_cons.1 hx with rfl | hx
      · exact hno p hp
      · exact h5 x hx p (Qo1 (.inr hp))
    · refine .inr ⟨h1,fun h=>h2 ⟨(List.pairwise_cons.1 h.1).2,fun x hx p hp=>?_⟩⟩
      rcases Qpq hp with rfl | hp
      · exact (List.pairwise_cons.1 h.1).1 x hx
      · exact h.2 x (List.mem_cons_of_mem _ hx) p hp
theorem Qry {qs:List Pt} (hl:qs.length≤6) :
    ((Jv [] qs).2=0∧Jd (Jv [] qs).1∧(Jv [] qs).1.length=qs.length∧qs.Pairwise (fun a b=>a.id≠b.id))∨((Jv [] qs).2=6∧¬qs.Pairwise (fun a b=>a.id≠b.id)):=by
  rcases Qc9 qs [] List.Pairwise.nil (by simpa using hl) with ⟨h1,h2,h3,h4,_⟩ | ⟨h1,h2⟩
  · exact .inl ⟨h1,h2,by simpa using h3,h4⟩
  · exact .inr ⟨h1,fun h=>h2 ⟨h,fun _ _ _ hp=>absurd hp (by simp)⟩⟩
end Orr

namespace Orq
open Orr Go
theorem Q99 {a b c:Tm} (hb:Cut (Qu b)) (hc:Cut (Qu c)) (h:Uj a b) (h':Uj b c):Uj a c:=by
  obtain ⟨q,q1,q2⟩:=h
  obtain ⟨r,r1,r2⟩:=h'
  exact ⟨q,q1,hc.mono' (hb.lt q2 r1) (by omega)⟩
theorem Qk8 {a b:Tm} (ha:Cut (Qu a)) (hb:Cut (Qu b)) (h:¬Uj b a):Leq a (Qu b):=fun q hq=>by
  rcases ha.val q with e | e | e
  · exact absurd ⟨q,hq,e⟩ h
  · obtain ⟨r,r1,r2⟩:=hb.dn q hq
    exact absurd ⟨r,r2,ha.mono' r1 (by omega)⟩ h
  · exact e
theorem Qos {a b c:Tm} (_:Cut (Qu a)) (hb:Cut (Qu b)) (hc:Cut (Qu c)) (h:Uj a b) (h':¬Uj c b):Uj a c:=by
  obtain ⟨q,q1,q2⟩:=h
  refine ⟨q,q1,?_⟩
  have hl:=Qk8 hb hc h'
  rcases hc.val q with e | e | e
  · exact e
  · obtain ⟨r,r1,r2⟩:=hb.up q q2
    have h1:=hc.mono q r r1 (by omega)
    have:=hl r h1
    omega
  · have:=hl q e; omega
theorem Q7n {a b:Tm} (ha:Cut (Qu a)) (hb:Cut (Qu b)) (h:Uj a b):¬Uj b a:=fun h'=>S5 ha hb h h'
theorem Qik {p:List Int} {a b:Tm} {o:Option Tm} (ha:Cut (Qu a)) (hb:Cut (Qu b)) (hab:¬Uj b a) (h:Uo p a o) (ho:∀ t,o=some t→Uj b t):Uo p b o:=by
  have hl:=Qk8 ha hb hab
  cases o with
  |
   none =>
   rcases h with h | ⟨s,s0,h⟩
   · exact .inl h
   · exact .inr ⟨s,s0,fun c hc hbc=>h c hc fun q hq=>hl q (hbc q hq)⟩
  |
   some t =>
   obtain ⟨h1,h2,_,s,s0,h4,h5⟩:=h
   exact ⟨h1,h2,ho t rfl,s,s0,fun c hc hbc hm=>h4 c hc (fun q hq=>hl q (hbc q hq)) hm,h5⟩
theorem Qcw {p:List Int} {a b:Tm} {o:Option Tm} (hp:Dp p) (ha:Va a) (hb:Va b) (hab:¬Uj b a) (h:Uo p a o) (ho:∀ t,o=some t→Uj b t):Ut (Wb b) p=Ut (Wb a) p:=by
  by_cases h0:p.length=0
  · obtain rfl:=List.eq_nil_of_length_eq_zero h0; rfl
  obtain ⟨ra,_⟩:=B7 ha hp h0
  obtain ⟨rb,_⟩:=B7 hb hp h0
  have hl:=Qk8 ha.cut hb.cut hab
  cases o with
  |
   none =>
   rcases h with h | ⟨s,s0,h⟩
   · exact absurd (by rw [h]; rfl) h0
   · exact (Qpy rb (h _ hb.cut hl)).trans (Qpy ra (h _ ha.cut fun _ h=>h)).symm
  |
   some t =>
   obtain ⟨h1,h2,h3,s,s0,h4,h5⟩:=h
   exact (Qpy rb (h4 _ hb.cut hl (ho t rfl))).trans (Qpy ra (h4 _ ha.cut (fun _ h=>h) h3)).symm
theorem Qjg (t q:Rat):Qu (tq t) q=Zw t q:=Ge (t:=tq t) rfl q
theorem Oi {a:Tm} {t:Rat} (ha:Cut (Qu a)):0<Qu a t↔Uj (tq t) a:=by
  constructor
  · intro h
    have h1:Qu a t=1:=by rcases ha.val t with e | e | e <;> omega
    obtain ⟨r,r1,r2⟩:=ha.up t h1
    exact ⟨r,by rw [Qjg]; rcases W8 t r with ⟨e,e'⟩ | ⟨e,e'⟩ | ⟨e,e'⟩ <;> first | exact e | (exfalso; grind),r2⟩
  · rintro ⟨q,q1,q2⟩
    rw [Qjg] at q1
    have:t<q:=by rcases W8 t q with ⟨e,e'⟩ | ⟨e,e'⟩ | ⟨e,e'⟩ <;> first | exact e' | omega
    have:=ha.mono' this (by omega)
    omega
open Classical in
noncomputable def mu (T:List Tm) (a:Tm):Nat:=(T.filter fun t=>decide (Uj a t)).length
theorem Qck {α:Type} {p q:α→Bool} (h:∀ x,p x=true→q x=true):∀ l:List α,(l.filter p).length≤(l.filter q).length
  | []=>Nat.le_refl _
  |
   x::l=>by
   have ih:=Qck h l
   by_cases hp:p x=true
   · rw [List.filter_cons_of_pos hp,List.filter_cons_of_pos (h x hp)]; simp; exact ih
   · rw [List.filter_cons_of_neg hp]
     by_cases hq:q x=true
     · rw [List.filter_cons_of_pos hq]; simp; omega
     · rw [List.filter_cons_of_neg hq]; exact ih
theorem Qcl {α:Type} {p q:α→Bool} (h:∀ x,p x=true→q x=true) {y:α} (hp:p y=false) (hq:q y=true):∀ {l:List α},y∈l→(l.filter p).length<(l.filter q).length
  | [],hy=>by cases hy
  |
   x::l,hy=>by
   rcases List.mem_cons.1 hy with rfl | hy
   · rw [List.filter_cons_of_neg (by simp [hp]),List.filter_cons_of_pos hq]
     have:=Qck h l
     simp; omega
   · have ih:=Qcl h hp hq hy
     by_cases hp:p x=true
     · rw [List.filter_cons_of_pos hp,List.filter_cons_of_pos (h x hp)]; simp; exact ih
     · rw [List.filter_cons_of_neg hp]
       by_cases hq:q x=true
       · rw [List.filter_cons_of_pos hq]; simp; omega
       · rw [List.filter_cons_of_neg hq]; exact ih
open Classical in
theorem Q5l {T:List Tm} {a b:Tm} (ha:Cut (Qu a)) (hb:Cut (Qu b)) (hT:∀ t∈T,Cut (Qu t)) (h:Uj a b) (hm:b∈T):mu T b<mu T a:=by
  have key:∀ l:List Tm,(∀ t∈l,Cut (Qu t))→l.filter (fun t=>decide (Uj b t))=l.filter (fun t=>decide (Cut (Qu t)∧Uj b t)):=fun l hl=>List.filter_congr fun x hx=>by simp [hl x hx]
  have key2:∀ l:List Tm,(∀ t∈l,Cut (Qu t))→l.filter (fun t=>decide (Uj a t))=l.filter (fun t=>decide (Cut (Qu t)∧Uj a t)):=fun l hl=>List.filter_congr fun x hx=>by simp [hl x hx]
  unfold mu
  rw [key T hT,key2 T hT]
  refine Qcl (fun x hx=>?_) (y:=b) ?_ ?_ hm
  · have hx:=of_decide_eq_true hx
    exact decide_eq_true ⟨hx.1,Q99 hb hx.1 h hx.2⟩
  · exact decide_eq_false fun hx=>S5 hb hb hx.2 hx.2
  · exact decide_eq_true ⟨hb,h⟩
def tms (p:List Int):List Tm:=(Nw p).getD []
structure KInv (c:Cr):Prop where
  ok:CrOk c
  k:∀ w∈c.l,w.known=true→Uo w.c.p c.now w.fails∧∀ t,w.fails=some t→t∈tms w.c.p
theorem Qlg {p:List Int} (h:Cp p) {a:Tm} (ha:Va a):∃ r,E7 p a=some r∧Uo p a r∧∀ t,r=some t→t∈tms p:=by
  obtain ⟨l,l1,_,_,l3⟩:=Pu h
  obtain ⟨r,r1,r2,r3⟩:=l3 a ha
  refine ⟨r,?_,r2,fun t ht=>by unfold tms; rw [l1]; exact r3 t ht⟩
  unfold E7; rw [l1]; exact r1
theorem Q8n {p:List Int} (h:Cp p):∀ t∈tms p,Va t:=by
  obtain ⟨l,l1,_,l2,_⟩:=Pu h
  unfold tms; rw [l1]; exact l2
theorem Qow {now:Tm} (hn:Va now):∀ {l:List Wt},(∀ w∈l,WtOk w)→(∀ w∈l,w.known=true→Uo w.c.p now w.fails∧∀ t,w.fails=some t→t∈tms w.c.p) →
    ∃ ws,S4 now l=some ws∧ws.map (·.c)=l.map (·.c)∧∀ w∈ws,w.known=true∧Uo w.c.p now w.fails∧∀ t,w.fails=some t→t∈tms w.c.p
  | [],_,_=>⟨[],rfl,rfl,fun w hw=>by cases hw⟩
  |
   w::l,h,h'=>by
   obtain ⟨ws,w1,w2,w3⟩:=Qow hn (fun v hv=>h v (List.mem_cons_of_mem _ hv)) (fun v hv=>h' v (List.mem_cons_of_mem _ hv))
   by_cases hk:w.known=true
   · refine ⟨w::ws,by simp only [S4,hk,if_true,w1]; rfl,by simp [w2],fun v hv=>?_⟩
     rcases List.mem_cons.1 hv with rfl | hv
     · exact ⟨hk,h' v (by simp) hk⟩
     · exact w3 v hv
   · obtain ⟨r,r1,r2,r3⟩:=Qlg (h w (by simp)).p hn
     refine ⟨⟨w.c,true,r⟩::ws,by simp only [S4]; rw [if_neg hk,r1,w1]; rfl,by simp [w2],fun v hv=>?_⟩
     rcases List.mem_cons.1 hv with rfl | hv
     · exact ⟨rfl,r2,r3⟩
     · exact w3 v hv
theorem Qoo {at_:Tm} (ha:Va at_) {x:Ct}:∀ {l:List Wt},(∀ w∈l,WtOk w)→∃ w,Fj l x at_=some w∧w.c=x
  | [],_=>⟨fresh x,rfl,rfl⟩
  |
   v::l,h=>by
   obtain ⟨w,w1,w2⟩:=Qoo ha (x:=x) fun v hv=>h v (List.mem_cons_of_mem _ hv)
   simp only [Fj]
   split
   · cases hf:v.fails with
     | none=>exact ⟨_,rfl,rfl⟩
     |
      some t =>
      obtain ⟨c,c1,_⟩:=Bq ((h v (by simp)).f t hf) ha
      dsimp only
      rw [c1]
      show ∃ w,(if 0<c then some ⟨x,true,some t⟩ else Fj l x at_)=some w∧w.c=x
      split
      · exact ⟨_,rfl,rfl⟩
      · exact ⟨w,w1,w2⟩
   · exact ⟨w,w1,w2⟩
theorem Qao {at_:Tm} (ha:Va at_) {ol:List Wt} (ho:∀ w∈ol,WtOk w):∀ l:List Ct,∃ ws,Gk ol at_ l=some ws∧ws.map (·.c)=l
  | []=>⟨[],rfl,rfl⟩
  |
   x::l=>by
   obtain ⟨w,w1,w2⟩:=Qoo ha (x:=x) ho
   obtain ⟨ws,s1,s2⟩:=Qao ha ho l
   exact ⟨w::ws,by simp only [Gk,w1,s1]; rfl,by simp [w2,s2]⟩
theorem Qrq {out:List Ct} {c x:Ct}:x∈Ni out c↔x=c∨x∈out:=by
  have h:x∈out↔x∈out.take (Pd out c out.length)∨x∈out.drop (Pd out c out.length):=by
    rw [←List.mem_append,List.take_append_drop]
  simp only [Ni,List.mem_append,List.mem_cons,h]
  constructor
  · rintro (h | h | h)
    · exact .inr (.inl h)
    · exact .inl h
    · exact .inr (.inr h)
  · rintro (h | h | h)
    · exact .inr (.inl h)
    · exact .inl h
    · exact .inr (.inr h)
theorem Qco:∀ (l acc:List Ct) {y:Ct},y∈l.foldl Ni acc↔y∈l∨y∈acc
  | [],acc,y=>by simp
  |
   c::l,acc,y=>by
   simp only [List.foldl_cons]
   rw [Qco l,Qrq,List.mem_cons]
   constructor
   · rintro (h | h | h)
     · exact .inl (.inr h)
     · exact .inl (.inl h)
     · exact .inr h
   · rintro ((h | h) | h)
     · exact .inr (.inl h)
     · exact .inl h
     · exact .inr (.inr h)
theorem Qdv {l:List Ct} {x:Ct}:x∈Q6 l↔x∈l:=by unfold Q6; rw [Qco]; simp
theorem Q7s {ws:List Wt} (hw:∀ w∈ws,WtOk w):∃ o,Qij ws=some o∧match o with
    | none=>∀ w∈ws,w.fails=none
    | some a=>Va a∧(∃ w∈ws,w.fails=some a)∧∀ w∈ws,∀ t,w.fails=some t→¬Uj t a:=by
  have hv:∀ t∈ws.filterMap (·.fails),Va t:=fun t ht=>by
    obtain ⟨w,w1,w2⟩:=List.mem_filterMap.1 ht
    exact (hw w w1).f t w2
  unfold Qij
  cases hf:ws.filterMap (·.fails) with
  |
   nil =>
   refine ⟨none,rfl,fun w h=>?_⟩
   cases e:w.fails with
   | none=>rfl
   |
    some t =>
    have:t∈ws.filterMap (·.fails):=List.mem_filterMap.2 ⟨w,h,e⟩
    rw [hf] at this; cases this
  |
   cons b l =>
   rw [hf] at hv
   obtain ⟨m,m1,m2,m3⟩:=Ls l b hv
   refine ⟨some m,by show (Rw b l).map some=_; rw [m1]; rfl,hv m m2,?_,fun w h t e=>?_⟩
   · rw [←hf] at m2
     exact List.mem_filterMap.1 m2
   · exact m3 t (by rw [←hf]; exact List.mem_filterMap.2 ⟨w,h,e⟩)
theorem Q6s {t a:Tm} (ht:Va t) (ha:Va a) {c:Int} (h:D6 t a=some c) (h0:0<c):Uj a t:=by
  obtain ⟨c',c1,c2⟩:=Bq ht ha
  rw [h] at c1; injection c1 with c1; subst c1
  rcases c2 with ⟨e,_⟩ | ⟨e,_⟩ | ⟨_,e⟩
  · omega
  · omega
  · exact e
theorem Q2j {ol ws:List Wt} {now a:Tm} {l:List Ct} (hn:Va now) (ha:Va a) (hna:¬Uj a now) (ho:∀ w∈ol,WtOk w) (hk:∀ w∈ol,w.known=true→Uo w.c.p now w.fails∧∀ t,w.fails=some t→t∈tms w.c.p) (h:Gk ol a l=some ws) :
    ∀ w∈ws,w.known=true→Uo w.c.p a w.fails∧∀ t,w.fails=some t→t∈tms w.c.p:=by
  obtain ⟨h1,h2⟩:=Ce h
  intro w hw hkn
  obtain ⟨i,hi⟩:=List.getElem?_of_mem hw
  have hil:i<l.length:=by rw [←h1]; exact (List.getElem?_eq_some_iff.1 hi).1
  obtain ⟨v,h3,h4⟩:=h2 i _ (List.getElem?_eq_getElem hil)
  rw [hi] at h4; injection h4 with h4; subst h4
  rcases Qan h3 with e | ⟨v,v1,v2,v3,e,v5⟩
  · rw [e] at hkn; cases hkn
  · obtain ⟨k1,k2⟩:=hk v v1 v2
    rw [e]
    show Uo (l[i]).p a v.fails∧∀ t,v.fails=some t→t∈tms (l[i]).p
    rw [←v3]
    refine ⟨Qik hn.cut ha.cut hna k1 fun t ht=>?_,k2⟩
    obtain ⟨c,c1,c2⟩:=v5 t ht
    exact Q6s ((ho v v1).f t ht) ha c1 c2
structure Stab {β:Type} (Bc:Tm→List Ct) (Br:Tm→β):Prop where
  ok:BuildOk Bc
  fin:∃ Ps:List (List Int),(∀ p∈Ps,Cp p)∧∀ a,Va a→∀ x∈Bc a,x.p∈Ps
  st:∀ a b,Va a→Va b→(∀ x∈Bc a,Ut (Wb b) x.p=Ut (Wb a) x.p)→Bc b=Bc a∧Br b=Br a
structure KSt {β:Type} (Bc:Tm→List Ct) (Br:Tm→β) (c:Cr) (r1:β):Prop where
  inv:KInv c
  cs:c.l.map (·.c)=Q6 (Bc c.now)
  r:r1=Br c.now
inductive Evs (Bc:Tm→List Ct) (t:Rat):Tm→List Tm→Prop
  | nil {a:Tm} (h:∀ x∈Bc a,∃ o,Uo x.p a o∧∀ u,o=some u→Uj (tq t) u):Evs Bc t a []
  | cons {a e:Tm} {E:List Tm} (he:Va e) (h1:Uj a e) (h2:¬Uj (tq t) e) (h3:∀ x∈Bc a,∃ o,Uo x.p a o∧∀ u,o=some u→¬Uj u e) (h4:∃ x∈Bc a,Uo x.p a (some e)) (h5:Evs Bc t e E):Evs Bc t a (e::E)
theorem Q90 {β:Type} {Bc:Tm→List Ct} {Br:Tm→β} (S:Stab Bc Br) {t:Rat} (ht:Qs 900 t) {Ps:List (List Int)} (hP:∀ p∈Ps,Cp p) (hPs:∀ a,Va a→∀ x∈Bc a,x.p∈Ps) :
    ∀ (m:Nat) (c:Cr) (r1:β) (n:Int),mu (Ps.flatMap tms) c.now≤m→KSt Bc Br c r1→¬Uj (tq t) c.now →
    ∃ c' r' E,goF Bc Br t (m+1) c r1 n=some (c',r',n+(E.length:Nat))∧c'.now=tq t∧KSt Bc Br c' r'∧c'.ev=c.ev+(E.length:Nat)∧E.length≤m∧Evs Bc t c.now E:=by
  have hT:∀ t∈Ps.flatMap tms,Cut (Qu t):=fun u hu=>by
    obtain ⟨p,p1,p2⟩:=List.mem_flatMap.1 hu
    exact (Q8n (hP p p1) u p2).cut
  have hq:=Q4g ht
  intro m
  induction m with
  | zero=>?_
  | succ m ih=>?_
  all_goals
    intro c r1 n hm hS hnow
    obtain ⟨⟨ok,kk⟩,hcs,hr⟩:=hS
    obtain ⟨ws,w1,w2,w3⟩:=Qow ok.n ok.l kk
    have ok':=Ia ok w1
    rw [hcs] at w2
    have hc_w:∀ x∈Bc c.now,∃ w∈ws,w.c=x:=fun x hx=>by
      have:x∈ws.map (·.c):=by rw [w2]; exact Qdv.2 hx
      exact List.mem_map.1 this
    have hw_c:∀ w∈ws,w.c∈Bc c.now:=fun w hw=>Qdv.1 (by rw [←w2]; exact List.mem_map_of_mem hw)
    obtain ⟨o,o1,o2⟩:=Q7s ok'.l
    -- the end
    have fin:(∀ w∈ws,∀ u,w.fails=some u→Uj (tq t) u)→KSt Bc Br ⟨tq t,ws,c.ev⟩ r1∧Evs Bc t c.now []:=fun hall=>by
      have hg:∀ x∈Bc c.now,Ut (Wb (tq t)) x.p=Ut (Wb c.now) x.p:=fun x hx=>by
        obtain ⟨w,hw,rfl⟩:=hc_w x hx
        exact Qcw (S.ok.p _ ok.n _ hx).dp ok.n hq hnow (w3 w hw).2.1 (hall w hw)
      obtain ⟨s1,s2⟩:=S.st _ _ ok.n hq hg
      refine ⟨⟨⟨⟨hq,ok'.l,ok'.k⟩,fun w hw _=>⟨Qik ok.n.cut hq.cut hnow (w3 w hw).2.1 (hall w hw),(w3 w hw).2.2⟩⟩,?_,?_⟩,.nil fun x hx=>?_⟩
      · show ws.map (·.c)=Q6 (Bc (tq t)); rw [w2,s1]
      · show r1=Br (tq t); rw [s2,hr]
      · obtain ⟨w,hw,rfl⟩:=hc_w x hx
        exact ⟨_,(w3 w hw).2.1,hall w hw⟩
  · cases o with
    |
     none =>
     obtain ⟨f1,f2⟩:=fin fun w hw u hu=>by rw [o2 w hw] at hu; cases hu
     exact ⟨_,_,[],by simp only [goF]; rw [w1]; simp only [Option.bind_some]; rw [o1]; simp,rfl,f1,by simp,by simp,f2⟩
    |
     some a =>
     obtain ⟨va,⟨w,hw,hwa⟩,hmin⟩:=o2
     by_cases h0:0<Qu a t
     · obtain ⟨f1,f2⟩:=fin fun v hv u hu=>by
         have hu':=(ok'.l v hv).f u hu
         exact Qos hq.cut va.cut hu'.cut ((Oi va.cut).1 h0) (hmin v hv u hu)
       exact ⟨_,_,[],by simp only [goF]; rw [w1]; simp only [Option.bind_some]; rw [o1]; simp [h0],rfl,f1,by simp,by simp,f2⟩
     · exfalso
       obtain ⟨k1,k2,k3⟩:=w3 w hw
       rw [hwa] at k2
       have:a∈Ps.flatMap tms:=List.mem_flatMap.2 ⟨_,hPs _ ok.n _ (hw_c w hw),k3 a hwa⟩
       have:=Q5l ok.n.cut va.cut hT k2.2.2.1 this
       omega
  · cases o with
    |
     none =>
     obtain ⟨f1,f2⟩:=fin fun w hw u hu=>by rw [o2 w hw] at hu; cases hu
     exact ⟨_,_,[],by simp only [goF]; rw [w1]; simp only [Option.bind_some]; rw [o1]; simp,rfl,f1,by simp,by simp,f2⟩
    |
     some a =>
     obtain ⟨va,⟨w,hw,hwa⟩,hmin⟩:=o2
     by_cases h0:0<Qu a t
     · obtain ⟨f1,f2⟩:=fin fun v hv u hu=>by
         have hu':=(ok'.l v hv).f u hu
         exact Qos hq.cut va.cut hu'.cut ((Oi va.cut).1 h0) (hmin v hv u hu)
       exact ⟨_,_,[],by simp only [goF]; rw [w1]; simp only [Option.bind_some]; rw [o1]; simp [h0],rfl,f1,by simp,by simp,f2⟩
     · obtain ⟨k1,k2,k3⟩:=w3 w hw
       rw [hwa] at k2
       have hna:=Q7n ok.n.cut va.cut k2.2.2.1
       have hmem:a∈Ps.flatMap tms:=List.mem_flatMap.2 ⟨_,hPs _ ok.n _ (hw_c w hw),k3 a hwa⟩
       have hlt:=Q5l ok.n.cut va.cut hT k2.2.2.1 hmem
       obtain ⟨w2',l1,l2⟩:=Qao va ok'.l (Q6 (Bc a))
       have hl:=Q2j ok.n va hna ok'.l (fun v hv _=>(w3 v hv).2) l1
       have hS':KSt Bc Br ⟨a,w2',c.ev+1⟩ (Br a):=⟨⟨Orr.lay_ok _ ok' va (S.ok.p a va) (S.ok.n a va) l1,hl⟩,l2,rfl⟩
       obtain ⟨c',r',E,g1,g2,g3,g4,g5,g6⟩:=ih ⟨a,w2',c.ev+1⟩ (Br a) (n+1) (by show mu _ a≤m; omega) hS' (fun h=>h0 ((Oi va.cut).2 h))
       refine ⟨c',r',a::E,?_,g2,g3,by rw [g4]; simp; omega,by simp; omega,.cons va k2.2.2.1 (fun h=>h0 ((Oi va.cut).2 h)) (fun x hx=>?_) ⟨w.c,hw_c w hw,k2⟩ g6⟩
       · conv=>lhs; unfold goF
         rw [w1]; simp only [Option.bind_some]; rw [o1]; simp only [Option.bind_some]; rw [if_neg h0,l1]; simp only [Option.bind_some]
         rw [g1]; simp; omega
       · obtain ⟨v,hv,rfl⟩:=hc_w x hx
         exact ⟨_,(w3 v hv).2.1,hmin v hv⟩
end Orq

namespace Orq
open Orr Go
theorem Qht {a:Tm} (ha:Va a):∀ (L:List (List Int)),(∀ p∈L,Dp p)→∃ y,Qu a y=-1∧∀ q,Qu a q=-1→q≤y→∀ p∈L,Ut (Wb a) p=Qp (Qh p q)
  |
   [],_=>by
   obtain ⟨y,hy⟩:=ha.cut.hi
   exact ⟨y,hy,fun q _ _ p hp=>by cases hp⟩
  |
   p::L,h=>by
   obtain ⟨y,y1,y2⟩:=Qht ha L (fun q hq=>h q (List.mem_cons_of_mem _ hq))
   by_cases h0:p.length=0
   · obtain rfl:=List.eq_nil_of_length_eq_zero h0
     refine ⟨y,y1,fun q q1 q2 r hr=>?_⟩
     rcases List.mem_cons.1 hr with rfl | hr
     · rw [Qab]; exact (Zb.2 rfl).symm
     · exact y2 q q1 q2 r hr
   · obtain ⟨⟨z,z1,z2⟩,_⟩:=B7 ha (h p (by simp)) h0
     refine ⟨if y≤z then y else z,by split <;> assumption,fun q q1 q2 r hr=>?_⟩
     rcases List.mem_cons.1 hr with rfl | hr
     · rw [←Qg]; exact (z2 q q1 (by grind)).symm
     · exact y2 q q1 (by grind) r hr
section Srt
variable {α:Type} {lt:α→α→Bool} {R:α→α→Prop}
theorem Qdi (irr:∀ x,¬R x x) (tr:∀ x y z,R x y→R y z→R x z):∀ {l m:List α},l.Pairwise R→m.Pairwise R→(∀ x,x∈l↔x∈m)→l=m
  | [],[],_,_,_=>rfl
  | [],y::m,_,_,h=>by have:=(h y).2 (by simp); cases this
  | x::l,[],_,_,h=>by have:=(h x).1 (by simp); cases this
  |
   x::l,y::m,hl,hm,h=>by
   rw [List.pairwise_cons] at hl hm
   have e:x=y:=by
     rcases List.mem_cons.1 ((h x).1 (by simp)) with e | h1
     · exact e
     · rcases List.mem_cons.1 ((h y).2 (by simp)) with e | h2
       · exact e.symm
       · exact absurd (tr _ _ _ (hl.1 y h2) (hm.1 x h1)) (irr x)
   subst e
   rw [Qdi irr tr hl.2 hm.2 fun z=>?_]
   constructor
   · intro hz
     rcases List.mem_cons.1 ((h z).1 (List.mem_cons_of_mem _ hz)) with e | h1
     · subst e; exact absurd (hl.1 z hz) (irr z)
     · exact h1
   · intro hz
     rcases List.mem_cons.1 ((h z).2 (List.mem_cons_of_mem _ hz)) with e | h1
     · subst e; exact absurd (hm.1 z hz) (irr z)
     · exact h1
theorem Qdf {out:List α} {x:α}:∀ k,k≤out.length→(∀ j y,J8 lt out x k≤j→j<k→out[j]? = some y→lt x y=true)∧(0<J8 lt out x k→∃ y,out[J8 lt out x k-1]? = some y∧lt x y=false)
  | 0,_=>⟨fun j y _ h=>by omega,fun h=>by simp [J8] at h⟩
  |
   k+1,hk=>by
   obtain ⟨y,hy⟩:∃ y,out[k]? = some y:=⟨_,List.getElem?_eq_getElem (by omega)⟩
   by_cases h:lt x y=true
   · rw [Cu hy h]
     obtain ⟨h1,h2⟩:=Qdf (out:=out) (x:=x) k (by omega)
     refine ⟨fun j z a1 a2 a3=>?_,h2⟩
     by_cases e:j=k
     · subst e; rw [hy] at a3; injection a3 with a3; subst a3; exact h
     · exact h1 j z a1 (by omega) a3
   · have h:lt x y=false:=by simpa using h
     rw [Pe hy h]
     exact ⟨fun j z a1 a2 _=>by omega,fun _=>⟨y,by simpa using hy,h⟩⟩
theorem Q2f (tr:∀ x y z,R x y→R y z→R x z) {out:List α} {x:α} (ho:out.Pairwise R) (h1:∀ y∈out,lt x y=true→R x y) (h2:∀ y∈out,lt x y=false→R y x):(K0 lt out x).Pairwise R:=by
  obtain ⟨s1,s2⟩:=Qdf (lt:=lt) (out:=out) (x:=x) out.length (Nat.le_refl _)
  have hle:=Qfp lt out x out.length
  unfold K0
  obtain ⟨k,hk⟩:∃ k,k=J8 lt out x out.length:=⟨_,rfl⟩
  rw [←hk] at s1 s2 hle ⊢
  have hd:(out.take k++out.drop k).Pairwise R:=by rw [List.take_append_drop]; exact ho
  obtain ⟨d1,d2,d3⟩:=List.pairwise_append.1 hd
  have hR:∀ y∈out.drop k,R x y:=fun y hy=>by
    obtain ⟨i,hi⟩:=List.getElem?_of_mem hy
    rw [List.getElem?_drop] at hi
    have:k+i<out.length:=(List.getElem?_eq_some_iff.1 hi).1
    exact h1 y (List.mem_of_mem_drop hy) (s1 (k+i) y (by omega) this hi)
  have hL:∀ y∈out.take k,R y x:=fun y hy=>by
    obtain ⟨i,hi⟩:=List.getElem?_of_mem hy
    have hik:i<k:=by have:=(List.getElem?_eq_some_iff.1 hi).1; simp at this; omega
    rw [List.getElem?_take_of_lt hik] at hi
    obtain ⟨z,z1,z2⟩:=s2 (by omega)
    have hz:=h2 z (List.mem_of_getElem? z1) z2
    by_cases e:i=k-1
    · subst e; rw [hi] at z1; injection z1 with z1; subst z1; exact hz
    · have hp:=List.pairwise_iff_getElem.1 ho i (k-1) (by omega) (by omega) (by omega)
      obtain ⟨_,e1⟩:=List.getElem?_eq_some_iff.1 hi
      obtain ⟨_,e2⟩:=List.getElem?_eq_some_iff.1 z1
      rw [e1,e2] at hp
      exact tr _ _ _ hp hz
  refine List.pairwise_append.2 ⟨d1,List.pairwise_cons.2 ⟨hR,d2⟩,fun y hy z hz=>?_⟩
  rcases List.mem_cons.1 hz with rfl | hz
  · exact hL y hy
  · exact d3 y hy z hz
theorem foldG_pw (tr:∀ x y z,R x y→R y z→R x z) {S:α→Prop} (h1:∀ x y,S x→S y→lt x y=true→R x y) {D:α→α→Prop} (h2:∀ x y,S x→S y→D y x→lt x y=false→R y x) :
    ∀ (l acc:List α),acc.Pairwise R→(∀ x∈acc,S x)→(∀ x∈l,S x)→l.Pairwise D→(∀ x∈acc,∀ y∈l,D x y)→(l.foldl (K0 lt) acc).Pairwise R
  | [],acc,ha,_,_,_,_=>ha
  |
   x::l,acc,ha,hs,hl,hd,hx=>by
   rw [List.pairwise_cons] at hd
   refine foldG_pw tr h1 h2 l (K0 lt acc x) ?_ ?_ (fun y hy=>hl y (List.mem_cons_of_mem _ hy)) hd.2 ?_
   · exact Q2f tr ha (fun y hy=>h1 x y (hl x (by simp)) (hs y hy)) (fun y hy=>h2 x y (hl x (by simp)) (hs y hy) (hx y hy x (by simp)))
   · intro y hy
     rcases Qag.1 hy with rfl | hy
     · exact hl _ (by simp)
     · exact hs y hy
   · intro y hy z hz
     rcases Qag.1 hy with rfl | hy
     · exact hd.1 z hz
     · exact hx y hy z (List.mem_cons_of_mem _ hz)
end Srt
def px (p:Pt) (q:Rat):Rat:=Qh p.c.x q / (p.c.d:Rat)
def py (p:Pt) (q:Rat):Rat:=Qh p.c.y q / (p.c.d:Rat)
def Gx (q:Rat) (x y:Pt):Prop:=px x q<px y q∨px x q=px y q∧(py x q<py y q∨py x q=py y q∧x.id<y.id)
theorem Qwv (q:Rat) (x:Pt):¬Gx q x x:=by unfold Gx; grind
theorem Qe9 (q:Rat) (x y z:Pt) (h:Gx q x y) (h':Gx q y z):Gx q x z:=by unfold Gx at *; grind
theorem Qww {q:Rat} {x y:Pt} (h:x.id≠y.id) (h':¬Gx q x y):Gx q y x:=by unfold Gx at *; grind
theorem Qdt {u v:Rat} {c d:Int} (hc:0<c) (hd:0<d):Qp (v*(c:Rat)-u*(d:Rat))=Qp (v / (d:Rat)-u / (c:Rat)):=by
  have hc':(0:Rat)<(c:Rat):=by exact_mod_cast hc
  have hd':(0:Rat)<(d:Rat):=by exact_mod_cast hd
  have e:v*(c:Rat)-u*(d:Rat)=((c:Rat)*(d:Rat))*(v / (d:Rat)-u / (c:Rat)):=by
    rw [Rat.div_def,Rat.div_def]
    have h1:=Rat.mul_inv_cancel (c:Rat) (by grind)
    have h2:=Rat.mul_inv_cancel (d:Rat) (by grind)
    grind
  rw [e,Te (Rat.mul_pos hc' hd')]
theorem Qsf {x y:Pt} (hx:Sc x.c) (hy:Sc y.c) (q:Rat):Qp (Qh (Xp x.c y.c) q)=Qp (px y q-px x q):=by
  unfold Xp px; rw [Uc,X2,X2]; exact Qdt hx.n.2.2.1 hy.n.2.2.1
theorem Qse {x y:Pt} (hx:Sc x.c) (hy:Sc y.c) (q:Rat):Qp (Qh (Jb x.c y.c) q)=Qp (py y q-py x q):=by
  unfold Jb py; rw [Uc,X2,X2]; exact Qdt hx.n.2.2.1 hy.n.2.2.1
theorem Qj2 {a:Tm} (ha:Va a) {x y:Pt} (hx:Sc x.c) (hy:Sc y.c) {q:Rat} (h1:Ut (Wb a) (Xp x.c y.c)=Qp (Qh (Xp x.c y.c) q)) (h2:Ut (Wb a) (Jb x.c y.c)=Qp (Qh (Jb x.c y.c) q)):Vs (Wb a) x y=true↔Gx q x y:=by
  rw [Qsf hx hy] at h1
  rw [Qse hx hy] at h2
  have d1:=(Sa hx hy).dp
  have d2:=(T0 hx hy).dp
  unfold Vs
  simp only [Ta]
  have t1:=Zf (px y q-px x q)
  have t2:=Zf (py y q-py x q)
  by_cases e1:(Xp x.c y.c).length=0
  · rw [if_neg (by omega)]
    rw [List.eq_nil_of_length_eq_zero e1,Qab] at h1
    have:px x q=px y q:=by grind
    by_cases e2:(Jb x.c y.c).length=0
    · rw [if_neg (by omega)]
      rw [List.eq_nil_of_length_eq_zero e2,Qab] at h2
      unfold Gx
      simp only [decide_eq_true_eq]
      grind
    · rw [if_pos (by omega)]
      have:=(B7 ha d2 e2).2
      unfold Gx
      simp only [decide_eq_true_eq]
      grind
  · rw [if_pos (by omega)]
    have:=(B7 ha d1 e1).2
    unfold Gx
    simp only [decide_eq_true_eq]
    grind
def Qd6 (l:List Pt):List (List Int):=l.flatMap fun x=>l.flatMap fun y=>[Xp x.c y.c,Jb x.c y.c]
theorem Bf {l:List Pt} {x y:Pt} (hx:x∈l) (hy:y∈l):Xp x.c y.c∈Qd6 l∧Jb x.c y.c∈Qd6 l :=
  ⟨List.mem_flatMap.2 ⟨x,hx,List.mem_flatMap.2 ⟨y,hy,by simp⟩⟩,List.mem_flatMap.2 ⟨x,hx,List.mem_flatMap.2 ⟨y,hy,by simp⟩⟩⟩
theorem Qd7 {l:List Pt} (hl:∀ p∈l,Sc p.c):∀ p∈Qd6 l,Cp p:=fun p hp=>by
  obtain ⟨x,hx,hp⟩:=List.mem_flatMap.1 hp
  obtain ⟨y,hy,hp⟩:=List.mem_flatMap.1 hp
  simp at hp
  rcases hp with rfl | rfl
  · exact Sa (hl x hx) (hl y hy)
  · exact T0 (hl x hx) (hl y hy)
theorem Qpv {l:List Pt} (hl:∀ p∈l,Sc p.c) (hd:l.Pairwise fun x y=>x.id≠y.id) {a:Tm} (ha:Va a):∃ y,Qu a y=-1∧∀ q,Qu a q=-1→q≤y→(∀ u∈l,∀ v∈l,(Vs (Wb a) u v=true↔Gx q u v))∧(H5 a l).Pairwise (Gx q):=by
  obtain ⟨y,y1,y2⟩:=Qht ha (Qd6 l) fun p hp=>(Qd7 hl p hp).dp
  refine ⟨y,y1,fun q q1 q2=>?_⟩
  have h:=y2 q q1 q2
  have hb:∀ u∈l,∀ v∈l,(Vs (Wb a) u v=true↔Gx q u v):=fun u hu v hv=>Qj2 ha (hl u hu) (hl v hv) (h _ (Bf hu hv).1) (h _ (Bf hu hv).2)
  refine ⟨hb,?_⟩
  exact foldG_pw (S:=fun x=>x∈l) (D:=fun x y=>x.id≠y.id) (Qe9 q) (fun u v hu hv h=>(hb u hu v hv).1 h) (fun u v hu hv hne h=>Qww (fun e=>hne e.symm) fun h'=>by
    rw [(hb u hu v hv).2 h'] at h; cases h) l [] .nil (fun x hx=>by cases hx) (fun x hx=>hx) hd (fun x hx=>by cases hx)
theorem Qlk {a b:Tm} {x y:Pt} (h:Ut (Wb b) (Wl x y)=Ut (Wb a) (Wl x y)):Vs (Wb b) x y=Vs (Wb a) x y:=by
  unfold Wl Sj at h
  unfold Vs
  simp only [Ta]
  by_cases e1:0<(Xp x.c y.c).length
  · rw [if_pos e1,if_pos e1]; rw [if_pos e1] at h; rw [h]
  · rw [if_neg e1,if_neg e1]; rw [if_neg e1] at h; rw [h]
theorem Of {a b:Tm} {q r:Rat}:∀ (l:List Pt),(∀ u∈l,∀ v∈l,(Vs (Wb a) u v=true↔Gx q u v))→(∀ u∈l,∀ v∈l,(Vs (Wb b) u v=true↔Gx r u v))→l.Pairwise (Gx q)→(∀ x∈Jo (Wb a) l,Ut (Wb b) x.p=Ut (Wb a) x.p)→l.Pairwise (Gx r)∧Jo (Wb b) l=Jo (Wb a) l
  | [],_,_,_,_=>⟨.nil,rfl⟩
  | [x],_,_,_,_=>⟨List.pairwise_singleton _ _,rfl⟩
  |
   x::y::l,ha,hb,hp,hc=>by
   rw [List.pairwise_cons] at hp
   obtain ⟨i1,i2⟩:=Of (a:=a) (b:=b) (q:=q) (r:=r) (y::l) (fun u hu v hv=>ha u (List.mem_cons_of_mem _ hu) v (List.mem_cons_of_mem _ hv)) (fun u hu v hv=>hb u (List.mem_cons_of_mem _ hu) v (List.mem_cons_of_mem _ hv)) hp.2 (fun z hz=>hc z (by simp only [Jo]; exact List.mem_cons_of_mem _ hz))
   have h0:Ut (Wb b) (Wl x y)=Ut (Wb a) (Wl x y):=hc (Ki (Wb a) x y) (by simp [Jo])
   have h1:Gx r x y:=(hb x (by simp) y (by simp)).1 (by rw [Qlk h0]; exact (ha x (by simp) y (by simp)).2 (hp.1 y (by simp)))
   refine ⟨List.pairwise_cons.2 ⟨fun z hz=>?_,i1⟩,?_⟩
   · rcases List.mem_cons.1 hz with rfl | hz
     · exact h1
     · exact Qe9 r x y z h1 ((List.pairwise_cons.1 i1).1 z hz)
   · simp only [Jo]
     rw [i2]; congr 1
     unfold Ki; rw [h0]
theorem Eg {sg:List Int→Int}:∀ {l:List Pt},∀ x∈Jo sg l,∃ u∈l,∃ v∈l,x.p=Wl u v
  | [],x,hx=>by cases hx
  | [_],x,hx=>by cases hx
  |
   a::b::l,x,hx=>by
   simp only [Jo] at hx
   rcases List.mem_cons.1 hx with rfl | hx
   · exact ⟨a,by simp,b,by simp,rfl⟩
   · obtain ⟨u,hu,v,hv,e⟩:=Eg (l:=b::l) x hx
     exact ⟨u,List.mem_cons_of_mem _ hu,v,List.mem_cons_of_mem _ hv,e⟩
theorem Qdb {l:List Pt} {u v:Pt} (hu:u∈l) (hv:v∈l):Wl u v∈Qd6 l:=by
  unfold Wl Sj; split
  · exact (Bf hu hv).1
  · exact (Bf hu hv).2
theorem Q0i {l:List Pt} {a:Tm}:∀ x∈Ix l a,x.p∈Qd6 l:=fun x hx=>by
  obtain ⟨u,hu,v,hv,e⟩:=Eg x hx
  rw [e]; exact Qdb (Jx.1 hu) (Jx.1 hv)
theorem Qsy (l:List Pt):(Qd6 l).length=l.length*(l.length*2):=by
  have h1:∀ (x:Pt) (m:List Pt),(m.flatMap fun y=>[Xp x.c y.c,Jb x.c y.c]).length=m.length*2:=fun x m=>by
    induction m with
    | nil=>rfl
    | cons y m ih=>rw [List.flatMap_cons,List.length_append,ih,List.length_cons]; simp; omega
  have h2:∀ m:List Pt,(m.flatMap fun x=>l.flatMap fun y=>[Xp x.c y.c,Jb x.c y.c]).length=m.length*(l.length*2):=fun m=>by
    induction m with
    | nil=>simp
    | cons y m ih=>rw [List.flatMap_cons,List.length_append,ih,List.length_cons,h1,Nat.add_mul,Nat.one_mul,Nat.add_comm]
  exact h2 l
theorem Qym {l:List Pt} (hl:∀ p∈l,Sc p.c) (hd:l.Pairwise fun x y=>x.id≠y.id) {a b:Tm} (ha:Va a) (hb:Va b) (h:∀ x∈Ix l a,Ut (Wb b) x.p=Ut (Wb a) x.p):H5 b l=H5 a l∧Ix l b=Ix l a:=by
  obtain ⟨q,q1,q2⟩:=Qpv hl hd ha
  obtain ⟨r,r1,r2⟩:=Qpv hl hd hb
  obtain ⟨a1,a2⟩:=q2 q q1 Rat.le_refl
  obtain ⟨b1,b2⟩:=r2 r r1 Rat.le_refl
  obtain ⟨c1,c2⟩:=Of (a:=a) (b:=b) (H5 a l) (fun u hu v hv=>a1 u (Jx.1 hu) v (Jx.1 hv)) (fun u hu v hv=>b1 u (Jx.1 hu) v (Jx.1 hv)) a2 h
  have e:H5 b l=H5 a l:=Qdi (Qwv r) (Qe9 r) b2 c1 fun x=>by rw [Jx,Jx]
  exact ⟨e,by unfold Ix; rw [e,c2]⟩
theorem Zaq {l:List Pt} (hl:∀ p∈l,Sc p.c) (hn:l.length≤1000) (hd:l.Pairwise fun x y=>x.id≠y.id):Stab (Ix l) (Ai l):=by
  refine ⟨Dw hl hn,⟨Qd6 l,Qd7 hl,fun a _ x hx=>?_⟩,fun a b ha hb h=>?_⟩
  · obtain ⟨u,hu,v,hv,e⟩:=Eg x hx
    rw [e]; exact Qdb (Jx.1 hu) (Jx.1 hv)
  · obtain ⟨e1,e2⟩:=Qym hl hd ha hb h
    exact ⟨e2,by unfold Ai; rw [e1]⟩
end Orq

namespace Orr
open Go
section
variable {α:Type} {lt:α→α→Bool}
theorem Qrr (out:List α) (c:α):(K0 lt out c).Perm (c::out):=by
  unfold K0
  exact (List.perm_middle).trans (by rw [List.take_append_drop])
theorem O6:∀ (l acc:List α),(l.foldl (K0 lt) acc).Perm (l++acc)
  | [],acc=>List.Perm.refl _
  |
   c::l,acc=>by
   simp only [List.foldl_cons]
   exact (O6 l _).trans (((Qrr acc c).append_left l).trans List.perm_middle)
theorem Qmi (l:List α):(Xd lt l).Perm l:=by
  have:=O6 (lt:=lt) l []
  rwa [List.append_nil] at this
end
def Mt (a b:Pt):Bool:=decide (a.id<b.id)
def Pt.m5 (p:Pt):Pt:=⟨p.c,p.id % 5⟩
def Ma (O:List Pt) (i:Nat):List Pt:=(O.take i).map Pt.m5++O.drop i
theorem Qw4 (O:List Pt):Ma O 0=O:=by simp [Ma]
theorem Ib (O:List Pt) (i:Nat):(Ma O i).length=O.length:=by
  unfold Ma; rw [List.length_append,List.length_map,List.length_take,List.length_drop]; omega
theorem Qo3 {O:List Pt} {i:Nat} {p:Pt} (h:O[i]? = some p):(Ma O i).set i p.m5=Ma O (i+1):=by
  have hi:=(List.getElem?_eq_some_iff.1 h).1
  have hl:((O.take i).map Pt.m5).length=i:=by rw [List.length_map,List.length_take]; omega
  unfold Ma
  rw [List.set_append,if_neg (by omega),hl,Nat.sub_self,List.take_succ,h,Option.toList_some,List.map_append,List.append_assoc]
  congr 1
  rw [List.drop_eq_getElem_cons hi]
  have:O[i]=p:=by
    have:=(List.getElem?_eq_some_iff.1 h).2
    exact this
  rfl
theorem Q2s {O:List Pt} {i:Nat} {p:Pt} (h:O[i]? = some p):(Ma O i)[i]? = some p:=by
  have hi:=(List.getElem?_eq_some_iff.1 h).1
  have hl:((O.take i).map Pt.m5).length=i:=by rw [List.length_map,List.length_take]; omega
  unfold Ma
  rw [List.getElem?_append_right (by omega),hl,Nat.sub_self,List.getElem?_drop]
  exact h
theorem Qo2 {O:List Pt} {i k:Nat} {p:Pt} (hk:k<i) (h:O[k]? = some p):(Ma O i)[k]? = some p.m5:=by
  have hi:=(List.getElem?_eq_some_iff.1 h).1
  unfold Ma
  rw [List.getElem?_append_left (by rw [List.length_map,List.length_take]; omega),List.getElem?_map,List.getElem?_take,if_pos hk,h]; rfl
theorem Qic {O:List Pt} {e i:Nat} (h:e≤i) (hi:i≤O.length):(Ma O i).take e=(O.take e).map Pt.m5:=by
  unfold Ma
  rw [List.take_append_of_le_length (by rw [List.length_map,List.length_take]; omega),←List.map_take,List.take_take,Nat.min_eq_left h]
def J6 (O:List Pt) (e:Nat):List Pt:=(O.take e).map Pt.m5
def Ms (O:List Pt) (e:Nat):List Pt:=(J6 O e).map Pt.nrm
def Gq (l:List Pt):Prop:=l.Pairwise fun a b=>a.id≠b.id
theorem Qra {O:List Pt} {i:Nat} {p:Pt} (h:O[i]? = some p):J6 O (i+1)=J6 O i++[p.m5]:=by
  unfold J6; rw [List.take_succ,h,Option.toList_some,List.map_append]; rfl
theorem Qrg {O:List Pt} {i:Nat} {p:Pt} (h:O[i]? = some p) (hd:Gq (J6 O i)) (hn:∀ k x,k<i→O[k]? = some x→x.m5.id≠p.m5.id):Gq (J6 O (i+1)):=by
  rw [Qra h]
  refine List.pairwise_append.2 ⟨hd,List.pairwise_singleton _ _,fun a ha b hb=>?_⟩
  rw [List.mem_singleton.1 hb]
  obtain ⟨x,hx,rfl⟩:=List.mem_map.1 ha
  obtain ⟨k,hk,rfl⟩:=List.mem_iff_getElem.1 hx
  rw [List.length_take] at hk
  rw [List.getElem_take]
  exact hn k _ (by omega) (List.getElem?_eq_getElem (by omega))
theorem Lb {O:List Pt} {e:Nat} (h:Gq (J6 O e)):Gq (Ms O e):=List.Pairwise.map Pt.nrm (fun _ _ h=>h) h
theorem E6 (O:List Pt) (e:Nat):(Ms O e).length=(J6 O e).length:=by unfold Ms; rw [List.length_map]
theorem Bu {O:List Pt} {e:Nat} (h:e≤O.length):(J6 O e).length=e:=by unfold J6; rw [List.length_map,List.length_take]; omega
def Qqf (p:Pt):Prop:=Cs 10 3 p.c
theorem Qc5 {n:Nat} {most:Int} (hm:0≤most∧most≤999) {l:List RawPt}:∀ p∈Eb n most l,Qqf p:=fun p hp=>by
  rcases B6 _ _ hp with h | h
  · cases h
  · obtain ⟨z,_,rfl⟩:=List.mem_map.1 h
    exact Qb9 hm _ _ _
theorem Qhc {O:List Pt} (h:∀ p∈O,Qqf p) (e:Nat):∀ p∈J6 O e,Qqf p:=fun p hp=>by
  obtain ⟨x,hx,rfl⟩:=List.mem_map.1 hp
  exact h x (List.mem_of_mem_take hx)
theorem Qn2 {O:List Pt} (h:∀ p∈O,Qqf p) (e:Nat):∀ p∈Ms O e,Nml p.c∧Cs 10 3 p.c:=fun p hp=>by
  obtain ⟨x,hx,rfl⟩:=List.mem_map.1 hp
  exact ⟨x.c.nml,(Qhc h e x hx).norm (by decide)⟩
theorem Qc2 {s n:Nat}:∀ {l:List Pt},(∀ p∈l,Cs s n p.c)→IsPts s n (l.map Jz) (l.map Pt.nrm)
  | [],_=>trivial
  | p::l,h=>⟨⟨p.c.x.map Ze,p.c.y.map Ze,_,_,_,_,p.c.d,rfl,Zd _,Zd _,Qe _,h p (List.mem_cons_self ..),rfl⟩,Qc2 fun x hx=>h x (List.mem_cons_of_mem _ hx)⟩
theorem Qdw:∀ {l m:List Pt},Jd l→Jd m→(∀ x,x∈l↔x∈m)→l=m
  | [],[],_,_,_=>rfl
  | [],b::m,_,_,h=>absurd ((h b).2 (List.mem_cons_self ..)) (by simp)
  | a::l,[],_,_,h=>absurd ((h a).1 (List.mem_cons_self ..)) (by simp)
  |
   a::l,b::m,h1,h2,h=>by
   have h1':=List.pairwise_cons.1 h1
   have h2':=List.pairwise_cons.1 h2
   have hab:a=b:=by
     rcases List.mem_cons.1 ((h a).1 (List.mem_cons_self ..)) with e | e
     · exact e
     · rcases List.mem_cons.1 ((h b).2 (List.mem_cons_self ..)) with e2 | e2
       · exact e2.symm
       · have:=h2'.1 a e; have:=h1'.1 b e2; omega
   subst hab
   congr 1
   refine Qdw h1'.2 h2'.2 fun x=>⟨fun hx=>?_,fun hx=>?_⟩
   · rcases List.mem_cons.1 ((h x).1 (List.mem_cons_of_mem _ hx)) with e | e
     · have:=h1'.1 x hx; rw [e] at this; omega
     · exact e
   · rcases List.mem_cons.1 ((h x).2 (List.mem_cons_of_mem _ hx)) with e | e
     · have:=h2'.1 x hx; rw [e] at this; omega
     · exact e
theorem C9 {l:List Pt} (h:Gq l):Jd (Xd Mt l) :=
  Orq.foldG_pw (R:=fun a b:Pt=>a.id<b.id) (S:=fun _=>True) (D:=fun a b:Pt=>a.id≠b.id) (fun x y z h1 h2=>Int.lt_trans h1 h2) (fun x y _ _ h=>of_decide_eq_true h) (fun x y _ _ h1 h=>by have:=of_decide_eq_false h; omega) l [] .nil (fun x hx=>by cases hx) (fun _ _=>trivial) h (fun x hx=>by cases hx)
theorem Qx5 (l:List Pt) (q:Pt):(put l q).Perm (q::l):=by
  unfold put
  exact List.perm_middle.trans (by rw [List.take_append_drop])
theorem Qda:∀ (qs acc:List Pt),(Jv acc qs).2=0→(Jv acc qs).1.Perm (qs++acc)
  | [],acc,_=>List.Perm.refl _
  |
   q::qs,acc,h=>by
   simp only [Jv] at h ⊢
   split
   · rename_i h0
     rw [if_pos h0] at h
     refine (Qda qs _ h).trans ?_
     exact ((Qx5 acc q).append_left qs).trans List.perm_middle
   · rename_i h0
     rw [if_neg h0] at h
     exact absurd h h0
theorem Qrz {qs:List Pt} (hl:qs.length≤6) (hd:Gq qs):(Jv [] qs).2=0∧(Jv [] qs).1=Xd Mt qs:=by
  rcases Qry hl with ⟨h1,h2,_,_⟩ | ⟨_,h2⟩
  · refine ⟨h1,Qdw h2 (C9 hd) fun x=>?_⟩
    have h3:=Qda qs [] h1
    rw [List.append_nil] at h3
    rw [h3.mem_iff,U8]
  · exact absurd hd h2
end Orr

namespace Orr
open Go Go.Proofs
set_option maxRecDepth 10000
theorem Q2e {α:Type} {f:α→List LV} {lt:α→α→Bool} {O:List α} {c:α} {k:Nat} (hp:J8 lt O c O.length=k):(O.map f).take k++(f c::(O.map f).drop k)=(K0 lt O c).map f:=by
  simp [K0,hp,List.map_take,List.map_drop]
theorem Qh0 {α:Type} {f:α→List LV} {lt:α→α→Bool} {O:List α} {c:α} {k:Nat} (hp:J8 lt O c O.length=k):(O.map f).take k++([f c]++((O.map f).drop k).take ((O.map f).length-k))=(K0 lt O c).map f:=by
  rw [List.take_of_length_le (l:=(O.map f).drop k) (by simp)]
  exact Q2e hp
theorem Cd {lt:Pt→Pt→Bool} {O:List Pt} {c:Pt} {k:Nat} (hp:J8 lt O c O.length=k):(Q4 O).take k++([rpt c]++((Q4 O).drop k).take ((Q4 O).length-k))=Q4 (K0 lt O c):=Qh0 hp
theorem J5 (l:List Pt):(Q4 l).length=l.length:=by simp [Q4]
theorem C4 (l:List Pt):∀ c∈Q4 l,c.length=7:=fun c hc=>by obtain ⟨x,_,rfl⟩:=List.mem_map.1 hc; rfl
theorem Js {l:List Pt} {i:Nat} {c:Pt} (h:l[i]? = some c):(Q4 l)[i]? = some (rpt c):=Z4 h
theorem Q1k {l:List Pt} (hn:l.length≤1000000):Qc Tryz.prog 86 [.one (.row (Q4 l))] [.one (.row (Q4 (Xd Mt l)))]:=by
  have hcl:=J5 l
  refine Zy Tryz.func86 rfl ?_
  refine go tt [.o 3 112 7] rfl trivial ?_
  refine lp (S:=Nat) 1 (fun L1 i=>(8,.v (.one (.int .i64 (i:Int))))::(3,.v (.one (.orow 0 7 none)))::L1) (fun i=>[.row false 112 7 (Q4 (Xd Mt (l.take i)))]) (fun i=>l.length-i) (fun i=>i≤l.length) 0 (Nat.zero_le _) rfl (fun _ _=>rfl) rfl fun i hi=>?_
  by_cases hlt:i<l.length
  · obtain ⟨c,hc⟩:∃ c,l[i]? = some c:=⟨_,List.getElem?_eq_getElem hlt⟩
    have hst:Xd Mt (l.take (i+1))=K0 Mt (Xd Mt (l.take i)) c:=Tf hc
    obtain ⟨O,hO⟩:∃ O,O=Xd Mt (l.take i):=⟨_,rfl⟩
    have hOl:O.length=i:=by rw [hO,Yf,List.length_take]; omega
    have hrl:=J5 O
    rw [←hO] at hst ⊢
    refine go tt [.t (decide_eq_true (by omega))] rfl trivial ?_
    refine lp (S:=Nat) 1 (fun L1 k=>(5,.v (.one (.int .i64 (k:Int))))::L1) (fun _=>[.row false 112 7 (Q4 O)]) id (fun k=>k≤O.length∧J8 Mt O c k=J8 Mt O c O.length) (Q4 O).length ⟨by omega,by rw [hrl]⟩ rfl (fun _ _=>rfl) rfl fun k ⟨hk,hp⟩=>?_
    have h7:=C4 O
    have h7z:∀ y∈[rpt c],y.length=7:=fun y hy=>by rw [List.mem_singleton.1 hy]; rfl
    cases k with
    |
     zero =>
     have hp:J8 Mt O c O.length=0:=by rw [←hp]; rfl
     refine go tt [.g 15 false (by simp),.f rfl,.i 0,.x (Js hc),.lo,.i 0,.s (sz:=7) (fun y hy=>h7 y (List.mem_of_mem_take hy)),.s (sz:=7) (fun y hy=>(List.mem_append.1 hy).elim (h7z y) fun hy=>h7 y (List.mem_of_mem_take hy))] rfl (by simp [Qa]; omega) ?_
     exact rd (i+1) (by omega) hlt (by rw [hst,←Cd hp]; rfl)
    |
     succ k =>
     obtain ⟨x,hx⟩:∃ x,O[k]? = some x:=⟨_,List.getElem?_eq_getElem (by omega)⟩
     by_cases hlc:Mt c x=true
     · refine go tt [.g 15 true (by simp),.x (Js hc),.r 23 (eI (b:=(k:Int)) (by simp)),.i k,.x (Js hx),.t hlc,.r 30 (eI (b:=(k:Int)) (by simp))] rfl (by simp [Qa]; omega) ?_
       exact rd k (by simp) ⟨by omega,by rw [←hp,Cu hx hlc]⟩ rfl
     · have hlc:Mt c x=false:=by simpa using hlc
       have hp:J8 Mt O c O.length=k+1:=by rw [←hp,Pe hx hlc]
       refine go tt [.g 15 true (by simp),.x (Js hc),.r 23 (eI (b:=(k:Int)) (by simp)),.i k,.x (Js hx),.f hlc,.i (k+1),.x (Js hc),.lo,.i (k+1),.s (sz:=7) (fun y hy=>h7 y (List.mem_of_mem_drop (List.mem_of_mem_take hy))),.s (sz:=7) (fun y hy=>(List.mem_append.1 hy).elim (h7z y) fun hy=>h7 y (List.mem_of_mem_drop (List.mem_of_mem_take hy)))] rfl (by simp [Qa]; omega) ?_
       exact rd (i+1) (by omega) hlt (by rw [hst,←Cd hp]; rfl)
  · obtain rfl:i=l.length:=by omega
    rw [List.take_length]
    exact en tt [.f (decide_eq_false (by omega))] rfl rfl trivial
end Orr

namespace Orr
open Go Go.Proofs
set_option maxRecDepth 10000
def Qbx (q:Rat) (a b:Pt):Bool:=if Sr (Xp a.c b.c) q≠0 then decide (0<Sr (Xp a.c b.c) q) else if Sr (Jb a.c b.c) q≠0 then decide (0<Sr (Jb a.c b.c) q) else decide (a.id<b.id)
theorem Qq2 {a b:Pt} {q:Rat} {c:List (List Int)} (ha:Rs a.c) (hb:Rs b.c) (hq:Qs 1000000 q):Qc Tryz.prog 310 [.agg (rpt a),.agg (rpt b),.agg (aq q c)] [.one (.bool (Qbx q a b))]:=by
  have c1:=Bn (p:=Xp a.c b.c) (c:=c) (Qd (Md ha hb).1 (by decide)) (Nat.le_trans (Md ha hb).2 (by decide)) hq
  have c2:=Bn (p:=Jb a.c b.c) (c:=c) (Qd (Mc ha hb).1 (by decide)) (Nat.le_trans (Mc ha hb).2 (by decide)) hq
  by_cases h1:Sr (Xp a.c b.c) q≠0
  · exact w tt Tryz.func310 rfl [.c [] (Ty ha hb),.c [] c1,.t (decide_eq_true h1)] rfl (by unfold Qbx; rw [if_pos h1]) trivial
  by_cases h2:Sr (Jb a.c b.c) q≠0
  · exact w tt Tryz.func310 rfl [.c [] (Ty ha hb),.c [] c1,.f (decide_eq_false h1),.c [] (Od ha hb),.c [] c2,.t (decide_eq_true h2)] rfl (by unfold Qbx; rw [if_neg h1,if_pos h2]) trivial
  · exact w tt Tryz.func310 rfl [.c [] (Ty ha hb),.c [] c1,.f (decide_eq_false h1),.c [] (Od ha hb),.c [] c2,.f (decide_eq_false h2)] rfl (by unfold Qbx; rw [if_neg h1,if_neg h2]) trivial
theorem Qq4 {l:List Pt} {q:Rat} {cs:List (List Int)} (hl:∀ p∈l,Rs p.c) (hn:l.length≤1000000) (hq:Qs 1000000 q):Qc Tryz.prog 287 [.one (.row (Q4 l)),.agg (aq q cs)] [.one (.row (Q4 (Xd (Qbx q) l)))]:=by
  have hcl:=J5 l
  obtain ⟨lt,hlt0⟩:∃ lt,lt=Qbx q:=⟨_,rfl⟩
  rw [←hlt0]
  refine Zy Tryz.func287 rfl ?_
  refine go tt [.o 5 112 7] rfl trivial ?_
  refine lp (S:=Nat) 2 (fun L1 i=>(10,.v (.one (.int .i64 (i:Int))))::(5,.v (.one (.orow 1 7 none)))::L1) (fun i=>[.blk 102 (aq q cs),.row false 112 7 (Q4 (Xd lt (l.take i)))]) (fun i=>l.length-i) (fun i=>i≤l.length) 0 (Nat.zero_le _) rfl (fun _ _=>rfl) rfl fun i hi=>?_
  by_cases hlt:i<l.length
  · obtain ⟨c,hc⟩:∃ c,l[i]? = some c:=⟨_,List.getElem?_eq_getElem hlt⟩
    have hst:Xd lt (l.take (i+1))=K0 lt (Xd lt (l.take i)) c:=Tf hc
    have hcp:=hl c (List.mem_of_getElem? hc)
    obtain ⟨O,hO⟩:∃ O,O=Xd lt (l.take i):=⟨_,rfl⟩
    have hOl:O.length=i:=by rw [hO,Yf,List.length_take]; omega
    have hOm:∀ x∈O,Rs x.c:=fun x hx=>by rw [hO,U8] at hx; exact hl x (List.mem_of_mem_take hx)
    have hrl:=J5 O
    rw [←hO] at hst ⊢
    refine go tt [.t (decide_eq_true (by omega))] rfl trivial ?_
    refine lp (S:=Nat) 2 (fun L1 k=>(7,.v (.one (.int .i64 (k:Int))))::L1) (fun _=>[.blk 102 (aq q cs),.row false 112 7 (Q4 O)]) id (fun k=>k≤O.length∧J8 lt O c k=J8 lt O c O.length) (Q4 O).length ⟨by omega,by rw [hrl]⟩ rfl (fun _ _=>rfl) rfl fun k ⟨hk,hp⟩=>?_
    have h7:=C4 O
    have h7z:∀ y∈[rpt c],y.length=7:=fun y hy=>by rw [List.mem_singleton.1 hy]; rfl
    cases k with
    |
     zero =>
     have hp:J8 lt O c O.length=0:=by rw [←hp]; rfl
     refine go tt [.g 17 false (by simp),.f rfl,.i 0,.x (Js hc),.lo,.i 0,.s (sz:=7) (fun y hy=>h7 y (List.mem_of_mem_take hy)),.s (sz:=7) (fun y hy=>(List.mem_append.1 hy).elim (h7z y) fun hy=>h7 y (List.mem_of_mem_take hy))] rfl (by simp [Qa]; omega) ?_
     exact rd (i+1) (by omega) hlt (by rw [hst,←Cd hp]; rfl)
    |
     succ k =>
     obtain ⟨x,hx⟩:∃ x,O[k]? = some x:=⟨_,List.getElem?_eq_getElem (by omega)⟩
     have cb:=Qq2 (c:=cs) hcp (hOm x (List.mem_of_getElem? hx)) hq
     rw [←hlt0] at cb
     by_cases hlc:lt c x=true
     · refine go tt [.g 17 true (by simp),.x (Js hc),.r 24 (eI (b:=(k:Int)) (by simp)),.i k,.x (Js hx),.c [] cb,.t hlc,.r 31 (eI (b:=(k:Int)) (by simp))] rfl (by simp [Qa]; omega) ?_
       exact rd k (by simp) ⟨by omega,by rw [←hp,Cu hx hlc]⟩ rfl
     · have hlc:lt c x=false:=by simpa using hlc
       have hp:J8 lt O c O.length=k+1:=by rw [←hp,Pe hx hlc]
       refine go tt [.g 17 true (by simp),.x (Js hc),.r 24 (eI (b:=(k:Int)) (by simp)),.i k,.x (Js hx),.c [] cb,.f hlc,.i (k+1),.x (Js hc),.lo,.i (k+1),.s (sz:=7) (fun y hy=>h7 y (List.mem_of_mem_drop (List.mem_of_mem_take hy))),.s (sz:=7) (fun y hy=>(List.mem_append.1 hy).elim (h7z y) fun hy=>h7 y (List.mem_of_mem_drop (List.mem_of_mem_take hy)))] rfl (by simp [Qa]; omega) ?_
       exact rd (i+1) (by omega) hlt (by rw [hst,←Cd hp]; rfl)
  · obtain rfl:i=l.length:=by omega
    rw [List.take_length]
    exact en tt [.f (decide_eq_false (by omega))] rfl rfl trivial
def rct (c:Ct):List LV:=[.int .i64 c.kind,.int .i64 c.i0,.int .i64 c.i1,.int .i64 c.i2,.int .i64 c.i3,rp (zp c.p),.int .i64 c.want,.row [],.bool false]
def Jh (l:List Ct):List (List LV):=l.map rct
theorem Td (l:List Ct):(Jh l).length=l.length:=by simp [Jh]
theorem Qi3 (l:List Ct):∀ c∈Jh l,c.length=9:=fun c hc=>by obtain ⟨x,_,rfl⟩:=List.mem_map.1 hc; rfl
theorem Mf {l:List Ct} {i:Nat} {c:Ct} (h:l[i]? = some c):(Jh l)[i]? = some (rct c):=Z4 h
theorem Qhz {lt:Ct→Ct→Bool} {O:List Ct} {c:Ct} {k:Nat} (hp:J8 lt O c O.length=k):(Jh O).take k++([rct c]++((Jh O).drop k).take ((Jh O).length-k))=Jh (K0 lt O c):=Qh0 hp
theorem Q1m {k i0 i1 i2 i3 l j0 j1 j2 j3:Int}:Qc Tryz.prog 312 [.agg [.int .i64 k,.int .i64 i0,.int .i64 i1,.int .i64 i2,.int .i64 i3],.agg [.int .i64 l,.int .i64 j0,.int .i64 j1,.int .i64 j2,.int .i64 j3]] [.one (.bool (Xw [k,i0,i1,i2,i3] [l,j0,j1,j2,j3]))]:=by
  by_cases hk:k=l
  · subst hk
    rw [show Xw [k,i0,i1,i2,i3] [k,j0,j1,j2,j3]=Xw [i0,i1,i2,i3] [j0,j1,j2,j3] from by simp [Xw]]
    refine Zy Tryz.func312 rfl ?_
    refine go tt [.f (by simp)] rfl trivial ?_
    refine lp (S:=Nat) 2 (fun L1 i=>(5,.v (.one (.int .i64 (i:Int))))::L1) (fun _=>[.blk 159 [.int .i64 k,.int .i64 i0,.int .i64 i1,.int .i64 i2,.int .i64 i3],.blk 159 [.int .i64 k,.int .i64 j0,.int .i64 j1,.int .i64 j2,.int .i64 j3]]) (fun i=>4-i) (fun i=>i≤4∧Xw ([i0,i1,i2,i3].drop i) ([j0,j1,j2,j3].drop i)=Xw [i0,i1,i2,i3] [j0,j1,j2,j3]) 0 ⟨by omega,rfl⟩ rfl (fun _ _=>rfl) rfl fun i ⟨hi,he⟩=>?_
    rw [←he]
    rcases (show i=0∨i=1∨i=2∨i=3∨i=4 by omega) with rfl | rfl | rfl | rfl | rfl
    · by_cases h:i0=j0
      · exact go tt [.t rfl,.i 0,.i 0,.f (by simpa using h)] rfl (by simp [Qa]) (rd 1 (by omega) ⟨by omega,by simp [Xw,h]⟩ rfl)
      · exact en tt [.t rfl,.i 0,.i 0,.t (by simpa using h),.i 0,.i 0] rfl (by simp [Xw,h]) trivial
    · by_cases h:i1=j1
      · exact go tt [.t rfl,.i 1,.i 1,.f (by simpa using h)] rfl (by simp [Qa]) (rd 2 (by omega) ⟨by omega,by simp [Xw,h]⟩ rfl)
      · exact en tt [.t rfl,.i 1,.i 1,.t (by simpa using h),.i 1,.i 1] rfl (by simp [Xw,h]) trivial
    · by_cases h:i2=j2
      · exact go tt [.t rfl,.i 2,.i 2,.f (by simpa using h)] rfl (by simp [Qa]) (rd 3 (by omega) ⟨by omega,by simp [Xw,h]⟩ rfl)
      · exact en tt [.t rfl,.i 2,.i 2,.t (by simpa using h),.i 2,.i 2] rfl (by simp [Xw,h]) trivial
    · by_cases h:i3=j3
      · exact go tt [.t rfl,.i 3,.i 3,.f (by simpa using h)] rfl (by simp [Qa]) (rd 4 (by omega) ⟨by omega,by simp [Xw,h]⟩ rfl)
      · exact en tt [.t rfl,.i 3,.i 3,.t (by simpa using h),.i 3,.i 3] rfl (by simp [Xw,h]) trivial
    · exact en tt [.f rfl] rfl (by simp [Xw]) trivial
  · exact w tt Tryz.func312 rfl [.t (by simpa using hk)] rfl (by simp [Xw,hk]) trivial
theorem Q1q {l:List Ct} (hn:l.length≤1000000):Qc Tryz.prog 289 [.one (.row (Jh l))] [.one (.row (Jh (Xd K8 l)))]:=by
  have hcl:=Td l
  refine Zy Tryz.func289 rfl ?_
  refine go tt [.o 3 265 9] rfl trivial ?_
  refine lp (S:=Nat) 1 (fun L1 i=>(8,.v (.one (.int .i64 (i:Int))))::(3,.v (.one (.orow 0 9 none)))::L1) (fun i=>[.row false 265 9 (Jh (Xd K8 (l.take i)))]) (fun i=>l.length-i) (fun i=>i≤l.length) 0 (Nat.zero_le _) rfl (fun _ _=>rfl) rfl fun i hi=>?_
  by_cases hlt:i<l.length
  · obtain ⟨c,hc⟩:∃ c,l[i]? = some c:=⟨_,List.getElem?_eq_getElem hlt⟩
    have hst:Xd K8 (l.take (i+1))=K0 K8 (Xd K8 (l.take i)) c:=Tf hc
    obtain ⟨O,hO⟩:∃ O,O=Xd K8 (l.take i):=⟨_,rfl⟩
    have hOl:O.length=i:=by rw [hO,Yf,List.length_take]; omega
    have hrl:=Td O
    rw [←hO] at hst ⊢
    refine go tt [.t (decide_eq_true (by omega))] rfl trivial ?_
    refine lp (S:=Nat) 1 (fun L1 k=>(5,.v (.one (.int .i64 (k:Int))))::L1) (fun _=>[.row false 265 9 (Jh O)]) id (fun k=>k≤O.length∧J8 K8 O c k=J8 K8 O c O.length) (Jh O).length ⟨by omega,by rw [hrl]⟩ rfl (fun _ _=>rfl) rfl fun k ⟨hk,hp⟩=>?_
    have h7:=Qi3 O
    have h7z:∀ y∈[rct c],y.length=9:=fun y hy=>by rw [List.mem_singleton.1 hy]; rfl
    cases k with
    |
     zero =>
     have hp:J8 K8 O c O.length=0:=by rw [←hp]; rfl
     refine go tt [.g 15 false (by simp),.f rfl,.i 0,.x (Mf hc),.lo,.i 0,.s (sz:=9) (fun y hy=>h7 y (List.mem_of_mem_take hy)),.s (sz:=9) (fun y hy=>(List.mem_append.1 hy).elim (h7z y) fun hy=>h7 y (List.mem_of_mem_take hy))] rfl (by simp [Qa]; omega) ?_
     exact rd (i+1) (by omega) hlt (by rw [hst,←Qhz hp]; rfl)
    |
     succ k =>
     obtain ⟨x,hx⟩:∃ x,O[k]? = some x:=⟨_,List.getElem?_eq_getElem (by omega)⟩
     have cb:=Q1m (k:=c.kind) (i0:=c.i0) (i1:=c.i1) (i2:=c.i2) (i3:=c.i3) (l:=x.kind) (j0:=x.i0) (j1:=x.i1) (j2:=x.i2) (j3:=x.i3)
     by_cases hlc:K8 c x=true
     · refine go tt [.g 15 true (by simp),.x (Mf hc),.r 23 (eI (b:=(k:Int)) (by simp)),.i k,.x (Mf hx),.c [] cb,.t hlc,.r 30 (eI (b:=(k:Int)) (by simp))] rfl (by simp [Qa]; omega) ?_
       exact rd k (by simp) ⟨by omega,by rw [←hp,Cu hx hlc]⟩ rfl
     · have hlc:K8 c x=false:=by simpa using hlc
       have hp:J8 K8 O c O.length=k+1:=by rw [←hp,Pe hx hlc]
       refine go tt [.g 15 true (by simp),.x (Mf hc),.r 23 (eI (b:=(k:Int)) (by simp)),.i k,.x (Mf hx),.c [] cb,.f hlc,.i (k+1),.x (Mf hc),.lo,.i (k+1),.s (sz:=9) (fun y hy=>h7 y (List.mem_of_mem_drop (List.mem_of_mem_take hy))),.s (sz:=9) (fun y hy=>(List.mem_append.1 hy).elim (h7z y) fun hy=>h7 y (List.mem_of_mem_drop (List.mem_of_mem_take hy)))] rfl (by simp [Qa]; omega) ?_
       exact rd (i+1) (by omega) hlt (by rw [hst,←Qhz hp]; rfl)
  · obtain rfl:i=l.length:=by omega
    rw [List.take_length]
    exact en tt [.f (decide_eq_false (by omega))] rfl rfl trivial
end Orr

namespace Orr
open Go Go.Proofs
set_option maxRecDepth 10000
abbrev sgq (q:Rat):List Int→Int:=fun p=>Zx p q
abbrev rzc:List LV:=[.int .i64 0,.int .i64 0,.int .i64 0,.int .i64 0,.int .i64 0,.nils,.int .i64 0,.nils,.bool false]
theorem Qut {a b:Pt} {q:Rat} {c:List (List Int)} (ha:Rs a.c) (hb:Rs b.c) (hq:Qs 1000000 q):Qc Tryz.prog 311 [.one (.int .i64 1),.agg (aq q c),.one (.row [rpt a,rpt b])] [.agg (rct (Ki (sgq q) a b)),.one (.bool true)]:=by
  have hfl:=Al (Xp a.c b.c)
  have x0:[rpt a,rpt b][0]? = some (rpt a):=rfl
  have x1:[rpt a,rpt b][1]? = some (rpt b):=rfl
  refine Zy Tryz.func311 rfl ?_
  refine go tt [.g 14 false rfl,.g 18 false rfl,.x (l:=[[.int .i64 0],[.int .i64 2],[.int .i64 2],[.int .i64 3],[.int .i64 4],[.int .i64 4]]) (i:=1) (xs:=[.int .i64 2]) rfl,.f rfl] rfl trivial ?_
  refine lp (S:=Nat) 3 (fun L1 i=>(33,.v (.one (.int .i64 (i:Int))))::L1) (fun i=>[.blk 102 (aq q c),.blk 265 rzc,.blk 265 [.int .i64 1,.int .i64 (if 0<i then a.id else 0),.int .i64 (if 1<i then b.id else 0),.int .i64 0,.int .i64 0,.nils,.int .i64 0,.nils,.bool false]]) (fun i=>2-i) (fun i=>i≤2) 0 (by decide) rfl (fun _ _=>rfl) rfl fun i hi=>?_
  rcases (show i=0∨i=1∨i=2 by omega) with rfl | rfl | rfl
  · exact go tt [.t rfl,.x x0,.i 0] rfl (by simp [Qa]) (rd 1 (by omega) (by omega) rfl)
  · exact go tt [.t rfl,.x x1,.i 1] rfl (by simp [Qa]) (rd 2 (by omega) (by omega) rfl)
  by_cases h0:(Xp a.c b.c).length=0
  · have e:Wl a b=Jb a.c b.c:=if_neg (by omega)
    exact en tt [.f rfl,.t rfl,.x x0,.x x1,.c [] (Ty ha hb),.t (decide_eq_true (by omega)),.x x0,.x x1,.c [] (Od ha hb),.c [] (Bn (p:=Jb a.c b.c) (c:=c) (Qd (Mc ha hb).1 (by decide)) (Nat.le_trans (Mc ha hb).2 (by decide)) hq)] rfl (by unfold Ki; rw [e]; rfl) trivial
  · have e:Wl a b=Xp a.c b.c:=if_pos (by omega)
    exact en tt [.f rfl,.t rfl,.x x0,.x x1,.c [] (Ty ha hb),.f (decide_eq_false (by omega)),.c [] (Bn (p:=Xp a.c b.c) (c:=c) (Qd (Md ha hb).1 (by decide)) (Nat.le_trans (Md ha hb).2 (by decide)) hq)] rfl (by unfold Ki; rw [e]; rfl) trivial
theorem Q1r {a b:Pt} {q:Rat} {c:List (List Int)} (ha:Rs a.c) (hb:Rs b.c) (hq:Qs 1000000 q):Qc Tryz.prog 288 [.one (.int .i64 1),.agg (aq q c),.one (.row [rpt a,rpt b])] [.agg (rct (Ki (sgq q) a b))] :=
  w tt Tryz.func288 rfl [.c [] (Qut ha hb hq)] rfl rfl trivial
def M5 (q:Rat) (l:List Pt):List Ct:=Xd K8 (Jo (sgq q) (Xd (Qbx q) l))
theorem Qej {l:List Pt} {q:Rat} {cs:List (List Int)} (hl:∀ p∈l,Rs p.c) (hn:l.length≤1000) (hq:Qs 1000000 q):Qc Tryz.prog 256 [.one (.row (Q4 l)),.agg (aq q cs)] [.one (.row (Jh (M5 q l)))]:=by
  have c1:=Qq4 (cs:=cs) hl (by omega) hq
  have hML:(Xd (Qbx q) l).length=l.length:=Yf _ _
  have hMl:∀ p∈Xd (Qbx q) l,Rs p.c:=fun p hp=>hl p (U8.1 hp)
  unfold M5
  obtain ⟨M,hM⟩:∃ M,M=Xd (Qbx q) l:=⟨_,rfl⟩
  rw [←hM] at c1 hML hMl ⊢
  have hcl:=J5 M
  have hrl:=U5 (sgq q) M
  have c2:=Q1q (l:=Jo (sgq q) M) (by omega)
  refine Zy Tryz.func256 rfl ?_
  refine go tt [.c [] c1,.o 6 265 9] rfl trivial ?_
  refine lp (S:=Nat) 2 (fun L1 i=>(7,.v (.one (.int .i64 (i:Int))))::(6,.v (.one (.orow 1 9 none)))::L1) (fun i=>[.blk 102 (aq q cs),.row false 265 9 (Jh ((Jo (sgq q) M).take i))]) (fun i=>M.length-i) (fun i=>i≤M.length-1) 0 (Nat.zero_le _) rfl (fun _ _=>rfl) rfl fun i hi=>?_
  have htl:(Jh ((Jo (sgq q) M).take i)).length=i:=by rw [Td,List.length_take]; omega
  by_cases hlt:i+1<M.length
  · obtain ⟨a,ha⟩:∃ a,M[i]? = some a:=⟨_,List.getElem?_eq_getElem (by omega)⟩
    obtain ⟨b,hb⟩:∃ b,M[i+1]? = some b:=⟨_,List.getElem?_eq_getElem hlt⟩
    have hg:=Ef (sgq q) ha hb
    have hm:∀ y∈[rct (Ki (sgq q) a b)],y.length=9:=fun y hy=>by rw [List.mem_singleton.1 hy]; rfl
    refine go tt [.t (decide_eq_true (by omega)),.x (Js ha),.x (Js hb),.c [] (Q1r (hMl a (List.mem_of_getElem? ha)) (hMl b (List.mem_of_getElem? hb)) hq),.s (sz:=9) hm] rfl (by simp [Qa,htl]; omega) ?_
    exact rd (i+1) (by omega) (by omega) (by rw [hg]; simp [Jh]; rfl)
  · have e:(Jo (sgq q) M).take i=Jo (sgq q) M:=List.take_of_length_le (by omega)
    rw [e]
    exact en tt [.f (decide_eq_false (by omega)),.c [] c2] rfl rfl (by simp [Qa]; omega)
theorem Qq3 {l:List Pt} {q:Rat} {cs:List (List Int)} (hl:∀ p∈l,Rs p.c) (hn:l.length≤1000) (hq:Qs 1000000 q):Qc Tryz.prog 209 [.one (.int .i64 0),.one (.row (Q4 l)),.agg (aq q cs)] [.one (.row (Jh (M5 q l)))] :=
  w tt Tryz.func209 rfl [.t rfl,.c [] (Qej hl hn hq)] rfl rfl trivial
theorem Qj6 {l:List Pt} {q:Rat} {cs:List (List Int)} (hl:∀ p∈l,Rs p.c) (hn:l.length≤1000) (hq:Qs 1000000 q):Qc Tryz.prog 149 [.one (.int .i64 0),.one (.row (Q4 l)),.agg (aq q cs)] [.one (.row (Jh (M5 q l)))] :=
  w tt Tryz.func149 rfl [.c [] (Qq3 hl hn hq)] rfl rfl trivial
theorem Qus {l:List Ct} (hn:l.length≤1000000):Qc Tryz.prog 148 [.one (.row []),.one (.row (Jh l))] [.one (.row (Jh l))]:=by
  have hcl:=Td l
  refine Zy Tryz.func148 rfl ?_
  refine go tt [] rfl trivial ?_
  refine lp (S:=Nat) 0 (fun L1 i=>(9,.v (.one (.int .i64 (i:Int))))::L1) (fun _=>[]) (fun i=>l.length-i) (fun i=>i≤l.length) 0 (Nat.zero_le _) rfl (fun _ _=>rfl) rfl fun i hi=>?_
  by_cases hlt:i<l.length
  · refine go tt [.t (decide_eq_true (by omega))] rfl trivial ?_
    refine lp (S:=Nat) 0 (fun L1 k=>(14,.v (.one (.int .i64 (k:Int))))::L1) (fun _=>[]) (fun k=>0-k) (fun k=>k=0) 0 rfl rfl (fun _ _=>rfl) rfl fun k hk=>?_
    subst hk
    exact go tt [.f rfl] rfl (by simp [Qa]; omega) (rd (i+1) (by omega) hlt rfl)
  · exact en tt [.f (decide_eq_false (by omega))] rfl rfl trivial
end Orr

namespace Orr
open Go Go.Proofs
set_option maxRecDepth 10000
theorem Q2p (l:List Nat) (n:Nat):(lm l).take (min l.length n)=lm (l.take n):=by
  rw [lm,lm,←List.map_take]
  rcases Nat.le_total l.length n with h | h
  · rw [Nat.min_eq_left h,List.take_length,List.take_of_length_le h]
  · rw [Nat.min_eq_right h]
theorem Q6n {l:List Nat} {n:Nat} (hn:n≤1000):Qc Tryz.prog 246 [.one (.row (lm l)),.one (.int .i64 (n:Int))] [.one (.row (lm (l.take n)))]:=by
  rw [←Q2p]
  have hll:(lm l).length=l.length:=by simp [lm]
  exact w tt Tryz.func246 rfl [.r 9 (eI (b:=((min l.length n:Nat):Int)) (by omega)),.i (min l.length n)] rfl rfl (by simp [Qa,hll]; omega)
theorem Qud {z:RawInt}:Qc Tryz.prog 203 [.agg (Ee z),.one (.int .i64 1)] [.agg (Ee z.cut)] :=
  w tt Tryz.func203 rfl [.c [] (Q6n (l:=z.l) (n:=1) (by decide))] rfl rfl trivial
def M7 (l:List RawInt):List (List LV):=l.map Ee
theorem Mg (l:List RawInt):(M7 l).length=l.length:=by simp [M7]
theorem Qnk {l:List RawInt}:Qc Tryz.prog 202 [.one (.row (M7 l)),.one (.int .i64 3),.one (.int .i64 1)] [.one (.row (M7 ((l.take 3).map RawInt.cut)))]:=by
  have hll:=Mg l
  refine Zy Tryz.func202 rfl (ln 0 rfl rfl fun hzl=>?_)
  rw [hll] at hzl
  refine go tt [.o 7 29 2] rfl trivial ?_
  refine lp (S:=Nat) 1 (fun L1 i=>(8,.v (.one (.int .i64 (i:Int))))::(7,.v (.one (.orow 0 2 none)))::L1) (fun i=>[.row false 29 2 (M7 ((l.take i).map RawInt.cut))]) (fun i=>3-i) (fun i=>i≤3∧i≤l.length) 0 ⟨by decide,Nat.zero_le _⟩ rfl (fun _ _=>rfl) rfl fun i ⟨hi,hi2⟩=>?_
  have hil:(M7 ((l.take i).map RawInt.cut)).length=i:=by rw [Mg,List.length_map,List.length_take]; omega
  by_cases h1:i<l.length
  · by_cases h2:i<3
    · obtain ⟨z,hz⟩:∃ z,l[i]? = some z:=⟨_,List.getElem?_eq_getElem h1⟩
      have hm:∀ y∈[Ee z.cut],y.length=2:=fun y hy=>by rw [List.mem_singleton.1 hy]; rfl
      refine go tt [.g 13 true (decide_eq_true (by omega)),.t (decide_eq_true (by omega)),.x (Z4 (f:=Ee) hz),.c [] Qud,.s (sz:=2) hm] rfl (by simp [Qa,hil,-List.map_take]; omega) ?_
      exact rd (i+1) (by omega) ⟨h2,h1⟩ (by rw [List.take_succ,hz]; simp [M7]; rfl)
    · have e:i=3:=by omega
      have e2:l.take 3=l.take i:=by rw [e]
      rw [e2]
      exact en tt [.g 13 true (decide_eq_true (by omega)),.f (decide_eq_false (by omega))] rfl rfl trivial
  · have e:l.take i=l.take 3:=by rw [List.take_of_length_le (by omega),List.take_of_length_le (by omega)]
    rw [e]
    exact en tt [.g 13 false (decide_eq_false (by omega)),.f rfl] rfl rfl trivial
abbrev rcw (z:RawPt):List LV:=[.row (M7 z.x),.row (M7 z.y),.bool z.d.b,.row (lm z.d.l)]
def RawPt.cut (z:RawPt):RawPt:=⟨(z.x.take 3).map RawInt.cut,(z.y.take 3).map RawInt.cut,z.d.cut,z.id⟩
theorem Q9e {z:RawPt}:Qc Tryz.prog 144 [.agg (rcw z),.one (.int .i64 3),.one (.int .i64 1)] [.agg (rcw z.cut)] :=
  w tt Tryz.func144 rfl [.c [] (Qnk (l:=z.x)),.c [] (Qnk (l:=z.y)),.c [] (Qud (z:=z.d))] rfl rfl trivial
theorem Bl {z:RawInt} (hz:z.Ok) {most:Int} (hm:0≤most∧most≤999):Qc Tryz.prog 204 [.agg (Ee z),.one (.int .i64 most)] [.agg (Ze (Ja most z))]:=by
  obtain ⟨b,l⟩:=z
  have hb:=Nk hm.1 ⟨b,l⟩
  have hs:Qm (Ja most ⟨b,l⟩)≤100000000:=Nat.le_trans (Ju.2 (show (Ja most ⟨b,l⟩).natAbs<2^10 by omega)) (by decide)
  cases l with
  | nil=>exact w tt Tryz.func204 rfl [.t rfl] rfl (by simp [Ja,Fp]) trivial
  |
   cons u l =>
   have hu:=hz.u u (List.mem_cons_self ..)
   have co:=W6 (n:=Ja most ⟨b,u::l⟩) (by omega)
   have ct:=Qqv hs
   have hr:Int.tmod (u:Int) (most+1)=(u:Int) % (most+1):=Int.tmod_eq_emod_of_nonneg (by omega)
   have h1:=Int.emod_nonneg (u:Int) (b:=most+1) (by omega)
   have h2:=Int.emod_lt_of_pos (u:Int) (b:=most+1) (by omega)
   cases b with
   |
    true =>
    rw [show Ja most ⟨true,u::l⟩=-((u:Int) % (most+1)) from rfl] at co ct ⊢
    exact w tt Tryz.func204 rfl [.f (decide_eq_false (by simp [lm]; try omega)),.x (l:=lm (u::l)) (i:=0) (xs:=[.int .u32 (u:Int)]) rfl,.r 18 (eI hr),.t rfl,.c [] co,.c [] ct] rfl rfl (by simp [Qa]; omega)
   |
    false =>
    rw [show Ja most ⟨false,u::l⟩=(u:Int) % (most+1) from rfl] at co ct ⊢
    exact w tt Tryz.func204 rfl [.f (decide_eq_false (by simp [lm]; try omega)),.x (l:=lm (u::l)) (i:=0) (xs:=[.int .u32 (u:Int)]) rfl,.r 18 (eI hr),.f rfl,.c [] co,.c [] ct] rfl rfl (by simp [Qa]; omega)
end Orr

namespace Orr
open Go Go.Proofs
set_option maxRecDepth 10000
theorem oz2 {P:Program} [Mo P] {n:Nat} {Q:Exit→Sg→List OB→Prop} {L L':Sg} {B B':List OB} (d off T sz:Nat) {it:List It} (hs:Jq it=true) (h:Qxx (P:=P) d L B [.oc d off T sz]=some (L',B',[],[])) (k:AK P n Q it L' B'):AK P n Q it L B:=AK.sub (Qlv h EqOk.nil) hs k
theorem pz {P:Program} [Mo P] {n:Nat} {Q:Exit→Sg→List OB→Prop} {L L':Sg} {B B':List OB} (i:Nat) {it:List It} (hs:Jq it=true) (h:Qx1 [i] L B=some (L',B')) (k:AK P n Q it L' B'):AK P n Q it L B:=AK.sub (Ig h) hs k
def Vm (l:List Int):List (List LV):=l.map Ze
theorem Ly (l:List Int):(Vm l).length=l.length:=by simp [Vm]
theorem Lv {most:Int} {l:List RawInt} {i:Nat} {a:RawInt} (hi:i<3) (h:l[i]? = some a):Vm (Z3 most (l.take (i+1)))=Vm (Z3 most (l.take i))++[Ze (Ja most a)]:=by
  rw [Qfb hi h]; simp [Vm]
theorem Qfa {most:Int} {l:List RawInt} {i:Nat} (hi:i≤3) (h:i≤l.length):(Vm (Z3 most (l.take i))).length=i:=by
  rw [Ly]; unfold Z3; rw [List.length_map,List.length_take,List.length_take]; omega
theorem Qth {z:RawPt} (hz:z.Ok) {most:Int} (hm:0≤most∧most≤999):Qc Tryz.prog 145 [.agg (rcw z),.one (.int .i64 most)] [.agg (cl4 (Cf most z.x z.y z.d))]:=by
  have hxl:=Mg z.x
  have hyl:=Mg z.y
  obtain ⟨D,hD⟩:∃ D,D=Ja 3 z.d:=⟨_,rfl⟩
  have cd:=Bl hz.d (most:=3) (by decide)
  have hx0:∀ {i:Nat},z.x.length≤i∨3≤i→Z3 most (z.x.take i)=Z3 most z.x:=E3 most
  have hy0:∀ {i:Nat},z.y.length≤i∨3≤i→Z3 most (z.y.take i)=Z3 most z.y:=E3 most
  unfold Cf
  rw [←hD] at cd ⊢
  refine Zy Tryz.func145 rfl ?_
  refine go tt [.c [] cd] rfl trivial ?_
  refine oz2 5 0 29 2 rfl rfl ?_
  refine lp (S:=Nat) 4 (fun L1 i=>(6,.v (.one (.int .i64 (i:Int))))::L1) (fun i=>[.blk 31 (rcw z),.blk 31 [.nils,.nils,.bool false,.nils],.blk 31 [.orow 3 2 none,.nils,sg D,mg D],.row false 29 2 (Vm (Z3 most (z.x.take i)))]) (fun i=>3-i) (fun i=>i≤3∧i≤z.x.length) 0 ⟨by decide,Nat.zero_le _⟩ rfl (fun _ _=>rfl) rfl fun i ⟨hi,hi2⟩=>?_
  have hll:=Qfa (most:=most) hi hi2
  by_cases hr:i<z.x.length∧i<3
  · obtain ⟨a,ha⟩:∃ a,z.x[i]? = some a:=⟨_,List.getElem?_eq_getElem hr.1⟩
    have hs:∀ y∈[Ze (Ja most a)],y.length=2:=fun y hy=>by rw [List.mem_singleton.1 hy]; rfl
    refine go tt [.g 17 true (decide_eq_true (by omega)),.t (decide_eq_true (by omega)),.x (Z4 (f:=Ee) ha),.c [] (Bl (hz.x a (List.mem_of_getElem? ha)) hm),.s (sz:=2) hs] rfl (by simp [Qa,hll]; omega) ?_
    exact rd (i+1) (by omega) ⟨hr.2,hr.1⟩ (by rw [Lv hr.2 ha]; rfl)
  have hg1:decide ((i:Int)<((M7 z.x).length:Int))=true→i<z.x.length:=fun h=>by have:=of_decide_eq_true h; omega
  rw [hx0 (by omega)]
  clear hll
  have hfin:∀ {j:Nat},j≤3∧j≤z.y.length→¬(j<z.y.length∧j<3)→Vm (Z3 most (z.y.take j))=Vm (Z3 most z.y):=fun h1 h2=>by rw [hy0 (by omega)]
  by_cases hxx:i<z.x.length
  · refine go tt [.g 17 true (decide_eq_true (by omega)),.f (decide_eq_false (by omega))] rfl trivial ?_
    refine pz 3 rfl rfl ?_
    refine oz2 5 1 29 2 rfl rfl ?_
    refine lp (S:=Nat) 5 (fun L1 j=>(7,.v (.one (.int .i64 (j:Int))))::L1) (fun j=>[.blk 31 (rcw z),.blk 31 [.nils,.nils,.bool false,.nils],.blk 31 [.row (Vm (Z3 most z.x)),.orow 4 2 none,sg D,mg D],.gone,.row false 29 2 (Vm (Z3 most (z.y.take j)))]) (fun j=>3-j) (fun j=>j≤3∧j≤z.y.length) 0 ⟨by decide,Nat.zero_le _⟩ rfl (fun _ _=>rfl) rfl fun j ⟨hj,hj2⟩=>?_
    have hll:=Qfa (most:=most) hj hj2
    by_cases hr:j<z.y.length∧j<3
    · obtain ⟨a,ha⟩:∃ a,z.y[j]? = some a:=⟨_,List.getElem?_eq_getElem hr.1⟩
      have hs:∀ y∈[Ze (Ja most a)],y.length=2:=fun y hy=>by rw [List.mem_singleton.1 hy]; rfl
      refine go tt [.g 40 true (decide_eq_true (by omega)),.t (decide_eq_true (by omega)),.x (Z4 (f:=Ee) ha),.c [] (Bl (hz.y a (List.mem_of_getElem? ha)) hm),.s (sz:=2) hs] rfl (by simp [Qa,hll]; omega) ?_
      exact rd (j+1) (by omega) ⟨hr.2,hr.1⟩ (by rw [Lv hr.2 ha]; rfl)
    rw [hfin ⟨hj,hj2⟩ hr]
    by_cases hyy:j<z.y.length
    · exact ed tt [4] [] [.g 40 true (decide_eq_true (by omega)),.f (decide_eq_false (by omega))] rfl trivial
    · exact ed tt [4] [] [.g 40 false (decide_eq_false (by omega)),.f rfl] rfl trivial
  · refine go tt [.g 17 false (decide_eq_false (by omega)),.f rfl] rfl trivial ?_
    refine pz 3 rfl rfl ?_
    refine oz2 5 1 29 2 rfl rfl ?_
    refine lp (S:=Nat) 5 (fun L1 j=>(7,.v (.one (.int .i64 (j:Int))))::L1) (fun j=>[.blk 31 (rcw z),.blk 31 [.nils,.nils,.bool false,.nils],.blk 31 [.row (Vm (Z3 most z.x)),.orow 4 2 none,sg D,mg D],.gone,.row false 29 2 (Vm (Z3 most (z.y.take j)))]) (fun j=>3-j) (fun j=>j≤3∧j≤z.y.length) 0 ⟨by decide,Nat.zero_le _⟩ rfl (fun _ _=>rfl) rfl fun j ⟨hj,hj2⟩=>?_
    have hll:=Qfa (most:=most) hj hj2
    by_cases hr:j<z.y.length∧j<3
    · obtain ⟨a,ha⟩:∃ a,z.y[j]? = some a:=⟨_,List.getElem?_eq_getElem hr.1⟩
      have hs:∀ y∈[Ze (Ja most a)],y.length=2:=fun y hy=>by rw [List.mem_singleton.1 hy]; rfl
      refine go tt [.g 40 true (decide_eq_true (by omega)),.t (decide_eq_true (by omega)),.x (Z4 (f:=Ee) ha),.c [] (Bl (hz.y a (List.mem_of_getElem? ha)) hm),.s (sz:=2) hs] rfl (by simp [Qa,hll]; omega) ?_
      exact rd (j+1) (by omega) ⟨hr.2,hr.1⟩ (by rw [Lv hr.2 ha]; rfl)
    rw [hfin ⟨hj,hj2⟩ hr]
    by_cases hyy:j<z.y.length
    · exact ed tt [4] [] [.g 40 true (decide_eq_true (by omega)),.f (decide_eq_false (by omega))] rfl trivial
    · exact ed tt [4] [] [.g 40 false (decide_eq_false (by omega)),.f rfl] rfl trivial
theorem Qnc {n d:Int} (hn:-9223372036854775808≤n∧n≤9223372036854775807) (hd:-9223372036854775808≤d∧d≤9223372036854775807):Qc Tryz.prog 32 [.one (.int .i64 n),.one (.int .i64 d)] [.agg (fr (Zl (G7 n 61-30) (1+G7 d 6)))]:=by
  have h1:G7 n 61=n % 61:=rfl
  have h2:G7 d 6=d % 6:=rfl
  exact w tt Tryz.func32 rfl [.c [] (Tv (v:=n) (n:=61) hn (by decide)),.c [] (Tv (v:=d) (n:=6) hd (by decide)),.c [] (Q9j (n:=G7 n 61-30) (d:=1+G7 d 6) (by omega) (by omega))] rfl rfl (by simp [Qa]; omega)
end Orr

namespace Orr
open Go Go.Proofs
set_option maxRecDepth 10000
def rwq (z:RawPt):List LV:=rcw z++[.int .i64 z.id]
def C5 (l:List RawPt):List (List LV):=l.map rwq
theorem Qsd (l:List RawPt):(C5 l).length=l.length:=by simp [C5]
theorem Qf4 {l:List RawPt} {i:Nat} {z:RawPt} (h:l[i]? = some z):(C5 l)[i]? = some (rwq z):=Z4 h
theorem Q6u {most:Int} (hm:0≤most∧most≤999) (z:RawPt):Cs 100000 16 (P9 most z).c:=(Qb9 hm z.x z.y z.d).mono (by decide) (by decide)
def H3 (n:Nat) (most:Int) (zs:List RawPt) (i:Nat):List Pt:=Eb n most (zs.take i)
theorem Qxz (n:Nat) (most:Int) (zs:List RawPt) (i:Nat):(H3 n most zs i).length≤n:=Sp _ _ (Nat.zero_le _)
theorem Q3c {n:Nat} {most:Int} {zs:List RawPt} {i:Nat} {z:RawPt} (h:zs[i]? = some z) (hl:(H3 n most zs i).length<n) (ha:(H3 n most zs i).any (fun x=>decide (x.id=(P9 most z).id))=true):H3 n most zs (i+1)=H3 n most zs i:=by
  unfold H3 Eb at *
  rw [List.take_succ,h,Option.toList_some,List.map_append]
  exact Ru _ _ _ hl ha
theorem Qx0 {n:Nat} {most:Int} {zs:List RawPt} {i:Nat} {z:RawPt} (h:zs[i]? = some z) (hl:(H3 n most zs i).length<n) (ha:(H3 n most zs i).any (fun x=>decide (x.id=(P9 most z).id))=false):H3 n most zs (i+1)=H3 n most zs i++[P9 most z]:=by
  unfold H3 Eb at *
  rw [List.take_succ,h,Option.toList_some,List.map_append]
  exact Gv _ _ _ hl ha
theorem Qxy {n:Nat} {most:Int} {zs:List RawPt} {i:Nat} (h:¬(i<zs.length∧(H3 n most zs i).length<n)):H3 n most zs i=Eb n most zs:=by
  by_cases h1:i<zs.length
  · have hl:n≤(H3 n most zs i).length:=Nat.le_of_not_lt fun h2=>h ⟨h1,h2⟩
    unfold H3 Eb at *
    conv=>rhs; rw [←List.take_append_drop i zs,List.map_append]
    exact (Ll _ _ _ hl).symm
  · unfold H3; rw [List.take_of_length_le (by omega)]
theorem Qs0 {f:Pt→Bool} {l:List Pt} {k:Nat} {x:Pt} (h:l[k]? = some x):(l.take (k+1)).any f=((l.take k).any f || f x):=by
  rw [List.take_succ,h]; simp
theorem Qqt {zs:List RawPt} (hz:∀ z∈zs,z.Ok):Z5 Tryz.prog 85 [.one (.row (C5 zs)),.one (.int .i64 4)] [] [.one (.orow 0 5 none),.one (.orow 1 7 none)] [.row false 35 5 (Ql (Eb 4 20 zs)),.row false 112 7 (Q4 ((Eb 4 20 zs).map Pt.nrm))]:=by
  have hzl:=Qsd zs
  refine Zy Tryz.func85 rfl (ln 0 rfl rfl fun hz63=>?_)
  rw [hzl] at hz63
  refine go tt [.o 6 35 5,.o 7 112 7] rfl trivial ?_
  refine lp (S:=Nat) 2 (fun L1 i=>(8,.v (.one (.int .i64 (i:Int))))::(6,.v (.one (.orow 0 5 none)))::(7,.v (.one (.orow 1 7 none)))::L1) (fun i=>[.row false 35 5 (Ql (H3 4 20 zs i)),.row false 112 7 (Q4 ((H3 4 20 zs i).map Pt.nrm))]) (fun i=>zs.length-i) (fun i=>i≤zs.length) 0 (Nat.zero_le _) rfl (fun _ _=>rfl) rfl fun i hi=>?_
  have hOl:=Qxz 4 20 zs i
  have hend:=Qxy (n:=4) (most:=20) (zs:=zs) (i:=i)
  by_cases h1:i<zs.length
  · by_cases h2:(H3 4 20 zs i).length<4
    · obtain ⟨z,hzi⟩:∃ z,zs[i]? = some z:=⟨_,List.getElem?_eq_getElem h1⟩
      have hzok:=hz z (List.mem_of_getElem? hzi)
      have hin:=Q3c hzi h2
      have hout:=Qx0 hzi h2
      obtain ⟨O,hO⟩:∃ O,O=H3 4 20 zs i:=⟨_,rfl⟩
      rw [←hO] at hOl h2 hin hout ⊢
      have hpl:=Vh O
      have hrl:(Q4 (O.map Pt.nrm)).length=O.length:=by rw [J5,List.length_map]
      obtain ⟨p,hp⟩:∃ p,p=P9 20 z:=⟨_,rfl⟩
      have hid:G7 z.id 1000=p.id:=by rw [hp]; rfl
      have cw:=Tv (v:=z.id) (n:=1000) hzok.id (by decide)
      have cl:=Qth hzok (most:=20) (by decide)
      have ecl:cl4 (Cf 20 z.x z.y z.d)=cl4 p.c:=by rw [hp]; rfl
      rw [hid] at cw
      rw [ecl] at cl
      rw [←hp] at hin hout
      refine go tt [.g 16 true (decide_eq_true (by omega)),.t (decide_eq_true (by omega)),.x (Qf4 hzi),.c [] (Q9e (z:=z)),.x (Qf4 hzi),.c [] cw,.f rfl,.t rfl,.x (Qf4 hzi),.c [] cl] rfl trivial ?_
      refine lp (S:=Nat) 3 (fun L1 k=>(57,.v (.one (.int .i64 (k:Int))))::(10,.v (.one (.bool ((O.take k).any (fun x=>decide (x.id=p.id))))))::L1) (fun _=>[.row false 35 5 (Ql O),.row false 112 7 (Q4 (O.map Pt.nrm)),.blk 35 [pl p.c.x,pl p.c.y,sg p.c.d,mg p.c.d,.int .i64 p.id]]) (fun k=>O.length-k) (fun k=>k≤O.length) 0 (Nat.zero_le _) rfl (fun _ _=>rfl) rfl fun k hk=>?_
      by_cases hk2:k<O.length
      · obtain ⟨x,hx⟩:∃ x,O[k]? = some x:=⟨_,List.getElem?_eq_getElem hk2⟩
        have ha:=Qs0 (f:=fun x=>decide (x.id=p.id)) hx
        cases hb:(O.take k).any (fun x=>decide (x.id=p.id)) with
        |
         true =>
         rw [hb,Bool.true_or] at ha
         exact go tt [.t (decide_eq_true (by omega)),.g 61 true rfl] rfl (by simp [Qa]; omega) (rd (k+1) (by omega) hk2 (by rw [ha]; rfl))
        |
         false =>
         rw [hb,Bool.false_or] at ha
         exact go tt [.t (decide_eq_true (by omega)),.g 61 false rfl,.i k,.x (Kr hx)] rfl (by simp [Qa,hpl]; omega) (rd (k+1) (by omega) hk2 (by rw [ha]; rfl))
      have hk3:O.take k=O:=List.take_of_length_le (by omega)
      rw [hk3]
      cases hb:O.any (fun x=>decide (x.id=p.id)) with
      |
       true =>
       refine go tt [.f (decide_eq_false (by omega)),.f rfl] rfl (by simp [Qa]; omega) ?_
       exact rd (i+1) (by omega) h1 (by rw [hin hb]; rfl)
      |
       false =>
       have cf:=Qur (k:=p.c) (id:=p.id) (by rw [hp]; exact Q6u (by decide) z)
       have hm1:∀ y∈[Jz p],y.length=5:=fun y hy=>by rw [List.mem_singleton.1 hy]; rfl
       have hm2:∀ y∈[rpt p.nrm],y.length=7:=fun y hy=>by rw [List.mem_singleton.1 hy]; rfl
       have e1:Ql (O++[p])=Ql O++[Jz p]:=by simp [Ql]
       have e2:Q4 ((O++[p]).map Pt.nrm)=Q4 (O.map Pt.nrm)++[rpt p.nrm]:=by simp [Q4]
       refine go tt [.f (decide_eq_false (by omega)),.t rfl,.s (sz:=5) hm1,.c [] cf,.s (sz:=7) hm2] rfl (by simp [Qa,hpl,hrl]; omega) ?_
       exact rd (i+1) (by omega) h1 (by rw [hout hb,e1,e2]; rfl)
    · rw [hend (fun h=>h2 h.2)]
      rw [hend (fun h=>h2 h.2)] at h2
      have hpl:=Vh (Eb 4 20 zs)
      exact ed tt [] [0,1] [.g 16 true (decide_eq_true (by omega)),.f (decide_eq_false (by omega))] rfl trivial
  · rw [hend (fun h=>h1 h.1)]
    exact ed tt [] [0,1] [.g 16 false (decide_eq_false (by omega)),.f rfl] rfl trivial
end Orr

namespace Orr
open Go Go.Proofs
set_option maxRecDepth 10000
abbrev plZ (M:List Pt) (q:Rat):List LV:=.row (Q4 M)::(fr q++[.nils,.nils,.nils,.bool false,.nils,.bool false,.nils,.bool false,.nils,.bool false,.nils,.int .i64 0,.nils])
abbrev plB (M:List Pt) (q:Rat) (c:List (List Int)) (w:List Ct):List LV:=.row (Q4 M)::(fr q++(aq q c++[.row (Jh w),.int .i64 0,.nils]))
theorem Qkk {M:List Pt} {q:Rat} {c:List (List Int)} (hM:∀ p∈M,Rs p.c) (hl:M.length≤1000) (hq:Qs 1000000 q) (hC:Qmv q c):Z5 Tryz.prog 105 [.one (.ow 0 0)] [.blk 128 (plZ M q)] [] [.blk 128 (plB M q c (M5 q M))]:=by
  have hw:(M5 q M).length≤1000000:=by
    unfold M5
    rw [Yf,U5,Yf]; omega
  refine Zy Tryz.func105 rfl ?_
  exact ed tt [] [0] [.c [] (Qg0 hq hC),.c [] (Qj6 (cs:=c) hM hl hq),.c [] (Qus hw)] rfl trivial
end Orr

namespace Orr
open Go Go.Proofs Orq
set_option maxRecDepth 10000
theorem Q14 {O:List Pt} {e j:Nat} (h:Gq (J6 O e)) (hj:j≤e):Gq (J6 O j):=by
  have:J6 O j=(J6 O e).take j:=by unfold J6; rw [←List.map_take,List.take_take,Nat.min_eq_left hj]
  rw [this]
  exact List.Pairwise.sublist (List.take_sublist _ _) h
theorem Q6w (O:List Pt):∃ e,e≤O.length∧Gq (J6 O e)∧(e<O.length→¬Gq (J6 O (e+1))):=by
  have key:∀ k,Gq (J6 O k)∨∃ e,e<k∧Gq (J6 O e)∧¬Gq (J6 O (e+1)):=by
    intro k
    induction k with
    | zero=>exact .inl List.Pairwise.nil
    |
     succ k ih =>
     rcases ih with h | ⟨e,h1,h2,h3⟩
     · by_cases h4:Gq (J6 O (k+1))
       · exact .inl h4
       · exact .inr ⟨k,Nat.lt_succ_self k,h,h4⟩
     · exact .inr ⟨e,by omega,h2,h3⟩
  rcases key O.length with h | ⟨e,h1,h2,h3⟩
  · exact ⟨O.length,Nat.le_refl _,h,fun h=>absurd h (Nat.lt_irrefl _)⟩
  · exact ⟨e,by omega,h2,fun _=>h3⟩
theorem Qfq {O:List Pt} {i:Nat} {p:Pt} (h:O[i]? = some p):(Ql (Ma O i)).set i [pl p.c.x,pl p.c.y,sg p.c.d,mg p.c.d,.int .i64 p.m5.id]=Ql (Ma O (i+1)):=by
  rw [←Qo3 h]; simp only [Ql,List.map_set]; rfl
theorem Qby {O:List Pt} {i:Nat} {p:Pt} (h:O[i]? = some p):(Q4 ((Ma O i).map Pt.nrm)).set i [rp (Bb p.nrm.c.x p.nrm.c.d),rp (Bb p.nrm.c.y p.nrm.c.d),pl p.nrm.c.x,pl p.nrm.c.y,sg p.nrm.c.d,mg p.nrm.c.d,.int .i64 p.m5.id]=Q4 ((Ma O (i+1)).map Pt.nrm):=by
  rw [←Qo3 h]; simp only [Q4,List.map_set]; rfl
theorem Qr7 {O:List Pt} {e i:Nat} (h:e≤i) (hi:i≤O.length):(Ql (Ma O i)).take e=Ql (J6 O e):=by
  unfold Ql; rw [←List.map_take,Qic h hi]; rfl
theorem Ql9 {O:List Pt} {e i:Nat} (h:e≤i) (hi:i≤O.length):(Q4 ((Ma O i).map Pt.nrm)).take e=Q4 (Ms O e):=by
  unfold Q4; rw [←List.map_take,←List.map_take,Qic h hi]; rfl
theorem Qib {O:List Pt}:Ma O O.length=J6 O O.length:=by unfold Ma J6; simp
abbrev G6 (n d:Int):Rat:=Zl (G7 n 61-30) (1+G7 d 6)
theorem Ej (n d:Int):Qs 100 (G6 n d):=by
  have h1:G7 n 61=n % 61:=rfl
  have h2:G7 d 6=d % 6:=rfl
  unfold G6 Zl
  rw [if_neg (by omega)]
  exact Qs.divInt (Nat.le_trans (Ju.2 (show (G7 n 61-30).natAbs<2^10 by omega)) (by decide)) (Nat.le_trans (Ju.2 (show (1+G7 d 6).natAbs<2^10 by omega)) (by decide)) (by decide)
theorem Q3d {n:Nat} {most:Int} {l:List RawPt}:∀ p∈Eb n most l,0≤p.id∧p.id<1000:=fun p hp=>by
  rcases B6 _ _ hp with h | h
  · cases h
  · obtain ⟨z,_,rfl⟩:=List.mem_map.1 h
    exact ⟨Int.emod_nonneg _ (by decide),Int.emod_lt_of_pos _ (by decide)⟩
theorem Qqx {zs:List RawPt} {n d:Int} {O M:List Pt} {e:Nat} {c:List (List Int)} (hz:∀ z∈zs,z.Ok) (hO:Eb 4 20 zs=O) (he:e≤O.length) (hd:Gq (J6 O e)) (hm:e<O.length→¬Gq (J6 O (e+1))) (hn:-9223372036854775808≤n∧n≤9223372036854775807) (hdd:-9223372036854775808≤d∧d≤9223372036854775807) (hC:Qmv (G6 n d) c) (hM:M=Xd Mt (Ms O e)) :
    Z5 Tryz.prog 54 [.one (.row (C5 zs)),.one (.int .i64 n),.one (.int .i64 d)] [] [.one (.ow 0 0),.one (.ow 1 0),.one (.bool true)] [.blk 96 (Yo (Qqm M (tq (G6 n d))) (Ql M) (Ai M (tq (G6 n d)))),.blk 128 (plB M (G6 n d) c (M5 (G6 n d) M))]:=by
  have hO4:O.length≤4:=by rw [←hO]; exact Sp _ _ (Nat.zero_le _)
  have hid:∀ p∈O,-9223372036854775808≤p.id∧p.id≤9223372036854775807:=fun p hp=>by
    rw [←hO] at hp; have:=Q3d p hp; omega
  have hlit:∀ p∈O,Qqf p:=fun p hp=>by rw [←hO] at hp; exact Qc5 (by decide) p hp
  have hcl:(J6 O e).length=e:=Bu he
  have hcn:(Ms O e).length=e:=by rw [E6,hcl]
  have hMl:M.length=e:=by rw [hM,Yf,hcn]
  have hok:∀ p∈M,Nml p.c∧Cs 10 3 p.c:=fun p hp=>by rw [hM,U8] at hp; exact Qn2 hlit e p hp
  have hq:=Ej n d
  obtain ⟨q,hqq⟩:∃ q,q=G6 n d:=⟨_,rfl⟩
  have cb:=Q1k (l:=Ms O e) (by omega)
  rw [←hM] at cb
  rw [←hqq] at hq hC ⊢
  have csm:=Qnc hn hdd
  have c2:=Qkk (M:=M) (q:=q) (c:=c) (fun p hp=>⟨(hok p hp).1,(hok p hp).2.mono (by decide) (by decide)⟩) (by omega) (hq.mono (by decide)) hC
  have ctr:=Qt2 (q:=q) (hq.mono (by decide))
  have hnl:=Qrz (qs:=Ms O e) (by omega) (Lb hd)
  have hnl2:Jv [] (Ms O e)=(M,0):=by rw [hM,←hnl.2,←hnl.1]
  have cs:=Qnd (zs:=Ql (J6 O e)) (qs:=Ms O e) (l:=M) (n:=q.num) (d:=(q.den:Int)) (Qc2 fun p hp=>(Qhc hlit e p hp).mono (by decide) (by decide)) (by omega) hnl2 (fun p hp=>⟨(hok p hp).1,(hok p hp).2.mono (by decide) (by decide)⟩) (by omega) (Qe q.num) (Qe (q.den:Int)) (Nat.le_trans hq.1 (by decide)) (Nat.le_trans hq.2 (by decide)) (by rw [Tc]; exact hq.mono (by decide))
  rw [Tc] at cs
  rw [show Zl (G7 n 61-30) (1+G7 d 6)=q from hqq.symm] at csm
  have cp:=Qqt hz
  rw [hO] at cp
  refine Zy Tryz.func54 rfl ?_
  refine go tt [.c [0,1] cp] rfl trivial ?_
  have h0l:=Vh O
  refine ct 2 (S:=Unit) (fun _=>[(1,.v (.one (.int .i64 n))),(2,.v (.one (.int .i64 d))),(9,.v (.one (.row (Ql (J6 O e))))),(10,.v (.one (.row (Q4 (Ms O e)))))]) (fun _=>[.gone,.gone]) (fun _=>True) rfl ?_ (fun _ _=>?_)
  · refine lp (S:=Nat) 2 (fun L1 i=>(23,.v (.one (.int .i64 (i:Int))))::(9,.v (.one (.orow 0 5 none)))::(10,.v (.one (.orow 1 7 none)))::L1) (fun i=>[.row false 35 5 (Ql (Ma O i)),.row false 112 7 (Q4 ((Ma O i).map Pt.nrm))]) (fun i=>O.length-i) (fun i=>i≤O.length∧i≤e∧Gq (J6 O i)) 0 ⟨Nat.zero_le _,Nat.zero_le _,List.Pairwise.nil⟩ rfl (fun _ _=>rfl) (by rw [Qw4]; rfl) fun i ⟨hi,hie,hdi⟩=>?_
    have hl1:(Ql (Ma O (i+1))).length=O.length:=by rw [Vh,Ib]
    have hl0:(Ql (Ma O i)).length=O.length:=by rw [Vh,Ib]
    have hr0:(Q4 ((Ma O i).map Pt.nrm)).length=O.length:=by rw [J5,List.length_map,Ib]
    have hr1:(Q4 ((Ma O (i+1)).map Pt.nrm)).length=O.length:=by rw [J5,List.length_map,Ib]
    by_cases h:i<O.length
    · obtain ⟨p,hp⟩:∃ p,O[i]? = some p:=⟨_,List.getElem?_eq_getElem h⟩
      have hx:=Q2s hp
      have hxn:((Ma O i).map Pt.nrm)[i]? = some p.nrm:=by rw [List.getElem?_map,hx]; rfl
      have cw:=Tv (v:=p.id) (n:=5) (hid p (List.mem_of_getElem? hp)) (by decide)
      rw [show G7 p.id 5=p.m5.id from rfl] at cw
      refine go tt [.t (decide_eq_true (by omega)),.i i,.x (Kr hx),.c [] cw,.i i,.x (Kr hx),.c [] cw,.i i,.x (Kr hx),.i i,.x (Js hxn)] rfl (by simp [Qa,hl0,hr0]; omega) ?_
      rw [Qfq hp,Qby hp]
      refine lp (S:=Nat) 2 (fun L1 j=>(12,.v (.one (.int .i64 (j:Int))))::(9,.v (.one (.orow 0 5 none)))::(10,.v (.one (.orow 1 7 none)))::L1) (fun _=>[.row false 35 5 (Ql (Ma O (i+1))),.row false 112 7 (Q4 ((Ma O (i+1)).map Pt.nrm))]) (fun j=>i-j) (fun j=>j≤i∧∀ k x,k<j→O[k]? = some x→x.m5.id≠p.m5.id) 0 ⟨Nat.zero_le _,fun k x h=>absurd h (Nat.not_lt_zero _)⟩ rfl (fun _ _=>rfl) rfl fun j ⟨hj,hjn⟩=>?_
      by_cases hji:j<i
      · obtain ⟨x,hxj⟩:∃ x,O[j]? = some x:=⟨_,List.getElem?_eq_getElem (by omega)⟩
        have g1:=Qo2 (i:=i+1) (show j<i+1 by omega) hxj
        have g2:=Qo2 (i:=i+1) (show i<i+1 by omega) hp
        by_cases hq:x.m5.id=p.m5.id
        · have hnd:¬Gq (J6 O (i+1)):=fun hD=>by
            have:=List.pairwise_iff_getElem.1 hD j i (by rw [Bu (by omega)]; omega) (by rw [Bu (by omega)]; omega) hji
            refine this ?_
            have e1:(J6 O (i+1))[j]? = some x.m5:=by unfold J6; rw [List.getElem?_map,List.getElem?_take,if_pos (by omega),hxj]; rfl
            have e2:(J6 O (i+1))[i]? = some p.m5:=by unfold J6; rw [List.getElem?_map,List.getElem?_take,if_pos (by omega),hp]; rfl
            rw [(List.getElem?_eq_some_iff.1 e1).2,(List.getElem?_eq_some_iff.1 e2).2]; exact hq
          have hie2:i=e:=by
            rcases Nat.lt_or_ge i e with h3 | h3
            · exact absurd (Q14 hd h3) hnd
            · omega
          have c1:(Ql (Ma O (i+1))).take i=Ql (J6 O e):=by rw [Qr7 (by omega) (by omega),hie2]
          have c2:(Q4 ((Ma O (i+1)).map Pt.nrm)).take i=Q4 (Ms O e):=by rw [Ql9 (by omega) (by omega),hie2]
          refine go tt [.t (decide_eq_true (by omega)),.i j,.x (Kr g1),.i i,.x (Kr g2),.t (decide_eq_true hq),.i i,.i i] rfl (by simp [Qa,hl1,hr1]; omega) ?_
          refine pz 0 rfl rfl ?_
          refine pz 1 rfl rfl ?_
          exact go tt [.t (decide_eq_true (by omega))] rfl trivial (rc () trivial (by rw [c1,c2]; rfl))
        · refine go tt [.t (decide_eq_true (by omega)),.i j,.x (Kr g1),.i i,.x (Kr g2),.f (decide_eq_false hq)] rfl (by simp [Qa,hl1]; omega) ?_
          exact rd (j+1) (by omega) ⟨hji,fun k y hk hy=>by
            rcases Nat.lt_or_ge k j with h3 | h3
            · exact hjn k y h3 hy
            · have:k=j:=by omega
              subst this; rw [hxj] at hy; injection hy with hy; rw [←hy]; exact hq⟩ rfl
      · have hji2:j=i:=by omega
        rw [hji2] at hjn
        have hD:=Qrg hp hdi hjn
        have hle:i+1≤e:=by
          rcases Nat.lt_or_ge i e with h3 | h3
          · exact h3
          · have:i=e:=by omega
            rw [this] at hD h
            exact absurd hD (hm h)
        refine go tt [.f (decide_eq_false (by omega)),.f (decide_eq_false (by omega))] rfl (by simp [Qa]; omega) ?_
        exact rd (i+1) (by omega) ⟨h,hle,hD⟩ rfl
    · have hiO:i=O.length:=by omega
      have hie2:i=e:=by omega
      have c1:Ql (Ma O i)=Ql (J6 O e):=by rw [←hie2,hiO,Qib]
      have c2:Q4 ((Ma O i).map Pt.nrm)=Q4 (Ms O e):=by rw [←hie2,hiO,Qib]; rfl
      refine go tt [] rfl trivial ?_
      rw [c1,c2]
      refine pz 0 rfl rfl ?_
      refine pz 1 rfl rfl ?_
      exact go tt [.f (decide_eq_false (by omega))] rfl trivial (rc () trivial rfl)
  · exact ed tt [] [3,2] [.c [] cb,.c [] csm,.c [2] c2,.c [] ctr,.c [3] cs,.g 96 true rfl] rfl trivial
end Orr

namespace Orr
open Go Go.Proofs Orq
set_option maxRecDepth 10000
theorem Q09 {l:List Nat} (hl:l.length≤1000000000):Qc Tryz.prog 211 [.one (.row (lm l)),.one (.row (lm l))] [.one (.bool true)]:=by
  have hll:(lm l).length=l.length:=by simp [lm]
  refine Zy Tryz.func211 rfl ?_
  refine go tt [.f (decide_eq_false (fun h=>h rfl))] rfl trivial ?_
  refine lp (S:=Nat) 0 (fun L1 i=>(5,.v (.one (.int .i64 (i:Int))))::L1) (fun _=>[]) (fun i=>l.length-i) (fun i=>i≤l.length) 0 (Nat.zero_le _) rfl (fun _ _=>rfl) rfl fun i hi=>?_
  by_cases h:i<l.length
  · have hx:(lm l)[i]? = some [.int .u32 ((l[i]:Nat):Int)]:=Z4 (List.getElem?_eq_getElem h)
    refine go tt [.t (decide_eq_true (by omega)),.x hx,.x hx,.f (decide_eq_false (fun h=>h rfl))] rfl (by simp [Qa]; omega) ?_
    exact rd (i+1) (by omega) h rfl
  · exact en tt [.f (decide_eq_false (by omega))] rfl rfl trivial
theorem Q07 {z:Int} (hz:Qm z≤4294967295):Qc Tryz.prog 152 [.agg (Ze z),.agg (Ze z)] [.one (.bool true)] :=
  w tt Tryz.func152 rfl [.g 10 true (decide_eq_true rfl),.c [] (Q09 (l:=Qx z.natAbs) (by have:=Xx (x:=z.natAbs) (k:=4294967295) hz; omega))] rfl rfl trivial
theorem Q08 {p:List Int} (hp:Bd 4294967295 p) (hl:p.length≤1000000):Qc Tryz.prog 89 [pr p,pr p] [.one (.bool true)]:=by
  have hpl:(p.map Ze).length=p.length:=by simp
  show Qc Tryz.prog 89 [.one (.row (p.map Ze)),.one (.row (p.map Ze))] _
  refine Zy Tryz.func89 rfl ?_
  refine go tt [.f (decide_eq_false (fun h=>h rfl))] rfl trivial ?_
  refine lp (S:=Nat) 0 (fun L1 i=>(13,.v (.one (.int .i64 (i:Int))))::L1) (fun _=>[]) (fun i=>p.length-i) (fun i=>i≤p.length) 0 (Nat.zero_le _) rfl (fun _ _=>rfl) rfl fun i hi=>?_
  by_cases h:i<p.length
  · have hx:=J4 (Xj h)
    refine go tt [.t (decide_eq_true (by omega)),.x hx,.x hx,.c [] (Q07 (Qq hp i)),.f rfl] rfl (by simp [Qa]; omega) ?_
    exact rd (i+1) (by omega) h rfl
  · exact en tt [.f (decide_eq_false (by omega))] rfl rfl trivial
theorem Qtz {l:List Ct} (hl:∀ c∈l,Cp c.p) (hn:l.length≤1000000):Qc Tryz.prog 36 [.one (.row (Z2 l)),.one (.row (Z2 l))] [.one (.bool true)]:=by
  have hcl:=Fe l
  refine Zy Tryz.func36 rfl ?_
  refine go tt [.f (decide_eq_false (fun h=>h rfl))] rfl trivial ?_
  refine lp (S:=Nat) 0 (fun L1 i=>(13,.v (.one (.int .i64 (i:Int))))::L1) (fun _=>[]) (fun i=>l.length-i) (fun i=>i≤l.length) 0 (Nat.zero_le _) rfl (fun _ _=>rfl) rfl fun i hi=>?_
  by_cases h:i<l.length
  · obtain ⟨c,hc⟩:∃ c,l[i]? = some c:=⟨_,List.getElem?_eq_getElem h⟩
    have hx:=D8 hc
    have hp:=hl c (List.mem_of_getElem? hc)
    refine go tt [.t (decide_eq_true (by omega)),.x hx,.x hx,.g 27 false (by simp),.x hx,.x hx,.g 40 false (by simp),.x hx,.x hx,.c [] (Q08 (Qd hp.b (by decide)) (by have:=hp.l; omega)),.f rfl] rfl (by simp [Qa]; omega) ?_
    exact rd (i+1) (by omega) h rfl
  · exact en tt [.f (decide_eq_false (by omega))] rfl rfl trivial
theorem Q0o {c c':Cr} {l l' s s':List Pt} (hs:s.length≤1000000) (hs':s'.length≤1000000):Z5 Tryz.prog 56 [.one (.ow 0 0),.one (.ow 1 0)] [.blk 96 (Yo c (Ql l) (Ql s)),.blk 96 (Yo c' (Ql l') (Ql s'))] [.one (.bool (decide (s.map (·.id)=s'.map (·.id))))] [.blk 96 (Yo c (Ql l) (Ql s)),.blk 96 (Yo c' (Ql l') (Ql s'))]:=by
  have h1:=Qeb (c:=c) (l:=l) (s:=s) hs
  have h2:=Qeb (c:=c') (l:=l') (s:=s') hs'
  have h3:=Qke (a:=s.map (·.id)) (b:=s'.map (·.id)) (by simpa using hs) (by simpa using hs')
  refine Zy Tryz.func56 rfl ?_
  exact ed tt [] [0,1] [.c [0] h1,.c [1] h2,.c [] h3] rfl trivial
theorem Qgx {c c':Cr} {l l' m:List Pt} {a:Tm} {r:List (List LV)} (hm:m.length≤1000000) (hr:r=Ai m a):Z5 Tryz.prog 56 [.one (.ow 0 0),.one (.ow 1 0)] [.blk 96 (Yo c (Ql l) r),.blk 96 (Yo c' (Ql l') r)] [.one (.bool true)] [.blk 96 (Yo c (Ql l) r),.blk 96 (Yo c' (Ql l') r)]:=by
  have h:=Q0o (c:=c) (c':=c') (l:=l) (l':=l') (s:=H5 a m) (s':=H5 a m) (by rw [Ue]; exact hm) (by rw [Ue]; exact hm)
  rw [decide_eq_true rfl] at h
  rw [hr]; exact h
end Orr
