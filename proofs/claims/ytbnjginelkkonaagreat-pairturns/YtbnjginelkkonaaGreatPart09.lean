/- R9 RefCL R10 RawL NewsL KGoL SortQ BegL R11 R12 R13 R14 R15 R16 R17 R18 PairN PairQ SplitL PW1 -/
import Derived.Test.YtbnjginelkkonaaGreatPart08
import Derived.Test.YtbnjginelkkonaaGreatPart05
set_option linter.all false
namespace Orr
open Go Go.Proofs
set_option maxRecDepth 10000
def zls (l:List (List Int)):List (List LV):=l.map fun p=>[rp (zp p)]
theorem M6 (l:List (List Int)):(zls l).length=l.length:=by simp [zls]
theorem D4 (l:List (List Int)) (g:List Int):zls l++[[rp (zp g)]]=zls (l++[g]):=by simp [zls]
theorem M5 {l:List (List Int)} {i:Nat} (h:i<l.length):(zls l)[i]? = some [rp (zp (l.getD i []))]:=Xd (Ql6 h)
theorem Q32 (x:LV):∀ c∈[[x]],c.length=1:=fun c hc=>by rw [List.mem_singleton.1 hc]; rfl
theorem Ow {a b q:List Int} (h:DOk a b q):∃ r,Qd Tryz.prog 307 [.one (rp (zp a)),.one (rp (zp b))] [.one (rp (zp q)),.one (rp (zp r))]:=by
  obtain ⟨h1,h2,h3,h4,qf,r,n,h5,h6,h7,rfl⟩:=h
  exact ⟨r,Qsc h1 h2 h3 h4 h5 h7⟩
theorem Qlo {a:List Int} {mf:Nat} {f:Nat→List Int} (ta:Qi a) (ha:Bd 9000000 a) (la:a.length≤1000) (h2:2≤a.length) (hF:FRun a mf f):Qd Tryz.prog 282 [.one (rp (zp a))] [.one (.row (zls (Qbw f mf)))]:=by
  obtain ⟨⟨n,ls,hrun,hlen,hq⟩,hms⟩:=hF
  have hal:=Ih a
  refine Z7 Tryz.func282 rfl ?_
  refine go tt [.f (decide_eq_false (by omega)),.c [] (Ry ta ha la),.o 3 99 1,.lo] rfl trivial ?_
  refine sb [(3,.v (.one (.orow 0 1 none))),(4,.v (.one (.orow 1 1 none)))] [.row false 99 1 [],.row false 99 1 (zls [Xx a])] rfl rfl ?_
  refine lp (S:=Nat×List (List Int)) 2 (fun L1 s=>(4,.v (.one (.orow 1 1 none)))::L1) (fun s=>[.row false 99 1 [],.row false 99 1 (zls s.2)]) (fun s=>s.1) (fun s=>LRun s.1 s.2 ls∧0<s.2.length∧s.2.length≤1001) (n,[Xx a]) ⟨hrun,by show 0<1; decide,by show 1≤1001; decide⟩ rfl (fun _ _=>rfl) rfl fun ⟨k,l⟩ ⟨hs1,hs2,hs3⟩=>?_
  have hs1:LRun k l ls:=hs1
  have hs2:0<l.length:=hs2
  have hs3:l.length≤1001:=hs3
  have hll:=M6 l
  have hlast:(zls l)[l.length-1]? = some [rp (zp (Vj l))]:=M5 (by omega)
  have hpl:=Ih (Vj l)
  dsimp only
  rcases hs1.inv with ⟨hk,hlf,hl1⟩ | ⟨j,m2,g,hk,hg1,hg2,hg3,hg4,hg5,hg6,hg7,hlr⟩
  · have hlm:l.length=mf+1:=by rw [hlf]; exact hlen
    rw [←hlf] at hq
    have hl2:=M6 (l++[[1]])
    have hl3:(l++[[1]]).length=mf+2:=by simp [hlm]
    refine go tt [.r 23 (eI (b:=((l.length-1:Nat):Int)) (by omega)),.i (l.length-1),.x hlast,.f (decide_eq_false (by omega)),.c [] Qvu,.s (sz:=1) (Q32 _)] rfl (by simp [Qa,hll]; omega) ?_
    rw [D4]
    refine lp (S:=Nat) 2 (fun L1 i=>(6,.v (.one (.int .i64 (i:Int))))::(3,.v (.one (.orow 0 1 none)))::L1) (fun i=>[.row false 99 1 (zls (Qbw f i)),.row false 99 1 (zls (l++[[1]]))]) (fun i=>mf-i) (fun i=>i≤mf) 0 (Nat.zero_le _) rfl (fun _ _=>rfl) rfl fun i hi=>?_
    have htl:=M6 (Qbw f i)
    rw [Qkg] at htl
    by_cases h:i<mf
    · obtain ⟨x,y,z,hx,hy,hz,hf⟩:=hq i h
      obtain ⟨rx,hdx⟩:=Ow hx
      obtain ⟨ry,hdy⟩:=Ow hy
      obtain ⟨rz,hdz⟩:=Ow hz
      refine go tt [.t (decide_eq_true (by omega)),.i i,.x (M5 (by omega)),.i (i+1),.x (M5 (by omega)),.c [] hdx,.i (i+1),.x (M5 (by omega)),.i (i+2),.x (M5 (by omega)),.c [] hdy,.c [] (Ry hx.trim hx.bd hx.len),.c [] (Ry hy.trim hy.bd hy.len),.c [] hdz,.c [] (Ry hz.trim hz.bd hz.len),.s (sz:=1) (Q32 _)] rfl (by simp [Qa,hl2,htl]; omega) ?_
      exact rd (i+1) (by omega) h (by rw [D4,Qtu,hf]; rfl)
    · have e:i=mf:=by omega
      rw [e]
      exact en tt [.f (decide_eq_false (by omega))] rfl rfl (by simp [Qa]; omega)
  · subst hk
    refine go tt [.r 23 (eI (b:=((l.length-1:Nat):Int)) (by omega)),.i (l.length-1),.x hlast,.t (decide_eq_true (by omega)),.r 31 (eI (b:=((l.length-1:Nat):Int)) (by omega)),.i (l.length-1),.x hlast,.c [] (Qln (Qc hg4 (by decide)) (by omega)),.c [] (Q7j hg3 (Q9 _ _) hg4 hg5 hg2 (Nat.le_trans (Yx _) (by omega)) hg6),.s (sz:=1) (Q32 _)] rfl (by simp [Qa,hll]; omega) ?_
    exact rd (j,l++[g]) (by dsimp only; omega) ⟨hlr,by simp,by simp; omega⟩ (by rw [D4]; rfl)
theorem Qsd {a:List Int} {mf:Nat} {f:Nat→List Int} (ta:Qi a) (ha:Bd 9000000 a) (la:a.length≤1000) (h2:2≤a.length) (hF:FRun a mf f) (hP:Q9y mf f):Qd Tryz.prog 250 [.one (rp (zp a))] [.one (rp (zp (Re f mf)))]:=by
  have hms:=hF.small
  have hal:=Ih a
  have htl:=M6 (Qbw f mf)
  rw [Qkg] at htl
  refine Z7 Tryz.func250 rfl ?_
  refine go tt [.f (decide_eq_false (by omega)),.c [] Qvu,.c [] (Qlo ta ha la h2 hF)] rfl trivial ?_
  refine lp (S:=Nat) 0 (fun L1 i=>(15,.v (.one (.int .i64 (i:Int))))::(3,.v (.one (rp (zp (Re f i)))))::L1) (fun _=>[]) (fun i=>mf-i) (fun i=>i≤mf) 0 (Nat.zero_le _) rfl (fun _ _=>rfl) rfl fun i hi=>?_
  by_cases h:i<mf
  · obtain ⟨g1,g2,g3,g4⟩:=hP i h
    refine go tt [.t (decide_eq_true (by omega)),.x (Xd (f:=fun p=>[rp (zp p)]) (Q0m h)),.c [] (Qe1 (p:=Re f i) (q:=f i) (by omega) (by omega) g1 g3 (by decide))] rfl (by simp [Qa]; omega) ?_
    exact rd (i+1) (by omega) h rfl
  · have e:i=mf:=by omega
    rw [e]
    exact en tt [.f (decide_eq_false (by omega))] rfl rfl trivial
theorem Qs4 {l:List (List Int)} (g:List Int) (h:0<l.length):(zls l++[[rp (zp g)]])[l.length-1]? = some [rp (zp (Vj l))]:=by
  rw [List.getElem?_append_left (by rw [M6]; omega)]
  exact M5 (by omega)
theorem Qvt {a sq:List Int} {c:List (List Int)} (ta:Qi a) (ha:Bd 9000000 a) (la:a.length≤1000) (h2:2≤a.length) (hC:ChRun a sq c):Qd Tryz.prog 207 [.one (rp (zp a))] [.one (.row (zls c))]:=by
  obtain ⟨⟨mf,f,hF,hP,rfl⟩,⟨n,hcr⟩,hbd,hle,hsm⟩:=hC
  refine Z7 Tryz.func207 rfl ?_
  refine go tt [.c [] (Qsd ta ha la h2 hF hP),.lo,.c [] (Qln (p:=Re f mf) (Qc hbd (by decide)) (by omega)),.c [] (Qhu (p:=Zo (Re f mf)) (Q9 _ _) (Qc (A5 (t:=10) hbd (by omega)) (by decide)) (Nat.le_trans (Yx _) (by omega)))] rfl trivial ?_
  refine sb [(5,.v (.one (rp (zp (Vm (Zo (Re f mf))))))),(4,.v (.one (.orow 0 1 none)))] [.row false 99 1 (zls [Re f mf])] rfl rfl ?_
  refine lp (S:=Nat×List (List Int)×List Int) 1 (fun L1 s=>(5,.v (.one (rp (zp s.2.2))))::(4,.v (.one (.orow 0 1 none)))::L1) (fun s=>[.row false 99 1 (zls s.2.1)]) (fun s=>s.1) (fun s=>CRun s.1 s.2.1 s.2.2 c∧0<s.2.1.length∧s.2.1.length≤1001) (n,[Re f mf],Vm (Zo (Re f mf))) ⟨hcr,by show 0<1; decide,by show 1≤1001; decide⟩ rfl (fun _ _=>rfl) rfl fun ⟨k,l,g⟩ ⟨hs1,hs2,hs3⟩=>?_
  have hs1:CRun k l g c:=hs1
  have hs2:0<l.length:=hs2
  have hs3:l.length≤1001:=hs3
  have hll:=M6 l
  have hgl:=Ih g
  dsimp only
  rcases hs1.inv with ⟨hk,hlf,hg0⟩ | ⟨j,m2,r,hk,hg1,hg2,hg3,hrr,hrt,hrb,hrl,hl0,hl1,hcj⟩
  · subst hlf
    exact en tt [.f (decide_eq_false (by omega))] rfl rfl trivial
  · subst hk
    refine go tt [.t (decide_eq_true (by omega)),.s (sz:=1) (Q32 _),.r 23 (eI (b:=((l.length-1:Nat):Int)) (by simp; omega)),.i (l.length-1),.x (Qs4 g hl0),.c [] (Qos (a0:=Vj l) (b:=g) (res:=r) hg1 hg2 hg3 hrr),.c [] (Qhu (p:=r) hrt hrb hrl),.c [] (Qvq (p:=Vm r) (Qrv hrb) (Nat.le_trans (Qmb r) (by omega)))] rfl (by simp [Qa,hll]; omega) ?_
    exact rd (j,l++[g],Ve (Vm r)) (by dsimp only; omega) ⟨hcj,by simp,by simp; omega⟩ (by rw [D4]; rfl)
theorem Q95 {q:Rat} (h1:Ql q.num≤1000000) (h2:Ql (q.den:Int)≤1000000):Bd 9000000 [-q.num,(q.den:Int)]:=fun z hz=>by
  simp only [List.mem_cons,List.not_mem_nil,or_false] at hz
  rcases hz with rfl | rfl
  · rw [Xc]; omega
  · omega
abbrev aq (q:Rat) (c:List (List Int)):List LV:=[rp (zp [-q.num,(q.den:Int)]),.row (zls c)]++fr q++fr q
theorem Qht {q:Rat} {c:List (List Int)} (hq:Qs 1000000 q) (hC:Qny q c):Qd Tryz.prog 147 [.agg (fr q)] [.agg (aq q c)]:=by
  obtain ⟨sq,hch⟩:=hC
  have co:=Ub (n:=1) (by decide)
  exact w tt Tryz.func147 rfl [.c [] co,.c [] (Vp (n:=q.num)),.c [] (Quv (z:=q.num)),.c [] co,.c [] (Vp (n:=(q.den:Int))),.c [] (Qvt (a:=[-q.num,(q.den:Int)]) (Qrk q) (Q95 hq.1 hq.2) (by show 2≤1000; decide) (Nat.le_refl 2) hch)] rfl rfl trivial
theorem Qhv {q:Rat} {c:List (List Int)} (hq:Qs 1000000 q):Qd Tryz.prog 337 [.agg (aq q c)] [.one (.bool true)]:=by
  have cr:=Q2b (a:=q) (b:=q) (hq.mono (by decide)) (hq.mono (by decide))
  rw [Wn] at cr
  exact w tt Tryz.func337 rfl [.c [] cr] rfl rfl trivial
theorem Qtg {p:List Int} (h:p.length=0) (q:Rat):Z4 p q=0:=by rw [List.eq_nil_of_length_eq_zero h]; rfl
theorem Qor {p:List Int} {q:Rat} {c:List (List Int)} (hp:Bd 30000000 p) (hl:p.length≤64) (hq:Qs 1000000 q):Qd Tryz.prog 336 [.one (rp (zp p)),.agg (aq q c)] [.one (.bool (decide (Z4 p q=0)))]:=by
  have hpl:=Ih p
  rcases Nat.eq_zero_or_pos p.length with h0 | h0
  · rw [decide_eq_true (Qtg h0 q)]
    exact w tt Tryz.func336 rfl [.t (decide_eq_true (by omega))] rfl rfl trivial
  · exact w tt Tryz.func336 rfl [.f (decide_eq_false (by omega)),.c [] (Qhv hq),.t rfl,.c [] (Qoq hp hl hq)] rfl rfl trivial
theorem Qcm {p:List Int} {q:Rat} {c:List (List Int)} (hp:Bd 30000000 p) (hl:p.length≤64) (hq:Qs 1000000 q):Qd Tryz.prog 327 [.one (rp (zp p)),.agg (aq q c)] [.one (.int .i64 (Z4 p q))]:=by
  by_cases h0:Z4 p q=0
  · have cz:=Qor (c:=c) hp hl hq
    rw [h0] at cz ⊢
    exact w tt Tryz.func327 rfl [.c [] cz,.t rfl] rfl rfl trivial
  · exact w tt Tryz.func327 rfl [.c [] (Qor hp hl hq),.f (decide_eq_false h0),.c [] (Qhv hq),.g 11 true rfl,.t rfl,.c [] (Qoq hp hl hq)] rfl rfl trivial
theorem Qvs {p:List Int} {q:Rat} {c:List (List Int)} (hp:Bd 20000000 p) (hl:p.length≤64) (hq:Qs 1000000 q):Qd Tryz.prog 315 [.one (rp (zp p)),.agg (aq q c)] [.one (.int .i64 (S9 p q))]:=by
  refine Z7 Tryz.func315 rfl ?_
  refine go tt [] rfl trivial ?_
  refine lp (S:=List Int) 1 (fun L1 r=>(0,.v (.one (rp (zp r))))::L1) (fun _=>[.blk 102 (aq q c)]) (fun r=>r.length) (fun r=>r.length≤64∧Bd (25000000-30*r.length) r∧Ya (fun p=>Z4 p q) r.length r=S9 p q) p ⟨hl,Qc hp (by omega),rfl⟩ rfl (fun _ _=>rfl) rfl fun r ⟨hr0,hr1,hr2⟩=>?_
  have hrl:=Ih r
  rcases Nat.eq_zero_or_pos r.length with h0 | h0
  · rw [E9 _ h0] at hr2
    exact en tt [.f (decide_eq_false (by omega))] rfl (by rw [←hr2]) trivial
  by_cases hs:Z4 r q=0
  · have hd:=Yx r
    refine go tt [.t (decide_eq_true (by omega)),.c [] (Qcm (p:=r) (c:=c) (Qc hr1 (by omega)) hr0 hq),.f (decide_eq_false (fun h=>h hs)),.c [] (Qln (p:=r) (Qc hr1 (by omega)) (by omega))] rfl trivial ?_
    exact rd (Zo r) (by omega) ⟨by omega,Qc (A5 (t:=6) hr1 (by omega)) (by omega),by rw [←hr2,E8 _ h0 hs]⟩ rfl
  · exact en tt [.t (decide_eq_true (by omega)),.c [] (Qcm (p:=r) (c:=c) (Qc hr1 (by omega)) hr0 hq),.t (decide_eq_true hs)] rfl (by rw [←hr2,E7 _ h0 hs]) trivial
end Orr

namespace Orr
def Bt (p:List Int) (d:Int):List Rat:=p.map fun (z:Int)=>(z:Rat) / (d:Rat)
theorem G6 (p:List Int) (d:Int):(Bt p d).length=p.length:=List.length_map _
theorem Q4p {p:List Int} {i:Nat} {z:Int} {d:Int} (h:p[i]? = some z):(Bt p d)[i]? = some ((z:Rat) / (d:Rat)):=by simp [Bt,h]
theorem Qzx (p:List Int) (d:Int) (i:Nat):(Bt p d).getD i 0=((p.getD i 0:Int):Rat) / (d:Rat):=by
  simp only [List.getD_eq_getElem?_getD,Bt,List.getElem?_map]
  cases p[i]? with
  | none=>simp; grind
  | some z=>rfl
theorem Te (z d:Int):(z:Rat) / (d:Rat)=Rat.divInt z d:=by
  by_cases h:d=0
  · subst h; simp; grind
  · rw [Rat.div_def]
    have e1:(z:Rat)=Rat.divInt z 1:=by have:=Rat.num_divInt_den (z:Rat); simpa using this.symm
    have e2:(d:Rat)⁻¹=Rat.divInt 1 d:=by
      have:(d:Rat)=Rat.divInt d 1:=by have:=Rat.num_divInt_den (d:Rat); simpa using this.symm
      rw [this,Rat.inv_divInt]
    rw [e1,e2,Rat.divInt_mul_divInt]
    simp
theorem Q2y {z d:Int} (hd:0<d):(((z:Rat) / (d:Rat)).den:Int)*(Int.gcd z d:Nat)=d:=by
  rw [Te]
  have h:=(Qfx (n:=z) hd).2
  rw [←h,Kr,Int.gcd_comm]
  exact Int.ediv_mul_cancel (Int.gcd_dvd_right ..)
theorem Qxy {d a b L:Nat} (hd:0<d) (ha:L*a=d) {D:Nat} (hb:D*b=d):L*D / Nat.gcd L D*Nat.gcd a b=d:=by
  have hL:0<L:=Nat.pos_of_ne_zero fun e=>by rw [e] at ha; omega
  have hD:0<D:=Nat.pos_of_ne_zero fun e=>by rw [e] at hb; omega
  have hg:0<Nat.gcd L D:=Nat.gcd_pos_of_pos_left _ hL
  show Nat.lcm L D*Nat.gcd a b=d
  rw [←Nat.gcd_mul_left]
  refine Nat.dvd_antisymm ?_ ?_
  · -- gcd (M a) (M b) | d
    obtain ⟨u,hu⟩:=Nat.gcd_dvd_left L D
    obtain ⟨v,hv⟩:=Nat.gcd_dvd_right L D
    have hM:Nat.lcm L D=Nat.gcd L D*(u*v):=by
      unfold Nat.lcm
      conv=>lhs; rw [show L*D=Nat.gcd L D*u*(Nat.gcd L D*v) by rw [←hu,←hv]]
      rw [show Nat.gcd L D*u*(Nat.gcd L D*v)=Nat.gcd L D*(Nat.gcd L D*(u*v)) by rw [Nat.mul_assoc,Nat.mul_left_comm u,]]
      exact Nat.mul_div_cancel_left _ hg
    have h1:Nat.lcm L D*a=v*d:=by
      rw [hM,←ha]
      conv=>rhs; rw [hu]
      simp [Nat.mul_comm,Nat.mul_left_comm,Nat.mul_assoc]
    have h2:Nat.lcm L D*b=u*d:=by
      rw [hM,←hb]
      conv=>rhs; rw [hv]
      simp [Nat.mul_comm,Nat.mul_left_comm,Nat.mul_assoc]
    have huv:Nat.gcd u v=1:=by
      have:=Nat.gcd_mul_left (Nat.gcd L D) u v
      rw [←hu,←hv] at this
      exact Nat.eq_of_mul_eq_mul_left hg (by omega)
    rw [h1,h2,Nat.gcd_mul_right,Nat.gcd_comm,huv,Nat.one_mul]
    exact Nat.dvd_refl d
  · refine Nat.dvd_gcd ?_ ?_
    · rw [←ha]; exact Nat.mul_dvd_mul_right (Nat.dvd_lcm_left L D) a
    · rw [←hb]; exact Nat.mul_dvd_mul_right (Nat.dvd_lcm_right L D) b
def lcd (z:List Int) (d:Int):Nat→Int
  | 0=>1
  | i+1=>lcd z d i*((((z.getD i 0:Int):Rat) / (d:Rat)).den:Int) / (Int.gcd (lcd z d i) ((((z.getD i 0:Int):Rat) / (d:Rat)).den:Int):Nat)
theorem Qma {z:List Int} {d:Int} (hd:0<d):∀ i,i≤z.length→lcd z d i*((Xb (d::z.take i):Nat):Int)=d
  |
   0,_=>by
   show 1*_=d
   have:((Xb [d]:Nat):Int)=d:=by unfold Xb; simp; omega
   rw [List.take_zero,this,Int.one_mul]
  |
   i+1,hi=>by
   have ih:=Qma (z:=z) hd i (by omega)
   have hz:z[i]? = some (z.getD i 0):=getD_some (l:=z) (by omega)
   have hstep:Xb (d::z.take (i+1))=Nat.gcd (Xb (d::z.take i)) (z.getD i 0).natAbs:=by
     have:=Qdd (l:=d::z) (i:=i+1) (z:=z.getD i 0) (by simpa using hz)
     simpa using this
   have hdn:=Q2y (z:=z.getD i 0) hd
   simp only [lcd]
   generalize hL:lcd z d i=L at *
   generalize hD:(((z.getD i 0:Int):Rat) / (d:Rat)).den=D at *
   have hLp:0<L:=by
     rcases Int.lt_trichotomy L 0 with h | h | h
     · have:=Int.mul_nonneg (Int.neg_nonneg_of_nonpos (Int.le_of_lt h)) (Int.natCast_nonneg (Xb (d::z.take i)))
       rw [Int.neg_mul] at this; omega
     · rw [h,Int.zero_mul] at ih; omega
     · exact h
   obtain ⟨l,rfl⟩:=Int.eq_ofNat_of_zero_le (Int.le_of_lt hLp)
   obtain ⟨e,rfl⟩:=Int.eq_ofNat_of_zero_le (Int.le_of_lt hd)
   have h1:l*Xb (((e:Nat):Int)::z.take i)=e:=by exact_mod_cast ih
   have h2:D*Int.gcd (z.getD i 0) ((e:Nat):Int)=e:=by exact_mod_cast hdn
   have h3:=Qxy (d:=e) (by omega) h1 h2
   have h4:Nat.gcd (Xb (((e:Nat):Int)::z.take i)) (Int.gcd (z.getD i 0) ((e:Nat):Int))=Nat.gcd (Xb (((e:Nat):Int)::z.take i)) (z.getD i 0).natAbs:=by
     have hge:Xb (((e:Nat):Int)::z.take i)∣e:=⟨l,by rw [Nat.mul_comm]; exact h1.symm⟩
     show Nat.gcd _ (Nat.gcd (z.getD i 0).natAbs e)=_
     rw [Nat.gcd_comm (z.getD i 0).natAbs e,←Nat.gcd_assoc,Nat.gcd_eq_left hge]
   rw [hstep,←h4]
   rw [show Int.gcd ((l:Nat):Int) ((D:Nat):Int)=Nat.gcd l D by simp [Int.gcd]]
   exact_mod_cast h3
theorem Q3i {x y:List Int} {d:Int} (hd:0<d) (hg:Xb (d::(x++y))=1):lcd (x++y) d (x++y).length=d:=by
  have:=Qma (z:=x++y) hd (x++y).length (Nat.le_refl _)
  rw [List.take_length,hg] at this
  simpa using this
theorem Q3k {z:List Int} {d:Int} (hd:0<d) {i:Nat} (hi:i≤z.length):Ql (lcd z d i)≤Ql d:=by
  have h:=Qma (z:=z) hd i hi
  refine X6 ?_
  have h0:Xb (d::z.take i)≠0:=fun e=>by rw [e] at h; simp at h; omega
  have:d.natAbs=(lcd z d i).natAbs*Xb (d::z.take i):=by
    conv=>lhs; rw [←h]
    rw [Int.natAbs_mul]; simp
  rw [this]
  exact Nat.le_mul_of_pos_right _ (Nat.pos_of_ne_zero h0)
end Orr

namespace Orr
open Go Go.Proofs
set_option maxRecDepth 10000
abbrev cl4 (k:Crv):List LV:=[pl k.x,pl k.y,sg k.d,mg k.d]
abbrev rcl (c:Crv):List LV:=[rp (Bt c.x c.d),rp (Bt c.y c.d)]++cl4 c
def Ff (p:Pt):List LV:=rcl p.c++[.int .i64 p.id]
def Zd (l:List Pt):List (List LV):=l.map Ff
structure Rs (k:Crv):Prop where
  n:Nml k
  c:Cs 100000 16 k
theorem Rs.d0 {k:Crv} (h:Rs k):0<k.d:=h.n.2.2.1
theorem Qm7 {x:List Int} {d:Int} {s:Nat} (hx:Bd s x) (hd:Ql d≤s) (h1:1≤s):Rb s (Bt x d):=fun q hq=>by
  obtain ⟨z,hz,rfl⟩:=List.mem_map.1 hq
  rw [Te]
  exact Qs.divInt (hx z hz) hd h1
theorem Qbo {x:List Int} {d:Int} (tx:Qi x) (hd:d≠0):Vo (Bt x d) (d:Rat)=zp x:=by
  have hd':(d:Rat)≠0:=fun e=>hd (by exact_mod_cast e)
  unfold Vo
  rw [I6 (g:=fun i=>x.getD i 0) _ fun i _=>?_,G6,Qa7,Wc,tx]
  rw [Qzx]; grind
theorem Qhy {p:List Rat} {c:Int} (hp:Rb 40000000 p) (hc:Ql c≤40000000) (hl:p.length≤1000000):Qd Tryz.prog 278 [.one (rp p),.agg (ri c)] [.one (rp (Vo p (c:Rat)))] :=
  w tt Tryz.func278 rfl [.c [] (Ub (n:=1) (by decide)),.c [] (Vp (n:=c)),.c [] (Hq (p:=p) (c:=(c:Rat)) hp (Uq hc (by omega)) hl)] rfl rfl trivial
theorem Q4o (x y:List Int) (d:Int):frow (Bt x d)++frow (Bt y d)=frow (Bt (x++y) d):=by simp [Bt,frow]
theorem Dl {z:List Int} {d:Int} {i:Nat} (h:i<z.length):(Bt z d)[i]? = some (((z.getD i 0:Int):Rat) / (d:Rat)):=Q4p (getD_some h)
theorem Qb5 (a b:Int) (hb:b≠0) {s:Nat} (h:Ql b≤s):Ql ((Int.gcd a b:Nat):Int)≤s:=by
  refine Nat.le_trans (X6 ?_) h
  simp only [Int.natAbs_natCast]
  exact Nat.le_of_dvd (by omega) (by simpa using Int.natAbs_dvd_natAbs.2 (Int.gcd_dvd_right a b))
theorem Q3j (a b:Int):(a*b) % ((Int.gcd a b:Nat):Int)=0:=Int.emod_eq_zero_of_dvd (Int.dvd_trans (Int.gcd_dvd_left ..) (Int.dvd_mul_right a b))
theorem Qco {k:Crv} (hs:Rs k):Qd Tryz.prog 247 [.one (rp (Bt k.x k.d)),.one (rp (Bt k.y k.d))] [.agg (rcl k)]:=by
  have hlx:=hs.c.lx
  have hly:=hs.c.ly
  have hds:=hs.c.d
  have hxy:Bd 100000 (k.x++k.y):=fun z hz=>by rcases List.mem_append.1 hz with h | h; exact hs.c.x z h; exact hs.c.y z h
  have hfx:(frow (Bt k.x k.d)).length=k.x.length:=by rw [Jt,G6]
  have hfy:(frow (Bt k.y k.d)).length=k.y.length:=by rw [Jt,G6]
  have hfl:(frow (Bt (k.x++k.y) k.d)).length=k.x.length+k.y.length:=by rw [Jt,G6,List.length_append]
  have hd0:=hs.d0
  refine Z7 Tryz.func247 rfl ?_
  refine go tt [.c [] (Ub (n:=1) (by decide)),.s (sz:=4) (Lt _),.s (sz:=4) (Lt _)] rfl (by simp [Qa,hfx,hfy]; omega) ?_
  rw [Q4o]
  refine lp (S:=Nat) 3 (fun L1 i=>(15,.v (.one (.int .i64 (i:Int))))::L1) (fun i=>[.blk 110 [.nils,.nils,.nils,.nils,.bool false,.nils],.blk 47 (ri (lcd (k.x++k.y) k.d i)),.row false 49 4 (frow (Bt (k.x++k.y) k.d))]) (fun i=>k.x.length+k.y.length-i) (fun i=>i≤k.x.length+k.y.length) 0 (Nat.zero_le _) rfl (fun _ _=>rfl) rfl fun i hi=>?_
  have hll:(k.x++k.y).length=k.x.length+k.y.length:=List.length_append
  by_cases h:i<k.x.length+k.y.length
  · have hlt:i<(k.x++k.y).length:=by omega
    have hqe:=Qm7 (x:=(k.x++k.y)) (d:=k.d) (s:=100000) hxy hs.c.d (by decide)
    have hqi:=hqe.get (Dl hlt)
    obtain ⟨D,hD⟩:∃ D,D=((((k.x++k.y).getD i 0:Int):Rat) / (k.d:Rat)):=⟨_,rfl⟩
    have hg:=Fu (Dl (d:=k.d) hlt)
    have es:lcd (k.x++k.y) k.d (i+1)=lcd (k.x++k.y) k.d i*(D.den:Int) / ((Int.gcd (lcd (k.x++k.y) k.d i) (D.den:Int):Nat):Int):=by rw [hD]; rfl
    rw [←hD] at hqi hg
    have hq2:=hqi.2
    have hli:=Nat.le_trans (Q3k (z:=(k.x++k.y)) hs.d0 (i:=i) (by omega)) hs.c.d
    have hg0:((Int.gcd (lcd (k.x++k.y) k.d i) (D.den:Int):Nat):Int)≠0:=by have:=Int.gcd_ne_zero_right (a:=(lcd (k.x++k.y) k.d i)) (Wo D); omega
    have hmu:=Q0 (lcd (k.x++k.y) k.d i) (D.den:Int)
    refine go tt [.t (decide_eq_true (by omega)),.i i,.x hg,.c [] (Yn (a:=lcd (k.x++k.y) k.d i) (b:=(D.den:Int)) (by omega) (by omega)),.i i,.x hg,.c [] (Ot (a:=lcd (k.x++k.y) k.d i) (b:=(D.den:Int)) (by omega) (by omega)),.c [] (Lf (by omega) (Nat.le_trans (Qb5 _ _ (Wo D) hq2) (by decide)) hg0 (Q3j _ _))] rfl (by simp [Qa,hfl]; omega) ?_
    exact rd (i+1) (by omega) h (by rw [es]; rfl)
  have e:lcd (k.x++k.y) k.d i=k.d:=by rw [show i=(k.x++k.y).length by omega]; exact Q3i hs.d0 hs.n.2.2.2
  rw [e]
  have hx:=Qhy (p:=Bt k.x k.d) (c:=k.d) ((Qm7 (s:=100000) hs.c.x hs.c.d (by decide)).mono (by omega)) (by omega) (by rw [G6]; omega)
  have hy:=Qhy (p:=Bt k.y k.d) (c:=k.d) ((Qm7 (s:=100000) hs.c.y hs.c.d (by decide)).mono (by omega)) (by omega) (by rw [G6]; omega)
  rw [Qbo hs.n.1 (by omega)] at hx
  rw [Qbo hs.n.2.1 (by omega)] at hy
  exact en tt [.f (decide_eq_false (by omega)),.c [] hx,.c [] (Q5w (p:=k.x) (Qc hs.c.x (by omega)) (by omega)),.c [] hy,.c [] (Q5w (p:=k.y) (Qc hs.c.y (by omega)) (by omega)),.c [] (Qr7 (z:=k.d) (by omega))] rfl rfl trivial
theorem Qgh (k:Crv):Z1 1 k.d'=((1:Int):Rat) / (k.d':Rat):=by
  unfold Z1; rw [if_neg k.d'_ne,Te]
theorem Al {x:List Int} {g d:Int} (hg:g≠0) (hd:d≠0) (hgd:g∣d) (tx:Qi x) (hx:∀ z∈x,g∣z):Vo (zp x) (((1:Int):Rat) / (d:Rat))=Bt (trim (x.map (· / g))) (d / g):=by
  have ht:Qi (x.map (· / g)):=Gi tx hg hx
  rw [show trim (x.map (· / g))=x.map (· / g) from ht]
  obtain ⟨e,rfl⟩:=hgd
  have he:e≠0:=fun h=>hd (by rw [h,Int.mul_zero])
  rw [Int.mul_ediv_cancel_left _ hg]
  have hgq:(g:Rat)≠0:=fun h=>hg (by exact_mod_cast h)
  have heq:(e:Rat)≠0:=fun h=>he (by exact_mod_cast h)
  unfold Vo
  rw [J6]
  have hval:∀ i,i<x.length→(zp x).getD i 0*(((1:Int):Rat) / ((g*e:Int):Rat))=(((x.map (· / g)).getD i 0:Int):Rat) / (e:Rat):=fun i hi=>by
    rw [D5]
    have hz:=getD_some hi
    have hm:(x.map (· / g)).getD i 0=x.getD i 0 / g:=by simp [List.getD_eq_getElem?_getD,List.getElem?_eq_getElem hi]
    obtain ⟨w,hw⟩:=hx _ (List.mem_of_getElem? hz)
    rw [hm,hw,Int.mul_ediv_cancel_left _ hg,Rat.intCast_mul,Rat.intCast_mul]
    have:((1:Int):Rat)=1:=rfl
    rw [this]
    grind
  have htab:Sf (fun i=>(zp x).getD i 0*(((1:Int):Rat) / ((g*e:Int):Rat))) x.length=Bt (x.map (· / g)) e:=by
    apply List.ext_getElem?
    intro i
    by_cases hi:i<x.length
    · rw [Dl (by simpa using hi)]
      simp only [Sf,List.getElem?_map,List.getElem?_range hi,Option.map_some]
      rw [hval i hi]
    · rw [List.getElem?_eq_none (by rw [Ds]; omega),List.getElem?_eq_none (by rw [G6]; simp; omega)]
  rw [htab]
  rcases Nat.eq_zero_or_pos x.length with h0 | h0
  · have:=List.eq_nil_of_length_eq_zero h0; subst this; rfl
  · have hl:(Bt (x.map (· / g)) e).length=x.length:=by rw [G6,List.length_map]
    have:=Er (l:=Bt (x.map (· / g)) e) (m:=x.length) (by omega) (fun j y hj hy=>by rw [List.getElem?_eq_none (by omega)] at hy; cases hy) (fun _=>⟨_,Dl (z:=x.map (· / g)) (d:=e) (i:=x.length-1) (by rw [List.length_map]; omega),fun h=>by
      have h3:(((x.map (· / g)).getD (x.length-1) 0:Int):Rat)=0:=by grind
      have h4:(x.map (· / g)).getD (x.length-1) 0=0:=by exact_mod_cast h3
      have:=Xj ht (by rw [List.length_map]; omega)
      rw [List.length_map] at this
      exact this h4⟩)
    rw [this,List.take_of_length_le (by omega)]
theorem Qzh {k:Crv} (hk:Cs 100000 16 k):Qs 40000000 (Z1 1 k.d'):=by
  have h1:=Qfo hk.d (by decide)
  rw [Qgh,Te]
  exact Qs.divInt (by decide) (by omega) (by decide)
theorem Crv.g_dvd' (k:Crv) {z:Int} (h:z∈k.d'::(trim k.x++trim k.y)):k.g∣z:=Int.dvd_of_emod_eq_zero (k.g_dvd z h)
theorem Qzs (k:Crv):Vo (zp (trim k.x)) (Z1 1 k.d')=Bt k.norm.x k.norm.d:=by
  rw [Qgh]
  exact Al k.g_ne k.d'_ne (k.g_dvd' (by simp)) (Xw _) (fun z hz=>k.g_dvd' (by simp [hz]))
theorem Qzt (k:Crv):Vo (zp (trim k.y)) (Z1 1 k.d')=Bt k.norm.y k.norm.d:=by
  rw [Qgh]
  exact Al k.g_ne k.d'_ne (k.g_dvd' (by simp)) (Xw _) (fun z hz=>k.g_dvd' (by simp [hz]))
theorem Qq7 {k:Crv} (h:Cs 100000 16 k):Rs k.norm:=⟨k.nml,h.norm (by decide)⟩
theorem Q2i {k:Crv} (hk:Cs 100000 16 k):Qd Tryz.prog 205 [.agg (cl4 k)] [.agg (rcl (Crv.norm k))]:=by
  have hlx:=hk.lx
  have hly:=hk.ly
  have hkd:=hk.d
  have hrq:=Qzh hk
  have hdi:Ql k.d'≤100000:=Qfo hk.d (by decide)
  have hx:=Hq (p:=zp (trim k.x)) (c:=Z1 1 k.d') (Sa (Qc (Jp hk.x) (by omega)) (by omega)) hrq (by rw [J6]; have:=Xm k.x; omega)
  have hy:=Hq (p:=zp (trim k.y)) (c:=Z1 1 k.d') (Sa (Qc (Jp hk.y) (by omega)) (by omega)) hrq (by rw [J6]; have:=Xm k.y; omega)
  rw [Qzs] at hx
  rw [Qzt] at hy
  have c1:=Ub (n:=1) (by decide)
  have cm:=B5 (a:=1) (b:=k.d') (by decide) (by omega)
  by_cases h0:k.d=0
  · have e:k.d'=1:=by unfold Crv.d'; rw [if_pos h0]
    rw [e] at hx hy cm
    exact w tt Tryz.func205 rfl [.c [] (Oi (z:=k.d) (by omega)),.c [] Vy,.t (decide_eq_true h0),.c [] c1,.c [] c1,.c [] cm,.c [] (Me (p:=k.x) (Qc hk.x (by omega)) (by omega)),.c [] hx,.c [] (Me (p:=k.y) (Qc hk.y (by omega)) (by omega)),.c [] hy,.c [] (Qco (Qq7 hk))] rfl rfl trivial
  · have e:k.d'=k.d:=by unfold Crv.d'; rw [if_neg h0]
    rw [e] at hx hy cm
    exact w tt Tryz.func205 rfl [.c [] (Oi (z:=k.d) (by omega)),.c [] Vy,.f (decide_eq_false h0),.c [] c1,.c [] cm,.c [] (Me (p:=k.x) (Qc hk.x (by omega)) (by omega)),.c [] hx,.c [] (Me (p:=k.y) (Qc hk.y (by omega)) (by omega)),.c [] hy,.c [] (Qco (Qq7 hk))] rfl rfl trivial
theorem Qvy {k:Crv} {id:Int} (hk:Cs 100000 16 k):Qd Tryz.prog 146 [.agg (cl4 k++[.int .i64 id])] [.agg (Ff ⟨Crv.norm k,id⟩)] :=
  w tt Tryz.func146 rfl [.c [] (Q2i hk)] rfl rfl trivial
theorem Sv {k:Crv} (hk:Rs k):Qd Tryz.prog 328 [.agg (rcl k)] [.one (rp (zp k.x)),.one (rp (zp k.y)),.one (rp (zp [k.d]))]:=by
  have hlx:=hk.c.lx
  have hly:=hk.c.ly
  have hkd:=hk.c.d
  have hx:=Me (p:=k.x) (Qc hk.c.x (by omega)) (by omega)
  have hy:=Me (p:=k.y) (Qc hk.c.y (by omega)) (by omega)
  rw [show trim k.x=k.x from hk.n.1] at hx
  rw [show trim k.y=k.y from hk.n.2.1] at hy
  exact w tt Tryz.func328 rfl [.c [] (Oi (z:=k.d) (by omega)),.c [] (Ub (n:=1) (by decide)),.c [] (Vp (n:=k.d)),.c [] hx,.c [] hy] rfl rfl trivial
theorem Qms {p:List Int} {d:Int} (tp:Qi p) (hd:d≠0):Zi p [d]=Qx p d:=by
  refine S4 (Z6 _ _) (Q9 _ _) fun m=>?_
  unfold Qx
  rw [Yj]
  unfold Zi
  by_cases h0:p.length=0
  · rw [if_pos (.inl h0),if_neg (by omega)]; rfl
  · rw [if_neg (by simp; exact fun h=>h0 (by rw [h]; rfl)),Fi]
    show (Ku p [d] (List.replicate (p.length+1-1) 0) p.length).getD m 0=_
    have key:∀ i,i≤p.length→(Ku p [d] (List.replicate (p.length+1-1) 0) i).getD m 0=if m<i then p.getD m 0*d else 0:=by
      intro i
      induction i with
      | zero=>intro _; simp only [Ku]; rw [J1,if_neg (by omega)]
      |
       succ i ih =>
       intro hi
       simp only [Ku]
       rw [Eg _ _ _ _ _ _ (by rw [Kv,List.length_replicate]; show i+1≤_; omega),ih (by omega)]
       show (if i≤m∧m<i+1 then (if m<i then p.getD m 0*d else 0)+p.getD i 0*[d].getD (m-i) 0 else _)=_
       by_cases e:m=i
       · subst e
         rw [if_pos ⟨Nat.le_refl _,by omega⟩,if_neg (by omega),if_pos (by omega),Nat.sub_self]
         show 0+p.getD m 0*d=_
         omega
       · rw [if_neg (by omega)]
         by_cases h1:m<i
         · rw [if_pos h1,if_pos (by omega)]
         · rw [if_neg h1,if_neg (by omega)]
    rw [key _ (Nat.le_refl _)]
theorem Q93 {s:Nat} {d:Int} (h:Ql d≤s):Bd s [d]:=fun z hz=>by simp at hz; subst hz; exact h
theorem Nn {p:List Int} {d:Int} (tp:Qi p) (hd:d≠0) (hp:Bd 9000000 p) (hs:Ql d≤9000000) (hl:p.length≤1000):Qd Tryz.prog 283 [.one (rp (zp p)),.one (rp (zp [d]))] [.one (rp (zp (Qx p d)))]:=by
  have h:=Qe1 (p:=p) (q:=[d]) (by omega) (by show 1≤1000000; decide) hp (Q93 hs) (by decide)
  rwa [Qms tp hd] at h
theorem Rs.dn {k:Crv} (h:Rs k):k.d≠0:=by have:=h.d0; omega
theorem Qe0 {p q:List Int} (hp:Bd 19000000 p) (hq:Bd 19000000 q) (hlp:p.length≤1000000) (hlq:q.length≤1000000):Qd Tryz.prog 208 [.one (rp (zp p)),.one (rp (zp q))] [.one (rp (zp (Vn p q)))]:=by
  have h:=Q7k (Sa hp (by decide)) (Sa hq (by decide)) (by rw [J6]; exact hlp) (by rw [J6]; exact hlq)
  rwa [Qq9] at h
theorem Qv2 {a b:Crv} (ha:Rs a) (hb:Rs b):Qd Tryz.prog 323 [.agg (rcl a),.agg (rcl b)] [.one (rp (zp (Xl a b)))] :=
  w tt Tryz.func323 rfl [.c [] (Sv ha),.c [] (Sv hb),.c [] (Nn (p:=b.x) (d:=a.d) hb.n.1 ha.dn (Qc hb.c.x (by decide)) (Nat.le_trans ha.c.d (by decide)) (by have:=hb.c.lx; omega)),.c [] (Nn (p:=a.x) (d:=b.d) ha.n.1 hb.dn (Qc ha.c.x (by decide)) (Nat.le_trans hb.c.d (by decide)) (by have:=ha.c.lx; omega)),.c [] (Qe0 (p:=Qx b.x a.d) (q:=Qx a.x b.d) (Qc (Qz hb.c.x ha.c.d) (by decide)) (Qc (Qz ha.c.x hb.c.d) (by decide)) (by have:=Qu b.x a.d; have:=hb.c.lx; omega) (by have:=Qu a.x b.d; have:=ha.c.lx; omega))] rfl rfl trivial
theorem Qvx {a b:Crv} (ha:Rs a) (hb:Rs b):Qd Tryz.prog 324 [.agg (rcl a),.agg (rcl b)] [.one (rp (zp (Xk a b)))] :=
  w tt Tryz.func324 rfl [.c [] (Sv ha),.c [] (Sv hb),.c [] (Nn (p:=b.y) (d:=a.d) hb.n.2.1 ha.dn (Qc hb.c.y (by decide)) (Nat.le_trans ha.c.d (by decide)) (by have:=hb.c.ly; omega)),.c [] (Nn (p:=a.y) (d:=b.d) ha.n.2.1 hb.dn (Qc ha.c.y (by decide)) (Nat.le_trans hb.c.d (by decide)) (by have:=ha.c.ly; omega)),.c [] (Qe0 (p:=Qx b.y a.d) (q:=Qx a.y b.d) (Qc (Qz hb.c.y ha.c.d) (by decide)) (Qc (Qz ha.c.y hb.c.d) (by decide)) (by have:=Qu b.y a.d; have:=hb.c.ly; omega) (by have:=Qu a.y b.d; have:=ha.c.ly; omega))] rfl rfl trivial
theorem Qd2 {a b:Crv} (ha:Rs a) (hb:Rs b):Bd 200001 (Xl a b)∧(Xl a b).length≤16:=by
  refine ⟨Qc (Wx (Qz hb.c.x ha.c.d) (Qz ha.c.x hb.c.d)) (by omega),Nat.le_trans (Vs _ _) ?_⟩
  have:=Qu b.x a.d; have:=Qu a.x b.d; have:=ha.c.lx; have:=hb.c.lx; omega
theorem Qdv {a b:Crv} (ha:Rs a) (hb:Rs b):Bd 200001 (Xk a b)∧(Xk a b).length≤16:=by
  refine ⟨Qc (Wx (Qz hb.c.y ha.c.d) (Qz ha.c.y hb.c.d)) (by omega),Nat.le_trans (Vs _ _) ?_⟩
  have:=Qu b.y a.d; have:=Qu a.y b.d; have:=ha.c.ly; have:=hb.c.ly; omega
theorem Qn8 {s:Nat} {p:List Int} (h:Bd s p) (hl:p.length≤16):Bd (2*s+5) (Zi p p):=Qc (Gk (u:=5) h h (by omega)) (by omega)
theorem Qft {p:List Int} (hl:p.length≤16):(Zi p p).length≤31:=Nat.le_trans (Ug p p) (by omega)
end Orr

namespace Orr
open Go
structure RawInt where
  b:Bool
  l:List Nat
structure RawPt where
  x:List RawInt
  y:List RawInt
  d:RawInt
  id:Int
abbrev Ep (z:RawInt):List LV:=[.bool z.b,Q9i z.l]
structure RawInt.Ok (z:RawInt):Prop where
  u:∀ u∈z.l,u<4294967296
structure RawPt.Ok (z:RawPt):Prop where
  x:∀ a∈z.x,a.Ok
  y:∀ a∈z.y,a.Ok
  d:z.d.Ok
  id:-9223372036854775808≤z.id∧z.id≤9223372036854775807
def RawInt.cut (z:RawInt):RawInt:=⟨z.b,z.l.take 1⟩
def Jf (most:Int) (z:RawInt):Int:=match z.l with
  | []=>0
  | u::_=>if z.b=true then -((u:Int) % (most+1)) else (u:Int) % (most+1)
theorem Nv {most:Int} (h:0≤most) (z:RawInt):-most≤Jf most z∧Jf most z≤most:=by
  unfold Jf
  split
  · omega
  · rename_i u _ _
    have h1:=Int.emod_nonneg (u:Int) (b:=most+1) (by omega)
    have h2:=Int.emod_lt_of_pos (u:Int) (b:=most+1) (by omega)
    split <;> omega
def Xa (most:Int) (l:List RawInt):List Int:=(l.take 3).map (Jf most)
def Cu (most:Int) (x y:List RawInt) (d:RawInt):Crv:=⟨Xa most x,Xa most y,Jf 3 d⟩
def Ml (most:Int) (z:RawPt):Pt:=⟨Cu most z.x z.y z.d,z.id % 1000⟩
theorem Ad (most:Int) (l:List RawInt):(Xa most l).length≤3:=by unfold Xa; rw [List.length_map,List.length_take]; omega
theorem Qfw {most:Int} {l:List RawInt} {i:Nat} {z:RawInt} (hi:i<3) (h:l[i]? = some z):Xa most (l.take (i+1))=Xa most (l.take i)++[Jf most z]:=by
  unfold Xa
  rw [List.take_take,List.take_take,Nat.min_eq_right (by omega),Nat.min_eq_right (by omega),List.take_succ,h]
  simp
theorem Ac (most:Int) {l:List RawInt} {i:Nat} (h:l.length≤i∨3≤i):Xa most (l.take i)=Xa most l:=by
  unfold Xa
  rw [List.take_take]
  rcases Nat.le_total 3 i with h3 | h3
  · rw [Nat.min_eq_left h3]
  · rcases h with h | h
    · rw [Nat.min_eq_right h3,List.take_of_length_le (l:=l) (i:=i) (by omega),List.take_of_length_le (l:=l) (i:=3) (by omega)]
    · rw [Nat.min_eq_right h3,show i=3 by omega]
theorem Ae {most:Int} {l:List RawInt} {z:Int} (hm:0≤most) (h:z∈Xa most l):-most≤z∧z≤most:=by
  obtain ⟨a,_,rfl⟩:=List.mem_map.1 h
  exact Nv hm a
theorem Qcr {most:Int} (hm:0≤most∧most≤999) (x y:List RawInt) (d:RawInt):Cs 10 3 (Cu most x y d):=by
  have key:∀ z:Int,-999≤z∧z≤999→Ql z≤10:=fun z h=>J3.2 (by omega)
  refine ⟨fun z hz=>?_,fun z hz=>?_,?_,Ad _ _,Ad _ _⟩
  · have:=Ae hm.1 hz; exact key _ (by omega)
  · have:=Ae hm.1 hz; exact key _ (by omega)
  · have:=Nv (most:=3) (by decide) d
    show Ql (Jf 3 d)≤10
    exact key _ (by omega)
def Yt (n:Nat):List Pt→List Pt→List Pt
  | out,[]=>out
  | out,p::l=>if out.length<n then (if out.any (fun x=>decide (x.id=p.id))=true then Yt n out l else Yt n (out++[p]) l) else out
theorem Tk {n:Nat}:∀ (l out:List Pt) (p:Pt),(Yt n out l).length<n→(Yt n out l).any (fun x=>decide (x.id=p.id))=true→Yt n out (l++[p])=Yt n out l
  |
   [],out,p,h,ha=>by
   simp only [Yt] at h ha
   show Yt n out [p]=out
   simp only [Yt]
   rw [if_pos h,if_pos ha]
  |
   x::l,out,p,h,ha=>by
   show Yt n out (x::(l++[p]))=Yt n out (x::l)
   simp only [Yt] at h ha ⊢
   split
   · rename_i h0
     rw [if_pos h0] at h ha
     split
     · rename_i h1
       rw [if_pos h1] at h ha
       exact Tk l out p h ha
     · rename_i h1
       rw [if_neg h1] at h ha
       exact Tk l _ p h ha
   · rfl
theorem Hd {n:Nat}:∀ (l out:List Pt) (p:Pt),(Yt n out l).length<n→(Yt n out l).any (fun x=>decide (x.id=p.id))=false→Yt n out (l++[p])=Yt n out l++[p]
  |
   [],out,p,h,ha=>by
   simp only [Yt] at h ha
   show Yt n out [p]=out++[p]
   simp only [Yt]
   rw [if_pos h,if_neg (by rw [ha]; simp)]
  |
   x::l,out,p,h,ha=>by
   show Yt n out (x::(l++[p]))=Yt n out (x::l)++[p]
   simp only [Yt] at h ha ⊢
   split
   · rename_i h0
     rw [if_pos h0] at h ha
     split
     · rename_i h1
       rw [if_pos h1] at h ha
       exact Hd l out p h ha
     · rename_i h1
       rw [if_neg h1] at h ha
       exact Hd l _ p h ha
   · rename_i h0
     rw [if_neg h0] at h
     omega
theorem Lv {n:Nat}:∀ (l m out:List Pt),n≤(Yt n out l).length→Yt n out (l++m)=Yt n out l
  |
   [],m,out,h=>by
   simp only [Yt] at h
   show Yt n out m=out
   match m with
   | []=>rfl
   | p::m=>simp only [Yt]; rw [if_neg (by omega)]
  |
   x::l,m,out,h=>by
   show Yt n out (x::(l++m))=Yt n out (x::l)
   simp only [Yt] at h ⊢
   split
   · rename_i h0
     rw [if_pos h0] at h
     split
     · rename_i h1
       rw [if_pos h1] at h
       exact Lv l m out h
     · rename_i h1
       rw [if_neg h1] at h
       exact Lv l m _ h
   · rfl
theorem S7 {n:Nat}:∀ (l out:List Pt),out.length≤n→(Yt n out l).length≤n
  | [],out,h=>h
  |
   x::l,out,h=>by
   simp only [Yt]
   split
   · split
     · exact S7 l out h
     · exact S7 l _ (by rw [List.length_append]; show _+1≤_; omega)
   · exact h
theorem Ci {n:Nat}:∀ (l out:List Pt) {p:Pt},p∈Yt n out l→p∈out∨p∈l
  | [],out,p,h=>.inl h
  |
   x::l,out,p,h=>by
   simp only [Yt] at h
   split at h
   · split at h
     · rcases Ci l out h with h | h
       · exact .inl h
       · exact .inr (List.mem_cons_of_mem _ h)
     · rcases Ci l _ h with h | h
       · rcases List.mem_append.1 h with h | h
         · exact .inl h
         · exact .inr (by rw [List.mem_singleton.1 h]; exact List.mem_cons_self ..)
       · exact .inr (List.mem_cons_of_mem _ h)
   · exact .inl h
def Em (n:Nat) (most:Int) (zs:List RawPt):List Pt:=Yt n [] (zs.map (Ml most))
def Pt.nrm (p:Pt):Pt:=⟨p.c.norm,p.id⟩
end Orr

namespace Orr
def Jo (l:List Pt):Prop:=l.Pairwise fun a b=>a.id<b.id
theorem Q29 (id:Int):has [] id=false:=rfl
theorem Qir (p:Pt) (l:List Pt) (id:Int):has (p::l) id=if p.id<id then has l id else decide (p.id=id):=by
  by_cases h:p.id<id
  · rw [if_pos h]; unfold has; simp only [U6]; rw [if_pos h]; simp
  · rw [if_neg h]; unfold has; simp only [U6]; rw [if_neg h]; simp
theorem Qy9 (p:Pt) (l:List Pt) (q:Pt):put (p::l) q=if p.id<q.id then p::put l q else q::p::l:=by
  unfold put
  simp only [U6]
  split <;> simp
theorem Qfm:∀ {l:List Pt} {id:Int},Jo l→(has l id=true↔∃ p∈l,p.id=id)
  | [],id,_=>by simp [Q29]
  |
   p::l,id,h=>by
   have h1:=List.pairwise_cons.1 h
   rw [Qir]
   split
   · rename_i hlt
     rw [Qfm h1.2]
     constructor
     · rintro ⟨x,hx,e⟩; exact ⟨x,List.mem_cons_of_mem _ hx,e⟩
     · rintro ⟨x,hx,e⟩
       rcases List.mem_cons.1 hx with rfl | hx
       · omega
       · exact ⟨x,hx,e⟩
   · rename_i hge
     rw [decide_eq_true_iff]
     constructor
     · intro e; exact ⟨p,List.mem_cons_self ..,e⟩
     · rintro ⟨x,hx,e⟩
       rcases List.mem_cons.1 hx with rfl | hx
       · exact e
       · have:=h1.1 x hx; omega
theorem Qbl:∀ {l:List Pt} {q:Pt},Jo l→has l q.id=false→Jo (put l q)
  | [],q,_,_=>by simp [put,U6,Jo]
  |
   p::l,q,h,hn=>by
   have h1:=List.pairwise_cons.1 h
   rw [Qir] at hn
   rw [Qy9]
   split
   · rename_i hlt
     rw [if_pos hlt] at hn
     refine List.pairwise_cons.2 ⟨fun x hx=>?_,Qbl h1.2 hn⟩
     rcases Qqy hx with rfl | hx
     · exact hlt
     · exact h1.1 x hx
   · rename_i hge
     rw [if_neg hge,decide_eq_false_iff_not] at hn
     refine List.pairwise_cons.2 ⟨fun x hx=>?_,h⟩
     rcases List.mem_cons.1 hx with rfl | hx
     · omega
     · have:=h1.1 x hx; omega
theorem Qp6 {l:List Pt} {q p:Pt} (h:p=q∨p∈l):p∈put l q:=by
  unfold put
  rcases h with rfl | h
  · simp
  · rw [←List.take_append_drop (U6 l q.id) l] at h
    simp only [List.mem_append,List.mem_cons] at h ⊢
    rcases h with h | h
    · exact .inl h
    · exact .inr (.inr h)
theorem Qy7 {l:List Pt} {q:Pt} (h:l.length<6):Gd l q=if has l q.id=true then 6 else 0:=by
  unfold Gd
  split
  · rfl
  · rw [if_neg (by omega)]
theorem Qdr:∀ (qs acc:List Pt),Jo acc→acc.length+qs.length≤6 →
    ((J4 acc qs).2=0∧Jo (J4 acc qs).1∧(J4 acc qs).1.length=acc.length+qs.length∧qs.Pairwise (fun a b=>a.id≠b.id)∧∀ q∈qs,∀ p∈acc,p.id≠q.id) ∨
    ((J4 acc qs).2=6∧¬(qs.Pairwise (fun a b=>a.id≠b.id)∧∀ q∈qs,∀ p∈acc,p.id≠q.id))
  | [],acc,hs,_=>.inl ⟨rfl,hs,rfl,List.Pairwise.nil,fun _ h=>absurd h (by simp)⟩
  |
   q::qs,acc,hs,hl=>by
   simp only [List.length_cons] at hl
   have he:=Qy7 (l:=acc) (q:=q) (by omega)
   simp only [J4]
   cases hh:has acc q.id with
   |
    true =>
    rw [hh,if_pos rfl] at he
    rw [he,if_neg (by decide)]
    obtain ⟨p,hp,e⟩:=(Qfm hs).1 hh
    exact .inr ⟨rfl,fun h=>h.2 q (List.mem_cons_self ..) p hp e⟩
   |
    false =>
    rw [hh,if_neg (by decide)] at he
    rw [he,if_pos rfl]
    have hno:∀ p∈acc,p.id≠q.id:=fun p hp e=>by
      have:=(Qfm hs).2 ⟨p,hp,e⟩
      rw [hh] at this; cases this
    have hpl:=Qqx acc q
    rcases Qdr qs (put acc q) (Qbl hs hh) (by omega) with ⟨h1,h2,h3,h4,h5⟩ | ⟨h1,h2⟩
    · refine .inl ⟨h1,h2,by simp only [List.length_cons]; omega,List.pairwise_cons.2 ⟨fun x hx=>h5 x hx q (Qp6 (.inl rfl)),h4⟩,fun x hx p hp=>?_⟩
      rcases List.mem_cons.1 hx with rfl | hx
      · exact hno p hp
      · exact h5 x hx p (Qp6 (.inr hp))
    · refine .inr ⟨h1,fun h=>h2 ⟨(List.pairwise_cons.1 h.1).2,fun x hx p hp=>?_⟩⟩
      rcases Qqy hp with rfl | hp
      · exact (List.pairwise_cons.1 h.1).1 x hx
      · exact h.2 x (List.mem_cons_of_mem _ hx) p hp
theorem Qs8 {qs:List Pt} (hl:qs.length≤6) :
    ((J4 [] qs).2=0∧Jo (J4 [] qs).1∧(J4 [] qs).1.length=qs.length∧qs.Pairwise (fun a b=>a.id≠b.id))∨((J4 [] qs).2=6∧¬qs.Pairwise (fun a b=>a.id≠b.id)):=by
  rcases Qdr qs [] List.Pairwise.nil (by simpa using hl) with ⟨h1,h2,h3,h4,_⟩ | ⟨h1,h2⟩
  · exact .inl ⟨h1,h2,by simpa using h3,h4⟩
  · exact .inr ⟨h1,fun h=>h2 ⟨h,fun _ _ _ hp=>absurd hp (by simp)⟩⟩
end Orr

namespace Orq
open Orr Go
theorem Za1 {a b c:Tm} (hb:Cut (Q3 b)) (hc:Cut (Q3 c)) (h:Un a b) (h':Un b c):Un a c:=by
  obtain ⟨q,q1,q2⟩:=h
  obtain ⟨r,r1,r2⟩:=h'
  exact ⟨q,q1,hc.mono' (hb.lt q2 r1) (by omega)⟩
theorem Qmc {a b:Tm} (ha:Cut (Q3 a)) (hb:Cut (Q3 b)) (h:¬Un b a):Leq a (Q3 b):=fun q hq=>by
  rcases ha.val q with e | e | e
  · exact absurd ⟨q,hq,e⟩ h
  · obtain ⟨r,r1,r2⟩:=hb.dn q hq
    exact absurd ⟨r,r2,ha.mono' r1 (by omega)⟩ h
  · exact e
theorem Qpx {a b c:Tm} (_:Cut (Q3 a)) (hb:Cut (Q3 b)) (hc:Cut (Q3 c)) (h:Un a b) (h':¬Un c b):Un a c:=by
  obtain ⟨q,q1,q2⟩:=h
  refine ⟨q,q1,?_⟩
  have hl:=Qmc hb hc h'
  rcases hc.val q with e | e | e
  · exact e
  · obtain ⟨r,r1,r2⟩:=hb.up q q2
    have h1:=hc.mono q r r1 (by omega)
    have:=hl r h1
    omega
  · have:=hl q e; omega
theorem Q8h {a b:Tm} (ha:Cut (Q3 a)) (hb:Cut (Q3 b)) (h:Un a b):¬Un b a:=fun h'=>Pm ha hb h h'
theorem Qje {p:List Int} {a b:Tm} {o:Option Tm} (ha:Cut (Q3 a)) (hb:Cut (Q3 b)) (hab:¬Un b a) (h:Ut p a o) (ho:∀ t,o=some t→Un b t):Ut p b o:=by
  have hl:=Qmc ha hb hab
  cases o with
  |
   none =>
   rcases h with h | ⟨s,s0,h⟩
   · exact .inl h
   · exact .inr ⟨s,s0,fun c hc hbc=>h c hc fun q hq=>hl q (hbc q hq)⟩
  |
   some t =>
   obtain ⟨h1,h2,_,s,s0,h4,h5⟩:=h
   exact ⟨h1,h2,ho t rfl,s,s0,fun c hc hbc hm=>h4 c hc (fun q hq=>hl q (hbc q hq)) hm,h5⟩
theorem Qdf {p:List Int} {a b:Tm} {o:Option Tm} (hp:Dp p) (ha:Va a) (hb:Va b) (hab:¬Un b a) (h:Ut p a o) (ho:∀ t,o=some t→Un b t):Up (Jj b) p=Up (Jj a) p:=by
  by_cases h0:p.length=0
  · obtain rfl:=List.eq_nil_of_length_eq_zero h0; rfl
  obtain ⟨ra,_⟩:=Qfi ha hp h0
  obtain ⟨rb,_⟩:=Qfi hb hp h0
  have hl:=Qmc ha.cut hb.cut hab
  cases o with
  |
   none =>
   rcases h with h | ⟨s,s0,h⟩
   · exact absurd (by rw [h]; rfl) h0
   · exact (Qq8 rb (h _ hb.cut hl)).trans (Qq8 ra (h _ ha.cut fun _ h=>h)).symm
  |
   some t =>
   obtain ⟨h1,h2,h3,s,s0,h4,h5⟩:=h
   exact (Qq8 rb (h4 _ hb.cut hl (ho t rfl))).trans (Qq8 ra (h4 _ ha.cut (fun _ h=>h) h3)).symm
theorem Qkh (t q:Rat):Q3 (tq t) q=Z2 t q:=Gs (t:=tq t) rfl q
theorem O2 {a:Tm} {t:Rat} (ha:Cut (Q3 a)):0<Q3 a t↔Un (tq t) a:=by
  constructor
  · intro h
    have h1:Q3 a t=1:=by rcases ha.val t with e | e | e <;> omega
    obtain ⟨r,r1,r2⟩:=ha.up t h1
    exact ⟨r,by rw [Qkh]; rcases Ud t r with ⟨e,e'⟩ | ⟨e,e'⟩ | ⟨e,e'⟩ <;> first | exact e | (exfalso; grind),r2⟩
  · rintro ⟨q,q1,q2⟩
    rw [Qkh] at q1
    have:t<q:=by rcases Ud t q with ⟨e,e'⟩ | ⟨e,e'⟩ | ⟨e,e'⟩ <;> first | exact e' | omega
    have:=ha.mono' this (by omega)
    omega
open Classical in
noncomputable def mu (T:List Tm) (a:Tm):Nat:=(T.filter fun t=>decide (Un a t)).length
theorem Qc2 {α:Type} {p q:α→Bool} (h:∀ x,p x=true→q x=true):∀ l:List α,(l.filter p).length≤(l.filter q).length
  | []=>Nat.le_refl _
  |
   x::l=>by
   have ih:=Qc2 h l
   by_cases hp:p x=true
   · rw [List.filter_cons_of_pos hp,List.filter_cons_of_pos (h x hp)]; simp; exact ih
   · rw [List.filter_cons_of_neg hp]
     by_cases hq:q x=true
     · rw [List.filter_cons_of_pos hq]; simp; omega
     · rw [List.filter_cons_of_neg hq]; exact ih
theorem Qc3 {α:Type} {p q:α→Bool} (h:∀ x,p x=true→q x=true) {y:α} (hp:p y=false) (hq:q y=true):∀ {l:List α},y∈l→(l.filter p).length<(l.filter q).length
  | [],hy=>by cases hy
  |
   x::l,hy=>by
   rcases List.mem_cons.1 hy with rfl | hy
   · rw [List.filter_cons_of_neg (by simp [hp]),List.filter_cons_of_pos hq]
     have:=Qc2 h l
     simp; omega
   · have ih:=Qc3 h hp hq hy
     by_cases hp:p x=true
     · rw [List.filter_cons_of_pos hp,List.filter_cons_of_pos (h x hp)]; simp; exact ih
     · rw [List.filter_cons_of_neg hp]
       by_cases hq:q x=true
       · rw [List.filter_cons_of_pos hq]; simp; omega
       · rw [List.filter_cons_of_neg hq]; exact ih
open Classical in
theorem Q6f {T:List Tm} {a b:Tm} (ha:Cut (Q3 a)) (hb:Cut (Q3 b)) (hT:∀ t∈T,Cut (Q3 t)) (h:Un a b) (hm:b∈T):mu T b<mu T a:=by
  have key:∀ l:List Tm,(∀ t∈l,Cut (Q3 t))→l.filter (fun t=>decide (Un b t))=l.filter (fun t=>decide (Cut (Q3 t)∧Un b t)):=fun l hl=>List.filter_congr fun x hx=>by simp [hl x hx]
  have key2:∀ l:List Tm,(∀ t∈l,Cut (Q3 t))→l.filter (fun t=>decide (Un a t))=l.filter (fun t=>decide (Cut (Q3 t)∧Un a t)):=fun l hl=>List.filter_congr fun x hx=>by simp [hl x hx]
  unfold mu
  rw [key T hT,key2 T hT]
  refine Qc3 (fun x hx=>?_) (y:=b) ?_ ?_ hm
  · have hx:=of_decide_eq_true hx
    exact decide_eq_true ⟨hx.1,Za1 hb hx.1 h hx.2⟩
  · exact decide_eq_false fun hx=>Pm hb hb hx.2 hx.2
  · exact decide_eq_true ⟨hb,h⟩
def tms (p:List Int):List Tm:=(Bm p).getD []
structure KInv (c:Cr):Prop where
  ok:CrOk c
  k:∀ w∈c.l,w.known=true→Ut w.c.p c.now w.fails∧∀ t,w.fails=some t→t∈tms w.c.p
theorem Qmk {p:List Int} (h:Cp p) {a:Tm} (ha:Va a):∃ r,Ag p a=some r∧Ut p a r∧∀ t,r=some t→t∈tms p:=by
  obtain ⟨l,l1,_,_,l3⟩:=P9 h
  obtain ⟨r,r1,r2,r3⟩:=l3 a ha
  refine ⟨r,?_,r2,fun t ht=>by unfold tms; rw [l1]; exact r3 t ht⟩
  unfold Ag; rw [l1]; exact r1
theorem Q9h {p:List Int} (h:Cp p):∀ t∈tms p,Va t:=by
  obtain ⟨l,l1,_,l2,_⟩:=P9 h
  unfold tms; rw [l1]; exact l2
theorem Qp1 {now:Tm} (hn:Va now):∀ {l:List Wt},(∀ w∈l,WtOk w)→(∀ w∈l,w.known=true→Ut w.c.p now w.fails∧∀ t,w.fails=some t→t∈tms w.c.p) →
    ∃ ws,Pk now l=some ws∧ws.map (·.c)=l.map (·.c)∧∀ w∈ws,w.known=true∧Ut w.c.p now w.fails∧∀ t,w.fails=some t→t∈tms w.c.p
  | [],_,_=>⟨[],rfl,rfl,fun w hw=>by cases hw⟩
  |
   w::l,h,h'=>by
   obtain ⟨ws,w1,w2,w3⟩:=Qp1 hn (fun v hv=>h v (List.mem_cons_of_mem _ hv)) (fun v hv=>h' v (List.mem_cons_of_mem _ hv))
   by_cases hk:w.known=true
   · refine ⟨w::ws,by simp only [Pk,hk,if_true,w1]; rfl,by simp [w2],fun v hv=>?_⟩
     rcases List.mem_cons.1 hv with rfl | hv
     · exact ⟨hk,h' v (by simp) hk⟩
     · exact w3 v hv
   · obtain ⟨r,r1,r2,r3⟩:=Qmk (h w (by simp)).p hn
     refine ⟨⟨w.c,true,r⟩::ws,by simp only [Pk]; rw [if_neg hk,r1,w1]; rfl,by simp [w2],fun v hv=>?_⟩
     rcases List.mem_cons.1 hv with rfl | hv
     · exact ⟨rfl,r2,r3⟩
     · exact w3 v hv
theorem Qpt {at_:Tm} (ha:Va at_) {x:Ct}:∀ {l:List Wt},(∀ w∈l,WtOk w)→∃ w,Fw l x at_=some w∧w.c=x
  | [],_=>⟨fresh x,rfl,rfl⟩
  |
   v::l,h=>by
   obtain ⟨w,w1,w2⟩:=Qpt ha (x:=x) fun v hv=>h v (List.mem_cons_of_mem _ hv)
   simp only [Fw]
   split
   · cases hf:v.fails with
     | none=>exact ⟨_,rfl,rfl⟩
     |
      some t =>
      obtain ⟨c,c1,_⟩:=B8 ((h v (by simp)).f t hf) ha
      dsimp only
      rw [c1]
      show ∃ w,(if 0<c then some ⟨x,true,some t⟩ else Fw l x at_)=some w∧w.c=x
      split
      · exact ⟨_,rfl,rfl⟩
      · exact ⟨w,w1,w2⟩
   · exact ⟨w,w1,w2⟩
theorem Qa3 {at_:Tm} (ha:Va at_) {ol:List Wt} (ho:∀ w∈ol,WtOk w):∀ l:List Ct,∃ ws,Gy ol at_ l=some ws∧ws.map (·.c)=l
  | []=>⟨[],rfl,rfl⟩
  |
   x::l=>by
   obtain ⟨w,w1,w2⟩:=Qpt ha (x:=x) ho
   obtain ⟨ws,s1,s2⟩:=Qa3 ha ho l
   exact ⟨w::ws,by simp only [Gy,w1,s1]; rfl,by simp [w2,s2]⟩
theorem Qs0 {out:List Ct} {c x:Ct}:x∈Nt out c↔x=c∨x∈out:=by
  have h:x∈out↔x∈out.take (Pw out c out.length)∨x∈out.drop (Pw out c out.length):=by
    rw [←List.mem_append,List.take_append_drop]
  simp only [Nt,List.mem_append,List.mem_cons,h]
  constructor
  · rintro (h | h | h)
    · exact .inr (.inl h)
    · exact .inl h
    · exact .inr (.inr h)
  · rintro (h | h | h)
    · exact .inr (.inl h)
    · exact .inl h
    · exact .inr (.inr h)
theorem Qc7:∀ (l acc:List Ct) {y:Ct},y∈l.foldl Nt acc↔y∈l∨y∈acc
  | [],acc,y=>by simp
  |
   c::l,acc,y=>by
   simp only [List.foldl_cons]
   rw [Qc7 l,Qs0,List.mem_cons]
   constructor
   · rintro (h | h | h)
     · exact .inl (.inr h)
     · exact .inl (.inl h)
     · exact .inr h
   · rintro ((h | h) | h)
     · exact .inr (.inl h)
     · exact .inl h
     · exact .inr (.inr h)
theorem Qef {l:List Ct} {x:Ct}:x∈Zb l↔x∈l:=by unfold Zb; rw [Qc7]; simp
theorem Q8m {ws:List Wt} (hw:∀ w∈ws,WtOk w):∃ o,Qjd ws=some o∧match o with
    | none=>∀ w∈ws,w.fails=none
    | some a=>Va a∧(∃ w∈ws,w.fails=some a)∧∀ w∈ws,∀ t,w.fails=some t→¬Un t a:=by
  have hv:∀ t∈ws.filterMap (·.fails),Va t:=fun t ht=>by
    obtain ⟨w,w1,w2⟩:=List.mem_filterMap.1 ht
    exact (hw w w1).f t w2
  unfold Qjd
  cases hf:ws.filterMap (·.fails) with
  |
   nil =>
   refine ⟨none,rfl,fun w h=>?_⟩
   cases e:w.fails with
   | none=>rfl
   |
    some t =>
    have:t∈ws.filterMap (·.fails):=List.mem_filterMap.2 ⟨w,h,e⟩
    rw [hf] at this; cases this
  |
   cons b l =>
   rw [hf] at hv
   obtain ⟨m,m1,m2,m3⟩:=Ea l b hv
   refine ⟨some m,by show (Tn b l).map some=_; rw [m1]; rfl,hv m m2,?_,fun w h t e=>?_⟩
   · rw [←hf] at m2
     exact List.mem_filterMap.1 m2
   · exact m3 t (by rw [←hf]; exact List.mem_filterMap.2 ⟨w,h,e⟩)
theorem Q7m {t a:Tm} (ht:Va t) (ha:Va a) {c:Int} (h:Li t a=some c) (h0:0<c):Un a t:=by
  obtain ⟨c',c1,c2⟩:=B8 ht ha
  rw [h] at c1; injection c1 with c1; subst c1
  rcases c2 with ⟨e,_⟩ | ⟨e,_⟩ | ⟨_,e⟩
  · omega
  · omega
  · exact e
theorem Q3h {ol ws:List Wt} {now a:Tm} {l:List Ct} (hn:Va now) (ha:Va a) (hna:¬Un a now) (ho:∀ w∈ol,WtOk w) (hk:∀ w∈ol,w.known=true→Ut w.c.p now w.fails∧∀ t,w.fails=some t→t∈tms w.c.p) (h:Gy ol a l=some ws) :
    ∀ w∈ws,w.known=true→Ut w.c.p a w.fails∧∀ t,w.fails=some t→t∈tms w.c.p:=by
  obtain ⟨h1,h2⟩:=Co h
  intro w hw hkn
  obtain ⟨i,hi⟩:=List.getElem?_of_mem hw
  have hil:i<l.length:=by rw [←h1]; exact (List.getElem?_eq_some_iff.1 hi).1
  obtain ⟨v,h3,h4⟩:=h2 i _ (List.getElem?_eq_getElem hil)
  rw [hi] at h4; injection h4 with h4; subst h4
  rcases Qa2 h3 with e | ⟨v,v1,v2,v3,e,v5⟩
  · rw [e] at hkn; cases hkn
  · obtain ⟨k1,k2⟩:=hk v v1 v2
    rw [e]
    show Ut (l[i]).p a v.fails∧∀ t,v.fails=some t→t∈tms (l[i]).p
    rw [←v3]
    refine ⟨Qje hn.cut ha.cut hna k1 fun t ht=>?_,k2⟩
    obtain ⟨c,c1,c2⟩:=v5 t ht
    exact Q7m ((ho v v1).f t ht) ha c1 c2
structure Stab {β:Type} (Bc:Tm→List Ct) (Br:Tm→β):Prop where
  ok:BuildOk Bc
  fin:∃ Ps:List (List Int),(∀ p∈Ps,Cp p)∧∀ a,Va a→∀ x∈Bc a,x.p∈Ps
  st:∀ a b,Va a→Va b→(∀ x∈Bc a,Up (Jj b) x.p=Up (Jj a) x.p)→Bc b=Bc a∧Br b=Br a
structure KSt {β:Type} (Bc:Tm→List Ct) (Br:Tm→β) (c:Cr) (r1:β):Prop where
  inv:KInv c
  cs:c.l.map (·.c)=Zb (Bc c.now)
  r:r1=Br c.now
inductive Evs (Bc:Tm→List Ct) (t:Rat):Tm→List Tm→Prop
  | nil {a:Tm} (h:∀ x∈Bc a,∃ o,Ut x.p a o∧∀ u,o=some u→Un (tq t) u):Evs Bc t a []
  | cons {a e:Tm} {E:List Tm} (he:Va e) (h1:Un a e) (h2:¬Un (tq t) e) (h3:∀ x∈Bc a,∃ o,Ut x.p a o∧∀ u,o=some u→¬Un u e) (h4:∃ x∈Bc a,Ut x.p a (some e)) (h5:Evs Bc t e E):Evs Bc t a (e::E)
theorem Zas {β:Type} {Bc:Tm→List Ct} {Br:Tm→β} (S:Stab Bc Br) {t:Rat} (ht:Qs 900 t) {Ps:List (List Int)} (hP:∀ p∈Ps,Cp p) (hPs:∀ a,Va a→∀ x∈Bc a,x.p∈Ps) :
    ∀ (m:Nat) (c:Cr) (r1:β) (n:Int),mu (Ps.flatMap tms) c.now≤m→KSt Bc Br c r1→¬Un (tq t) c.now →
    ∃ c' r' E,goF Bc Br t (m+1) c r1 n=some (c',r',n+(E.length:Nat))∧c'.now=tq t∧KSt Bc Br c' r'∧c'.ev=c.ev+(E.length:Nat)∧E.length≤m∧Evs Bc t c.now E:=by
  have hT:∀ t∈Ps.flatMap tms,Cut (Q3 t):=fun u hu=>by
    obtain ⟨p,p1,p2⟩:=List.mem_flatMap.1 hu
    exact (Q9h (hP p p1) u p2).cut
  have hq:=Q5a ht
  intro m
  induction m with
  | zero=>?_
  | succ m ih=>?_
  all_goals
    intro c r1 n hm hS hnow
    obtain ⟨⟨ok,kk⟩,hcs,hr⟩:=hS
    obtain ⟨ws,w1,w2,w3⟩:=Qp1 ok.n ok.l kk
    have ok':=Io ok w1
    rw [hcs] at w2
    have hc_w:∀ x∈Bc c.now,∃ w∈ws,w.c=x:=fun x hx=>by
      have:x∈ws.map (·.c):=by rw [w2]; exact Qef.2 hx
      exact List.mem_map.1 this
    have hw_c:∀ w∈ws,w.c∈Bc c.now:=fun w hw=>Qef.1 (by rw [←w2]; exact List.mem_map_of_mem hw)
    obtain ⟨o,o1,o2⟩:=Q8m ok'.l
    -- the end
    have fin:(∀ w∈ws,∀ u,w.fails=some u→Un (tq t) u)→KSt Bc Br ⟨tq t,ws,c.ev⟩ r1∧Evs Bc t c.now []:=fun hall=>by
      have hg:∀ x∈Bc c.now,Up (Jj (tq t)) x.p=Up (Jj c.now) x.p:=fun x hx=>by
        obtain ⟨w,hw,rfl⟩:=hc_w x hx
        exact Qdf (S.ok.p _ ok.n _ hx).dp ok.n hq hnow (w3 w hw).2.1 (hall w hw)
      obtain ⟨s1,s2⟩:=S.st _ _ ok.n hq hg
      refine ⟨⟨⟨⟨hq,ok'.l,ok'.k⟩,fun w hw _=>⟨Qje ok.n.cut hq.cut hnow (w3 w hw).2.1 (hall w hw),(w3 w hw).2.2⟩⟩,?_,?_⟩,.nil fun x hx=>?_⟩
      · show ws.map (·.c)=Zb (Bc (tq t)); rw [w2,s1]
      · show r1=Br (tq t); rw [s2,hr]
      · obtain ⟨w,hw,rfl⟩:=hc_w x hx
        exact ⟨_,(w3 w hw).2.1,hall w hw⟩
  · cases o with
    |
     none =>
     obtain ⟨f1,f2⟩:=fin fun w hw u hu=>by rw [o2 w hw] at hu; cases hu
     exact ⟨_,_,[],by simp only [goF]; rw [w1]; simp only [Option.bind_some]; rw [o1]; simp,rfl,f1,by simp,by simp,f2⟩
    |
     some a =>
     obtain ⟨va,⟨w,hw,hwa⟩,hmin⟩:=o2
     by_cases h0:0<Q3 a t
     · obtain ⟨f1,f2⟩:=fin fun v hv u hu=>by
         have hu':=(ok'.l v hv).f u hu
         exact Qpx hq.cut va.cut hu'.cut ((O2 va.cut).1 h0) (hmin v hv u hu)
       exact ⟨_,_,[],by simp only [goF]; rw [w1]; simp only [Option.bind_some]; rw [o1]; simp [h0],rfl,f1,by simp,by simp,f2⟩
     · exfalso
       obtain ⟨k1,k2,k3⟩:=w3 w hw
       rw [hwa] at k2
       have:a∈Ps.flatMap tms:=List.mem_flatMap.2 ⟨_,hPs _ ok.n _ (hw_c w hw),k3 a hwa⟩
       have:=Q6f ok.n.cut va.cut hT k2.2.2.1 this
       omega
  · cases o with
    |
     none =>
     obtain ⟨f1,f2⟩:=fin fun w hw u hu=>by rw [o2 w hw] at hu; cases hu
     exact ⟨_,_,[],by simp only [goF]; rw [w1]; simp only [Option.bind_some]; rw [o1]; simp,rfl,f1,by simp,by simp,f2⟩
    |
     some a =>
     obtain ⟨va,⟨w,hw,hwa⟩,hmin⟩:=o2
     by_cases h0:0<Q3 a t
     · obtain ⟨f1,f2⟩:=fin fun v hv u hu=>by
         have hu':=(ok'.l v hv).f u hu
         exact Qpx hq.cut va.cut hu'.cut ((O2 va.cut).1 h0) (hmin v hv u hu)
       exact ⟨_,_,[],by simp only [goF]; rw [w1]; simp only [Option.bind_some]; rw [o1]; simp [h0],rfl,f1,by simp,by simp,f2⟩
     · obtain ⟨k1,k2,k3⟩:=w3 w hw
       rw [hwa] at k2
       have hna:=Q8h ok.n.cut va.cut k2.2.2.1
       have hmem:a∈Ps.flatMap tms:=List.mem_flatMap.2 ⟨_,hPs _ ok.n _ (hw_c w hw),k3 a hwa⟩
       have hlt:=Q6f ok.n.cut va.cut hT k2.2.2.1 hmem
       obtain ⟨w2',l1,l2⟩:=Qa3 va ok'.l (Zb (Bc a))
       have hl:=Q3h ok.n va hna ok'.l (fun v hv _=>(w3 v hv).2) l1
       have hS':KSt Bc Br ⟨a,w2',c.ev+1⟩ (Br a):=⟨⟨Orr.lay_ok _ ok' va (S.ok.p a va) (S.ok.n a va) l1,hl⟩,l2,rfl⟩
       obtain ⟨c',r',E,g1,g2,g3,g4,g5,g6⟩:=ih ⟨a,w2',c.ev+1⟩ (Br a) (n+1) (by show mu _ a≤m; omega) hS' (fun h=>h0 ((O2 va.cut).2 h))
       refine ⟨c',r',a::E,?_,g2,g3,by rw [g4]; simp; omega,by simp; omega,.cons va k2.2.2.1 (fun h=>h0 ((O2 va.cut).2 h)) (fun x hx=>?_) ⟨w.c,hw_c w hw,k2⟩ g6⟩
       · conv=>lhs; unfold goF
         rw [w1]; simp only [Option.bind_some]; rw [o1]; simp only [Option.bind_some]; rw [if_neg h0,l1]; simp only [Option.bind_some]
         rw [g1]; simp; omega
       · obtain ⟨v,hv,rfl⟩:=hc_w x hx
         exact ⟨_,(w3 v hv).2.1,hmin v hv⟩
end Orq

namespace Orq
open Orr Go
theorem Qio {a:Tm} (ha:Va a):∀ (L:List (List Int)),(∀ p∈L,Dp p)→∃ y,Q3 a y=-1∧∀ q,Q3 a q=-1→q≤y→∀ p∈L,Up (Jj a) p=Qp (Qh p q)
  |
   [],_=>by
   obtain ⟨y,hy⟩:=ha.cut.hi
   exact ⟨y,hy,fun q _ _ p hp=>by cases hp⟩
  |
   p::L,h=>by
   obtain ⟨y,y1,y2⟩:=Qio ha L (fun q hq=>h q (List.mem_cons_of_mem _ hq))
   by_cases h0:p.length=0
   · obtain rfl:=List.eq_nil_of_length_eq_zero h0
     refine ⟨y,y1,fun q q1 q2 r hr=>?_⟩
     rcases List.mem_cons.1 hr with rfl | hr
     · rw [Qxj]; exact (Zg.2 rfl).symm
     · exact y2 q q1 q2 r hr
   · obtain ⟨⟨z,z1,z2⟩,_⟩:=Qfi ha (h p (by simp)) h0
     refine ⟨if y≤z then y else z,by split <;> assumption,fun q q1 q2 r hr=>?_⟩
     rcases List.mem_cons.1 hr with rfl | hr
     · rw [←Qg]; exact (z2 q q1 (by grind)).symm
     · exact y2 q q1 (by grind) r hr
section Srt
variable {α:Type} {lt:α→α→Bool} {R:α→α→Prop}
theorem Qd0 {out:List α} {x:α}:∀ k,k≤out.length→(∀ j y,Kx lt out x k≤j→j<k→out[j]? = some y→lt x y=true)∧(0<Kx lt out x k→∃ y,out[Kx lt out x k-1]? = some y∧lt x y=false)
  | 0,_=>⟨fun j y _ h=>by omega,fun h=>by simp [Kx] at h⟩
  |
   k+1,hk=>by
   obtain ⟨y,hy⟩:∃ y,out[k]? = some y:=⟨_,List.getElem?_eq_getElem (by omega)⟩
   by_cases h:lt x y=true
   · rw [Qgb hy h]
     obtain ⟨h1,h2⟩:=Qd0 (out:=out) (x:=x) k (by omega)
     refine ⟨fun j z a1 a2 a3=>?_,h2⟩
     by_cases e:j=k
     · subst e; rw [hy] at a3; injection a3 with a3; subst a3; exact h
     · exact h1 j z a1 (by omega) a3
   · have h:lt x y=false:=by simpa using h
     rw [Qbg hy h]
     exact ⟨fun j z a1 a2 _=>by omega,fun _=>⟨y,by simpa using hy,h⟩⟩
theorem Q3d (tr:∀ x y z,R x y→R y z→R x z) {out:List α} {x:α} (ho:out.Pairwise R) (h1:∀ y∈out,lt x y=true→R x y) (h2:∀ y∈out,lt x y=false→R y x):(U0 lt out x).Pairwise R:=by
  obtain ⟨s1,s2⟩:=Qd0 (lt:=lt) (out:=out) (x:=x) out.length (Nat.le_refl _)
  have hle:=Qga lt out x out.length
  unfold U0
  obtain ⟨k,hk⟩:∃ k,k=Kx lt out x out.length:=⟨_,rfl⟩
  rw [←hk] at s1 s2 hle ⊢
  have hd:(out.take k++out.drop k).Pairwise R:=by rw [List.take_append_drop]; exact ho
  obtain ⟨d1,d2,d3⟩:=List.pairwise_append.1 hd
  have hR:∀ y∈out.drop k,R x y:=fun y hy=>by
    obtain ⟨i,hi⟩:=List.getElem?_of_mem hy
    rw [List.getElem?_drop] at hi
    have:k+i<out.length:=(List.getElem?_eq_some_iff.1 hi).1
    exact h1 y (List.mem_of_mem_drop hy) (s1 (k+i) y (by omega) this hi)
  have hL:∀ y∈out.take k,R y x:=fun y hy=>by
    obtain ⟨i,hi⟩:=List.getElem?_of_mem hy
    have hik:i<k:=by have:=(List.getElem?_eq_some_iff.1 hi).1; simp at this; omega
    rw [List.getElem?_take_of_lt hik] at hi
    obtain ⟨z,z1,z2⟩:=s2 (by omega)
    have hz:=h2 z (List.mem_of_getElem? z1) z2
    by_cases e:i=k-1
    · subst e; rw [hi] at z1; injection z1 with z1; subst z1; exact hz
    · have hp:=List.pairwise_iff_getElem.1 ho i (k-1) (by omega) (by omega) (by omega)
      obtain ⟨_,e1⟩:=List.getElem?_eq_some_iff.1 hi
      obtain ⟨_,e2⟩:=List.getElem?_eq_some_iff.1 z1
      rw [e1,e2] at hp
      exact tr _ _ _ hp hz
  refine List.pairwise_append.2 ⟨d1,List.pairwise_cons.2 ⟨hR,d2⟩,fun y hy z hz=>?_⟩
  rcases List.mem_cons.1 hz with rfl | hz
  · exact hL y hy
  · exact d3 y hy z hz
theorem foldG_pw (tr:∀ x y z,R x y→R y z→R x z) {S:α→Prop} (h1:∀ x y,S x→S y→lt x y=true→R x y) {D:α→α→Prop} (h2:∀ x y,S x→S y→D y x→lt x y=false→R y x) :
    ∀ (l acc:List α),acc.Pairwise R→(∀ x∈acc,S x)→(∀ x∈l,S x)→l.Pairwise D→(∀ x∈acc,∀ y∈l,D x y)→(l.foldl (U0 lt) acc).Pairwise R
  | [],acc,ha,_,_,_,_=>ha
  |
   x::l,acc,ha,hs,hl,hd,hx=>by
   rw [List.pairwise_cons] at hd
   refine foldG_pw tr h1 h2 l (U0 lt acc x) ?_ ?_ (fun y hy=>hl y (List.mem_cons_of_mem _ hy)) hd.2 ?_
   · exact Q3d tr ha (fun y hy=>h1 x y (hl x (by simp)) (hs y hy)) (fun y hy=>h2 x y (hl x (by simp)) (hs y hy) (hx y hy x (by simp)))
   · intro y hy
     rcases Qav.1 hy with rfl | hy
     · exact hl _ (by simp)
     · exact hs y hy
   · intro y hy z hz
     rcases Qav.1 hy with rfl | hy
     · exact hd.1 z hz
     · exact hx y hy z (List.mem_cons_of_mem _ hz)
theorem Q6h:∀ {l:List α},l.Pairwise R→∀ {u v:α},u∈l→v∈l→u≠v→R u v∨R v u
  | [],_,_,_,h,_,_=>by cases h
  |
   x::l,hp,u,v,hu,hv,hne=>by
   rw [List.pairwise_cons] at hp
   rcases List.mem_cons.1 hu with e | hu
   · rcases List.mem_cons.1 hv with e' | hv
     · exact absurd (e.trans e'.symm) hne
     · rw [e]; exact .inl (hp.1 v hv)
   · rcases List.mem_cons.1 hv with e' | hv
     · rw [e']; exact .inr (hp.1 u hu)
     · exact Q6h hp.2 hu hv hne
end Srt
def px (p:Pt) (q:Rat):Rat:=Qh p.c.x q / (p.c.d:Rat)
def py (p:Pt) (q:Rat):Rat:=Qh p.c.y q / (p.c.d:Rat)
end Orq

namespace Orr
open Go
section
variable {α:Type} {lt:α→α→Bool}
theorem Qs1 (out:List α) (c:α):(U0 lt out c).Perm (c::out):=by
  unfold U0
  exact (List.perm_middle).trans (by rw [List.take_append_drop])
theorem Qal:∀ (l acc:List α),(l.foldl (U0 lt) acc).Perm (l++acc)
  | [],acc=>List.Perm.refl _
  |
   c::l,acc=>by
   simp only [List.foldl_cons]
   exact (Qal l _).trans (((Qs1 acc c).append_left l).trans List.perm_middle)
theorem Qnl (l:List α):(Z5 lt l).Perm l:=by
  have:=Qal (lt:=lt) l []
  rwa [List.append_nil] at this
end
def Yu (a b:Pt):Bool:=decide (a.id<b.id)
def Pt.m5 (p:Pt):Pt:=⟨p.c,p.id % 5⟩
def Mm (O:List Pt) (i:Nat):List Pt:=(O.take i).map Pt.m5++O.drop i
theorem Qx7 (O:List Pt):Mm O 0=O:=by simp [Mm]
theorem Ip (O:List Pt) (i:Nat):(Mm O i).length=O.length:=by
  unfold Mm; rw [List.length_append,List.length_map,List.length_take,List.length_drop]; omega
theorem Qp8 {O:List Pt} {i:Nat} {p:Pt} (h:O[i]? = some p):(Mm O i).set i p.m5=Mm O (i+1):=by
  have hi:=(List.getElem?_eq_some_iff.1 h).1
  have hl:((O.take i).map Pt.m5).length=i:=by rw [List.length_map,List.length_take]; omega
  unfold Mm
  rw [List.set_append,if_neg (by omega),hl,Nat.sub_self,List.take_succ,h,Option.toList_some,List.map_append,List.append_assoc]
  congr 1
  rw [List.drop_eq_getElem_cons hi]
  have:O[i]=p:=by
    have:=(List.getElem?_eq_some_iff.1 h).2
    exact this
  rfl
theorem Q3q {O:List Pt} {i:Nat} {p:Pt} (h:O[i]? = some p):(Mm O i)[i]? = some p:=by
  have hi:=(List.getElem?_eq_some_iff.1 h).1
  have hl:((O.take i).map Pt.m5).length=i:=by rw [List.length_map,List.length_take]; omega
  unfold Mm
  rw [List.getElem?_append_right (by omega),hl,Nat.sub_self,List.getElem?_drop]
  exact h
theorem Qp7 {O:List Pt} {i k:Nat} {p:Pt} (hk:k<i) (h:O[k]? = some p):(Mm O i)[k]? = some p.m5:=by
  have hi:=(List.getElem?_eq_some_iff.1 h).1
  unfold Mm
  rw [List.getElem?_append_left (by rw [List.length_map,List.length_take]; omega),List.getElem?_map,List.getElem?_take,if_pos hk,h]; rfl
theorem Qi7 {O:List Pt} {e i:Nat} (h:e≤i) (hi:i≤O.length):(Mm O i).take e=(O.take e).map Pt.m5:=by
  unfold Mm
  rw [List.take_append_of_le_length (by rw [List.length_map,List.length_take]; omega),←List.map_take,List.take_take,Nat.min_eq_left h]
def Ye (O:List Pt) (e:Nat):List Pt:=(O.take e).map Pt.m5
def M8 (O:List Pt) (e:Nat):List Pt:=(Ye O e).map Pt.nrm
def G7 (l:List Pt):Prop:=l.Pairwise fun a b=>a.id≠b.id
theorem Qsk {O:List Pt} {i:Nat} {p:Pt} (h:O[i]? = some p):Ye O (i+1)=Ye O i++[p.m5]:=by
  unfold Ye; rw [List.take_succ,h,Option.toList_some,List.map_append]; rfl
theorem Qsq {O:List Pt} {i:Nat} {p:Pt} (h:O[i]? = some p) (hd:G7 (Ye O i)) (hn:∀ k x,k<i→O[k]? = some x→x.m5.id≠p.m5.id):G7 (Ye O (i+1)):=by
  rw [Qsk h]
  refine List.pairwise_append.2 ⟨hd,List.pairwise_singleton _ _,fun a ha b hb=>?_⟩
  rw [List.mem_singleton.1 hb]
  obtain ⟨x,hx,rfl⟩:=List.mem_map.1 ha
  obtain ⟨k,hk,rfl⟩:=List.mem_iff_getElem.1 hx
  rw [List.length_take] at hk
  rw [List.getElem_take]
  exact hn k _ (by omega) (List.getElem?_eq_getElem (by omega))
theorem Ln {O:List Pt} {e:Nat} (h:G7 (Ye O e)):G7 (M8 O e):=List.Pairwise.map Pt.nrm (fun _ _ h=>h) h
theorem Af (O:List Pt) (e:Nat):(M8 O e).length=(Ye O e).length:=by unfold M8; rw [List.length_map]
theorem Cc {O:List Pt} {e:Nat} (h:e≤O.length):(Ye O e).length=e:=by unfold Ye; rw [List.length_map,List.length_take]; omega
def Qrq (p:Pt):Prop:=Cs 10 3 p.c
theorem Qdn {n:Nat} {most:Int} (hm:0≤most∧most≤999) {l:List RawPt}:∀ p∈Em n most l,Qrq p:=fun p hp=>by
  rcases Ci _ _ hp with h | h
  · cases h
  · obtain ⟨z,_,rfl⟩:=List.mem_map.1 h
    exact Qcr hm _ _ _
theorem Qh7 {O:List Pt} (h:∀ p∈O,Qrq p) (e:Nat):∀ p∈Ye O e,Qrq p:=fun p hp=>by
  obtain ⟨x,hx,rfl⟩:=List.mem_map.1 hp
  exact h x (List.mem_of_mem_take hx)
theorem Qo5 {O:List Pt} (h:∀ p∈O,Qrq p) (e:Nat):∀ p∈M8 O e,Nml p.c∧Cs 10 3 p.c:=fun p hp=>by
  obtain ⟨x,hx,rfl⟩:=List.mem_map.1 hp
  exact ⟨x.c.nml,(Qh7 h e x hx).norm (by decide)⟩
theorem Qdk {s n:Nat}:∀ {l:List Pt},(∀ p∈l,Cs s n p.c)→IsPts s n (l.map Zu) (l.map Pt.nrm)
  | [],_=>trivial
  | p::l,h=>⟨⟨p.c.x.map Zt,p.c.y.map Zt,_,_,_,_,p.c.d,rfl,Zp _,Zp _,Qe _,h p (List.mem_cons_self ..),rfl⟩,Qdk fun x hx=>h x (List.mem_cons_of_mem _ hx)⟩
theorem Qeg:∀ {l m:List Pt},Jo l→Jo m→(∀ x,x∈l↔x∈m)→l=m
  | [],[],_,_,_=>rfl
  | [],b::m,_,_,h=>absurd ((h b).2 (List.mem_cons_self ..)) (by simp)
  | a::l,[],_,_,h=>absurd ((h a).1 (List.mem_cons_self ..)) (by simp)
  |
   a::l,b::m,h1,h2,h=>by
   have h1':=List.pairwise_cons.1 h1
   have h2':=List.pairwise_cons.1 h2
   have hab:a=b:=by
     rcases List.mem_cons.1 ((h a).1 (List.mem_cons_self ..)) with e | e
     · exact e
     · rcases List.mem_cons.1 ((h b).2 (List.mem_cons_self ..)) with e2 | e2
       · exact e2.symm
       · have:=h2'.1 a e; have:=h1'.1 b e2; omega
   subst hab
   congr 1
   refine Qeg h1'.2 h2'.2 fun x=>⟨fun hx=>?_,fun hx=>?_⟩
   · rcases List.mem_cons.1 ((h x).1 (List.mem_cons_of_mem _ hx)) with e | e
     · have:=h1'.1 x hx; rw [e] at this; omega
     · exact e
   · rcases List.mem_cons.1 ((h x).2 (List.mem_cons_of_mem _ hx)) with e | e
     · have:=h2'.1 x hx; rw [e] at this; omega
     · exact e
theorem Dn {l:List Pt} (h:G7 l):Jo (Z5 Yu l) :=
  Orq.foldG_pw (R:=fun a b:Pt=>a.id<b.id) (S:=fun _=>True) (D:=fun a b:Pt=>a.id≠b.id) (fun x y z h1 h2=>Int.lt_trans h1 h2) (fun x y _ _ h=>of_decide_eq_true h) (fun x y _ _ h1 h=>by have:=of_decide_eq_false h; omega) l [] .nil (fun x hx=>by cases hx) (fun _ _=>trivial) h (fun x hx=>by cases hx)
theorem Qza (l:List Pt) (q:Pt):(put l q).Perm (q::l):=by
  unfold put
  exact List.perm_middle.trans (by rw [List.take_append_drop])
theorem Qds:∀ (qs acc:List Pt),(J4 acc qs).2=0→(J4 acc qs).1.Perm (qs++acc)
  | [],acc,_=>List.Perm.refl _
  |
   q::qs,acc,h=>by
   simp only [J4] at h ⊢
   split
   · rename_i h0
     rw [if_pos h0] at h
     refine (Qds qs _ h).trans ?_
     exact ((Qza acc q).append_left qs).trans List.perm_middle
   · rename_i h0
     rw [if_neg h0] at h
     exact absurd h h0
theorem Qs9 {qs:List Pt} (hl:qs.length≤6) (hd:G7 qs):(J4 [] qs).2=0∧(J4 [] qs).1=Z5 Yu qs:=by
  rcases Qs8 hl with ⟨h1,h2,_,_⟩ | ⟨_,h2⟩
  · refine ⟨h1,Qeg h2 (Dn hd) fun x=>?_⟩
    have h3:=Qds qs [] h1
    rw [List.append_nil] at h3
    rw [h3.mem_iff,Ro]
  · exact absurd hd h2
end Orr

namespace Orr
open Go Go.Proofs
set_option maxRecDepth 10000
theorem Q3c {α:Type} {f:α→List LV} {lt:α→α→Bool} {O:List α} {c:α} {k:Nat} (hp:Kx lt O c O.length=k):(O.map f).take k++(f c::(O.map f).drop k)=(U0 lt O c).map f:=by
  simp [U0,hp,List.map_take,List.map_drop]
theorem Qiv {α:Type} {f:α→List LV} {lt:α→α→Bool} {O:List α} {c:α} {k:Nat} (hp:Kx lt O c O.length=k):(O.map f).take k++([f c]++((O.map f).drop k).take ((O.map f).length-k))=(U0 lt O c).map f:=by
  rw [List.take_of_length_le (l:=(O.map f).drop k) (by simp)]
  exact Q3c hp
theorem Qiw {lt:Pt→Pt→Bool} {O:List Pt} {c:Pt} {k:Nat} (hp:Kx lt O c O.length=k):(Zd O).take k++([Ff c]++((Zd O).drop k).take ((Zd O).length-k))=Zd (U0 lt O c):=Qiv hp
theorem Yd (l:List Pt):(Zd l).length=l.length:=by simp [Zd]
theorem Qgm (l:List Pt):∀ c∈Zd l,c.length=7:=fun c hc=>by obtain ⟨x,_,rfl⟩:=List.mem_map.1 hc; rfl
theorem Xe {l:List Pt} {i:Nat} {c:Pt} (h:l[i]? = some c):(Zd l)[i]? = some (Ff c):=Xd h
theorem A8 {l:List Pt} (hn:l.length≤1000000):Qd Tryz.prog 86 [.one (.row (Zd l))] [.one (.row (Zd (Z5 Yu l)))]:=by
  have hcl:=Yd l
  refine Z7 Tryz.func86 rfl ?_
  refine go tt [.o 3 112 7] rfl trivial ?_
  refine lp (S:=Nat) 1 (fun L1 i=>(8,.v (.one (.int .i64 (i:Int))))::(3,.v (.one (.orow 0 7 none)))::L1) (fun i=>[.row false 112 7 (Zd (Z5 Yu (l.take i)))]) (fun i=>l.length-i) (fun i=>i≤l.length) 0 (Nat.zero_le _) rfl (fun _ _=>rfl) rfl fun i hi=>?_
  by_cases hlt:i<l.length
  · obtain ⟨c,hc⟩:∃ c,l[i]? = some c:=⟨_,List.getElem?_eq_getElem hlt⟩
    have hst:Z5 Yu (l.take (i+1))=U0 Yu (Z5 Yu (l.take i)) c:=Qbs hc
    obtain ⟨O,hO⟩:∃ O,O=Z5 Yu (l.take i):=⟨_,rfl⟩
    have hOl:O.length=i:=by rw [hO,Vh,List.length_take]; omega
    have hrl:=Yd O
    rw [←hO] at hst ⊢
    refine go tt [.t (decide_eq_true (by omega))] rfl trivial ?_
    refine lp (S:=Nat) 1 (fun L1 k=>(5,.v (.one (.int .i64 (k:Int))))::L1) (fun _=>[.row false 112 7 (Zd O)]) id (fun k=>k≤O.length∧Kx Yu O c k=Kx Yu O c O.length) (Zd O).length ⟨by omega,by rw [hrl]⟩ rfl (fun _ _=>rfl) rfl fun k ⟨hk,hp⟩=>?_
    have h7:=Qgm O
    have h7z:∀ y∈[Ff c],y.length=7:=fun y hy=>by rw [List.mem_singleton.1 hy]; rfl
    cases k with
    |
     zero =>
     have hp:Kx Yu O c O.length=0:=by rw [←hp]; rfl
     refine go tt [.g 15 false (by simp),.f rfl,.i 0,.x (Xe hc),.lo,.i 0,.s (sz:=7) (fun y hy=>h7 y (List.mem_of_mem_take hy)),.s (sz:=7) (fun y hy=>(List.mem_append.1 hy).elim (h7z y) fun hy=>h7 y (List.mem_of_mem_take hy))] rfl (by simp [Qa]; omega) ?_
     exact rd (i+1) (by omega) hlt (by rw [hst,←Qiw hp]; rfl)
    |
     succ k =>
     obtain ⟨x,hx⟩:∃ x,O[k]? = some x:=⟨_,List.getElem?_eq_getElem (by omega)⟩
     by_cases hlc:Yu c x=true
     · refine go tt [.g 15 true (by simp),.x (Xe hc),.r 23 (eI (b:=(k:Int)) (by simp)),.i k,.x (Xe hx),.t hlc,.r 30 (eI (b:=(k:Int)) (by simp))] rfl (by simp [Qa]; omega) ?_
       exact rd k (by simp) ⟨by omega,by rw [←hp,Qgb hx hlc]⟩ rfl
     · have hlc:Yu c x=false:=by simpa using hlc
       have hp:Kx Yu O c O.length=k+1:=by rw [←hp,Qbg hx hlc]
       refine go tt [.g 15 true (by simp),.x (Xe hc),.r 23 (eI (b:=(k:Int)) (by simp)),.i k,.x (Xe hx),.f hlc,.i (k+1),.x (Xe hc),.lo,.i (k+1),.s (sz:=7) (fun y hy=>h7 y (List.mem_of_mem_drop (List.mem_of_mem_take hy))),.s (sz:=7) (fun y hy=>(List.mem_append.1 hy).elim (h7z y) fun hy=>h7 y (List.mem_of_mem_drop (List.mem_of_mem_take hy)))] rfl (by simp [Qa]; omega) ?_
       exact rd (i+1) (by omega) hlt (by rw [hst,←Qiw hp]; rfl)
  · obtain rfl:i=l.length:=by omega
    rw [List.take_length]
    exact en tt [.f (decide_eq_false (by omega))] rfl rfl trivial
end Orr

namespace Orr
open Go Go.Proofs
set_option maxRecDepth 10000
def rct (c:Ct):List LV:=[.int .i64 c.kind,.int .i64 c.i0,.int .i64 c.i1,.int .i64 c.i2,.int .i64 c.i3,rp (zp c.p),.int .i64 c.want,.row [],.bool false]
def Jm (l:List Ct):List (List LV):=l.map rct
theorem Ts (l:List Ct):(Jm l).length=l.length:=by simp [Jm]
theorem Qj2 (l:List Ct):∀ c∈Jm l,c.length=9:=fun c hc=>by obtain ⟨x,_,rfl⟩:=List.mem_map.1 hc; rfl
theorem Ms {l:List Ct} {i:Nat} {c:Ct} (h:l[i]? = some c):(Jm l)[i]? = some (rct c):=Xd h
theorem Qiu {lt:Ct→Ct→Bool} {O:List Ct} {c:Ct} {k:Nat} (hp:Kx lt O c O.length=k):(Jm O).take k++([rct c]++((Jm O).drop k).take ((Jm O).length-k))=Jm (U0 lt O c):=Qiv hp
theorem Q2j {k i0 i1 i2 i3 l j0 j1 j2 j3:Int}:Qd Tryz.prog 312 [.agg [.int .i64 k,.int .i64 i0,.int .i64 i1,.int .i64 i2,.int .i64 i3],.agg [.int .i64 l,.int .i64 j0,.int .i64 j1,.int .i64 j2,.int .i64 j3]] [.one (.bool (X3 [k,i0,i1,i2,i3] [l,j0,j1,j2,j3]))]:=by
  by_cases hk:k=l
  · subst hk
    rw [show X3 [k,i0,i1,i2,i3] [k,j0,j1,j2,j3]=X3 [i0,i1,i2,i3] [j0,j1,j2,j3] from by simp [X3]]
    refine Z7 Tryz.func312 rfl ?_
    refine go tt [.f (by simp)] rfl trivial ?_
    refine lp (S:=Nat) 2 (fun L1 i=>(5,.v (.one (.int .i64 (i:Int))))::L1) (fun _=>[.blk 159 [.int .i64 k,.int .i64 i0,.int .i64 i1,.int .i64 i2,.int .i64 i3],.blk 159 [.int .i64 k,.int .i64 j0,.int .i64 j1,.int .i64 j2,.int .i64 j3]]) (fun i=>4-i) (fun i=>i≤4∧X3 ([i0,i1,i2,i3].drop i) ([j0,j1,j2,j3].drop i)=X3 [i0,i1,i2,i3] [j0,j1,j2,j3]) 0 ⟨by omega,rfl⟩ rfl (fun _ _=>rfl) rfl fun i ⟨hi,he⟩=>?_
    rw [←he]
    rcases (show i=0∨i=1∨i=2∨i=3∨i=4 by omega) with rfl | rfl | rfl | rfl | rfl
    · by_cases h:i0=j0
      · exact go tt [.t rfl,.i 0,.i 0,.f (by simpa using h)] rfl (by simp [Qa]) (rd 1 (by omega) ⟨by omega,by simp [X3,h]⟩ rfl)
      · exact en tt [.t rfl,.i 0,.i 0,.t (by simpa using h),.i 0,.i 0] rfl (by simp [X3,h]) trivial
    · by_cases h:i1=j1
      · exact go tt [.t rfl,.i 1,.i 1,.f (by simpa using h)] rfl (by simp [Qa]) (rd 2 (by omega) ⟨by omega,by simp [X3,h]⟩ rfl)
      · exact en tt [.t rfl,.i 1,.i 1,.t (by simpa using h),.i 1,.i 1] rfl (by simp [X3,h]) trivial
    · by_cases h:i2=j2
      · exact go tt [.t rfl,.i 2,.i 2,.f (by simpa using h)] rfl (by simp [Qa]) (rd 3 (by omega) ⟨by omega,by simp [X3,h]⟩ rfl)
      · exact en tt [.t rfl,.i 2,.i 2,.t (by simpa using h),.i 2,.i 2] rfl (by simp [X3,h]) trivial
    · by_cases h:i3=j3
      · exact go tt [.t rfl,.i 3,.i 3,.f (by simpa using h)] rfl (by simp [Qa]) (rd 4 (by omega) ⟨by omega,by simp [X3,h]⟩ rfl)
      · exact en tt [.t rfl,.i 3,.i 3,.t (by simpa using h),.i 3,.i 3] rfl (by simp [X3,h]) trivial
    · exact en tt [.f rfl] rfl (by simp [X3]) trivial
  · exact w tt Tryz.func312 rfl [.t (by simpa using hk)] rfl (by simp [X3,hk]) trivial
theorem Q2m {l:List Ct} (hn:l.length≤1000000):Qd Tryz.prog 289 [.one (.row (Jm l))] [.one (.row (Jm (Z5 Kc l)))]:=by
  have hcl:=Ts l
  refine Z7 Tryz.func289 rfl ?_
  refine go tt [.o 3 265 9] rfl trivial ?_
  refine lp (S:=Nat) 1 (fun L1 i=>(8,.v (.one (.int .i64 (i:Int))))::(3,.v (.one (.orow 0 9 none)))::L1) (fun i=>[.row false 265 9 (Jm (Z5 Kc (l.take i)))]) (fun i=>l.length-i) (fun i=>i≤l.length) 0 (Nat.zero_le _) rfl (fun _ _=>rfl) rfl fun i hi=>?_
  by_cases hlt:i<l.length
  · obtain ⟨c,hc⟩:∃ c,l[i]? = some c:=⟨_,List.getElem?_eq_getElem hlt⟩
    have hst:Z5 Kc (l.take (i+1))=U0 Kc (Z5 Kc (l.take i)) c:=Qbs hc
    obtain ⟨O,hO⟩:∃ O,O=Z5 Kc (l.take i):=⟨_,rfl⟩
    have hOl:O.length=i:=by rw [hO,Vh,List.length_take]; omega
    have hrl:=Ts O
    rw [←hO] at hst ⊢
    refine go tt [.t (decide_eq_true (by omega))] rfl trivial ?_
    refine lp (S:=Nat) 1 (fun L1 k=>(5,.v (.one (.int .i64 (k:Int))))::L1) (fun _=>[.row false 265 9 (Jm O)]) id (fun k=>k≤O.length∧Kx Kc O c k=Kx Kc O c O.length) (Jm O).length ⟨by omega,by rw [hrl]⟩ rfl (fun _ _=>rfl) rfl fun k ⟨hk,hp⟩=>?_
    have h7:=Qj2 O
    have h7z:∀ y∈[rct c],y.length=9:=fun y hy=>by rw [List.mem_singleton.1 hy]; rfl
    cases k with
    |
     zero =>
     have hp:Kx Kc O c O.length=0:=by rw [←hp]; rfl
     refine go tt [.g 15 false (by simp),.f rfl,.i 0,.x (Ms hc),.lo,.i 0,.s (sz:=9) (fun y hy=>h7 y (List.mem_of_mem_take hy)),.s (sz:=9) (fun y hy=>(List.mem_append.1 hy).elim (h7z y) fun hy=>h7 y (List.mem_of_mem_take hy))] rfl (by simp [Qa]; omega) ?_
     exact rd (i+1) (by omega) hlt (by rw [hst,←Qiu hp]; rfl)
    |
     succ k =>
     obtain ⟨x,hx⟩:∃ x,O[k]? = some x:=⟨_,List.getElem?_eq_getElem (by omega)⟩
     have cb:=Q2j (k:=c.kind) (i0:=c.i0) (i1:=c.i1) (i2:=c.i2) (i3:=c.i3) (l:=x.kind) (j0:=x.i0) (j1:=x.i1) (j2:=x.i2) (j3:=x.i3)
     by_cases hlc:Kc c x=true
     · refine go tt [.g 15 true (by simp),.x (Ms hc),.r 23 (eI (b:=(k:Int)) (by simp)),.i k,.x (Ms hx),.c [] cb,.t hlc,.r 30 (eI (b:=(k:Int)) (by simp))] rfl (by simp [Qa]; omega) ?_
       exact rd k (by simp) ⟨by omega,by rw [←hp,Qgb hx hlc]⟩ rfl
     · have hlc:Kc c x=false:=by simpa using hlc
       have hp:Kx Kc O c O.length=k+1:=by rw [←hp,Qbg hx hlc]
       refine go tt [.g 15 true (by simp),.x (Ms hc),.r 23 (eI (b:=(k:Int)) (by simp)),.i k,.x (Ms hx),.c [] cb,.f hlc,.i (k+1),.x (Ms hc),.lo,.i (k+1),.s (sz:=9) (fun y hy=>h7 y (List.mem_of_mem_drop (List.mem_of_mem_take hy))),.s (sz:=9) (fun y hy=>(List.mem_append.1 hy).elim (h7z y) fun hy=>h7 y (List.mem_of_mem_drop (List.mem_of_mem_take hy)))] rfl (by simp [Qa]; omega) ?_
       exact rd (i+1) (by omega) hlt (by rw [hst,←Qiu hp]; rfl)
  · obtain rfl:i=l.length:=by omega
    rw [List.take_length]
    exact en tt [.f (decide_eq_false (by omega))] rfl rfl trivial
end Orr

namespace Orr
open Go Go.Proofs
set_option maxRecDepth 10000
abbrev Sk (q:Rat):List Int→Int:=fun p=>Z4 p q
abbrev rzc:List LV:=[.int .i64 0,.int .i64 0,.int .i64 0,.int .i64 0,.int .i64 0,.nils,.int .i64 0,.nils,.bool false]
theorem Qvz {l:List Ct} (hn:l.length≤1000000):Qd Tryz.prog 148 [.one (.row []),.one (.row (Jm l))] [.one (.row (Jm l))]:=by
  have hcl:=Ts l
  refine Z7 Tryz.func148 rfl ?_
  refine go tt [] rfl trivial ?_
  refine lp (S:=Nat) 0 (fun L1 i=>(9,.v (.one (.int .i64 (i:Int))))::L1) (fun _=>[]) (fun i=>l.length-i) (fun i=>i≤l.length) 0 (Nat.zero_le _) rfl (fun _ _=>rfl) rfl fun i hi=>?_
  by_cases hlt:i<l.length
  · refine go tt [.t (decide_eq_true (by omega))] rfl trivial ?_
    refine lp (S:=Nat) 0 (fun L1 k=>(14,.v (.one (.int .i64 (k:Int))))::L1) (fun _=>[]) (fun k=>0-k) (fun k=>k=0) 0 rfl rfl (fun _ _=>rfl) rfl fun k hk=>?_
    subst hk
    exact go tt [.f rfl] rfl (by simp [Qa]; omega) (rd (i+1) (by omega) hlt rfl)
  · exact en tt [.f (decide_eq_false (by omega))] rfl rfl trivial
end Orr

namespace Orr
open Go Go.Proofs
set_option maxRecDepth 10000
theorem Q3n (l:List Nat) (n:Nat):(lm l).take (min l.length n)=lm (l.take n):=by
  rw [lm,lm,←List.map_take]
  rcases Nat.le_total l.length n with h | h
  · rw [Nat.min_eq_left h,List.take_length,List.take_of_length_le h]
  · rw [Nat.min_eq_right h]
theorem Q7g {l:List Nat} {n:Nat} (hn:n≤1000):Qd Tryz.prog 246 [.one (.row (lm l)),.one (.int .i64 (n:Int))] [.one (.row (lm (l.take n)))]:=by
  rw [←Q3n]
  have hll:(lm l).length=l.length:=by simp [lm]
  exact w tt Tryz.func246 rfl [.r 9 (eI (b:=((min l.length n:Nat):Int)) (by omega)),.i (min l.length n)] rfl rfl (by simp [Qa,hll]; omega)
theorem Qvl {z:RawInt}:Qd Tryz.prog 203 [.agg (Ep z),.one (.int .i64 1)] [.agg (Ep z.cut)] :=
  w tt Tryz.func203 rfl [.c [] (Q7g (l:=z.l) (n:=1) (by decide))] rfl rfl trivial
def Ni (l:List RawInt):List (List LV):=l.map Ep
theorem Mt (l:List RawInt):(Ni l).length=l.length:=by simp [Ni]
theorem Qoo {l:List RawInt}:Qd Tryz.prog 202 [.one (.row (Ni l)),.one (.int .i64 3),.one (.int .i64 1)] [.one (.row (Ni ((l.take 3).map RawInt.cut)))]:=by
  have hll:=Mt l
  refine Z7 Tryz.func202 rfl (ln 0 rfl rfl fun hzl=>?_)
  rw [hll] at hzl
  refine go tt [.o 7 29 2] rfl trivial ?_
  refine lp (S:=Nat) 1 (fun L1 i=>(8,.v (.one (.int .i64 (i:Int))))::(7,.v (.one (.orow 0 2 none)))::L1) (fun i=>[.row false 29 2 (Ni ((l.take i).map RawInt.cut))]) (fun i=>3-i) (fun i=>i≤3∧i≤l.length) 0 ⟨by decide,Nat.zero_le _⟩ rfl (fun _ _=>rfl) rfl fun i ⟨hi,hi2⟩=>?_
  have hil:(Ni ((l.take i).map RawInt.cut)).length=i:=by rw [Mt,List.length_map,List.length_take]; omega
  by_cases h1:i<l.length
  · by_cases h2:i<3
    · obtain ⟨z,hz⟩:∃ z,l[i]? = some z:=⟨_,List.getElem?_eq_getElem h1⟩
      have hm:∀ y∈[Ep z.cut],y.length=2:=fun y hy=>by rw [List.mem_singleton.1 hy]; rfl
      refine go tt [.g 13 true (decide_eq_true (by omega)),.t (decide_eq_true (by omega)),.x (Xd (f:=Ep) hz),.c [] Qvl,.s (sz:=2) hm] rfl (by simp [Qa,hil,-List.map_take]; omega) ?_
      exact rd (i+1) (by omega) ⟨h2,h1⟩ (by rw [List.take_succ,hz]; simp [Ni]; rfl)
    · have e:i=3:=by omega
      have e2:l.take 3=l.take i:=by rw [e]
      rw [e2]
      exact en tt [.g 13 true (decide_eq_true (by omega)),.f (decide_eq_false (by omega))] rfl rfl trivial
  · have e:l.take i=l.take 3:=by rw [List.take_of_length_le (by omega),List.take_of_length_le (by omega)]
    rw [e]
    exact en tt [.g 13 false (decide_eq_false (by omega)),.f rfl] rfl rfl trivial
abbrev rcw (z:RawPt):List LV:=[.row (Ni z.x),.row (Ni z.y),.bool z.d.b,.row (lm z.d.l)]
def RawPt.cut (z:RawPt):RawPt:=⟨(z.x.take 3).map RawInt.cut,(z.y.take 3).map RawInt.cut,z.d.cut,z.id⟩
theorem Q97 {z:RawPt}:Qd Tryz.prog 144 [.agg (rcw z),.one (.int .i64 3),.one (.int .i64 1)] [.agg (rcw z.cut)] :=
  w tt Tryz.func144 rfl [.c [] (Qoo (l:=z.x)),.c [] (Qoo (l:=z.y)),.c [] (Qvl (z:=z.d))] rfl rfl trivial
theorem B6 {z:RawInt} (hz:z.Ok) {most:Int} (hm:0≤most∧most≤999):Qd Tryz.prog 204 [.agg (Ep z),.one (.int .i64 most)] [.agg (Zt (Jf most z))]:=by
  obtain ⟨b,l⟩:=z
  have hb:=Nv hm.1 ⟨b,l⟩
  have hs:Ql (Jf most ⟨b,l⟩)≤100000000:=Nat.le_trans (J3.2 (show (Jf most ⟨b,l⟩).natAbs<2^10 by omega)) (by decide)
  cases l with
  | nil=>exact w tt Tryz.func204 rfl [.t rfl] rfl (by simp [Jf,Fz]) trivial
  |
   cons u l =>
   have hu:=hz.u u (List.mem_cons_self ..)
   have co:=Ub (n:=Jf most ⟨b,u::l⟩) (by omega)
   have ct:=Qr7 hs
   have hr:Int.tmod (u:Int) (most+1)=(u:Int) % (most+1):=Int.tmod_eq_emod_of_nonneg (by omega)
   have h1:=Int.emod_nonneg (u:Int) (b:=most+1) (by omega)
   have h2:=Int.emod_lt_of_pos (u:Int) (b:=most+1) (by omega)
   cases b with
   |
    true =>
    rw [show Jf most ⟨true,u::l⟩=-((u:Int) % (most+1)) from rfl] at co ct ⊢
    exact w tt Tryz.func204 rfl [.f (decide_eq_false (by simp [lm]; try omega)),.x (l:=lm (u::l)) (i:=0) (xs:=[.int .u32 (u:Int)]) rfl,.r 18 (eI hr),.t rfl,.c [] co,.c [] ct] rfl rfl (by simp [Qa]; omega)
   |
    false =>
    rw [show Jf most ⟨false,u::l⟩=(u:Int) % (most+1) from rfl] at co ct ⊢
    exact w tt Tryz.func204 rfl [.f (decide_eq_false (by simp [lm]; try omega)),.x (l:=lm (u::l)) (i:=0) (xs:=[.int .u32 (u:Int)]) rfl,.r 18 (eI hr),.f rfl,.c [] co,.c [] ct] rfl rfl (by simp [Qa]; omega)
end Orr

namespace Orr
open Go Go.Proofs
set_option maxRecDepth 10000
theorem oz2 {P:Program} [Mo P] {n:Nat} {Q:Exit→Sg→List OB→Prop} {L L':Sg} {B B':List OB} (d off T sz:Nat) {it:List It} (hs:Jn it=true) (h:Qy2 (P:=P) d L B [.oc d off T sz]=some (L',B',[],[])) (k:AK P n Q it L' B'):AK P n Q it L B:=AK.sub (Qmz h EqOk.nil) hs k
theorem pz {P:Program} [Mo P] {n:Nat} {Q:Exit→Sg→List OB→Prop} {L L':Sg} {B B':List OB} (i:Nat) {it:List It} (hs:Jn it=true) (h:Qy6 [i] L B=some (L',B')) (k:AK P n Q it L' B'):AK P n Q it L B:=AK.sub (Iv h) hs k
def Vu (l:List Int):List (List LV):=l.map Zt
theorem Ef (l:List Int):(Vu l).length=l.length:=by simp [Vu]
theorem Ed {most:Int} {l:List RawInt} {i:Nat} {a:RawInt} (hi:i<3) (h:l[i]? = some a):Vu (Xa most (l.take (i+1)))=Vu (Xa most (l.take i))++[Zt (Jf most a)]:=by
  rw [Qfw hi h]; simp [Vu]
theorem Qfv {most:Int} {l:List RawInt} {i:Nat} (hi:i≤3) (h:i≤l.length):(Vu (Xa most (l.take i))).length=i:=by
  rw [Ef]; unfold Xa; rw [List.length_map,List.length_take,List.length_take]; omega
theorem Qus {z:RawPt} (hz:z.Ok) {most:Int} (hm:0≤most∧most≤999):Qd Tryz.prog 145 [.agg (rcw z),.one (.int .i64 most)] [.agg (cl4 (Cu most z.x z.y z.d))]:=by
  have hxl:=Mt z.x
  have hyl:=Mt z.y
  obtain ⟨D,hD⟩:∃ D,D=Jf 3 z.d:=⟨_,rfl⟩
  have cd:=B6 hz.d (most:=3) (by decide)
  have hx0:∀ {i:Nat},z.x.length≤i∨3≤i→Xa most (z.x.take i)=Xa most z.x:=Ac most
  have hy0:∀ {i:Nat},z.y.length≤i∨3≤i→Xa most (z.y.take i)=Xa most z.y:=Ac most
  unfold Cu
  rw [←hD] at cd ⊢
  refine Z7 Tryz.func145 rfl ?_
  refine go tt [.c [] cd] rfl trivial ?_
  refine oz2 5 0 29 2 rfl rfl ?_
  refine lp (S:=Nat) 4 (fun L1 i=>(6,.v (.one (.int .i64 (i:Int))))::L1) (fun i=>[.blk 31 (rcw z),.blk 31 [.nils,.nils,.bool false,.nils],.blk 31 [.orow 3 2 none,.nils,sg D,mg D],.row false 29 2 (Vu (Xa most (z.x.take i)))]) (fun i=>3-i) (fun i=>i≤3∧i≤z.x.length) 0 ⟨by decide,Nat.zero_le _⟩ rfl (fun _ _=>rfl) rfl fun i ⟨hi,hi2⟩=>?_
  have hll:=Qfv (most:=most) hi hi2
  by_cases hr:i<z.x.length∧i<3
  · obtain ⟨a,ha⟩:∃ a,z.x[i]? = some a:=⟨_,List.getElem?_eq_getElem hr.1⟩
    have hs:∀ y∈[Zt (Jf most a)],y.length=2:=fun y hy=>by rw [List.mem_singleton.1 hy]; rfl
    refine go tt [.g 17 true (decide_eq_true (by omega)),.t (decide_eq_true (by omega)),.x (Xd (f:=Ep) ha),.c [] (B6 (hz.x a (List.mem_of_getElem? ha)) hm),.s (sz:=2) hs] rfl (by simp [Qa,hll]; omega) ?_
    exact rd (i+1) (by omega) ⟨hr.2,hr.1⟩ (by rw [Ed hr.2 ha]; rfl)
  have hg1:decide ((i:Int)<((Ni z.x).length:Int))=true→i<z.x.length:=fun h=>by have:=of_decide_eq_true h; omega
  rw [hx0 (by omega)]
  clear hll
  have hfin:∀ {j:Nat},j≤3∧j≤z.y.length→¬(j<z.y.length∧j<3)→Vu (Xa most (z.y.take j))=Vu (Xa most z.y):=fun h1 h2=>by rw [hy0 (by omega)]
  by_cases hxx:i<z.x.length
  · refine go tt [.g 17 true (decide_eq_true (by omega)),.f (decide_eq_false (by omega))] rfl trivial ?_
    refine pz 3 rfl rfl ?_
    refine oz2 5 1 29 2 rfl rfl ?_
    refine lp (S:=Nat) 5 (fun L1 j=>(7,.v (.one (.int .i64 (j:Int))))::L1) (fun j=>[.blk 31 (rcw z),.blk 31 [.nils,.nils,.bool false,.nils],.blk 31 [.row (Vu (Xa most z.x)),.orow 4 2 none,sg D,mg D],.gone,.row false 29 2 (Vu (Xa most (z.y.take j)))]) (fun j=>3-j) (fun j=>j≤3∧j≤z.y.length) 0 ⟨by decide,Nat.zero_le _⟩ rfl (fun _ _=>rfl) rfl fun j ⟨hj,hj2⟩=>?_
    have hll:=Qfv (most:=most) hj hj2
    by_cases hr:j<z.y.length∧j<3
    · obtain ⟨a,ha⟩:∃ a,z.y[j]? = some a:=⟨_,List.getElem?_eq_getElem hr.1⟩
      have hs:∀ y∈[Zt (Jf most a)],y.length=2:=fun y hy=>by rw [List.mem_singleton.1 hy]; rfl
      refine go tt [.g 40 true (decide_eq_true (by omega)),.t (decide_eq_true (by omega)),.x (Xd (f:=Ep) ha),.c [] (B6 (hz.y a (List.mem_of_getElem? ha)) hm),.s (sz:=2) hs] rfl (by simp [Qa,hll]; omega) ?_
      exact rd (j+1) (by omega) ⟨hr.2,hr.1⟩ (by rw [Ed hr.2 ha]; rfl)
    rw [hfin ⟨hj,hj2⟩ hr]
    by_cases hyy:j<z.y.length
    · exact ed tt [4] [] [.g 40 true (decide_eq_true (by omega)),.f (decide_eq_false (by omega))] rfl trivial
    · exact ed tt [4] [] [.g 40 false (decide_eq_false (by omega)),.f rfl] rfl trivial
  · refine go tt [.g 17 false (decide_eq_false (by omega)),.f rfl] rfl trivial ?_
    refine pz 3 rfl rfl ?_
    refine oz2 5 1 29 2 rfl rfl ?_
    refine lp (S:=Nat) 5 (fun L1 j=>(7,.v (.one (.int .i64 (j:Int))))::L1) (fun j=>[.blk 31 (rcw z),.blk 31 [.nils,.nils,.bool false,.nils],.blk 31 [.row (Vu (Xa most z.x)),.orow 4 2 none,sg D,mg D],.gone,.row false 29 2 (Vu (Xa most (z.y.take j)))]) (fun j=>3-j) (fun j=>j≤3∧j≤z.y.length) 0 ⟨by decide,Nat.zero_le _⟩ rfl (fun _ _=>rfl) rfl fun j ⟨hj,hj2⟩=>?_
    have hll:=Qfv (most:=most) hj hj2
    by_cases hr:j<z.y.length∧j<3
    · obtain ⟨a,ha⟩:∃ a,z.y[j]? = some a:=⟨_,List.getElem?_eq_getElem hr.1⟩
      have hs:∀ y∈[Zt (Jf most a)],y.length=2:=fun y hy=>by rw [List.mem_singleton.1 hy]; rfl
      refine go tt [.g 40 true (decide_eq_true (by omega)),.t (decide_eq_true (by omega)),.x (Xd (f:=Ep) ha),.c [] (B6 (hz.y a (List.mem_of_getElem? ha)) hm),.s (sz:=2) hs] rfl (by simp [Qa,hll]; omega) ?_
      exact rd (j+1) (by omega) ⟨hr.2,hr.1⟩ (by rw [Ed hr.2 ha]; rfl)
    rw [hfin ⟨hj,hj2⟩ hr]
    by_cases hyy:j<z.y.length
    · exact ed tt [4] [] [.g 40 true (decide_eq_true (by omega)),.f (decide_eq_false (by omega))] rfl trivial
    · exact ed tt [4] [] [.g 40 false (decide_eq_false (by omega)),.f rfl] rfl trivial
theorem Qof {n d:Int} (hn:-9223372036854775808≤n∧n≤9223372036854775807) (hd:-9223372036854775808≤d∧d≤9223372036854775807):Qd Tryz.prog 32 [.one (.int .i64 n),.one (.int .i64 d)] [.agg (fr (Z1 (Hl n 61-30) (1+Hl d 6)))]:=by
  have h1:Hl n 61=n % 61:=rfl
  have h2:Hl d 6=d % 6:=rfl
  exact w tt Tryz.func32 rfl [.c [] (Sr (v:=n) (n:=61) hn (by decide)),.c [] (Sr (v:=d) (n:=6) hd (by decide)),.c [] (Zab (n:=Hl n 61-30) (d:=1+Hl d 6) (by omega) (by omega))] rfl rfl (by simp [Qa]; omega)
end Orr

namespace Orr
open Go Go.Proofs
set_option maxRecDepth 10000
def rwq (z:RawPt):List LV:=rcw z++[.int .i64 z.id]
def Dk (l:List RawPt):List (List LV):=l.map rwq
theorem Qtp (l:List RawPt):(Dk l).length=l.length:=by simp [Dk]
theorem Qgr {l:List RawPt} {i:Nat} {z:RawPt} (h:l[i]? = some z):(Dk l)[i]? = some (rwq z):=Xd h
theorem Q7o {most:Int} (hm:0≤most∧most≤999) (z:RawPt):Cs 100000 16 (Ml most z).c:=(Qcr hm z.x z.y z.d).mono (by decide) (by decide)
def Rj (n:Nat) (most:Int) (zs:List RawPt) (i:Nat):List Pt:=Em n most (zs.take i)
theorem Qy4 (n:Nat) (most:Int) (zs:List RawPt) (i:Nat):(Rj n most zs i).length≤n:=S7 _ _ (Nat.zero_le _)
theorem Q39 {n:Nat} {most:Int} {zs:List RawPt} {i:Nat} {z:RawPt} (h:zs[i]? = some z) (hl:(Rj n most zs i).length<n) (ha:(Rj n most zs i).any (fun x=>decide (x.id=(Ml most z).id))=true):Rj n most zs (i+1)=Rj n most zs i:=by
  unfold Rj Em at *
  rw [List.take_succ,h,Option.toList_some,List.map_append]
  exact Tk _ _ _ hl ha
theorem Qy5 {n:Nat} {most:Int} {zs:List RawPt} {i:Nat} {z:RawPt} (h:zs[i]? = some z) (hl:(Rj n most zs i).length<n) (ha:(Rj n most zs i).any (fun x=>decide (x.id=(Ml most z).id))=false):Rj n most zs (i+1)=Rj n most zs i++[Ml most z]:=by
  unfold Rj Em at *
  rw [List.take_succ,h,Option.toList_some,List.map_append]
  exact Hd _ _ _ hl ha
theorem Qy3 {n:Nat} {most:Int} {zs:List RawPt} {i:Nat} (h:¬(i<zs.length∧(Rj n most zs i).length<n)):Rj n most zs i=Em n most zs:=by
  by_cases h1:i<zs.length
  · have hl:n≤(Rj n most zs i).length:=Nat.le_of_not_lt fun h2=>h ⟨h1,h2⟩
    unfold Rj Em at *
    conv=>rhs; rw [←List.take_append_drop i zs,List.map_append]
    exact (Lv _ _ _ hl).symm
  · unfold Rj; rw [List.take_of_length_le (by omega)]
theorem Quc {f:Pt→Bool} {l:List Pt} {k:Nat} {x:Pt} (h:l[k]? = some x):(l.take (k+1)).any f=((l.take k).any f || f x):=by
  rw [List.take_succ,h]; simp
theorem Qr6 {zs:List RawPt} (hz:∀ z∈zs,z.Ok):Zw Tryz.prog 85 [.one (.row (Dk zs)),.one (.int .i64 4)] [] [.one (.orow 0 5 none),.one (.orow 1 7 none)] [.row false 35 5 (Qn (Em 4 20 zs)),.row false 112 7 (Zd ((Em 4 20 zs).map Pt.nrm))]:=by
  have hzl:=Qtp zs
  refine Z7 Tryz.func85 rfl (ln 0 rfl rfl fun hz63=>?_)
  rw [hzl] at hz63
  refine go tt [.o 6 35 5,.o 7 112 7] rfl trivial ?_
  refine lp (S:=Nat) 2 (fun L1 i=>(8,.v (.one (.int .i64 (i:Int))))::(6,.v (.one (.orow 0 5 none)))::(7,.v (.one (.orow 1 7 none)))::L1) (fun i=>[.row false 35 5 (Qn (Rj 4 20 zs i)),.row false 112 7 (Zd ((Rj 4 20 zs i).map Pt.nrm))]) (fun i=>zs.length-i) (fun i=>i≤zs.length) 0 (Nat.zero_le _) rfl (fun _ _=>rfl) rfl fun i hi=>?_
  have hOl:=Qy4 4 20 zs i
  have hend:=Qy3 (n:=4) (most:=20) (zs:=zs) (i:=i)
  by_cases h1:i<zs.length
  · by_cases h2:(Rj 4 20 zs i).length<4
    · obtain ⟨z,hzi⟩:∃ z,zs[i]? = some z:=⟨_,List.getElem?_eq_getElem h1⟩
      have hzok:=hz z (List.mem_of_getElem? hzi)
      have hin:=Q39 hzi h2
      have hout:=Qy5 hzi h2
      obtain ⟨O,hO⟩:∃ O,O=Rj 4 20 zs i:=⟨_,rfl⟩
      rw [←hO] at hOl h2 hin hout ⊢
      have hpl:=Wu O
      have hrl:(Zd (O.map Pt.nrm)).length=O.length:=by rw [Yd,List.length_map]
      obtain ⟨p,hp⟩:∃ p,p=Ml 20 z:=⟨_,rfl⟩
      have hid:Hl z.id 1000=p.id:=by rw [hp]; rfl
      have cw:=Sr (v:=z.id) (n:=1000) hzok.id (by decide)
      have cl:=Qus hzok (most:=20) (by decide)
      have ecl:cl4 (Cu 20 z.x z.y z.d)=cl4 p.c:=by rw [hp]; rfl
      rw [hid] at cw
      rw [ecl] at cl
      rw [←hp] at hin hout
      refine go tt [.g 16 true (decide_eq_true (by omega)),.t (decide_eq_true (by omega)),.x (Qgr hzi),.c [] (Q97 (z:=z)),.x (Qgr hzi),.c [] cw,.f rfl,.t rfl,.x (Qgr hzi),.c [] cl] rfl trivial ?_
      refine lp (S:=Nat) 3 (fun L1 k=>(57,.v (.one (.int .i64 (k:Int))))::(10,.v (.one (.bool ((O.take k).any (fun x=>decide (x.id=p.id))))))::L1) (fun _=>[.row false 35 5 (Qn O),.row false 112 7 (Zd (O.map Pt.nrm)),.blk 35 [pl p.c.x,pl p.c.y,sg p.c.d,mg p.c.d,.int .i64 p.id]]) (fun k=>O.length-k) (fun k=>k≤O.length) 0 (Nat.zero_le _) rfl (fun _ _=>rfl) rfl fun k hk=>?_
      by_cases hk2:k<O.length
      · obtain ⟨x,hx⟩:∃ x,O[k]? = some x:=⟨_,List.getElem?_eq_getElem hk2⟩
        have ha:=Quc (f:=fun x=>decide (x.id=p.id)) hx
        cases hb:(O.take k).any (fun x=>decide (x.id=p.id)) with
        |
         true =>
         rw [hb,Bool.true_or] at ha
         exact go tt [.t (decide_eq_true (by omega)),.g 61 true rfl] rfl (by simp [Qa]; omega) (rd (k+1) (by omega) hk2 (by rw [ha]; rfl))
        |
         false =>
         rw [hb,Bool.false_or] at ha
         exact go tt [.t (decide_eq_true (by omega)),.g 61 false rfl,.i k,.x (Ur hx)] rfl (by simp [Qa,hpl]; omega) (rd (k+1) (by omega) hk2 (by rw [ha]; rfl))
      have hk3:O.take k=O:=List.take_of_length_le (by omega)
      rw [hk3]
      cases hb:O.any (fun x=>decide (x.id=p.id)) with
      |
       true =>
       refine go tt [.f (decide_eq_false (by omega)),.f rfl] rfl (by simp [Qa]; omega) ?_
       exact rd (i+1) (by omega) h1 (by rw [hin hb]; rfl)
      |
       false =>
       have cf:=Qvy (k:=p.c) (id:=p.id) (by rw [hp]; exact Q7o (by decide) z)
       have hm1:∀ y∈[Zu p],y.length=5:=fun y hy=>by rw [List.mem_singleton.1 hy]; rfl
       have hm2:∀ y∈[Ff p.nrm],y.length=7:=fun y hy=>by rw [List.mem_singleton.1 hy]; rfl
       have e1:Qn (O++[p])=Qn O++[Zu p]:=by simp [Qn]
       have e2:Zd ((O++[p]).map Pt.nrm)=Zd (O.map Pt.nrm)++[Ff p.nrm]:=by simp [Zd]
       refine go tt [.f (decide_eq_false (by omega)),.t rfl,.s (sz:=5) hm1,.c [] cf,.s (sz:=7) hm2] rfl (by simp [Qa,hpl,hrl]; omega) ?_
       exact rd (i+1) (by omega) h1 (by rw [hout hb,e1,e2]; rfl)
    · rw [hend (fun h=>h2 h.2)]
      rw [hend (fun h=>h2 h.2)] at h2
      have hpl:=Wu (Em 4 20 zs)
      exact ed tt [] [0,1] [.g 16 true (decide_eq_true (by omega)),.f (decide_eq_false (by omega))] rfl trivial
  · rw [hend (fun h=>h1 h.1)]
    exact ed tt [] [0,1] [.g 16 false (decide_eq_false (by omega)),.f rfl] rfl trivial
end Orr

namespace Orr
open Go Go.Proofs
set_option maxRecDepth 10000
abbrev plZ (M:List Pt) (q:Rat):List LV:=.row (Zd M)::(fr q++[.nils,.nils,.nils,.bool false,.nils,.bool false,.nils,.bool false,.nils,.bool false,.nils,.int .i64 0,.nils])
abbrev plB (M:List Pt) (q:Rat) (c:List (List Int)) (w:List Ct):List LV:=.row (Zd M)::(fr q++(aq q c++[.row (Jm w),.int .i64 0,.nils]))
end Orr

namespace Orr
open Go Go.Proofs Orq
set_option maxRecDepth 10000
theorem Q20 {O:List Pt} {e j:Nat} (h:G7 (Ye O e)) (hj:j≤e):G7 (Ye O j):=by
  have:Ye O j=(Ye O e).take j:=by unfold Ye; rw [←List.map_take,List.take_take,Nat.min_eq_left hj]
  rw [this]
  exact List.Pairwise.sublist (List.take_sublist _ _) h
theorem Q7q (O:List Pt):∃ e,e≤O.length∧G7 (Ye O e)∧(e<O.length→¬G7 (Ye O (e+1))):=by
  have key:∀ k,G7 (Ye O k)∨∃ e,e<k∧G7 (Ye O e)∧¬G7 (Ye O (e+1)):=by
    intro k
    induction k with
    | zero=>exact .inl List.Pairwise.nil
    |
     succ k ih =>
     rcases ih with h | ⟨e,h1,h2,h3⟩
     · by_cases h4:G7 (Ye O (k+1))
       · exact .inl h4
       · exact .inr ⟨k,Nat.lt_succ_self k,h,h4⟩
     · exact .inr ⟨e,by omega,h2,h3⟩
  rcases key O.length with h | ⟨e,h1,h2,h3⟩
  · exact ⟨O.length,Nat.le_refl _,h,fun h=>absurd h (Nat.lt_irrefl _)⟩
  · exact ⟨e,by omega,h2,fun _=>h3⟩
theorem Qgc {O:List Pt} {i:Nat} {p:Pt} (h:O[i]? = some p):(Qn (Mm O i)).set i [pl p.c.x,pl p.c.y,sg p.c.d,mg p.c.d,.int .i64 p.m5.id]=Qn (Mm O (i+1)):=by
  rw [←Qp8 h]; simp only [Qn,List.map_set]; rfl
theorem Qce {O:List Pt} {i:Nat} {p:Pt} (h:O[i]? = some p):(Zd ((Mm O i).map Pt.nrm)).set i [rp (Bt p.nrm.c.x p.nrm.c.d),rp (Bt p.nrm.c.y p.nrm.c.d),pl p.nrm.c.x,pl p.nrm.c.y,sg p.nrm.c.d,mg p.nrm.c.d,.int .i64 p.m5.id]=Zd ((Mm O (i+1)).map Pt.nrm):=by
  rw [←Qp8 h]; simp only [Zd,List.map_set]; rfl
theorem Qti {O:List Pt} {e i:Nat} (h:e≤i) (hi:i≤O.length):(Qn (Mm O i)).take e=Qn (Ye O e):=by
  unfold Qn; rw [←List.map_take,Qi7 h hi]; rfl
theorem Qnc {O:List Pt} {e i:Nat} (h:e≤i) (hi:i≤O.length):(Zd ((Mm O i).map Pt.nrm)).take e=Zd (M8 O e):=by
  unfold Zd; rw [←List.map_take,←List.map_take,Qi7 h hi]; rfl
theorem Qi6 {O:List Pt}:Mm O O.length=Ye O O.length:=by unfold Mm Ye; simp
abbrev Hk (n d:Int):Rat:=Z1 (Hl n 61-30) (1+Hl d 6)
theorem Es (n d:Int):Qs 100 (Hk n d):=by
  have h1:Hl n 61=n % 61:=rfl
  have h2:Hl d 6=d % 6:=rfl
  unfold Hk Z1
  rw [if_neg (by omega)]
  exact Qs.divInt (Nat.le_trans (J3.2 (show (Hl n 61-30).natAbs<2^10 by omega)) (by decide)) (Nat.le_trans (J3.2 (show (1+Hl d 6).natAbs<2^10 by omega)) (by decide)) (by decide)
theorem Q4a {n:Nat} {most:Int} {l:List RawPt}:∀ p∈Em n most l,0≤p.id∧p.id<1000:=fun p hp=>by
  rcases Ci _ _ hp with h | h
  · cases h
  · obtain ⟨z,_,rfl⟩:=List.mem_map.1 h
    exact ⟨Int.emod_nonneg _ (by decide),Int.emod_lt_of_pos _ (by decide)⟩
end Orr

namespace Orr
def Z3 (a b:Crv):List Int:=M9 (Zi (Xl a b) (Xl a b)) (Zi (Xk a b) (Xk a b))
def Q5 (a b c d:Crv):List Int:=Vn (Qx (Z3 c d) ((a.d*b.d)*(a.d*b.d))) (Qx (Z3 a b) ((c.d*d.d)*(c.d*d.d)))
theorem Qjn {a b:Crv} (ha:Cb a) (hb:Cb b):Qi (Z3 a b)∧(Z3 a b).length≤31∧Bd 4194312 (Z3 a b):=by
  obtain ⟨_,l1,b1⟩:=Qjo ha hb
  obtain ⟨_,l2,b2⟩:=Qjm ha hb
  have m1:=Ug (Xl a b) (Xl a b)
  have m2:=Ug (Xk a b) (Xk a b)
  have q1:=Gk (u:=5) b1 b1 (by omega)
  have q2:=Gk (u:=5) b2 b2 (by omega)
  refine ⟨Q9 _ _,?_,Qc (A4 q1 q2) (by omega)⟩
  have:=Cq (Zi (Xl a b) (Xl a b)) (Zi (Xk a b) (Xk a b))
  unfold Z3
  omega
theorem Ql9 {a b:Crv} (ha:Cb a) (hb:Cb b):Ql (a.d*b.d)≤2097152:=by
  have:=Q0 a.d b.d; have:=ha.d; have:=hb.d; omega
theorem Qpr {a b:Crv} (ha:Cb a) (hb:Cb b):Ql ((a.d*b.d)*(a.d*b.d))≤4194304:=by
  have:=Q0 (a.d*b.d) (a.d*b.d); have:=Ql9 ha hb; omega
def Jy (sg:List Int→Int) (a b c d:Pt):Ct:=⟨5,a.id,b.id,c.id,d.id,Q5 a.c b.c c.c d.c,Up sg (Q5 a.c b.c c.c d.c)⟩
theorem Qa8 (sg:List Int→Int) (a b c d:Pt):(Jy sg a b c d).p=Q5 a.c b.c c.c d.c:=by rw [Jy]
def Xp:Nat→List Pt→List (Pt×Pt)
  | 0,_=>[]
  | _+1,[]=>[]
  | k+1,x::l=>l.map (fun y=>(x,y))++Xp k l
def Qw (l:List Pt):List (Pt×Pt):=Xp l.length l
theorem Ai:∀ (l:List Pt) (i:Nat) (x:Pt),l[i]? = some x→Xp (i+1) l=Xp i l++(l.drop (i+1)).map (fun y=>(x,y))
  | [],i,x,h=>by simp at h
  |
   y::l,0,x,h=>by
   simp at h; subst h
   simp [Xp]
  |
   y::l,i+1,x,h=>by
   have h:l[i]? = some x:=by simpa using h
   have ih:=Ai l i x h
   show l.map (fun z=>(y,z))++Xp (i+1) l=(l.map (fun z=>(y,z))++Xp i l)++_
   rw [ih,List.append_assoc]
   rfl
theorem Jl:∀ (k:Nat) (l:List Pt),∀ m∈Xp k l,m.1∈l∧m.2∈l
  | 0,l,m,h=>by simp [Xp] at h
  | k+1,[],m,h=>by simp [Xp] at h
  |
   k+1,x::l,m,h=>by
   rcases List.mem_append.1 h with h | h
   · obtain ⟨y,hy,rfl⟩:=List.mem_map.1 h
     exact ⟨List.mem_cons_self ..,List.mem_cons_of_mem _ hy⟩
   · obtain ⟨h1,h2⟩:=Jl k l m h
     exact ⟨List.mem_cons_of_mem _ h1,List.mem_cons_of_mem _ h2⟩
theorem Ga:∀ (k:Nat) (l:List Pt),(Xp k l).length≤k*l.length
  | 0,l=>by simp [Xp]
  | k+1,[]=>by simp [Xp]
  |
   k+1,x::l=>by
   have:=Ga k l
   simp only [Xp,List.length_append,List.length_map,List.length_cons]
   have e:(k+1)*(l.length+1)=k*l.length+k+l.length+1:=by rw [Nat.add_mul,Nat.mul_add]; omega
   omega
def J0 (sg:List Int→Int) (s m:Pt×Pt):Pt×Pt:=if Up sg (Q5 s.1.c s.2.c m.1.c m.2.c)<0 then m else s
def Qy (sg:List Int→Int) (s:Pt×Pt) (ps:List (Pt×Pt)):Pt×Pt:=ps.foldl (J0 sg) s
theorem Mn (sg:List Int→Int) (s m:Pt×Pt):J0 sg s m=m∨J0 sg s m=s:=by
  unfold J0
  split
  · exact .inl rfl
  · exact .inr rfl
theorem U4 (sg:List Int→Int) (s m:Pt×Pt) (ps:List (Pt×Pt)):Qy sg s (m::ps)=Qy sg (J0 sg s m) ps:=by unfold Qy; rw [List.foldl_cons]
theorem Cy (sg:List Int→Int) (s:Pt×Pt) (ps:List (Pt×Pt)) (m:Pt×Pt):Qy sg s (ps++[m])=J0 sg (Qy sg s ps) m:=by simp [Qy]
theorem J7 (sg:List Int→Int) {l:List Pt}:∀ (ps:List (Pt×Pt)) (s:Pt×Pt),s.1∈l∧s.2∈l→(∀ m∈ps,m.1∈l∧m.2∈l)→(Qy sg s ps).1∈l∧(Qy sg s ps).2∈l
  | [],s,hs,_=>hs
  |
   m::ps,s,hs,h=>by
   have hn:(J0 sg s m).1∈l∧(J0 sg s m).2∈l:=by
     rcases Mn sg s m with e | e
     · rw [e]; exact h m (List.mem_cons_self ..)
     · rw [e]; exact hs
   rw [U4]
   exact J7 sg ps (J0 sg s m) hn fun x hx=>h x (List.mem_cons_of_mem _ hx)
def Uh (s m:Pt×Pt):Bool:=decide (m.1.id≠s.1.id) || decide (m.2.id≠s.2.id)
def Jg (sg:List Int→Int) (s:Pt×Pt) (ps:List (Pt×Pt)):List Ct:=(ps.filter (Uh s)).map fun m=>Jy sg s.1 s.2 m.1 m.2
theorem Qe9 {sg:List Int→Int} {s m:Pt×Pt} {ps:List (Pt×Pt)} (h:Uh s m=true):Jg sg s (ps++[m])=Jg sg s ps++[Jy sg s.1 s.2 m.1 m.2]:=by simp [Jg,List.filter_append,h]
theorem Qe8 {sg:List Int→Int} {s m:Pt×Pt} {ps:List (Pt×Pt)} (h:Uh s m=false):Jg sg s (ps++[m])=Jg sg s ps:=by simp [Jg,List.filter_append,h]
theorem Qct {sg:List Int→Int} {s:Pt×Pt} {ps:List (Pt×Pt)} {c:Ct} (h:c∈Jg sg s ps):∃ x∈ps,Jy sg s.1 s.2 x.1 x.2=c:=by
  unfold Jg at h
  obtain ⟨x,hx,e⟩:=List.mem_map.1 h
  exact ⟨x,(List.mem_filter.1 hx).1,e⟩
theorem Hu (sg:List Int→Int) (s:Pt×Pt) (ps:List (Pt×Pt)):(Jg sg s ps).length≤ps.length:=by
  unfold Jg
  rw [List.length_map]
  exact List.length_filter_le _ _
def Tz (sg:List Int→Int):List Pt→List Pt
  | a::b::l=>[(Qy sg (a,b) (Qw (a::b::l))).1,(Qy sg (a,b) (Qw (a::b::l))).2]
  | _=>[]
def Kd (sg:List Int→Int):List Pt→List Ct
  | a::b::l=>Jg sg (Qy sg (a,b) (Qw (a::b::l))) (Qw (a::b::l))
  | _=>[]
theorem Ei (sg:List Int→Int) {l:List Pt} (h:l.length<2):Tz sg l=[]∧Kd sg l=[]:=by
  match l,h with
  | [],_=>exact ⟨rfl,rfl⟩
  | [a],_=>exact ⟨rfl,rfl⟩
theorem Qg3 {l:List Pt} (h:¬l.length<2):∃ a b m,l=a::b::m:=by
  match l,h with
  | [],h=>simp at h
  | [a],h=>simp at h
  | a::b::m,_=>exact ⟨a,b,m,rfl⟩
theorem Qdx (sg:List Int→Int) (l:List Pt):(Kd sg l).length≤l.length*l.length:=by
  match l with
  | []=>simp [Kd]
  | [a]=>simp [Kd]
  | a::b::m=>exact Nat.le_trans (Hu _ _ _) (Ga _ _)
end Orr

namespace Orq
open Orr Go
theorem Np {a b c d:Crv} (ha:Sc a) (hb:Sc b) (hc:Sc c) (hd:Sc d):Cp (Q5 a b c d):=by
  have lr:∀ {a b:Crv},Sc a→Sc b→(Xl a b).length≤3∧(Xk a b).length≤3:=fun {a b} ha hb=>by
    have:=Vs (Qx b.x a.d) (Qx a.x b.d); have:=Qu b.x a.d; have:=Qu a.x b.d
    have:=Vs (Qx b.y a.d) (Qx a.y b.d); have:=Qu b.y a.d; have:=Qu a.y b.d
    have:=ha.c.lx; have:=hb.c.lx; have:=ha.c.ly; have:=hb.c.ly
    unfold Xl Xk; omega
  have ap:∀ {a b:Crv},Sc a→Sc b→(Z3 a b).length≤5∧Bd 365 (Z3 a b):=fun {a b} ha hb=>by
    obtain ⟨l1,l2⟩:=lr ha hb
    have b1:Bd 181 (Xl a b):=Wx (Qz hb.c.x ha.c.d) (Qz ha.c.x hb.c.d)
    have b2:Bd 181 (Xk a b):=Wx (Qz hb.c.y ha.c.d) (Qz ha.c.y hb.c.d)
    have q1:=Gk (u:=2) b1 b1 (by omega)
    have q2:=Gk (u:=2) b2 b2 (by omega)
    refine ⟨?_,Qc (A4 q1 q2) (by omega)⟩
    have:=Cq (Zi (Xl a b) (Xl a b)) (Zi (Xk a b) (Xk a b))
    have:=Ug (Xl a b) (Xl a b); have:=Ug (Xk a b) (Xk a b)
    unfold Z3; omega
  have dd:∀ {a b:Crv},Sc a→Sc b→Ql ((a.d*b.d)*(a.d*b.d))≤360:=fun {a b} ha hb=>by
    have:=Q0 a.d b.d; have:=Q0 (a.d*b.d) (a.d*b.d); have:=ha.c.d; have:=hb.c.d; omega
  obtain ⟨l1,b1⟩:=ap hc hd
  obtain ⟨l2,b2⟩:=ap ha hb
  refine ⟨Q9 _ _,?_,Qc (Wx (Qz b1 (dd ha hb)) (Qz b2 (dd hc hd))) (by omega)⟩
  have:=Vs (Qx (Z3 c d) ((a.d*b.d)*(a.d*b.d))) (Qx (Z3 a b) ((c.d*d.d)*(c.d*d.d)))
  have:=Qu (Z3 c d) ((a.d*b.d)*(a.d*b.d)); have:=Qu (Z3 a b) ((c.d*d.d)*(c.d*d.d))
  unfold Q5; omega
def dsq (m:Pt×Pt) (q:Rat):Rat:=(px m.2 q-px m.1 q)*(px m.2 q-px m.1 q)+(py m.2 q-py m.1 q)*(py m.2 q-py m.1 q)
theorem Q26 {a b c d:Pt} (ha:Sc a.c) (hb:Sc b.c) (hc:Sc c.c) (hd:Sc d.c) (q:Rat):Qp (Qh (Q5 a.c b.c c.c d.c) q)=Qp (dsq (c,d) q-dsq (a,b) q):=by
  have U6:∀ {z:Int},0<z→(0:Rat)<(z:Rat):=fun {z} h=>by exact_mod_cast h
  have pa:=U6 ha.n.2.2.1
  have pb:=U6 hb.n.2.2.1
  have pc:=U6 hc.n.2.2.1
  have pd:=U6 hd.n.2.2.1
  have xx:∀ {p:Pt},0<(p.c.d:Rat)→Qh p.c.x q=px p q*(p.c.d:Rat)∧Qh p.c.y q=py p q*(p.c.d:Rat):=fun {p} h=>by
    unfold px py
    exact ⟨(Rat.div_mul_cancel (by grind)).symm,(Rat.div_mul_cancel (by grind)).symm⟩
  obtain ⟨xa,ya⟩:=xx pa
  obtain ⟨xb,yb⟩:=xx pb
  obtain ⟨xc,yc⟩:=xx pc
  obtain ⟨xd,yd⟩:=xx pd
  have e:Qh (Q5 a.c b.c c.c d.c) q=(((a.c.d:Rat)*b.c.d)*((a.c.d:Rat)*b.c.d))*(((c.c.d:Rat)*d.c.d)*((c.c.d:Rat)*d.c.d))*(dsq (c,d) q-dsq (a,b) q):=by
    unfold Q5 Z3 Xl Xk dsq
    simp only [Gb,Yb,Qjr,Za,Rat.intCast_mul]
    rw [xa,xb,xc,xd,ya,yb,yc,yd]
    grind
  rw [e,Tt]
  have h1:=Rat.mul_pos pa pb
  have h2:=Rat.mul_pos pc pd
  exact Rat.mul_pos (Rat.mul_pos h1 h1) (Rat.mul_pos h2 h2)
def Qb3 (l:List Pt):List (List Int):=l.flatMap fun a=>l.flatMap fun b=>l.flatMap fun c=>l.map fun d=>Q5 a.c b.c c.c d.c
theorem I9 {l:List Pt} {a b c d:Pt} (ha:a∈l) (hb:b∈l) (hc:c∈l) (hd:d∈l):Q5 a.c b.c c.c d.c∈Qb3 l :=
  List.mem_flatMap.2 ⟨a,ha,List.mem_flatMap.2 ⟨b,hb,List.mem_flatMap.2 ⟨c,hc,List.mem_map.2 ⟨d,hd,rfl⟩⟩⟩⟩
theorem Bv {l:List Pt} (hl:∀ p∈l,Sc p.c):∀ p∈Qb3 l,Cp p:=fun p hp=>by
  obtain ⟨a,ha,hp⟩:=List.mem_flatMap.1 hp
  obtain ⟨b,hb,hp⟩:=List.mem_flatMap.1 hp
  obtain ⟨c,hc,hp⟩:=List.mem_flatMap.1 hp
  obtain ⟨d,hd,rfl⟩:=List.mem_map.1 hp
  exact Np (hl a ha) (hl b hb) (hl c hc) (hl d hd)
theorem Qpg {l:List Pt} (hl:∀ p∈l,Sc p.c) {a:Tm} (ha:Va a):∃ y,Q3 a y=-1∧∀ q,Q3 a q=-1→q≤y→∀ s m:Pt×Pt,s.1∈l→s.2∈l→m.1∈l→m.2∈l→Up (Jj a) (Q5 s.1.c s.2.c m.1.c m.2.c)=Qp (dsq m q-dsq s q):=by
  obtain ⟨y,y1,y2⟩:=Qio ha (Qb3 l) fun p hp=>(Bv hl p hp).dp
  refine ⟨y,y1,fun q q1 q2 s m h1 h2 h3 h4=>?_⟩
  rw [y2 q q1 q2 _ (I9 h1 h2 h3 h4),Q26 (hl _ h1) (hl _ h2) (hl _ h3) (hl _ h4)]
def W9 (f:Pt×Pt→Rat) (P:List (Pt×Pt)) (r:Pt×Pt):Prop:=∃ P1 P2,P=P1++r::P2∧(∀ m∈P1,f r<f m)∧∀ m∈P2,f r≤f m
theorem Qc5 {f:Pt×Pt→Rat}:∀ {P:List (Pt×Pt)} {r r':Pt×Pt},W9 f P r→W9 f P r'→r=r'
  | [],r,r',⟨P1,P2,h,_⟩,_=>by simp at h
  |
   x::P,r,r',⟨P1,P2,h,h1,h2⟩,⟨Q1,Q2,h',h1',h2'⟩=>by
   cases P1 with
   |
    nil =>
    simp at h
    cases Q1 with
    | nil=>simp at h'; exact h.1.symm.trans h'.1
    |
     cons y Q1 =>
     simp at h'
     exfalso
     obtain ⟨rfl,rfl⟩:=h
     obtain ⟨rfl,rfl⟩:=h'
     have a1:=h1' x (by simp)
     have a2:=h2 r' (by simp)
     grind
   |
    cons y P1 =>
    simp at h
    cases Q1 with
    |
     nil =>
     simp at h'
     exfalso
     obtain ⟨rfl,rfl⟩:=h
     obtain ⟨rfl,rfl⟩:=h'
     have a1:=h1 x (by simp)
     have a2:=h2' r (by simp)
     grind
    |
     cons z Q1 =>
     simp at h h'
     exact Qc5 (P:=P) ⟨P1,P2,h.2,fun m hm=>h1 m (by simp [hm]),h2⟩ ⟨Q1,Q2,h'.2,fun m hm=>h1' m (by simp [hm]),h2'⟩
theorem Q27 {f:Pt×Pt→Rat} {P:List (Pt×Pt)} {r m:Pt×Pt} (h:W9 f P r):W9 f (P++[m]) (if f m<f r then m else r):=by
  obtain ⟨P1,P2,rfl,h1,h2⟩:=h
  by_cases e:f m<f r
  · rw [if_pos e]
    refine ⟨P1++r::P2,[],rfl,fun x hx=>?_,fun x hx=>by cases hx⟩
    rcases List.mem_append.1 hx with hx | hx
    · have:=h1 x hx; grind
    · rcases List.mem_cons.1 hx with rfl | hx
      · exact e
      · have:=h2 x hx; grind
  · rw [if_neg e]
    refine ⟨P1,P2++[m],by simp,h1,fun x hx=>?_⟩
    rcases List.mem_append.1 hx with hx | hx
    · exact h2 x hx
    · rw [List.mem_singleton.1 hx]; grind
theorem Qpj {f:Pt×Pt→Rat} {sg:List Int→Int} {l:List Pt} (hg:∀ s m:Pt×Pt,s.1∈l→s.2∈l→m.1∈l→m.2∈l→Up sg (Q5 s.1.c s.2.c m.1.c m.2.c)=Qp (f m-f s)):∀ (ps P:List (Pt×Pt)) (s:Pt×Pt),s.1∈l∧s.2∈l→(∀ m∈ps,m.1∈l∧m.2∈l)→W9 f P s→W9 f (P++ps) (Qy sg s ps)
  | [],P,s,_,_,h=>by rw [List.append_nil]; exact h
  |
   m::ps,P,s,hs,hp,h=>by
   rw [U4]
   have hm:=hp m (by simp)
   have e:J0 sg s m=if f m<f s then m else s:=by
     unfold J0
     rw [hg s m hs.1 hs.2 hm.1 hm.2]
     have:=Ze (f m-f s)
     by_cases h:f m<f s
     · rw [if_pos h,if_pos (by grind)]
     · rw [if_neg h,if_neg (by grind)]
   have hn:(J0 sg s m).1∈l∧(J0 sg s m).2∈l:=by
     rcases Mn sg s m with e | e <;> rw [e] <;> assumption
   have:=Qpj hg ps (P++[m]) (J0 sg s m) hn (fun x hx=>hp x (List.mem_cons_of_mem _ hx)) (by rw [e]; exact Q27 h)
   rwa [List.append_assoc] at this
theorem Qmo (a b:Pt) (l:List Pt):∃ P,Qw (a::b::l)=(a,b)::P:=⟨_,rfl⟩
theorem Qqc {f:Pt×Pt→Rat} {sg:List Int→Int} {a b:Pt} {l:List Pt} (hg:∀ s m:Pt×Pt,s.1∈a::b::l→s.2∈a::b::l→m.1∈a::b::l→m.2∈a::b::l→Up sg (Q5 s.1.c s.2.c m.1.c m.2.c)=Qp (f m-f s)):W9 f (Qw (a::b::l)) (Qy sg (a,b) (Qw (a::b::l))):=by
  obtain ⟨P,hP⟩:=Qmo a b l
  have hm:=Jl (a::b::l).length (a::b::l)
  have hm:∀ m∈Qw (a::b::l),m.1∈a::b::l∧m.2∈a::b::l:=hm
  rw [hP] at hm ⊢
  have h:=Qpj hg P [(a,b)] (a,b) (hm (a,b) (by simp)) (fun m h=>hm m (by simp [h])) ⟨[],[],rfl,fun m h=>(by cases h),fun m h=>(by cases h)⟩
  rw [U4]
  have e:J0 sg (a,b) (a,b)=(a,b):=by rcases Mn sg (a,b) (a,b) with e | e <;> exact e
  rw [e]; exact h
theorem Qrb {l:List Pt} (hd:l.Pairwise fun x y=>x.id≠y.id) {u v:Pt} (hu:u∈l) (hv:v∈l) (h:u.id=v.id):u=v:=by
  by_cases e:u=v
  · exact e
  · rcases Q6h hd hu hv e with h' | h'
    · exact absurd h h'
    · exact absurd h.symm h'
theorem Qtd {l:List Pt} (hl:∀ p∈l,Sc p.c) (hd:l.Pairwise fun x y=>x.id≠y.id) {a b:Tm} (ha:Va a) (hb:Va b) (h:∀ x∈Kd (Jj a) l,Up (Jj b) x.p=Up (Jj a) x.p):Tz (Jj b) l=Tz (Jj a) l∧Kd (Jj b) l=Kd (Jj a) l:=by
  match l,hl,hd,h with
  | [],_,_,_=>exact ⟨rfl,rfl⟩
  | [x],_,_,_=>exact ⟨rfl,rfl⟩
  |
   u::v::l',hl,hd,h =>
   obtain ⟨y,y1,y2⟩:=Qpg hl ha
   obtain ⟨z,z1,z2⟩:=Qpg hl hb
   have ga:=y2 y y1 Rat.le_refl
   have gb:=z2 z z1 Rat.le_refl
   have fa:=Qqc (f:=fun m=>dsq m y) ga
   have fb:=Qqc (f:=fun m=>dsq m z) gb
   simp only [Tz,Kd] at h ⊢
   have hm:∀ m∈Qw (u::v::l'),m.1∈u::v::l'∧m.2∈u::v::l':=Jl _ _
   generalize u::v::l'=l at *
   obtain ⟨r,hr⟩:∃ r,r=Qy (Jj a) (u,v) (Qw l):=⟨_,rfl⟩
   rw [←hr] at fa h ⊢
   obtain ⟨P1,P2,hP,h1,h2⟩:=fa
   have hrm:r∈Qw l:=by rw [hP]; simp
   have hrl:=hm r hrm
   -- signs that are told by certificates stay
   have key:∀ m∈Qw l,m=r∨Up (Jj b) (Q5 r.1.c r.2.c m.1.c m.2.c)=Up (Jj a) (Q5 r.1.c r.2.c m.1.c m.2.c):=fun m hmm=>by
     have hml:=hm m hmm
     by_cases e:Uh r m=true
     · right
       have h0:=h (Jy (Jj a) r.1 r.2 m.1 m.2) (by unfold Jg; exact List.mem_map.2 ⟨m,List.mem_filter.2 ⟨hmm,e⟩,rfl⟩)
       rw [Qa8] at h0; exact h0
     · left
       unfold Uh at e
       simp at e
       have e1:=Qrb hd hml.1 hrl.1 e.1
       have e2:=Qrb hd hml.2 hrl.2 e.2
       exact Prod.ext e1 e2
   have fb':W9 (fun m=>dsq m z) (Qw l) r:=by
     refine ⟨P1,P2,hP,fun m hmm=>?_,fun m hmm=>?_⟩
     · have hmp:m∈Qw l:=by rw [hP]; simp [hmm]
       have hlt:=h1 m hmm
       have hml:=hm m hmp
       rcases key m hmp with e | e
       · exfalso; rw [e] at hlt; dsimp only at hlt; grind
       · rw [ga r m hrl.1 hrl.2 hml.1 hml.2,gb r m hrl.1 hrl.2 hml.1 hml.2] at e
         dsimp only at hlt ⊢
         rw [Xh.2 (by grind:0<dsq m y-dsq r y)] at e
         have:=Xh.1 e; grind
     · have hmp:m∈Qw l:=by rw [hP]; simp [hmm]
       have hlt:=h2 m hmm
       have hml:=hm m hmp
       rcases key m hmp with e | e
       · rw [e]; exact Rat.le_refl
       · rw [ga r m hrl.1 hrl.2 hml.1 hml.2,gb r m hrl.1 hrl.2 hml.1 hml.2] at e
         dsimp only at hlt ⊢
         have t1:=Ze (dsq m y-dsq r y)
         have t2:=Ze (dsq m z-dsq r z)
         grind
   have er:=Qc5 fb fb'
   rw [er]
   refine ⟨rfl,?_⟩
   unfold Jg
   refine List.map_congr_left fun m hmm=>?_
   have hmp:=(List.mem_filter.1 hmm).1
   rcases key m hmp with e | e
   · exfalso
     have:=(List.mem_filter.1 hmm).2
     rw [e] at this; unfold Uh at this; simp at this
   · unfold Jy; rw [e]
theorem Zbi {l:List Pt} (hl:∀ p∈l,Sc p.c) (hn:l.length≤10) (hd:l.Pairwise fun x y=>x.id≠y.id):Stab (fun a=>Kd (Jj a) l) (fun a=>Qn (Tz (Jj a) l)):=by
  have hcp:∀ a,∀ x∈Kd (Jj a) l,x.p∈Qb3 l:=fun a x hx=>by
    match l,hx with
    |
     u::v::l',hx =>
     simp only [Kd] at hx
     obtain ⟨h3,h4⟩:=J7 (Jj a) (l:=u::v::l') (Qw (u::v::l')) (u,v) ⟨by simp,by simp⟩ (Jl _ _)
     obtain ⟨m,hm,rfl⟩:=Qct hx
     obtain ⟨h1,h2⟩:=Jl _ _ m hm
     rw [Qa8]
     exact I9 h3 h4 h1 h2
  refine ⟨⟨fun a _ x hx=>Bv hl _ (hcp a x hx),fun a _=>?_⟩,⟨Qb3 l,Bv hl,fun a _=>hcp a⟩,fun a b ha hb h=>?_⟩
  · have:=Qdx (Jj a) l
    have:l.length*l.length≤10*10:=Nat.mul_le_mul hn hn
    show (Kd (Jj a) l).length≤1000
    omega
  · obtain ⟨h1,h2⟩:=Qtd hl hd ha hb h
    exact ⟨h2,by show Qn _=Qn _; rw [h1]⟩
end Orq

namespace Orq
open Orr Go
structure Quiet {β:Type} (Bc:Tm→List Ct) (Br:Tm→β) (a b:Tm):Prop where
  va:Va a
  vb:Va b
  le:¬Un b a
  n:∀ x∈Bc a,∃ o,Ut x.p a o∧∀ u,o=some u→Un b u
section
variable {β:Type} {Bc:Tm→List Ct} {Br:Tm→β} (S:Stab Bc Br)
include S
theorem Quiet.same {a b:Tm} (h:Quiet Bc Br a b):Bc b=Bc a∧Br b=Br a:=by
  refine S.st a b h.va h.vb fun x hx=>?_
  obtain ⟨o,o1,o2⟩:=h.n x hx
  exact Qdf (S.ok.p _ h.va _ hx).dp h.va h.vb h.le o1 o2
end
theorem Q46 {p:List Int} (h:Cp p):(tms p).length≤67:=by
  obtain ⟨l,l1,l2,_⟩:=P9 h
  unfold tms; rw [l1]; exact l2
theorem Qri:∀ {Ps:List (List Int)},(∀ p∈Ps,Cp p)→(Ps.flatMap tms).length≤67*Ps.length
  | [],_=>Nat.zero_le _
  |
   p::Ps,h=>by
   have h1:=Q46 (h p (by simp))
   have h2:=Qri (Ps:=Ps) fun q hq=>h q (List.mem_cons_of_mem _ hq)
   rw [List.flatMap_cons,List.length_append,List.length_cons]; omega
theorem Za2 (T:List Tm) (a:Tm):mu T a≤T.length:=List.length_filter_le _ _
theorem Q6t {β:Type} {Bc:Tm→List Ct} {Br:Tm→β} (S:Stab Bc Br) {Ps:List (List Int)} (hP:∀ p∈Ps,Cp p) (hPs:∀ a,Va a→∀ x∈Bc a,x.p∈Ps) (hl:Ps.length≤1000000) {t:Rat} (ht:Qs 900 t) {c:Cr} {r:β} (hS:KSt Bc Br c r) (h:Q3 c.now t≤0) :
    ∃ (K:Nat) (c':Cr) (E:List Tm),K≤67000001∧goF Bc Br t K c r 0=some (c',Br (tq t),((E.length:Nat):Int))∧c'.now=tq t∧KSt Bc Br c' (Br (tq t))∧c'.ev=c.ev+((E.length:Nat):Int)∧E.length≤67000000∧Evs Bc t c.now E:=by
  have hm:=Qri hP
  have hmu:=Za2 (Ps.flatMap tms) c.now
  have hv:=hS.inv.ok.n
  obtain ⟨c',r',E,g1,g2,g3,g4,g5,g6⟩:=Zas S ht hP hPs (mu (Ps.flatMap tms) c.now) c r 0 (Nat.le_refl _) hS fun h'=>by
    have:=(O2 hv.cut).2 h'; omega
  have hr:r'=Br (tq t):=by rw [g3.r,g2]
  rw [hr] at g1 g3
  rw [Int.zero_add] at g1
  exact ⟨_,c',E,by omega,g1,g2,g3,g4,by omega,g6⟩
theorem Q60 {β:Type} {Bc:Tm→List Ct} {Br:Tm→β} (S:Stab Bc Br) {a:Tm} (ha:Va a):KSt Bc Br ⟨a,(Zb (Bc a)).map fresh,0⟩ (Br a):=by
  refine ⟨⟨⟨ha,fun w hw=>?_,?_⟩,fun w hw hk=>?_⟩,?_,rfl⟩
  · obtain ⟨x,hx,rfl⟩:=List.mem_map.1 hw
    exact ⟨S.ok.p _ ha x (Rm hx),fun t ht=>by cases ht⟩
  · show ((Zb (Bc a)).map fresh).length≤1000
    rw [List.length_map,Fh]; exact S.ok.n _ ha
  · obtain ⟨x,hx,rfl⟩:=List.mem_map.1 hw
    cases hk
  · show ((Zb (Bc a)).map fresh).map (·.c)=Zb (Bc a)
    rw [List.map_map]
    show (Zb (Bc a)).map (fun x=>x)=_
    rw [List.map_id']
end Orq

namespace Orr
open Go Go.Proofs Orq
set_option maxRecDepth 10000
def Po:Nat→List LV→List LV
  | _,[]=>[]
  | 0,x::l=>Cz x::l
  | k+1,x::l=>x::Po k l
theorem Qdu:∀ (k:Nat) (l:List LV),(Po k l).length=l.length
  | _,[]=>by cases ‹Nat› <;> rfl
  | 0,x::l=>rfl
  | k+1,x::l=>by simp only [Po,List.length_cons,Qdu k l]
theorem Qdt:∀ (k:Nat) (l:List LV) {j:Nat} {y:LV},(Po k l)[j]? = some y→∃ x,l[j]? = some x∧(y=x∨y=Cz x)
  | 0,[],_,_,h=>by simp [Po] at h
  | _+1,[],_,_,h=>by simp [Po] at h
  | 0,x::l,0,y,h=>by simp [Po] at h; exact ⟨x,rfl,.inr h.symm⟩
  | 0,x::l,j+1,y,h=>by simp [Po] at h; exact ⟨y,by simpa using h,.inl rfl⟩
  | k+1,x::l,0,y,h=>by simp [Po] at h; exact ⟨x,rfl,.inl h.symm⟩
  |
   k+1,x::l,j+1,y,h=>by
   simp only [Po,List.getElem?_cons_succ] at h
   obtain ⟨z,h1,h2⟩:=Qdt k l h
   exact ⟨z,by simpa using h1,h2⟩
theorem nlc {P:Program} [Mo P] {n:Nat} {Q:Exit→Sg→List OB→Prop} {L:Sg} {B B':List OB} (i d:Nat) {T:TypeId} {xs:List LV} {it:List It} (hs:Jn it=true) (hb:Rt B i=some (.blk T xs)) (hB:Hj B i (.blk T (Po d xs))=some B') (k:AK P n Q it L B'):AK P n Q it L B:=by
  obtain ⟨rfl,hl⟩:=K7 hB
  have hbi:B[i]? = some (.blk T xs):=Ym ▸ hb
  refine AK.sub (fun F E M a w h=>⟨E,M,?_,h.size,h.defers,h.slots⟩) hs k
  rw [Eh,Ny hbi]
  refine h.hs.re (fun j=>?_) (fun j=>?_) (fun j=>?_) fun j hj=>?_
  · by_cases e:j=i
    · subst e
      rw [Qq]
      obtain ⟨g,c,m,h1,cs,h2,h3⟩:=h.blk hb
      refine ⟨g,c,m,h1,cs,h2,F2.of (by rw [Qdu]; exact h3.len) fun k v x hv hx=>?_⟩
      obtain ⟨y,hy,hyx⟩:=Qdt _ _ hx
      rcases hyx with rfl | rfl
      · exact h3.get' hv hy
      · exact Qqf (h3.get' hv hy)
    · rw [Q6 _ _ e]; exact h.hs.blk j
  · by_cases e:j=i
    · subst e; rw [Qq,Jh hbi]; rfl
    · rw [Q6 _ _ e]
  · by_cases e:j=i
    · subst e; rw [Qq,Jh hbi]; rfl
    · rw [Q6 _ _ e]
  · by_cases e:j=i
    · subst e; rw [Jh hbi] at hj; cases hj
    · rw [Q6 _ _ e]; exact hj
theorem Q55 {l m:List (List LV)} (h:l=m):TV.one (LV.row l)=.one (.row m):=h ▸ rfl
theorem Qhs {a b:Crv} (ha:Nml a) (hb:Nml b) (ca:Cb a) (cb:Cb b):Qd Tryz.prog 185 [.agg (cl a),.agg (cl b)] [pr (Z3 a b)]:=by
  obtain ⟨p1,l1,b1⟩:=Qjo ca cb
  obtain ⟨p2,l2,b2⟩:=Qjm ca cb
  have m1:=Ug (Xl a b) (Xl a b)
  have m2:=Ug (Xk a b) (Xk a b)
  have q1:=Gk (u:=5) b1 b1 (by omega)
  have q2:=Gk (u:=5) b2 b2 (by omega)
  exact w tt Tryz.func185 rfl [.c [] (Q12 ha hb ca cb),.c [] (Q1o ha hb ca cb),.c [] (Qle p1.t p1.t (by omega) (by omega) b1 b1 (by omega)),.c [] (Qle p2.t p2.t (by omega) (by omega) b2 b2 (by omega)),.c [] (Quw (by omega) (by omega) (Qc q1 (by omega)) (Qc q2 (by omega)))] rfl rfl trivial
theorem Qr0 {a b c d:Crv} (ha:Nml a) (hb:Nml b) (hc:Nml c) (hd:Nml d) (ca:Cb a) (cb:Cb b) (cc:Cb c) (cd:Cb d):Qd Tryz.prog 130 [.agg (cl a),.agg (cl b),.agg (cl c),.agg (cl d)] [pr (Q5 a b c d)]:=by
  have na:=Gn ha (ca.mono (by omega) (by omega))
  have nb:=Gn hb (cb.mono (by omega) (by omega))
  have nc:=Gn hc (cc.mono (by omega) (by omega))
  have nd:=Gn hd (cd.mono (by omega) (by omega))
  have s1:=Ql9 ca cb
  have s2:=Ql9 cc cd
  have s3:=Qpr ca cb
  have s4:=Qpr cc cd
  have da:=ca.d
  have db:=cb.d
  have dc:=cc.d
  have dd:=cd.d
  obtain ⟨t1,l1,b1⟩:=Qjn cc cd
  obtain ⟨t2,l2,b2⟩:=Qjn ca cb
  have k1:=Qu (Z3 c d) ((a.d*b.d)*(a.d*b.d))
  have k2:=Qu (Z3 a b) ((c.d*d.d)*(c.d*d.d))
  have w1:=Kn (Qe a.d) (Qe b.d) (by omega) (by omega)
  have w2:=Kn (Qe c.d) (Qe d.d) (by omega) (by omega)
  have w3:=Kn (Qe (a.d*b.d)) (Qe (a.d*b.d)) (by omega) (by omega)
  have w4:=Kn (Qe (c.d*d.d)) (Qe (c.d*d.d)) (by omega) (by omega)
  have p1:=Ua (p:=Z3 c d) (c:=(a.d*b.d)*(a.d*b.d)) (by omega) (Qc b1 (by omega)) (by omega)
  have p2:=Ua (p:=Z3 a b) (c:=(c.d*d.d)*(c.d*d.d)) (by omega) (Qc b2 (by omega)) (by omega)
  have p3:=Om (p:=Qx (Z3 c d) ((a.d*b.d)*(a.d*b.d))) (q:=Qx (Z3 a b) ((c.d*d.d)*(c.d*d.d))) (by omega) (by omega) (Qc (Qz b1 s3) (by omega)) (Qc (Qz b2 s4) (by omega))
  exact w tt Tryz.func130 rfl [.c [] na,.c [] nb,.c [] w1,.c [] nc,.c [] nd,.c [] w2,.c [] (Qhs hc hd cc cd),.c [] w3,.c [] p1,.c [] (Qhs ha hb ca cb),.c [] w4,.c [] p2,.c [] p3] rfl rfl trivial
theorem Oh {a b c d:Pt} (ha:Sc a.c) (hb:Sc b.c) (hc:Sc c.c) (hd:Sc d.c):Qd Tryz.prog 130 [.agg (cl a.c),.agg (cl b.c),.agg (cl c.c),.agg (cl d.c)] [pr (Q5 a.c b.c c.c d.c)]:=Qr0 ha.n hb.n hc.n hd.n ha.cb hb.cb hc.cb hd.cb
set_option maxHeartbeats 1000000 in
theorem Q1w {a b c d:Pt} {t:Tm} (ha:Sc a.c) (hb:Sc b.c) (hc:Sc c.c) (hd:Sc d.c) (ht:Va t):Qd Tryz.prog 132 [.one (.int .i64 5),.agg (ta t),.one (.row [Zu a,Zu b,Zu c,Zu d])] [.agg (Ax (Jy (Jj t) a b c d)),.one (.int .i64 0)]:=by
  have hp:=(Np ha hb hc hd).dp
  have e:Ax (Jy (Jj t) a b c d)=[.int .i64 5,.int .i64 a.id,.int .i64 b.id,.int .i64 c.id,.int .i64 d.id,pl (Q5 a.c b.c c.c d.c),.int .i64 (Up (Jj t) (Q5 a.c b.c c.c d.c))]:=by rw [Jy]
  rw [e]
  have cg:=Q5v hp ht
  have cf:=Oh ha hb hc hd
  generalize Q5 a.c b.c c.c d.c=F at *
  refine Z7 Tryz.func132 rfl ?_
  refine go tt [.c [] Qsa,.f rfl] rfl trivial ?_
  refine lp (S:=Nat) 3 (fun L1 i=>(22,.v (.one (.int .i64 (i:Int))))::L1) (fun i=>[.blk 67 (ta t),.blk 161 zCt,.blk 161 [.int .i64 5,.int .i64 (if 1≤i then a.id else 0),.int .i64 (if 2≤i then b.id else 0),.int .i64 (if 3≤i then c.id else 0),.int .i64 (if 4≤i then d.id else 0),.nils,.int .i64 0]]) (fun i=>4-i) (fun i=>i≤4) 0 (Nat.zero_le _) rfl (fun _ _=>rfl) rfl fun i hi=>?_
  rcases (show i=0∨i=1∨i=2∨i=3∨i=4 by omega) with rfl | rfl | rfl | rfl | rfl
  · refine go tt [.t rfl,.x (i:=0) (xs:=Zu a) rfl,.i 0] rfl (by simp [Qa]) ?_
    exact rd 1 (by omega) (by omega) rfl
  · refine go tt [.t rfl,.x (i:=1) (xs:=Zu b) rfl,.i 1] rfl (by simp [Qa]) ?_
    exact rd 2 (by omega) (by omega) rfl
  · refine go tt [.t rfl,.x (i:=2) (xs:=Zu c) rfl,.i 2] rfl (by simp [Qa]) ?_
    exact rd 3 (by omega) (by omega) rfl
  · refine go tt [.t rfl,.x (i:=3) (xs:=Zu d) rfl,.i 3] rfl (by simp [Qa]) ?_
    exact rd 4 (by omega) (by omega) rfl
  · exact en tt [.f rfl,.f rfl,.f rfl,.f rfl,.f rfl,.x (i:=0) (xs:=Zu a) rfl,.x (i:=1) (xs:=Zu b) rfl,.x (i:=2) (xs:=Zu c) rfl,.x (i:=3) (xs:=Zu d) rfl,.c [] cf,.c [] cg] rfl rfl trivial
theorem Q7h {s m:Pt×Pt} {t:Tm} (h1:Sc s.1.c) (h2:Sc s.2.c) (h3:Sc m.1.c) (h4:Sc m.2.c) (ht:Va t):Zw Tryz.prog 128 [.agg (Zu m.1),.agg (Zu m.2),.one (.ow 0 0),.one (.ow 1 0),.one (.ow 2 0)] [.blk 35 (Zu s.1),.blk 35 (Zu s.2),.blk 67 (ta t)] [] [.blk 35 (Zu (J0 (Jj t) s m).1),.blk 35 (Zu (J0 (Jj t) s m).2),.blk 67 (ta t)]:=by
  have cf:=Oh h1 h2 h3 h4
  have cg:=Q5v (Np h1 h2 h3 h4).dp ht
  unfold J0
  refine Z7 Tryz.func128 rfl ?_
  by_cases h:Up (Jj t) (Q5 s.1.c s.2.c m.1.c m.2.c)<0
  · rw [if_pos h]
    exact ed tt [] [0,1,2] [.c [] cf,.c [] cg,.t (decide_eq_true h)] rfl trivial
  · rw [if_neg h]
    exact ed tt [] [0,1,2] [.c [] cf,.c [] cg,.f (decide_eq_false h)] rfl trivial
theorem Q7d {s m:Pt×Pt} {t:Tm} {L:List Ct} (h1:Sc s.1.c) (h2:Sc s.2.c) (h3:Sc m.1.c) (h4:Sc m.2.c) (ht:Va t) (hL:L.length≤1000000):Zw Tryz.prog 131 [.agg (Zu m.1),.agg (Zu m.2),.one (.ow 0 0),.one (.ow 1 0),.one (.ow 2 0),.one (.ow 3 0)] [.blk 35 (Zu s.1),.blk 35 (Zu s.2),.blk 67 (ta t),.blk 77 [.orow 4 7 none],.row false 161 7 (Z0 L)] [] [.blk 35 (Zu s.1),.blk 35 (Zu s.2),.blk 67 (ta t),.blk 77 [.orow 4 7 none],.row false 161 7 (Z0 (if Uh s m=true then L++[Jy (Jj t) s.1 s.2 m.1 m.2] else L))]:=by
  have cm:=Q1w h1 h2 h3 h4 ht
  have hq:∀ y∈[Ax (Jy (Jj t) s.1 s.2 m.1 m.2)],y.length=7:=fun y hy=>by rw [List.mem_singleton.1 hy]; rfl
  have hcl:=Fp L
  have hsn:Z0 (L++[Jy (Jj t) s.1 s.2 m.1 m.2])=Z0 L++[Ax (Jy (Jj t) s.1 s.2 m.1 m.2)]:=by simp [Z0]
  refine Z7 Tryz.func131 rfl ?_
  by_cases e1:m.1.id=s.1.id
  · by_cases e2:m.2.id=s.2.id
    · rw [if_neg (by simp [Uh,e1,e2])]
      exact ed tt [] [0,1,2,3,4] [.g 15 false (by simp [e1]),.f (by simp [e2])] rfl trivial
    · rw [if_pos (by simp [Uh,e2]),hsn]
      exact ed tt [] [0,1,2,3,4] [.g 15 false (by simp [e1]),.t (by simp [e2]),.c [] cm,.s (sz:=7) hq] rfl (by simp [Qa,hcl]; omega)
  · rw [if_pos (by simp [Uh,e1]),hsn]
    exact ed tt [] [0,1,2,3,4] [.g 15 true (by simp [e1]),.t rfl,.c [] cm,.s (sz:=7) hq] rfl (by simp [Qa,hcl]; omega)
theorem Gz (M:List Pt):Xp 0 M=[]:=by cases M <;> rfl
def Be (M:List Pt) (x:Pt) (i j:Nat):List (Pt×Pt):=Xp i M++((M.drop (i+1)).take j).map (fun y=>(x,y))
theorem Dd (M:List Pt) (x:Pt) (i:Nat):Be M x i 0=Xp i M:=by rw [Be,List.take_zero,List.map_nil,List.append_nil]
theorem Dc {M:List Pt} {i j:Nat} {x y:Pt} (hy:(M.drop (i+1))[j]? = some y):Be M x i (j+1)=Be M x i j++[(x,y)]:=by
  unfold Be
  rw [List.take_succ,hy,Option.toList_some,List.map_append,List.append_assoc]; rfl
theorem Iu {M:List Pt} {i j:Nat} {x:Pt} (hx:M[i]? = some x) (hj:(M.drop (i+1)).length≤j):Be M x i j=Xp (i+1) M:=by
  unfold Be
  rw [List.take_of_length_le hj,Ai M i x hx]
theorem Qqs {M:List Pt} {i j:Nat} {x:Pt} (hx:M[i]? = some x):∀ m∈Be M x i j,m.1∈M∧m.2∈M:=fun m hm=>by
  rcases List.mem_append.1 hm with h | h
  · exact Jl _ _ m h
  · obtain ⟨y,hy,rfl⟩:=List.mem_map.1 h
    exact ⟨List.mem_of_getElem? hx,List.mem_of_mem_drop (List.mem_of_mem_take hy)⟩
theorem Qhq {l:List Pt} {t:Tm} {s0:Pt×Pt} (hl:∀ p∈l,Sc p.c) (hs:s0.1∈l∧s0.2∈l) (hn:l.length≤1000) (ht:Va t):Zw Tryz.prog 127 [.one (pts l),.one (.ofn 128 [] [.ow 0 0,.ow 1 0,.ow 2 0])] [.blk 35 (Zu s0.1),.blk 35 (Zu s0.2),.blk 67 (ta t)] [] [.blk 35 (Zu (Qy (Jj t) s0 (Qw l)).1),.blk 35 (Zu (Qy (Jj t) s0 (Qw l)).2),.blk 67 (ta t)]:=by
  have hcl:=Wu l
  have hsc:∀ ps:List (Pt×Pt),(∀ m∈ps,m.1∈l∧m.2∈l)→Sc (Qy (Jj t) s0 ps).1.c∧Sc (Qy (Jj t) s0 ps).2.c:=fun ps h=>by
    obtain ⟨h1,h2⟩:=J7 (Jj t) ps s0 hs h
    exact ⟨hl _ h1,hl _ h2⟩
  show Zw Tryz.prog 127 [.one (.row (Qn l)),.one (.ofn 128 [] [.ow 0 0,.ow 1 0,.ow 2 0])] _ _ _
  refine Z7 Tryz.func127 rfl ?_
  refine go tt [] rfl trivial ?_
  refine lp (S:=Nat) 3 (fun L1 i=>(10,.v (.one (.int .i64 (i:Int))))::L1) (fun i=>[.blk 35 (Zu (Qy (Jj t) s0 (Xp i l)).1),.blk 35 (Zu (Qy (Jj t) s0 (Xp i l)).2),.blk 67 (ta t)]) (fun i=>l.length-i) (fun i=>i≤l.length) 0 (Nat.zero_le _) rfl (fun _ _=>rfl) (by rw [Gz]; rfl) fun i hi=>?_
  by_cases hlt:i<l.length
  · obtain ⟨x,hx⟩:∃ x,l[i]? = some x:=⟨_,List.getElem?_eq_getElem hlt⟩
    have ed1:(Qn l).drop (i+1)=Qn (l.drop (i+1)):=by simp [Qn,List.map_drop]
    have hdl:=Wu (l.drop (i+1))
    have hdl2:(l.drop (i+1)).length≤1000:=by rw [List.length_drop]; omega
    rw [←Dd l x i]
    refine go tt [.t (by simp [hcl]; omega),.x (Ur hx),.r 17 (eI (b:=((i+1:Nat):Int)) (by simp)),.i (i+1),.r 18 (Q55 ed1)] rfl (by simp [Qa,Wu,eq_true (p:=∀ z,z∈Qn l→z.length=ti35.sz) (Qq6 l)]; omega) ?_
    refine lp (S:=Nat) 4 (fun L1 j=>(20,.v (.one (.int .i64 (j:Int))))::L1) (fun j=>[.blk 35 (Zu (Qy (Jj t) s0 (Be l x i j)).1),.blk 35 (Zu (Qy (Jj t) s0 (Be l x i j)).2),.blk 67 (ta t),.blk 35 (Zu x)]) (fun j=>(l.drop (i+1)).length-j) (fun j=>j≤(l.drop (i+1)).length) 0 (Nat.zero_le _) rfl (fun _ _=>rfl) rfl fun j hj=>?_
    by_cases hltj:j<(l.drop (i+1)).length
    · obtain ⟨y,hy⟩:∃ y,(l.drop (i+1))[j]? = some y:=⟨_,List.getElem?_eq_getElem hltj⟩
      obtain ⟨s1,s2⟩:=hsc (Be l x i j) (Qqs hx)
      have cn:=Q7h (s:=Qy (Jj t) s0 (Be l x i j)) (m:=(x,y)) s1 s2 (hl x (List.mem_of_getElem? hx)) (hl y (List.mem_of_mem_drop (List.mem_of_getElem? hy))) ht
      rw [←Cy,←Dc hy] at cn
      refine go tt [.t (decide_eq_true (by omega)),.x (Ur hy),.c [0,1,2] cn] rfl (by simp [Qa,-List.length_drop]; omega) ?_
      exact rd (j+1) (by omega) hltj rfl
    · have e:=Iu hx (Nat.le_of_not_lt hltj)
      rw [e]
      refine go tt [.f (decide_eq_false (by omega))] rfl (by simp [Qa,-List.length_drop]; omega) ?_
      exact rd (i+1) (by omega) hlt rfl
  · obtain rfl:i=l.length:=by omega
    exact ed tt [] [0,1,2] [.f (by simp [hcl])] rfl trivial
theorem Qhr {l:List Pt} {t:Tm} {s:Pt×Pt} (hl:∀ p∈l,Sc p.c) (hs:s.1∈l∧s.2∈l) (hn:l.length≤10) (ht:Va t):Zw Tryz.prog 127 [.one (pts l),.one (.ofn 131 [] [.ow 0 0,.ow 1 0,.ow 2 0,.ow 3 0])] [.blk 35 (Zu s.1),.blk 35 (Zu s.2),.blk 67 (ta t),.blk 77 [.orow 4 7 none],.row false 161 7 []] [] [.blk 35 (Zu s.1),.blk 35 (Zu s.2),.blk 67 (ta t),.blk 77 [.orow 4 7 none],.row false 161 7 (Z0 (Jg (Jj t) s (Qw l)))]:=by
  have hcl:=Wu l
  have hpk:∀ i,i≤l.length→(Xp i l).length≤100:=fun i hi=>by
    have:=Ga i l
    have:i*l.length≤10*10:=Nat.mul_le_mul (by omega) hn
    omega
  show Zw Tryz.prog 127 [.one (.row (Qn l)),.one (.ofn 131 [] [.ow 0 0,.ow 1 0,.ow 2 0,.ow 3 0])] _ _ _
  refine Z7 Tryz.func127 rfl ?_
  refine go tt [] rfl trivial ?_
  refine lp (S:=Nat) 5 (fun L1 i=>(10,.v (.one (.int .i64 (i:Int))))::L1) (fun i=>[.blk 35 (Zu s.1),.blk 35 (Zu s.2),.blk 67 (ta t),.blk 77 [.orow 4 7 none],.row false 161 7 (Z0 (Jg (Jj t) s (Xp i l)))]) (fun i=>l.length-i) (fun i=>i≤l.length) 0 (Nat.zero_le _) rfl (fun _ _=>rfl) (by rw [Gz]; rfl) fun i hi=>?_
  by_cases hlt:i<l.length
  · obtain ⟨x,hx⟩:∃ x,l[i]? = some x:=⟨_,List.getElem?_eq_getElem hlt⟩
    have ed1:(Qn l).drop (i+1)=Qn (l.drop (i+1)):=by simp [Qn,List.map_drop]
    have hdl:=Wu (l.drop (i+1))
    have hdl2:(l.drop (i+1)).length≤10:=by rw [List.length_drop]; omega
    rw [←Dd l x i]
    refine go tt [.t (by simp [hcl]; omega),.x (Ur hx),.r 17 (eI (b:=((i+1:Nat):Int)) (by simp)),.i (i+1),.r 18 (Q55 ed1)] rfl (by simp [Qa,Wu,eq_true (p:=∀ z,z∈Qn l→z.length=ti35.sz) (Qq6 l)]; omega) ?_
    refine lp (S:=Nat) 6 (fun L1 j=>(20,.v (.one (.int .i64 (j:Int))))::L1) (fun j=>[.blk 35 (Zu s.1),.blk 35 (Zu s.2),.blk 67 (ta t),.blk 77 [.orow 4 7 none],.row false 161 7 (Z0 (Jg (Jj t) s (Be l x i j))),.blk 35 (Zu x)]) (fun j=>(l.drop (i+1)).length-j) (fun j=>j≤(l.drop (i+1)).length) 0 (Nat.zero_le _) rfl (fun _ _=>rfl) rfl fun j hj=>?_
    by_cases hltj:j<(l.drop (i+1)).length
    · obtain ⟨y,hy⟩:∃ y,(l.drop (i+1))[j]? = some y:=⟨_,List.getElem?_eq_getElem hltj⟩
      have hdn:(Jg (Jj t) s (Be l x i j)).length≤1000000:=by
        refine Nat.le_trans (Hu _ _ _) ?_
        unfold Be
        rw [List.length_append,List.length_map,List.length_take]
        have:=hpk i hi; omega
      have cn:=Q7d (s:=s) (m:=(x,y)) (L:=Jg (Jj t) s (Be l x i j)) (hl _ hs.1) (hl _ hs.2) (hl x (List.mem_of_getElem? hx)) (hl y (List.mem_of_mem_drop (List.mem_of_getElem? hy))) ht hdn
      have en1:(if Uh s (x,y)=true then Jg (Jj t) s (Be l x i j)++[Jy (Jj t) s.1 s.2 x y] else Jg (Jj t) s (Be l x i j))=Jg (Jj t) s (Be l x i (j+1)):=by
        rw [Dc hy]
        cases h:Uh s (x,y) with
        | true=>rw [if_pos rfl,Qe9 h]
        | false=>rw [if_neg (by decide),Qe8 h]
      dsimp only at cn
      rw [en1] at cn
      refine go tt [.t (decide_eq_true (by omega)),.x (Ur hy),.c [0,1,2,3,4] cn] rfl (by simp [Qa,-List.length_drop]; omega) ?_
      exact rd (j+1) (by omega) hltj rfl
    · have e:=Iu hx (Nat.le_of_not_lt hltj)
      rw [e]
      refine go tt [.f (decide_eq_false (by omega))] rfl (by simp [Qa,-List.length_drop]; omega) ?_
      exact rd (i+1) (by omega) hlt rfl
  · obtain rfl:i=l.length:=by omega
    exact ed tt [] [0,1,2,3,4] [.f (by simp [hcl])] rfl trivial
theorem Qck {l:List Pt} {a:Tm} {c:Cr} {r1:List (List LV)} (hl:∀ p∈l,Sc p.c) (hn:l.length≤10) (ha:Va a):Zw Tryz.prog 80 [.one (.ow 0 0),.agg (ta a)] [.blk 74 (Y8 c (Qn l) r1)] [.one (.row (Z0 (Kd (Jj a) l)))] [.blk 74 (Y8 c (Qn l) (Qn (Tz (Jj a) l)))]:=by
  have hcl:=Wu l
  refine Z7 Tryz.func80 rfl ?_
  by_cases h2:l.length<2
  · obtain ⟨e1,e2⟩:=Ei (Jj a) h2
    rw [e1,e2]
    refine go tt [.c [] Qet] rfl trivial ?_
    refine nlc 0 13 rfl rfl rfl ?_
    have hml:(l.map Zu).length=l.length:=List.length_map _
    exact ed tt [] [0] [.t (decide_eq_true (by omega))] rfl trivial
  · obtain ⟨x,y,l',rfl⟩:=Qg3 h2
    obtain ⟨l,hle⟩:∃ l,l=x::y::l':=⟨_,rfl⟩
    have hx0:(Qn l)[0]? = some (Zu x):=by rw [hle]; rfl
    have hy0:(Qn l)[1]? = some (Zu y):=by rw [hle]; rfl
    have hxl:x∈l:=by rw [hle]; simp
    have hyl:y∈l:=by rw [hle]; simp
    have eB:Tz (Jj a) (x::y::l')=[(Qy (Jj a) (x,y) (Qw l)).1,(Qy (Jj a) (x,y) (Qw l)).2]:=by rw [hle]; rfl
    have eC:Kd (Jj a) (x::y::l')=Jg (Jj a) (Qy (Jj a) (x,y) (Qw l)) (Qw l):=by rw [hle]; rfl
    rw [eB,eC]
    rw [←hle] at hl hn h2 hcl ⊢
    have c1:=Qhq (t:=a) (s0:=(x,y)) hl ⟨hxl,hyl⟩ (by omega) ha
    obtain ⟨n1,n2⟩:=J7 (Jj a) (l:=l) (Qw l) (x,y) ⟨hxl,hyl⟩ (Jl _ _)
    generalize Qy (Jj a) (x,y) (Qw l)=s at *
    have c2:=Qhr (t:=a) (s:=s) hl ⟨n1,n2⟩ hn ha
    have hml:(l.map Zu).length=l.length:=List.length_map _
    exact ed tt [5] [0] [.c [] Qet,.f (decide_eq_false (by omega)),.x hx0,.x hy0,.c [2,3,1] c1,.oc 8 0 161 7,.c [2,3,1,4,5] c2] rfl trivial
theorem Qr3 {l:List Pt} {a:Tm} (hl:∀ p∈l,Sc p.c) (hn:l.length≤10) (ha:Va a):Zw Tryz.prog 80 [.one (.ow 0 0),.agg (ta a)] [.blk 74 (crz (.row (Qn l)) .nils)] [.one (.row (Z0 (Kd (Jj a) l)))] [.blk 74 (crz (.row (Qn l)) (.row (Qn (Tz (Jj a) l))))]:=by
  have hcl:=Wu l
  refine Z7 Tryz.func80 rfl ?_
  by_cases h2:l.length<2
  · obtain ⟨e1,e2⟩:=Ei (Jj a) h2
    rw [e1,e2]
    refine go tt [.c [] Qet] rfl trivial ?_
    refine nlc 0 13 rfl rfl rfl ?_
    have hml:(l.map Zu).length=l.length:=List.length_map _
    exact ed tt [] [0] [.t (decide_eq_true (by omega))] rfl trivial
  · obtain ⟨x,y,l',rfl⟩:=Qg3 h2
    obtain ⟨l,hle⟩:∃ l,l=x::y::l':=⟨_,rfl⟩
    have hx0:(Qn l)[0]? = some (Zu x):=by rw [hle]; rfl
    have hy0:(Qn l)[1]? = some (Zu y):=by rw [hle]; rfl
    have hxl:x∈l:=by rw [hle]; simp
    have hyl:y∈l:=by rw [hle]; simp
    have eB:Tz (Jj a) (x::y::l')=[(Qy (Jj a) (x,y) (Qw l)).1,(Qy (Jj a) (x,y) (Qw l)).2]:=by rw [hle]; rfl
    have eC:Kd (Jj a) (x::y::l')=Jg (Jj a) (Qy (Jj a) (x,y) (Qw l)) (Qw l):=by rw [hle]; rfl
    rw [eB,eC]
    rw [←hle] at hl hn h2 hcl ⊢
    have c1:=Qhq (t:=a) (s0:=(x,y)) hl ⟨hxl,hyl⟩ (by omega) ha
    obtain ⟨n1,n2⟩:=J7 (Jj a) (l:=l) (Qw l) (x,y) ⟨hxl,hyl⟩ (Jl _ _)
    generalize Qy (Jj a) (x,y) (Qw l)=s at *
    have c2:=Qhr (t:=a) (s:=s) hl ⟨n1,n2⟩ hn ha
    have hml:(l.map Zu).length=l.length:=List.length_map _
    exact ed tt [5] [0] [.c [] Qet,.f (decide_eq_false (by omega)),.x hx0,.x hy0,.c [2,3,1] c1,.oc 8 0 161 7,.c [2,3,1,4,5] c2] rfl trivial
theorem Q65 {T:Nat} {t:Rat} {Bc:Tm→List Ct} {Br:Tm→List (List LV)} {r0:List (List LV)} (ht:Qs 900 t) (hB:BuildOk Bc)
    (hb:∀ a c r1,Va a→CrOk c→Zw Tryz.prog 80 [.one (.ow 0 0),.agg (ta a)] [.blk T (Y8 c r0 r1)] [.one (.row (Z0 (Bc a)))] [.blk T (Y8 c r0 (Br a))])
    {K:Nat} {c c':Cr} {r1 r1':List (List LV)} {n:Int} (hc:CrOk c) (hev:0≤c.ev∧c.ev+K≤1000000000000000000) (h:Q3 c.now t≤0) (hg:goF Bc Br t K c r1 0=some (c',r1',n)) :
    Zw Tryz.prog 81 [.one (.ow 0 0),.agg (rl t),.one (.ofn 80 [.ow 0 0] [])] [.blk T (Y8 c r0 r1)] [.one (.int .i64 n),.one (.int .i64 0)] [.blk T (Y8 c' r0 r1')]:=by
  have qt:Qb t:=ht.mono (by decide)
  have c1:=Lc hc.n.tb qt
  refine Z7 Tryz.func81 rfl ?_
  refine go tt [.c [0] (Qes hc.n),.c [] c1,.f (by simpa using h)] rfl trivial ?_
  refine lp (S:=Nat×Cr×List (List LV)×Int) 2 (fun L1 s=>(8,.v (.one (.int .i64 s.2.2.2)))::L1) (fun s=>[.blk T (Y8 s.2.1 r0 s.2.2.1),.blk 41 (rl t)]) (fun s=>s.1) (fun s=>CrOk s.2.1∧(0≤s.2.1.ev∧s.2.1.ev+s.1≤1000000000000000000)∧(0≤s.2.2.2∧s.2.2.2+s.1≤1000000000000000000)∧goF Bc Br t s.1 s.2.1 s.2.2.1 s.2.2.2=some (c',r1',n)) (K,c,r1,0) ⟨hc,hev,⟨Int.le_refl 0,by dsimp only; omega⟩,hg⟩ rfl (fun _ _=>rfl) rfl fun ⟨k,x,r,m⟩ ⟨j1,j2,j3,j4⟩=>?_
  dsimp only at j1 j2 j3 j4 ⊢
  cases k with
  | zero=>cases j4
  |
   succ k =>
   simp only [goF] at j4
   obtain ⟨ws,w1,j4⟩:=Option.bind_eq_some_iff.1 j4
   obtain ⟨o,o1,j4⟩:=Option.bind_eq_some_iff.1 j4
   have cn:=Q1v (T:=T) (r0:=r0) (r1:=r) j1 w1 o1
   have ca:=Q5u (Qe t.num) (Qe (t.den:Int)) (Nat.le_trans ht.1 (by decide)) (Nat.le_trans ht.2 (by decide)) (by rw [Tr]; exact ht.mono (by decide))
   rw [Tr] at ca
   cases o with
   |
    none =>
    injection j4 with j4; injection j4 with e1 j4; injection j4 with e2 e3
    subst e1; subst e2; subst e3
    exact ed tt [] [0] [.c [0] cn,.g 25 true rfl,.t rfl,.c [] ca] rfl trivial
   |
    some a =>
    have ha:=Q8n j1 w1 o1
    dsimp only at j4
    have cc:=Lc ha.tb qt
    by_cases h0:0<Q3 a t
    · rw [if_pos h0] at j4
      injection j4 with j4; injection j4 with e1 j4; injection j4 with e2 e3
      subst e1; subst e2; subst e3
      exact ed tt [] [0] [.c [0] cn,.g 25 false rfl,.c [] cc,.t (by simpa using h0),.c [] ca] rfl trivial
    · rw [if_neg h0] at j4
      obtain ⟨w2,l1,j4⟩:=Option.bind_eq_some_iff.1 j4
      have j1':=Io j1 w1
      have cl:=Sq (b:=a) (l:=[]) ha.tb (fun t ht=>by cases ht) (by decide) rfl
      have cb:=hb a { x with l:=ws } r ha j1'
      have cy:=Qoa (T:=T) (r0:=r0) (r1:=Br a) j1' ha (hB.p a ha) (hB.n a ha) l1
      have hf:decide (0<Q3 a t)=false:=by simpa using h0
      refine go tt [.c [0] cn,.g 25 false rfl,.c [] cc,.f hf,.c [] cl,.c [0] cb,.c [0] cy] rfl (by simp [Qa]; omega) ?_
      exact rd (k,⟨a,w2,x.ev+1⟩,Br a,m+1) (by dsimp only; omega) ⟨lay_ok _ j1' ha (hB.p a ha) (hB.n a ha) l1,by dsimp only; omega,by dsimp only; omega,j4⟩ rfl
theorem Qlc {T:Nat} {t:Rat} {c:Cr} {r0 r1:List (List LV)} (ht:Qb t) (hc:Va c.now) (h:0<Q3 c.now t) :
    Zw Tryz.prog 81 [.one (.ow 0 0),.agg (rl t),.one (.ofn 80 [.ow 0 0] [])] [.blk T (Y8 c r0 r1)] [.one (.int .i64 0),.one (.int .i64 8)] [.blk T (Y8 c r0 r1)]:=by
  refine Z7 Tryz.func81 rfl ?_
  exact ed tt [] [0] [.c [0] (Qes hc),.c [] (Lc hc.tb ht),.t (by simpa using h)] rfl trivial
end Orr
