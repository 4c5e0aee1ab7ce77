/- W1 W2 WR18 WS18 ReadN LastN LastR LastS -/
import Derived.Test.YtbnjginelkkonaaGreatPart08
import Derived.Test.YtbnjginelkkonaaGreatPart09
import Derived.Test.YtbnjginelkkonaaGreatPart05
import Derived.Deep.Slices
import Derived.ProofKit
import Derived.OpenShut
import Derived.WideKeyArgs
import Derived.SizedLaws
set_option linter.all false

namespace Orr
open Go Go.Proofs
set_option maxRecDepth 10000
theorem Qsr {n:Nat} (hn:n≤256):Qc Tryz.prog 160 [.agg (Zf 1),.one (.int .i64 (n:Int))] [.agg (Zf 1)]:=by
  have cm:=Wh (Qe 1) (Qe 1) (by decide) (by decide)
  rw [show (1:Int)*1=1 from rfl] at cm
  refine Z0 Tryz.func160 rfl ?_
  refine go tt [.c [] (Qal (z:=1) (by decide)),.r 8 (v:=.one (.int .i64 (n:Int))) (by simp; omega),.r 9 (v:=.one (.int .i64 (n:Int))) (by simp)] rfl trivial ?_
  refine lp (S:=Nat) 3 (fun L1 i=>(10,.v (.one (.int .i64 (i:Int))))::L1) (fun _=>[.blk 29 (Zf 1),.blk 29 [.bool false,.nils],.blk 29 (Zf 1)]) (fun i=>n-i) (fun i=>i≤n) 0 (Nat.zero_le _) rfl (fun _ _=>rfl) rfl fun i hi=>?_
  by_cases h:i<n
  · refine go tt [.t (by simp; omega),.c [] cm] rfl (by simp [Qa]; omega) ?_
    exact rd (i+1) (by omega) h rfl
  · obtain rfl:i=n:=by omega
    exact en tt [.f (by simp)] rfl rfl trivial
theorem Qzy:Qc Tryz.prog 157 [pr [],.agg (Zf 0),.agg (Zf 1)] [pr [],.one (.int .i64 0)]:=by
  have n0:=Y3 (Qe 0) (by decide)
  have n1:=Y3 (Qe 1) (by decide)
  have cn:=Z8 (p:=[]) rfl (by decide) We
  refine Z0 Tryz.func157 rfl ?_
  refine go tt [.c [] n1,.c [] (Um (z:=1)),.f rfl,.c [] cn,.z 8,.c [] n0,.c [] n1,.c [] (Qal (z:=1) (by decide))] rfl (by simp [Qa]) ?_
  refine lp (S:=Unit) 3 (fun L1 _=>(11,.v (.one (.int .i64 (-1))))::(8,.v (pr []))::L1) (fun _=>[.blk 29 (Zf 0),.blk 29 (Zf 1),.blk 29 (Zf 1)]) (fun _=>0) (fun _=>True) () trivial rfl (fun _ _=>rfl) rfl fun _ _=>?_
  exact en tt [.f (b:=decide ((0:Int)≤-1)) (by decide)] rfl rfl trivial
theorem Qzz:Qc Tryz.prog 157 [pr [0,1],.agg (Zf 0),.agg (Zf 1)] [pr [0,1],.one (.int .i64 0)]:=by
  have n0:=Y3 (Qe 0) (by decide)
  have n1:=Y3 (Qe 1) (by decide)
  have b01:Bd 4 ([0,1]:List Int):=fun z hz=>by rcases List.mem_cons.1 hz with rfl | hz; decide; rw [List.mem_singleton.1 hz]; decide
  have b1:Bd 4 ([1]:List Int):=fun z hz=>by rw [List.mem_singleton.1 hz]; decide
  have b0:Bd 4 ([0]:List Int):=fun z hz=>by rw [List.mem_singleton.1 hz]; decide
  have cn:=Z8 (p:=[0,1]) rfl (by decide) (Qd b01 (by decide))
  have m1:=Qjd (p:=[]) (q:=[0,1]) (s:=4) (t:=4) rfl rfl (by decide) (by decide) We b01 (by decide)
  have m2:=Qjd (p:=[1]) (q:=[0,1]) (s:=4) (t:=4) rfl rfl (by decide) (by decide) b1 b01 (by decide)
  have a1:=Qjc (p:=[]) (q:=[1]) (by decide) (by decide) We (Qd b1 (by decide))
  have a2:=Qjc (p:=[0,1]) (q:=[0]) (by decide) (by decide) (Qd b01 (by decide)) (Qd b0 (by decide))
  rw [show Zn [] [0,1]=[] from rfl] at m1
  rw [show Zn [1] [0,1]=[0,1] from rfl] at m2
  rw [show Mh [] [1]=[1] from rfl] at a1
  rw [show Mh [0,1] [0]=[0,1] from rfl] at a2
  have w1:=Wh (Qe 1) (Qe 1) (by decide) (by decide)
  have w0:=Wh (Qe 0) (Qe 1) (by decide) (by decide)
  rw [show (1:Int)*1=1 from rfl] at w1
  rw [show (0:Int)*1=0 from rfl] at w0
  refine Z0 Tryz.func157 rfl ?_
  refine go tt [.c [] n1,.c [] (Um (z:=1)),.f rfl,.c [] cn,.z 8,.c [] n0,.c [] n1,.c [] (Qal (z:=1) (by decide)),.r 25 (eI (b:=1) rfl)] rfl (by simp [Qa]) ?_
  refine lp (S:=Nat) 3 (fun L1 k=>(11,.v (.one (.int .i64 (if k=2 then 1 else if k=1 then 0 else -1))))::(8,.v (pr (if k=2 then [] else if k=1 then [1] else [0,1])))::L1) (fun _=>[.blk 29 (Zf 0),.blk 29 (Zf 1),.blk 29 (Zf 1)]) (fun k=>k) (fun k=>k≤2) 2 (Nat.le_refl _) rfl (fun _ _=>rfl) rfl fun k hk=>?_
  rcases (show k=0∨k=1∨k=2 by omega) with rfl | rfl | rfl
  · exact en tt [.f (b:=decide ((0:Int)≤-1)) (by decide)] rfl rfl trivial
  · refine go tt [.t rfl,.c [] m2,.x (i:=0) (xs:=Zf 0) rfl,.c [] w0,.c [] a2,.c [] w1,.r 29 (eI (b:=-1) rfl)] rfl (by simp [Qa]) ?_
    exact rd 0 (by omega) (by omega) rfl
  · refine go tt [.t rfl,.c [] m1,.x (i:=1) (xs:=Zf 1) rfl,.c [] w1,.c [] a1,.c [] w1,.r 29 (eI (b:=0) rfl)] rfl (by simp [Qa]) ?_
    exact rd 1 (by omega) (by omega) rfl
abbrev Qxq:Crv:=⟨[0,1],[],1⟩
theorem Qhk:Nml Qxq:=⟨rfl,rfl,by decide,by decide⟩
theorem cs_run1:Cs 3 3 Qxq:=by
  refine ⟨fun z hz=>?_,fun z hz=>(by cases hz),by decide,by decide,by decide⟩
  rcases List.mem_cons.1 hz with rfl | hz
  · decide
  · rw [List.mem_singleton.1 hz]; decide
theorem Cs.up {s n s' n':Nat} {k:Crv} (h:Cs s n k) (hs:s≤s') (hn:n≤n'):Cs s' n' k:=⟨Qd h.x hs,Qd h.y hs,Nat.le_trans h.d hs,Nat.le_trans h.lx hn,Nat.le_trans h.ly hn⟩
theorem Q0l {x y x' y':LV} {n d:Int} (h1:Xp x y n) (h2:Xp x' y' d) (hn:Qm n≤4294967295) (hd:Qm d≤4294967295) (hq:Qs 4294967295 (Zd n d)):Qc Tryz.prog 156 [.agg [x,y,x',y']] [.agg (rl (-(Zd n d)))]:=by
  have c1:=Nw h1 h2 hn hd
  obtain ⟨b,l,rfl,rfl,_⟩:=h1
  obtain ⟨b',l',rfl,rfl,_⟩:=h2
  exact w tt Tryz.func156 rfl [.c [] c1,.c [] (Lu (Qe _) hq.1)] rfl rfl trivial
theorem Q5b:Qc Tryz.prog 95 [.one (.row [[.bool false,.row []],[.bool false,.row [[.int .u32 1]]]]),.one (.row []),.agg [.bool false,.row [],.bool false,.row []]] [.agg (cl Qxq)]:=by
  have i01:IsInts [[.bool false,.row []],[.bool false,.row [[.int .u32 1]]]] [0,1]:=by
    refine ⟨⟨_,_,rfl,false,[],rfl,rfl,(fun x hx=>by cases hx),rfl⟩,⟨_,_,rfl,false,[1],rfl,rfl,(fun x hx=>by rw [List.mem_singleton.1 hx]; decide),rfl⟩,trivial⟩
  have cn:=Ww i01 (by decide) (Qd cs_run1.x (by decide))
  have cn0:=Z8 (p:=[]) rfl (by decide) We
  rw [show trim [0,1]=[0,1] from rfl] at cn
  have cg:=Q0l Yp Yp (by decide) (by decide) (show Qs 4294967295 (Zd 0 0) from ⟨by decide,by decide⟩)
  rw [show -(Zd 0 0)=0 from by decide] at cg
  have p0:=Qsr (n:=0) (by decide)
  have p1:=Qsr (n:=1) (by decide)
  have s1:=W8 (p:=[0,1]) (c:=1) (by decide) (Qd cs_run1.x (by decide)) (by decide)
  have s0:=W8 (p:=[]) (c:=1) (by decide) We (by decide)
  rw [show Qw [0,1] 1=[0,1] from rfl] at s1
  rw [show Qw [] 1=[] from rfl] at s0
  have ck:=Qs5 Qhk (cs_run1.up (by decide) (by decide))
  refine Z0 Tryz.func95 rfl ?_
  refine go tt [.c [] cn,.c [] cn0,.c [] cg,.c [] Qzz,.c [] Qzy,.c [] (Vc _),.r 40 (eI (b:=1) (by decide)),.c [] (Vc _),.r 43 (eI (b:=0) (by decide)),.r 46 (eI (b:=((1:Nat):Int)) (by decide))] rfl (by simp [Qa]) ?_
  exact en tt [.r 52 (eI (b:=((0:Nat):Int)) (by decide)),.c [] p0,.c [] s1,.r 60 (eI (b:=((1:Nat):Int)) (by decide)),.c [] p1,.c [] s0,.c [] p1,.c [] ck] rfl rfl (by simp [Qa])
end Orr

namespace Orr
open Go Go.Proofs Orq
set_option maxRecDepth 10000
theorem Qvb {Bc:Tm→List Ct} {Br:Tm→List (List LV)} {t:Rat}:∀ {k:Nat} {c c':Cr} {r r':List (List LV)} {n n':Int},goF Bc Br t k c r n=some (c',r',n')→r'=r∨∃ a,r'=Br a
  | 0,_,_,_,_,_,_,h=>by cases h
  |
   k+1,c,c',r,r',n,n',h=>by
   simp only [goF] at h
   obtain ⟨ws,_,h⟩:=Option.bind_eq_some_iff.1 h
   obtain ⟨o,_,h⟩:=Option.bind_eq_some_iff.1 h
   cases o with
   | none=>injection h with h; injection h with _ h; injection h with h _; exact .inl h.symm
   |
    some a =>
    dsimp only at h
    split at h
    · injection h with h; injection h with _ h; injection h with h _; exact .inl h.symm
    · obtain ⟨w2,_,h⟩:=Option.bind_eq_some_iff.1 h
      rcases Qvb h with e | e
      · exact .inr ⟨a,e⟩
      · exact .inr e
abbrev wkP:List Pt:=[⟨Qxq,1⟩,⟨Qyc 1 0,2⟩]
def Q4b (l:List LV):Int:=match l with
  | [_,_,_,_,.int _ z]=>z
  | _=>0
theorem Qvo (l:List Pt):(Qt l).map Q4b=l.map (·.id):=by
  simp only [Qt,List.map_map]; rfl
theorem Zai:(goF (bcS wkP) (brS wkP) 1 5 (Qpn wkP (tq 0)) (brS wkP (tq 0)) 0).map (fun x=>(x.2.1.map Q4b,x.2.2))=some ([2,1],1):=by decide +kernel
theorem Q7l:(Ht (tq 0) wkP).map (·.id)=[1,2]:=by decide +kernel
theorem Q2q:Sc Qxq:=⟨Qhk,cs_run1.up (by decide) (by decide)⟩
theorem Qpe:∀ p∈wkP,Sc p.c:=fun p hp=>by
  rcases List.mem_cons.1 hp with rfl | hp
  · exact Q2q
  · rw [List.mem_singleton.1 hp]; exact Qxu (by decide) (by decide)
theorem Qa6:Qc Tryz.prog 45 [] [.one (.bool true)]:=by
  have hq:Qs 900 (Zd 0 0):=⟨by decide,by decide⟩
  have ez:Zd 0 0=0:=by decide
  have zp:IsPts 4294967294 1073741824 (Qt wkP) wkP:=Qnn fun p hp=>(Qpe p hp).pt
  have hnl:Ju [] wkP=(wkP,0):=rfl
  have cn:=Qme (qs:=wkP) zp (by decide) hnl Qpe (by decide) Yp Yp (by decide) (by decide) hq
  rw [ez] at cn
  have ci:=Qdf (c:=Qpn wkP (tq 0)) (l:=wkP) (s:=Ht (tq 0) wkP) (by rw [Uf]; decide)
  rw [Q7l] at ci
  have cs:=Qjg (a:=[1,2]) (b:=[1,2]) (by decide) (by decide)
  have cs2:=Qjg (a:=[2,1]) (b:=[2,1]) (by decide) (by decide)
  obtain ⟨x,hx,hx2⟩:=Option.map_eq_some_iff.1 Zai
  obtain ⟨c',r',n'⟩:=x
  injection hx2 with h3 h4
  dsimp only at h3 h4
  subst h4
  obtain ⟨s,hs,hsl⟩:∃ s,r'=Qt s∧s.length≤1000000:=by
    rcases Qvb hx with e | ⟨a,e⟩
    · exact ⟨_,e,by rw [Uf]; decide⟩
    · exact ⟨_,e,by rw [Uf]; decide⟩
  subst hs
  rw [Qvo] at h3
  have hB:=Qc8 Qpe (by decide)
  have hv:Va (tq 0):=Qyt (by rw [←ez]; exact hq)
  have hc:CrOk (Qpn wkP (tq 0)):=⟨hv,fun w hw=>by
      obtain ⟨x,hx,rfl⟩:=List.mem_map.1 hw
      exact ⟨hB.p _ hv x (Hw hx),fun t ht=>by cases ht⟩,by
      show ((Z3 (bcS wkP (tq 0))).map fresh).length≤1000
      rw [List.length_map,Ws]; exact hB.n _ hv⟩
  have ca:=Qde (t:=1) ⟨by decide,by decide⟩ Qpe (by decide) hc ⟨by decide,by decide⟩ (by decide +kernel) hx
  have ci2:=Qdf (c:=c') (l:=wkP) (s:=s) hsl
  rw [h3] at ci2
  have co:=Tj (n:=1) (by decide)
  have ct:=Qmf (q:=1) ⟨by decide,by decide⟩
  refine Z0 Tryz.func45 rfl ?_
  exact en tt [.z 6,.c [] Q5b,.c [] (Qz8 (by decide) (by decide)),.c [0] cn,.g 21 false rfl,.g 25 false rfl,.c [0] ci,.c [] cs,.f rfl,.c [] co,.c [] ct,.c [0] ca,.g 41 true rfl,.g 45 true rfl,.c [0] ci2,.c [] cs2] rfl rfl trivial
end Orr

namespace Orr
open Go Go.Proofs Orq
set_option maxRecDepth 10000
theorem Qqe {l m:List Pt} (h:l.Perm m) (hd:Gj l):Gj m:=(h.pairwise_iff (fun h=>fun e=>h e.symm)).1 hd
end Orr

namespace Orr
open Go Go.Proofs Orq
set_option maxRecDepth 10000
theorem Qus {Bc:Tm→List Ct} {q:Rat} {E:List Tm} (h:Evs Bc q (tq q) E):E=[]:=by
  cases h with
  | nil h=>rfl
  | cons he h1 h2=>exact absurd h1 h2
theorem Qyn {t q:Rat}:Qr (tq t) q=1↔q<t:=by
  rw [Hy]; rcases Jr t q with ⟨e,h⟩ | ⟨e,h⟩ | ⟨e,h⟩ <;> grind
theorem Qym {t q:Rat}:Qr (tq t) q=-1↔t<q:=by
  rw [Hy]; rcases Jr t q with ⟨e,h⟩ | ⟨e,h⟩ | ⟨e,h⟩ <;> grind
theorem Qo5 {s t:Rat}:Ym (tq s) (tq t)↔s<t:=by
  constructor
  · rintro ⟨q,h1,h2⟩
    have:=Qym.1 h1; have:=Qyn.1 h2; grind
  · intro h
    exact ⟨(s+t) / 2,Qym.2 (by grind),Qyn.2 (by grind)⟩
theorem Qx8 (n d:Int):(-100:Rat)≤Wq n d:=by
  have h1:Uk n 61=n % 61:=rfl
  have h2:Uk d 6=d % 6:=rfl
  unfold Wq Zd
  rw [if_neg (by omega),←Ff]
  have e:(0:Rat)<((1+Uk d 6:Int):Rat):=by
    have:((0:Int):Rat)<((1+Uk d 6:Int):Rat):=Rat.intCast_lt_intCast.2 (by omega)
    exact this
  obtain ⟨a,ha⟩:∃ a,a=Uk n 61-30:=⟨_,rfl⟩
  obtain ⟨b,hb⟩:∃ b,b=1+Uk d 6:=⟨_,rfl⟩
  have h3:-30≤a:=by omega
  have h4:1≤b:=by omega
  rw [←ha]
  rw [←hb] at e ⊢
  refine Rat.not_lt.1 fun h=>?_
  have h5:=Rat.mul_le_mul_of_nonneg_right (Rat.le_of_lt h) (Rat.le_of_lt e)
  have h6:(a:Rat) / (b:Rat)*(b:Rat)=(a:Rat):=by grind
  rw [h6] at h5
  have h7:((a:Int):Rat)≤((-100*b:Int):Rat):=by rw [Rat.intCast_mul]; exact h5
  have:=Rat.intCast_le_intCast.1 h7
  omega
set_option maxHeartbeats 8000000 in
theorem Il {zs:List RawPt} {cs:List Int} (hz:∀ z∈zs,z.Ok) (hcs:∀ z∈cs,-9223372036854775808≤z∧z≤9223372036854775807):Qc Tryz.prog 9 [.one (.row (Cg zs)),.one (.row (idl cs))] [.one (.bool true)]:=by
  obtain ⟨e,he,hd,hm⟩:=Q5o (Lb 4 20 zs)
  have hq0:=Ll 25 0
  have cb:=Qpx (n:=25) (d:=0) hz rfl he hd hm (by decide) (by decide) (Q86 (hq0.mono (by decide))) rfl
  obtain ⟨O,hO⟩:∃ O,O=Lb 4 20 zs:=⟨_,rfl⟩
  have hO4:O.length≤4:=by rw [hO]; exact Tz _ _ (Nat.zero_le _)
  have hlit:∀ p∈O,Qpg p:=fun p hp=>by rw [hO] at hp; exact Qb2 (by decide) p hp
  rw [←hO] at cb he hd
  obtain ⟨M,hM⟩:∃ M,M=Xa Mg (Mf O e):=⟨_,rfl⟩
  rw [←hM] at cb
  have hq12:Wq 25 0≤((12:Int):Rat):=by decide
  obtain ⟨q,hq⟩:∃ q,q=Wq 25 0:=⟨_,rfl⟩
  rw [←hq] at cb hq0 hq12
  have hcn:(Mf O e).length=e:=by rw [Eb,Ny he]
  have hMl:M.length=e:=by rw [hM,Ye,hcn]
  have hMd:Gj M:=by rw [hM]; exact Qqe (Qli _).symm (Qa7 hd)
  have hsc:∀ p∈M,Sc p.c:=fun p hp=>by
    rw [hM,U9] at hp
    have:=Qm2 hlit e p hp
    exact ⟨this.1,this.2.mono (by decide) (by decide)⟩
  have hln:M.length≤1000:=by omega
  have hv:Va (tq q):=Qyt (hq0.mono (by decide))
  have S:=Q9f hsc hln hMd
  obtain ⟨c0,hc0⟩:∃ c0,c0=Qpn M (tq q):=⟨_,rfl⟩
  have hst:KSt (bcS M) (brS M) c0 (brS M (tq q)):=by rw [hc0]; exact Q40 S hv
  have hn0:c0.now=tq q:=by rw [hc0]; rfl
  have hev0:c0.ev=0:=by rw [hc0]; rfl
  rw [←hc0] at cb
  have hal:(Qc5 M).length≤1000000:=by
    rw [Qrz]
    have:M.length*(M.length*2)≤4*(4*2):=Nat.mul_le_mul (by omega) (Nat.mul_le_mul (by omega) (Nat.le_refl 2))
    omega
  have adv:=fun {t:Rat} (ht:Qs 900 t) {c:Cr} {r:List (List LV)} (hS:KSt (bcS M) (brS M) c r) (h:Qr c.now t≤0)=>Q4t S (Qc6 hsc) (fun a _=>Qzi) hal ht hS h
  have from0:∀ {t:Rat},Qs 900 t→q≤t→∃ E,Evs (bcS M) t (tq q) E∧E.length≤67000000:=fun {t} ht h=>by
    obtain ⟨_,_,E,_,_,_,_,_,h1,h2⟩:=adv ht hst (by rw [hn0,Hy]; exact Wy.2 h)
    rw [hn0] at h2
    exact ⟨E,h2,h1⟩
  obtain ⟨T,hT⟩:∃ T,T=((12:Int):Rat):=⟨_,rfl⟩
  have hTq:Qs 900 T:=by rw [hT]; exact ⟨by decide,by decide⟩
  rw [←hT] at hq12
  obtain ⟨K,c',E,hK,hg,hnow,hS',hev,hEl,hE⟩:=adv hTq hst (by rw [hn0,Hy]; exact Wy.2 hq12)
  rw [hn0] at hE
  rw [hev0] at hev
  have cadv:=Qde (l:=M) (K:=K) hTq hsc hln hst.inv.ok (by rw [hev0]; omega) (by rw [hn0,Hy]; exact Wy.2 hq12) hg
  have co12:=Tj (n:=12) (by decide)
  rw [←hT] at co12
  have co100:=Tj (n:=-100) (by decide)
  have ct12:=Qmf (q:=T) (hTq.mono (by decide))
  obtain ⟨L0,hL0⟩:∃ L0,L0=((-100:Int):Rat):=⟨_,rfl⟩
  rw [←hL0] at co100
  have hL0q:Qs 900 L0:=by rw [hL0]; exact ⟨by decide,by decide⟩
  have hil:(idl cs).length=cs.length:=by simp
  refine Z0 Tryz.func9 rfl (ln 1 rfl rfl fun hcl=>?_)
  rw [hil] at hcl
  refine go tt [.c [0,1] cb,.f rfl,.c [0,2] Qsw,.f rfl,.c [] co12,.c [] ct12,.c [0] cadv,.c [] co100] rfl trivial ?_
  refine lp (S:=Nat×Cr×List (List LV)×Nat×Rat) 5 (fun L1 s=>(14,.v (.one (.int .i64 (s.1:Int))))::(12,.v (.one (.int .i64 (s.2.2.2.1:Int))))::L1) (fun s=>[.blk 96 (Ul c' (Qt M) (brS M (tq T))),.blk 128 (plB M q [[-q.num,(q.den:Int)],[1]] (Cd q M)),.blk 96 (Ul s.2.1 (Qt M) s.2.2.1),.blk 49 (fr T),.blk 49 (fr s.2.2.2.2)]) (fun s=>4-s.1) (fun s=>(s.1≤4∧s.1≤cs.length)∧KSt (bcS M) (brS M) s.2.1 s.2.2.1∧s.2.1.ev=(s.2.2.2.1:Int)∧s.2.2.2.1≤67000000∧Qs 900 s.2.2.2.2∧∃ (cur:Rat) (F:List Tm),s.2.1.now=tq cur∧Qs 900 cur∧q≤cur∧cur≤T∧(s.2.2.2.2=L0∨s.2.2.2.2=cur)∧Evs (bcS M) cur (tq q) F∧s.2.2.2.1=F.length) (0,c0,brS M (tq q),0,L0) ⟨⟨by show 0≤4; decide,Nat.zero_le _⟩,hst,hev0,by show 0≤67000000; decide,hL0q,q,[],hn0,hq0.mono (by decide),Rat.le_refl,hq12,.inl rfl,by
      obtain ⟨F,h1,_⟩:=from0 (hq0.mono (by decide)) (Rat.le_refl (a:=q))
      rw [Qus h1] at h1; exact h1,rfl⟩ rfl (fun _ _=>rfl) rfl fun ⟨i,c,r,m,la⟩ ⟨⟨hi1,hi2⟩,hS,hce,hm7,hlq,cur,F,hcur,hcq,hqc,hcT,hla,hF,hmF⟩=>?_
  dsimp only at hi1 hi2 hS hce hm7 hlq hcur hla hmF ⊢
  have hvc:Va (tq cur):=Qyt hcq
  by_cases hr:i<cs.length∧i<4
  · obtain ⟨z,hzi⟩:∃ z,cs[i]? = some z:=⟨_,List.getElem?_eq_getElem hr.1⟩
    have hzb:=hcs z (List.mem_of_getElem? hzi)
    have csm:=Qmd (n:=z) (d:=(i:Int)) hzb (by omega)
    obtain ⟨t,ht⟩:∃ t,t=Wq z i:=⟨_,rfl⟩
    have htq:Qs 900 t:=by rw [ht]; exact (Ll z i).mono (by decide)
    have htl:L0≤t:=by rw [ht,hL0]; exact Qx8 z i
    rw [show Zd (Uk z 61-30) (1+Uk (i:Int) 6)=t from ht.symm] at csm
    have cc1:=Qdl (a:=t) (b:=T) (htq.mono (by decide)) (hTq.mono (by decide))
    have cc2:=Qdl (a:=t) (b:=la) (htq.mono (by decide)) (hlq.mono (by decide))
    have ctt:=Qmf (q:=t) (htq.mono (by decide))
    by_cases h12:0<Zr t T
    · refine go tt [.g 45 true (decide_eq_true (by omega)),.t (decide_eq_true (by omega)),.x (Rh hzi),.c [] csm,.c [] cc1,.t (decide_eq_true h12)] rfl (by simp [Qa]; omega) ?_
      exact rd (i+1,c,r,m,la) (by dsimp only; omega) ⟨⟨hr.2,hr.1⟩,hS,hce,hm7,hlq,cur,F,hcur,hcq,hqc,hcT,hla,hF,hmF⟩ rfl
    have htT:t≤T:=by
      rcases Jr t T with h | h | h
      · omega
      · exact h.2 ▸ Rat.le_refl
      · exact Rat.le_of_lt h.2
    by_cases hp:cur≤t
    · obtain ⟨K1,c1,E1,k1,k2,k3,k4,k5,k6,k7⟩:=adv htq hS (by rw [hcur,Hy]; exact Wy.2 hp)
      rw [hcur] at k7
      have hqt:q≤t:=Rat.le_trans hqc hp
      obtain ⟨F2,f1,f2⟩:=from0 htq hqt
      have hnt:¬Ym (tq cur) (tq q):=fun h=>absurd (Qo5.1 h) (Rat.not_lt.2 hqc)
      have hcat:=Qnd S hp hvc hF hv hnt k7 f1
      have ca:=Qde (l:=M) (K:=K1) htq hsc hln hS.inv.ok (by rw [hce]; omega) (by rw [hcur,Hy]; exact Wy.2 hp) k2
      have hnl:¬Zr t la<0:=fun h=>by
        have h:=Kd.1 h
        rcases hla with h2 | h2
        · rw [h2] at h; exact absurd htl (Rat.not_le.2 h)
        · rw [h2] at h; exact absurd hp (Rat.not_le.2 h)
      refine go tt [.g 45 true (decide_eq_true (by omega)),.t (decide_eq_true (by omega)),.x (Rh hzi),.c [] csm,.c [] cc1,.f (decide_eq_false h12),.c [] ctt,.c [2] ca,.t rfl,.c [] cc2,.f (decide_eq_false hnl)] rfl (by simp [Qa]; omega) ?_
      exact rd (i+1,c1,brS M (tq t),m+E1.length,t) (by dsimp only; omega) ⟨⟨hr.2,hr.1⟩,k4,by dsimp only; rw [k5,hce]; omega,by dsimp only; omega,htq,t,F2,k3,htq,hqt,htT,.inr rfl,f1,by dsimp only; omega⟩ rfl
    · have hpl:t<cur:=Rat.not_le.1 hp
      have ca:=Qjf (l:=M) (r1:=r) htq hS.inv.ok.n (by rw [hcur,Hy]; exact Wx.2 hpl)
      refine go tt [.g 45 true (decide_eq_true (by omega)),.t (decide_eq_true (by omega)),.x (Rh hzi),.c [] csm,.c [] cc1,.f (decide_eq_false h12),.c [] ctt,.c [2] ca,.f rfl,.g 80 false rfl,.f rfl] rfl (by simp [Qa]; omega) ?_
      exact rd (i+1,c,r,m,la) (by dsimp only; omega) ⟨⟨hr.2,hr.1⟩,hS,hce,hm7,hlq,cur,F,hcur,hcq,hqc,hcT,hla,hF,hmF⟩ rfl
  obtain ⟨K2,c2,E2,k1,k2,k3,k4,k5,k6,k7⟩:=adv hTq hS (by rw [hcur,Hy]; exact Wy.2 hcT)
  rw [hcur] at k7
  have hnt:¬Ym (tq cur) (tq q):=fun h=>absurd (Qo5.1 h) (Rat.not_lt.2 hqc)
  have hcat:=Qnd S hcT hvc hF hv hnt k7 hE
  have ca:=Qde (l:=M) (K:=K2) hTq hsc hln hS.inv.ok (by rw [hce]; omega) (by rw [hcur,Hy]; exact Wy.2 hcT) k2
  obtain ⟨s,hs⟩:∃ s,s=brS M (tq T):=⟨_,rfl⟩
  have hcs1:Z3 (c'.l.map (·.c))=Z3 (c2.l.map (·.c)):=by rw [hS'.cs,k4.cs,hnow,k3]
  rw [←hs] at ca ⊢
  have cal:=Qr8 (c:=c') (c':=c2) (l:=M) (l':=M) (m:=M) (a:=tq T) (r:=s) (by omega) hs
  have cC1:=Qf4 (T:=96) (c:=c') (r0:=Qt M) (r1:=s) hS'.inv.ok
  have cC2:=Qf4 (T:=96) (c:=c2) (r0:=Qt M) (r1:=s) k4.inv.ok
  rw [hcs1] at cC1
  have csc:=Qsy (l:=Z3 (c2.l.map (·.c))) (fun x hx=>by
    obtain ⟨w,hw,rfl⟩:=List.mem_map.1 (Hw hx)
    exact (k4.inv.ok.l w hw).p) (by rw [Ws,List.length_map]; have:=k4.inv.ok.k; omega)
  have hes:((m:Nat):Int)+((E2.length:Nat):Int)=((E.length:Nat):Int):=by omega
  have hev2:c'.ev=c2.ev:=by rw [hev,k5,hce]; omega
  by_cases h:i<cs.length
  · exact en tt [.g 45 true (decide_eq_true (by omega)),.f (decide_eq_false (by omega)),.c [] ct12,.c [2] ca,.g 93 true rfl,.g 97 true rfl,.g 104 true (decide_eq_true hes),.lo,.c [0] Pj,.lo,.c [2] Pj,.g 115 true (decide_eq_true hev2),.lo,.c [0,2] cal,.g 120 true rfl,.lo,.c [0] cC1,.lo,.c [2] cC2,.c [] csc,.g 131 true rfl,.c [] Qa6] rfl rfl (by simp [Qa]; omega)
  · exact en tt [.g 45 false (decide_eq_false (by omega)),.f rfl,.c [] ct12,.c [2] ca,.g 93 true rfl,.g 97 true rfl,.g 104 true (decide_eq_true hes),.lo,.c [0] Pj,.lo,.c [2] Pj,.g 115 true (decide_eq_true hev2),.lo,.c [0,2] cal,.g 120 true rfl,.lo,.c [0] cC1,.lo,.c [2] cC2,.c [] csc,.g 131 true rfl,.c [] Qa6] rfl rfl (by simp [Qa]; omega)
end Orr

namespace Orr
open Go Go.Proofs
variable {H:Type} {enc:TypeId×Value→H} {w:World} {base:Nat} {spare:Nat→Bool} {held:Bool}
theorem Fj {α:Type} {l:List α} {n i:Nat} (h:l.length=n) (hi:i<n):∃ x,l[i]? = some x:=⟨l[i]'(by omega),List.getElem?_eq_getElem (by omega)⟩
end Orr

namespace Orr
open Go Go.Proofs Go.ChangeShapes Go.WideShapes Go.ChangeAt Go.RowKit Go.WideElems
theorem Q0q {w:World} {a:Addr} {v:Value} (h:w.cell? a=some v):a.spot=none∧a.block<w.heap.size:=by
  simp only [World.cell?] at h
  split at h
  · rename_i c t fr hc
    split at h
    · cases h
    · rename_i hs
      refine ⟨by cases e:a.spot with | none=>rfl | some _=>simp [e] at hs,?_⟩
      exact (Array.getElem?_eq_some_iff.1 hc).1
  · cases h
theorem Qzf {a:Addr} (h:a.spot=none) (n m:Nat):(a.add n).add m=⟨a.block,a.off+n+m,none⟩:=by
  obtain ⟨b,o,s⟩:=a
  simp only at h
  subst h
  simp only [Addr.add]
  split
  · rename_i h; subst h
    split
    · rename_i h; subst h; simp
    · simp
  · split
    · rename_i h; subst h; simp
    · simp
def fr0 (w:World):Fr:=⟨fun b=>b<w.heap.size,fun _=>False,w,fun _=>False,fun _=>none⟩
theorem hs0 (w:World):HS (fr0 w) (ob []) (nw []) (fun _=>none) (fun _=>False) w where
  size:=Nat.le_refl _
  kept:=fun b hb=>⟨hb,rfl,Iff.rfl⟩
  ids:=fun i h=>h.elim
  nj:=fun i h=>by rw [Qeo] at h; cases h
  io:=⟨rfl,rfl⟩
  blk:=fun i=>by rw [Qeo]; trivial
  nk:=fun i g c m h _=>by rw [Qeo] at h; cases h
  inj:=fun i j g c m c' m' h _ _ _=>by rw [Qeo] at h; cases h
  mlt:=fun b h=>h.elim
  m0:=fun b _ h=>h.elim
  un:=fun i _=>⟨rfl,rfl⟩
  uj:=fun i _ h=>h.elim
theorem Qoz {w w':World} {bl:Nat→OB} {U:Nat→Prop} {E:Kb} {M:Nat→Prop} (h:HS (fr0 w) bl U E M w') {p:MemPlace} (hp:p.block<w.heap.size):w.sameAt w' p:=by
  cases p with
  | cell b off=>simp only [World.sameAt,World.cell?]; rw [(h.kept b hp).2.1]; rfl
  | map b=>exact (h.kept b hp).2.1
theorem Q1d {w w':World} {bl:Nat→OB} {U:Nat→Prop} {E:Kb} {M:Nat→Prop} (h:HS (fr0 w) bl U E M w') (may:MemPlace→Prop):w.keptBut w' may:=by
  refine ⟨h.io.1,h.io.2,fun i hi=>?_⟩
  have e:w'.heap[i]? = w.heap[i]? := (h.kept i hi).2.1
  rw [e]
  cases w.heap[i]? with
  | none=>rfl
  | some o=>cases o <;> simp
end Orr

namespace Orr
open Go Go.Proofs Go.ChangeShapes Go.WideShapes Go.ChangeAt Go.RowKit Go.WideElems
theorem Pf {H:Type} {P:Program} {e:TypeId}:∀ {l:List (DataW H)} {i:Nat} {d:DataW H},l[i]? = some d→∀ n∈d.weights P e,n∈DataW.weightsAll P e l
  | [],i,d,h,_,_=>by simp at h
  |
   x::l,0,d,h,n,hn=>by
   simp at h; subst h
   simp only [DataW.weightsAll,List.mem_append]; exact .inl hn
  |
   x::l,i+1,d,h,n,hn=>by
   simp only [DataW.weightsAll,List.mem_append]
   exact .inr (Pf (i:=i) (by simpa using h) n hn)
theorem Gz {H:Type} {P:Program} {t:TypeId} {fs:Array Field} {parts:List (DataW H)} (hu:P.underlying t=some (.struct fs)) (hz:((DataW.agg parts).weights P t).all (· ≤ reachBytes)=true) {i:Nat} {f:Field} {d:DataW H} (hf:fs[i]? = some f) (hd:parts[i]? = some d) :
    (d.weights P f.type).all (· ≤ reachBytes)=true:=by
  rw [List.all_eq_true] at hz ⊢
  intro n hn
  refine hz n ?_
  simp only [DataW.weights,hu]
  exact DataW.weights_mem_each (j:=i) (by rw [List.getElem?_map]; simp [hf]) hd n hn
variable {H:Type} {enc:TypeId×Value→H} {w:World}
abbrev O0:Nat→Prop:=fun _=>False
def Els (w:World) (cs:List Value) (ls:List LV):Prop:=cs.length=ls.length∧∀ (j:Nat) (u:LV),ls[j]? = some u→∃ v,cs[j]? = some v∧LRep w O0 v u
theorem S4 {α:Type} {rw_:α→List LV} {Ok:α→Prop} {t e sz:Nat} (hu:Tryz.prog.underlying t=some (.slice e)) (hc:Tryz.prog.cellsOf e=sz) (hsz:0<sz) (hb:1≤Tryz.prog.bytesOf e) (hw:∀ z,(rw_ z).length=sz)
    (elem:∀ fuel cs x,DataW.trod enc Tryz.prog w 0 (fun _=>true) true fuel e cs=some x→(x.1.weights Tryz.prog e).all (· ≤ reachBytes)=true→∃ z,Ok z∧Els w cs (rw_ z))
    {fuel:Nat} {cs:List Value} {x:DataW H×List MemPlace} (h:DataW.trod enc Tryz.prog w 0 (fun _=>true) true fuel t cs=some x) (hz:(x.1.weights Tryz.prog t).all (· ≤ reachBytes)=true) :
    ∃ (v:Value) (l:List α),cs=[v]∧(∀ z∈l,Ok z)∧l.length<2^47∧LRep w O0 v (.row (l.map rw_)):=by
  rcases Go.Deep.open_slice hu h with ⟨rfl,_⟩ | ⟨a',len,cap,m,n,D,Pl,rfl,_,hlc,hcap,hm,rfl,hr⟩
  · refine ⟨_,[],rfl,by simp,Nat.two_pow_pos 47,?_⟩
    exact LRep.row none 0 0 0 0 [] (fun _ _=>.bool true) (Nat.le_refl _) (by decide) (by simp) (by simp) (by simp) (by simp)
  · simp only [if_true] at hm
    subst hm
    rw [List.all_eq_true] at hz
    have hlen:len<2^47:=by
      have h0:=hz ((len+(m-len))*Tryz.prog.bytesOf e) (by simp [DataW.weights,hu])
      have h1:len≤(len+(m-len))*Tryz.prog.bytesOf e:=by
        have:=Nat.mul_le_mul (Nat.le_add_right len (m-len)) hb
        omega
      have h2:(len+(m-len))*Tryz.prog.bytesOf e≤reachBytes:=by simpa using h0
      exact Nat.lt_of_le_of_lt (Nat.le_trans h1 h2) reachBytes_lt
    have hel:∀ i,i<len→((D i).weights Tryz.prog e).all (· ≤ reachBytes)=true:=fun i hi=>by
      rw [List.all_eq_true]
      intro k hk
      refine hz k ?_
      simp only [DataW.weights,hu]
      refine List.mem_cons_of_mem _ (List.mem_append.2 (.inl (Pf (i:=i) ?_ k hk)))
      rw [List.getElem?_map,List.getElem?_range hi]; rfl
    have hone:∀ i,i<len→∃ z cs',Ok z∧Els w cs' (rw_ z)∧∀ j,j<sz→w.cell? ((a'.add (i*sz)).add j)=cs'[j]? := fun i hi=>by
      obtain ⟨cs',hcs,htr⟩:=hr i (by omega)
      rw [hc] at hcs
      obtain ⟨_,hl,hcell⟩:=World.cells?_some hcs
      obtain ⟨z,hz1,hz2⟩:=elem _ _ _ htr (hel i hi)
      refine ⟨z,cs',hz1,hz2,fun j hj=>?_⟩
      rw [hcell j (by omega)]
    have hspot:0<len→a'.spot=none∧a'.block<w.heap.size:=fun h0=>by
      obtain ⟨z,cs',_,⟨hl,_⟩,h3⟩:=hone 0 h0
      have h4:=h3 0 hsz
      have:(a'.add (0*sz)).add 0=a':=by simp [Addr.add]
      rw [this,List.getElem?_eq_getElem (by rw [hl,hw]; exact hsz)] at h4
      exact Q0q h4
    obtain ⟨l,hll,hl⟩:∃ l:List α,l.length=len∧∀ i z,l[i]? = some z→Ok z∧∃ cs',Els w cs' (rw_ z)∧∀ j,j<sz→w.cell? ((a'.add (i*sz)).add j)=cs'[j]? := by
      have:∀ k,k≤len→∃ l:List α,l.length=k∧∀ i z,l[i]? = some z→Ok z∧∃ cs',Els w cs' (rw_ z)∧∀ j,j<sz→w.cell? ((a'.add (i*sz)).add j)=cs'[j]? := by
        intro k
        induction k with
        | zero=>intro _; exact ⟨[],rfl,fun i z h=>by simp at h⟩
        |
         succ k ih =>
         intro hk
         obtain ⟨l,h1,h2⟩:=ih (by omega)
         obtain ⟨z,cs',h3,h4,h5⟩:=hone k (by omega)
         refine ⟨l++[z],by simp [h1],fun i y hy=>?_⟩
         rcases Nat.lt_or_ge i l.length with hi | hi
         · rw [List.getElem?_append_left hi] at hy; exact h2 i y hy
         · rw [List.getElem?_append_right hi] at hy
           have:i-l.length=0:=by
             rcases Nat.eq_zero_or_pos (i-l.length) with h | h
             · exact h
             · rw [List.getElem?_eq_none (by rw [List.length_singleton]; exact h)] at hy; cases hy
           rw [this] at hy
           simp at hy
           subst hy
           have:i=k:=by omega
           subst this
           exact ⟨h3,cs',h4,h5⟩
      exact this len (Nat.le_refl _)
    refine ⟨_,l,rfl,fun z hz=>?_,by rw [hll]; exact hlen,?_⟩
    · obtain ⟨i,hi⟩:=List.mem_iff_getElem?.1 hz
      exact (hl i z hi).1
    · have key:LRep w O0 (.slice (some a') (l.map rw_).length m) (.row (l.map rw_)):=by
        have hgl:∀ i c,(l.map rw_)[i]? = some c→∃ z,l[i]? = some z∧c=rw_ z∧i<len:=fun i c h=>by
          rw [List.getElem?_map] at h
          cases e:l[i]? with
          | none=>rw [e] at h; cases h
          | some z=>rw [e] at h; simp at h; exact ⟨z,rfl,h.symm,by have:=(List.getElem?_eq_some_iff.1 e).1; omega⟩
        have hcl:∀ i c,(l.map rw_)[i]? = some c→∃ cs':List Value,Els w cs' c∧∀ j,j<sz→w.cell? ⟨a'.block,a'.off+i*sz+j,none⟩=cs'[j]? := fun i c h=>by
          obtain ⟨z,hz,rfl,hi⟩:=hgl i c h
          obtain ⟨_,cs',h1,h2⟩:=hl i z hz
          refine ⟨cs',h1,fun j hj=>?_⟩
          rw [←h2 j hj,Qzf (hspot (by omega)).1]
        refine LRep.row (some a') m sz a'.block a'.off (l.map rw_) (fun i j=>(w.cell? ⟨a'.block,a'.off+i*sz+j,none⟩).getD (.bool true)) (by rw [List.length_map]; omega) ?_ ?_ ?_ ?_ ?_
        · have:maxLen=2^63-1:=by rfl
          omega
        · intro c hc2
          obtain ⟨z,_,rfl⟩:=List.mem_map.1 hc2
          exact hw z
        · intro h0
          rw [List.length_map,hll] at h0
          obtain ⟨hs,hb⟩:=hspot h0
          refine ⟨?_,hb,by simp [O0]⟩
          obtain ⟨b,o,s⟩:=a'
          simp only at hs
          rw [hs]
        · intro i c hi j hj
          obtain ⟨z,_,rfl,_⟩:=hgl i c hi
          obtain ⟨cs',⟨h1,_⟩,h2⟩:=hcl i _ hi
          have hjs:j<sz:=by rw [←hw z]; exact hj
          rw [h2 j hjs,List.getElem?_eq_getElem (by rw [h1]; exact hj)]; rfl
        · intro i c hi j u hu2
          obtain ⟨z,_,rfl,_⟩:=hgl i c hi
          obtain ⟨cs',⟨h1,h3⟩,h2⟩:=hcl i _ hi
          obtain ⟨v,hv,hr2⟩:=h3 j u hu2
          have hjs:j<sz:=by rw [←hw z]; exact (List.getElem?_eq_some_iff.1 hu2).1
          show LRep w O0 ((w.cell? ⟨a'.block,a'.off+i*sz+j,none⟩).getD (.bool true)) u
          rw [h2 j hjs,hv]; exact hr2
      rw [List.length_map,hll] at key
      exact key
abbrev Zaf (x:Nat):List LV:=[.int .u32 (x:Int)]
theorem Qyr:∀ fuel cs x,DataW.trod enc Tryz.prog w 0 (fun _=>true) true fuel 169 cs=some x→(x.1.weights Tryz.prog 169).all (· ≤ reachBytes)=true→∃ z:Nat,z<4294967296∧Els w cs (Zaf z):=by
  intro fuel cs x h _
  obtain ⟨n,rfl,_,hwf⟩:=DataW.trod_int Tryz.underlying169 h
  have hn:0≤n∧n<4294967296:=by
    have:0≤n∧n≤4294967295:=by simpa [Lit.wf,IntKind.min,IntKind.max,IntKind.signed,IntKind.bits] using hwf
    omega
  refine ⟨n.toNat,by omega,rfl,fun j u hu=>?_⟩
  match j,hu with
  |
   0,hu =>
   simp at hu; subst hu
   refine ⟨_,rfl,?_⟩
   rw [show max n 0=n by omega]
   exact .int _ _
  | j+1,hu=>simp at hu
set_option maxRecDepth 20000 in
theorem Oe:∀ fuel cs x,DataW.trod enc Tryz.prog w 0 (fun _=>true) true fuel 29 cs=some x→(x.1.weights Tryz.prog 29).all (· ≤ reachBytes)=true→∃ z:RawInt,z.Ok∧Els w cs (Lf z):=by
  intro fuel cs x h hz
  obtain ⟨xs,n,_,rfl,hl,hxs,hf⟩:=DataW.trod_struct Tryz.underlying29 h
  have hl:cs.length=2:=hl
  match cs,hl with
  |
   [v0,v1],_ =>
   obtain ⟨z0,hz0⟩:=Fj (i:=0) hxs (by decide)
   obtain ⟨z1,hz1⟩:=Fj (i:=1) hxs (by decide)
   have h0:=hf 0 _ rfl
   have h1:=hf 1 _ rfl
   rw [hz0] at h0; rw [hz1] at h1
   obtain ⟨b,e0,_⟩:=DataW.trod_bool Tryz.underlying4 h0
   have f0:v0=.bool b:=(List.cons.inj (show [v0]=[Value.bool b] from e0)).1
   have hw1:=Gz Tryz.underlying29 hz (i:=1) rfl (d:=z1.1) (by rw [List.getElem?_map,hz1]; rfl)
   obtain ⟨v,l,e1,hlo,_,hrep⟩:=S4 (sz:=1) (Ok:=fun u:Nat=>u<4294967296) (rw_:=Zaf) Tryz.underlying27 (by kernel_rfl) (by decide) (of_decide_eq_true (by kernel_rfl)) (fun _=>rfl) Qyr h1 hw1
   have f1:v1=v:=(List.cons.inj (show [v1]=[v] from e1)).1
   subst f0 f1
   refine ⟨⟨b,l⟩,⟨hlo⟩,rfl,fun j u hu=>?_⟩
   match j,hu with
   | 0,hu=>simp at hu; subst hu; exact ⟨_,rfl,.bool _⟩
   | 1,hu=>simp at hu; subst hu; exact ⟨_,rfl,hrep⟩
   | j+2,hu=>simp at hu
set_option maxRecDepth 20000 in
theorem Qkq:∀ fuel cs x,DataW.trod enc Tryz.prog w 0 (fun _=>true) true fuel 35 cs=some x→(x.1.weights Tryz.prog 35).all (· ≤ reachBytes)=true→∃ z:RawPt,z.Ok∧Els w cs (rwq z):=by
  intro fuel cs x h hz
  obtain ⟨xs,n,_,rfl,hl,hxs,hf⟩:=DataW.trod_struct Tryz.underlying35 h
  have hl:cs.length=5:=hl
  match cs,hl with
  |
   [v0,v1,v2,v3,v4],_ =>
   obtain ⟨z0,hz0⟩:=Fj (i:=0) hxs (by decide)
   obtain ⟨z1,hz1⟩:=Fj (i:=1) hxs (by decide)
   have h0:=hf 0 _ rfl
   have h1:=hf 1 _ rfl
   rw [hz0] at h0; rw [hz1] at h1
   obtain ⟨id,e4,_,hwf⟩:=DataW.trod_int Tryz.underlying3 h1
   have f4:v4=.int .i64 id:=(List.cons.inj (show [v4]=[Value.int .i64 id] from e4)).1
   have hw0:=Gz Tryz.underlying35 hz (i:=0) rfl (d:=z0.1) (by rw [List.getElem?_map,hz0]; rfl)
   obtain ⟨ys,n2,_,e5,_,hys,hg⟩:=DataW.trod_struct Tryz.underlying31 h0
   rw [e5] at hw0
   obtain ⟨y0,hy0⟩:=Fj (i:=0) hys (by decide)
   obtain ⟨y1,hy1⟩:=Fj (i:=1) hys (by decide)
   obtain ⟨y2,hy2⟩:=Fj (i:=2) hys (by decide)
   have g0:=hg 0 _ rfl
   have g1:=hg 1 _ rfl
   have g2:=hg 2 _ rfl
   rw [hy0] at g0; rw [hy1] at g1; rw [hy2] at g2
   have w0:=Gz Tryz.underlying31 hw0 (i:=0) rfl (d:=y0.1) (by rw [List.getElem?_map,hy0]; rfl)
   have w1:=Gz Tryz.underlying31 hw0 (i:=1) rfl (d:=y1.1) (by rw [List.getElem?_map,hy1]; rfl)
   have w2:=Gz Tryz.underlying31 hw0 (i:=2) rfl (d:=y2.1) (by rw [List.getElem?_map,hy2]; rfl)
   obtain ⟨u0,lx,e0,hx,_,rx⟩:=S4 (sz:=2) (Ok:=RawInt.Ok) (rw_:=Lf) Tryz.underlying26 (by kernel_rfl) (by decide) (of_decide_eq_true (by kernel_rfl)) (fun _=>rfl) Oe g0 w0
   obtain ⟨u1,ly,e1,hy,_,ry⟩:=S4 (sz:=2) (Ok:=RawInt.Ok) (rw_:=Lf) Tryz.underlying26 (by kernel_rfl) (by decide) (of_decide_eq_true (by kernel_rfl)) (fun _=>rfl) Oe g1 w1
   obtain ⟨d,hd,hde⟩:=Oe _ _ _ g2 w2
   have f0:v0=u0:=(List.cons.inj (show [v0]=[u0] from e0)).1
   have f1:v1=u1:=(List.cons.inj (show [v1]=[u1] from e1)).1
   have hde2:Els w [v2,v3] (Lf d):=hde
   subst f0 f1 f4
   obtain ⟨q2,hq2,r2⟩:=hde2.2 0 _ rfl
   obtain ⟨q3,hq3,r3⟩:=hde2.2 1 _ rfl
   simp at hq2 hq3
   subst hq2 hq3
   refine ⟨⟨lx,ly,d,id⟩,⟨hx,hy,hd,by simpa [Lit.wf,IntKind.min,IntKind.max,IntKind.signed,IntKind.bits] using hwf⟩,rfl,fun j u hu=>?_⟩
   match j,hu with
   | 0,hu=>simp [rwq] at hu; subst hu; exact ⟨_,rfl,rx⟩
   | 1,hu=>simp [rwq] at hu; subst hu; exact ⟨_,rfl,ry⟩
   | 2,hu=>simp [rwq] at hu; subst hu; exact ⟨_,rfl,r2⟩
   | 3,hu=>simp [rwq] at hu; subst hu; exact ⟨_,rfl,r3⟩
   | 4,hu=>simp [rwq] at hu; subst hu; exact ⟨_,rfl,.int _ _⟩
   | j+5,hu=>simp [rwq] at hu
end Orr

namespace Orr
open Go Go.Proofs Go.ChangeShapes Go.WideShapes Go.ChangeAt Go.RowKit Go.WideElems
variable {H:Type} {enc:TypeId×Value→H} {w:World}
theorem Qvf:∀ fuel cs x,DataW.trod enc Tryz.prog w 0 (fun _=>true) true fuel 3 cs=some x→(x.1.weights Tryz.prog 3).all (· ≤ reachBytes)=true→∃ z:Int,(-9223372036854775808≤z∧z≤9223372036854775807)∧Els w cs [LV.int .i64 z]:=by
  intro fuel cs x h _
  obtain ⟨n,rfl,_,hwf⟩:=DataW.trod_int Tryz.underlying3 h
  refine ⟨n,by simpa [Lit.wf,IntKind.min,IntKind.max,IntKind.signed,IntKind.bits] using hwf,rfl,fun j u hu=>?_⟩
  match j,hu with
  |
   0,hu =>
   simp at hu; subst hu
   exact ⟨_,rfl,.int _ _⟩
  | j+1,hu=>simp at hu
set_option maxRecDepth 20000 in
theorem Qha {f:FuncId} {fn:Func} {s:ChangeSpec} (hp:fn.params = #[24,22]) (hr:fn.resultTypes = #[4]) (hv:s.vars=[])
    (hs:∀ (H:Type) (d1 d2:DataW H),s.fn H [d1,d2]={ results:=[.lit (.bool true)],args:=[d1,d2] })
    (hlaid:laidOutB Tryz.prog=true) (hr22:Tryz.prog.readableRec 24=true) (hr3:Tryz.prog.readableRec 22=true) (hs22:24<Tryz.prog.types.size) (hs3:22<Tryz.prog.types.size)
    (law:∀ (zs:List RawPt) (cs:List Int),(∀ z∈zs,z.Ok)→(∀ z∈cs,-9223372036854775808≤z∧z≤9223372036854775807)→Qc Tryz.prog f [.one (.row (Cg zs)),.one (.row (idl cs))] [.one (.bool true)])
    {H:Type} {enc:TypeId×Value→H} {W:World} {base:Nat} {args:Array Value} {ds gs:List (DataW H)} {Vr:List MemPlace} {fresh handsOn:Bool}
    (hval:∀ (j:Nat) t v,fn.params[j]? = some t→args[j]? = some v→Value.okWide Tryz.prog W .any base t v)
    (hW:DataW.Whole enc Tryz.prog fn.params.toList s.vars false W args.toList ds gs Vr)
    (hz:(DataW.weightsEach Tryz.prog (fn.params.toList++s.plain.varTypes Tryz.prog) (ds++gs)).all (· ≤ reachBytes)=true) :
    Calls Tryz.prog f args W fun e W'=>∃ v,e=.returned v∧s.post enc Tryz.prog fn false fresh handsOn false W args v W':=by
  have hW':=hW
  obtain ⟨p,q,hA0,hV,rfl,hfz,hnd⟩:=hW
  have hA:DataW.TrodAll enc Tryz.prog W 0 (fun _=>true) true fn.params.toList args.toList ds p:=hA0
  rw [hv] at hV
  obtain ⟨rfl,rfl⟩:=trodVars_none hV
  have hlt:=hW'.lt
  rw [hp] at hA hval hz
  obtain ⟨v0,vs0,d0,ds0,p0,q0,hargs0,rfl,rfl,h0,r0⟩:=trodAll_cons hA
  obtain ⟨v1,vs1,d1,ds1,p1,q1,rfl,rfl,rfl,h1,r1⟩:=trodAll_cons r0
  obtain ⟨rfl,rfl,rfl⟩:=trodAll_nil r1
  obtain rfl:args = #[v0,v1]:=by cases args; simp_all
  have hv1:=hval 1 22 v1 rfl rfl
  obtain ⟨a1,len1,cap1,rfl⟩:=okWide_slice Tryz.underlying22 hv1
  have hz1:(d1.weights Tryz.prog 22).all (· ≤ reachBytes)=true:=by
    rw [List.all_eq_true] at hz ⊢
    intro k hk
    exact hz k (DataW.weights_mem_each (j:=1) rfl rfl k hk)
  have h1':=h1
  obtain ⟨fu1,h1'⟩:=h1'
  obtain ⟨u1,cs,e1,hok1,hlen1,hrep1⟩:=S4 (sz:=1) (Ok:=fun z:Int=>-9223372036854775808≤z∧z≤9223372036854775807) (rw_:=fun (z:Int)=>[LV.int .i64 z]) Tryz.underlying22 (by kernel_rfl) (by decide) (of_decide_eq_true (by kernel_rfl)) (fun _=>rfl) Qvf h1' hz1
  have f1:Value.slice a1 len1 cap1=u1:=(List.cons.inj (show [Value.slice a1 len1 cap1]=[u1] from e1)).1
  subst f1
  have hrep1:LRep W (fun _=>False) (.slice a1 len1 cap1) (.row (idl cs)):=hrep1
  have hv0:=hval 0 24 v0 rfl rfl
  obtain ⟨a,len,cap,rfl⟩:=okWide_slice Tryz.underlying24 hv0
  have hz0:(d0.weights Tryz.prog 24).all (· ≤ reachBytes)=true:=by
    rw [List.all_eq_true] at hz ⊢
    intro k hk
    exact hz k (DataW.weights_mem_each (j:=0) rfl rfl k hk)
  have h0':=h0
  obtain ⟨fu,h0'⟩:=h0'
  obtain ⟨v,zs,e0,hok,hlen,hrep⟩:=S4 (sz:=5) (Ok:=RawPt.Ok) (rw_:=rwq) Tryz.underlying24 (by kernel_rfl) (by decide) (of_decide_eq_true (by kernel_rfl)) (fun _=>rfl) Qkq h0' hz0
  have f0:Value.slice a len cap=v:=(List.cons.inj (show [Value.slice a len cap]=[v] from e0)).1
  subst f0
  have hrep:LRep W (fun _=>False) (.slice a len cap) (.row (Cg zs)):=hrep
  have hcall:=(law zs cs hok hok1).2 (fr0 W) (fun _=>none) (fun _=>False) W [.slice a len cap,.slice a1 len1 cap1] (hs0 W) (.cons (show XRep W (fun _=>False) (fun _=>none) (.slice a len cap) (.row (Cg zs)) from hrep.x) (.cons (show XRep W (fun _=>False) (fun _=>none) (.slice a1 len1 cap1) (.row (idl cs)) from hrep1.x) .nil))
  refine hcall.mono fun e W' ⟨v,u,Bo,E',M',he,⟨hu,hBo⟩,_,hm,har⟩=>?_
  subst hu
  obtain rfl:v=.bool true:=by
    have h:LRep _ _ v (.bool true):=har
    cases h
    rfl
  refine ⟨_,he,?_⟩
  refine ⟨[d0,d1],[],_,[],p0++(p1++[]),[],hW',?_,?_,?_,Q1d hm _,fun h=>by cases h⟩
  · rw [hr,List.append_nil,hs]
    exact trodAll_cons_mk (shut_bool Tryz.underlying4 true) trodAll_mk0
  · rw [hp,List.append_nil,hs]
    have hb:∀ p∈p0,p.block<W.heap.size:=fun p hp=>hlt p (by simp [hp])
    have hb1:∀ p∈p1,p.block<W.heap.size:=fun p hp=>hlt p (by simp [hp])
    exact trodAll_cons_mk (Trod_stays hlaid hr22 hs22 h0 (fun p hp=>Qoz hm (hb p hp)) (fun p hp=>by simpa using hb p hp)) (trodAll_cons_mk (Trod_stays hlaid hr3 hs3 h1 (fun p hp=>Qoz hm (hb1 p hp)) (fun p hp=>by simpa using hb1 p hp)) trodAll_mk0)
  · rw [hv,List.append_nil,hs]
    rfl
end Orr
