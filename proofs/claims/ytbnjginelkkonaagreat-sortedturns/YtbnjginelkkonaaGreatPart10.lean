/- SplitL NewsN W1 W2 WR18 WS18 SD1 SD2 TurnL WD18 ReadN LastN LastR LastT -/
import Derived.Test.YtbnjginelkkonaaGreatPart09
import Derived.Test.YtbnjginelkkonaaGreatPart08
import Derived.Test.YtbnjginelkkonaaGreatPart05
import Derived.Deep.Slices
import Derived.ProofKit
import Derived.OpenShut
import Derived.WideKeyArgs
import Derived.SizedLaws
set_option linter.all false

namespace Orq
open Orr Go
structure Quiet {β:Type} (Bc:Tm→List Ct) (Br:Tm→β) (a b:Tm):Prop where
  va:Va a
  vb:Va b
  le:¬Uj b a
  n:∀ x∈Bc a,∃ o,Uo x.p a o∧∀ u,o=some u→Uj b u
section
variable {β:Type} {Bc:Tm→List Ct} {Br:Tm→β} (S:Stab Bc Br)
include S
theorem Quiet.same {a b:Tm} (h:Quiet Bc Br a b):Bc b=Bc a∧Br b=Br a:=by
  refine S.st a b h.va h.vb fun x hx=>?_
  obtain ⟨o,o1,o2⟩:=h.n x hx
  exact Qcw (S.ok.p _ h.va _ hx).dp h.va h.vb h.le o1 o2
end
theorem Q4c {p:List Int} (h:Cp p):(tms p).length≤67:=by
  obtain ⟨l,l1,l2,_⟩:=Pu h
  unfold tms; rw [l1]; exact l2
theorem Qp6:∀ {Ps:List (List Int)},(∀ p∈Ps,Cp p)→(Ps.flatMap tms).length≤67*Ps.length
  | [],_=>Nat.zero_le _
  |
   p::Ps,h=>by
   have h1:=Q4c (h p (by simp))
   have h2:=Qp6 (Ps:=Ps) fun q hq=>h q (List.mem_cons_of_mem _ hq)
   rw [List.flatMap_cons,List.length_append,List.length_cons]; omega
theorem Zaa (T:List Tm) (a:Tm):mu T a≤T.length:=List.length_filter_le _ _
theorem Q50 {β:Type} {Bc:Tm→List Ct} {Br:Tm→β} (S:Stab Bc Br) {Ps:List (List Int)} (hP:∀ p∈Ps,Cp p) (hPs:∀ a,Va a→∀ x∈Bc a,x.p∈Ps) (hl:Ps.length≤1000000) {t:Rat} (ht:Qs 900 t) {c:Cr} {r:β} (hS:KSt Bc Br c r) (h:Qu c.now t≤0) :
    ∃ (K:Nat) (c':Cr) (E:List Tm),K≤67000001∧goF Bc Br t K c r 0=some (c',Br (tq t),((E.length:Nat):Int))∧c'.now=tq t∧KSt Bc Br c' (Br (tq t))∧c'.ev=c.ev+((E.length:Nat):Int)∧E.length≤67000000∧Evs Bc t c.now E:=by
  have hm:=Qp6 hP
  have hmu:=Zaa (Ps.flatMap tms) c.now
  have hv:=hS.inv.ok.n
  obtain ⟨c',r',E,g1,g2,g3,g4,g5,g6⟩:=Q90 S ht hP hPs (mu (Ps.flatMap tms) c.now) c r 0 (Nat.le_refl _) hS fun h'=>by
    have:=(Oi hv.cut).2 h'; omega
  have hr:r'=Br (tq t):=by rw [g3.r,g2]
  rw [hr] at g1 g3
  rw [Int.zero_add] at g1
  exact ⟨_,c',E,by omega,g1,g2,g3,g4,by omega,g6⟩
theorem Q57 {β:Type} {Bc:Tm→List Ct} {Br:Tm→β} (S:Stab Bc Br) {a:Tm} (ha:Va a):KSt Bc Br ⟨a,(Q6 (Bc a)).map fresh,0⟩ (Br a):=by
  refine ⟨⟨⟨ha,fun w hw=>?_,?_⟩,fun w hw hk=>?_⟩,?_,rfl⟩
  · obtain ⟨x,hx,rfl⟩:=List.mem_map.1 hw
    exact ⟨S.ok.p _ ha x (U7 hx),fun t ht=>by cases ht⟩
  · show ((Q6 (Bc a)).map fresh).length≤1000
    rw [List.length_map,Wp]; exact S.ok.n _ ha
  · obtain ⟨x,hx,rfl⟩:=List.mem_map.1 hw
    cases hk
  · show ((Q6 (Bc a)).map fresh).map (·.c)=Q6 (Bc a)
    rw [List.map_map]
    show (Q6 (Bc a)).map (fun x=>x)=_
    rw [List.map_id']
end Orq

namespace Orr
open Go Go.Proofs Orq
theorem Qyx {x y:Int} (hx:-9223372036854775808≤x∧x≤9223372036854775807) (hy:-9223372036854775808≤y∧y≤9223372036854775807):Sc (Qzf x y):=⟨Crv.nml _,((Qhb hx hy).norm (by decide)).mono (by decide) (by decide)⟩
theorem Sc.pt {p:Pt} (h:Sc p.c):Qsv 4294967294 1073741824 p:=⟨h.n,h.c.mono (by decide) (by decide)⟩
end Orr

namespace Orr
open Go Go.Proofs
set_option maxRecDepth 10000
theorem Qtp {n:Nat} (hn:n≤256):Qc Tryz.prog 160 [.agg (Ze 1),.one (.int .i64 (n:Int))] [.agg (Ze 1)]:=by
  have cm:=Wg (Qe 1) (Qe 1) (by decide) (by decide)
  rw [show (1:Int)*1=1 from rfl] at cm
  refine Zy Tryz.func160 rfl ?_
  refine go tt [.c [] (Qbm (z:=1) (by decide)),.r 8 (v:=.one (.int .i64 (n:Int))) (by simp; omega),.r 9 (v:=.one (.int .i64 (n:Int))) (by simp)] rfl trivial ?_
  refine lp (S:=Nat) 3 (fun L1 i=>(10,.v (.one (.int .i64 (i:Int))))::L1) (fun _=>[.blk 29 (Ze 1),.blk 29 [.bool false,.nils],.blk 29 (Ze 1)]) (fun i=>n-i) (fun i=>i≤n) 0 (Nat.zero_le _) rfl (fun _ _=>rfl) rfl fun i hi=>?_
  by_cases h:i<n
  · refine go tt [.t (by simp; omega),.c [] cm] rfl (by simp [Qa]; omega) ?_
    exact rd (i+1) (by omega) h rfl
  · obtain rfl:i=n:=by omega
    exact en tt [.f (by simp)] rfl rfl trivial
theorem Q0x:Qc Tryz.prog 157 [pr [],.agg (Ze 0),.agg (Ze 1)] [pr [],.one (.int .i64 0)]:=by
  have n0:=Y0 (Qe 0) (by decide)
  have n1:=Y0 (Qe 1) (by decide)
  have cn:=Xa (p:=[]) rfl (by decide) Wd
  refine Zy Tryz.func157 rfl ?_
  refine go tt [.c [] n1,.c [] (Uk (z:=1)),.f rfl,.c [] cn,.z 8,.c [] n0,.c [] n1,.c [] (Qbm (z:=1) (by decide))] rfl (by simp [Qa]) ?_
  refine lp (S:=Unit) 3 (fun L1 _=>(11,.v (.one (.int .i64 (-1))))::(8,.v (pr []))::L1) (fun _=>[.blk 29 (Ze 0),.blk 29 (Ze 1),.blk 29 (Ze 1)]) (fun _=>0) (fun _=>True) () trivial rfl (fun _ _=>rfl) rfl fun _ _=>?_
  exact en tt [.f (b:=decide ((0:Int)≤-1)) (by decide)] rfl rfl trivial
theorem Q0y:Qc Tryz.prog 157 [pr [0,1],.agg (Ze 0),.agg (Ze 1)] [pr [0,1],.one (.int .i64 0)]:=by
  have n0:=Y0 (Qe 0) (by decide)
  have n1:=Y0 (Qe 1) (by decide)
  have b01:Bd 4 ([0,1]:List Int):=fun z hz=>by rcases List.mem_cons.1 hz with rfl | hz; decide; rw [List.mem_singleton.1 hz]; decide
  have b1:Bd 4 ([1]:List Int):=fun z hz=>by rw [List.mem_singleton.1 hz]; decide
  have b0:Bd 4 ([0]:List Int):=fun z hz=>by rw [List.mem_singleton.1 hz]; decide
  have cn:=Xa (p:=[0,1]) rfl (by decide) (Qd b01 (by decide))
  have m1:=Qkb (p:=[]) (q:=[0,1]) (s:=4) (t:=4) rfl rfl (by decide) (by decide) Wd b01 (by decide)
  have m2:=Qkb (p:=[1]) (q:=[0,1]) (s:=4) (t:=4) rfl rfl (by decide) (by decide) b1 b01 (by decide)
  have a1:=Qka (p:=[]) (q:=[1]) (by decide) (by decide) Wd (Qd b1 (by decide))
  have a2:=Qka (p:=[0,1]) (q:=[0]) (by decide) (by decide) (Qd b01 (by decide)) (Qd b0 (by decide))
  rw [show Zp [] [0,1]=[] from rfl] at m1
  rw [show Zp [1] [0,1]=[0,1] from rfl] at m2
  rw [show Mv [] [1]=[1] from rfl] at a1
  rw [show Mv [0,1] [0]=[0,1] from rfl] at a2
  have w1:=Wg (Qe 1) (Qe 1) (by decide) (by decide)
  have w0:=Wg (Qe 0) (Qe 1) (by decide) (by decide)
  rw [show (1:Int)*1=1 from rfl] at w1
  rw [show (0:Int)*1=0 from rfl] at w0
  refine Zy Tryz.func157 rfl ?_
  refine go tt [.c [] n1,.c [] (Uk (z:=1)),.f rfl,.c [] cn,.z 8,.c [] n0,.c [] n1,.c [] (Qbm (z:=1) (by decide)),.r 25 (eI (b:=1) rfl)] rfl (by simp [Qa]) ?_
  refine lp (S:=Nat) 3 (fun L1 k=>(11,.v (.one (.int .i64 (if k=2 then 1 else if k=1 then 0 else -1))))::(8,.v (pr (if k=2 then [] else if k=1 then [1] else [0,1])))::L1) (fun _=>[.blk 29 (Ze 0),.blk 29 (Ze 1),.blk 29 (Ze 1)]) (fun k=>k) (fun k=>k≤2) 2 (Nat.le_refl _) rfl (fun _ _=>rfl) rfl fun k hk=>?_
  rcases (show k=0∨k=1∨k=2 by omega) with rfl | rfl | rfl
  · exact en tt [.f (b:=decide ((0:Int)≤-1)) (by decide)] rfl rfl trivial
  · refine go tt [.t rfl,.c [] m2,.x (i:=0) (xs:=Ze 0) rfl,.c [] w0,.c [] a2,.c [] w1,.r 29 (eI (b:=-1) rfl)] rfl (by simp [Qa]) ?_
    exact rd 0 (by omega) (by omega) rfl
  · refine go tt [.t rfl,.c [] m1,.x (i:=1) (xs:=Ze 1) rfl,.c [] w1,.c [] a1,.c [] w1,.r 29 (eI (b:=0) rfl)] rfl (by simp [Qa]) ?_
    exact rd 1 (by omega) (by omega) rfl
abbrev Qyt:Crv:=⟨[0,1],[],1⟩
theorem Qig:Nml Qyt:=⟨rfl,rfl,by decide,by decide⟩
theorem cs_run1:Cs 3 3 Qyt:=by
  refine ⟨fun z hz=>?_,fun z hz=>(by cases hz),by decide,by decide,by decide⟩
  rcases List.mem_cons.1 hz with rfl | hz
  · decide
  · rw [List.mem_singleton.1 hz]; decide
theorem Cs.up {s n s' n':Nat} {k:Crv} (h:Cs s n k) (hs:s≤s') (hn:n≤n'):Cs s' n' k:=⟨Qd h.x hs,Qd h.y hs,Nat.le_trans h.d hs,Nat.le_trans h.lx hn,Nat.le_trans h.ly hn⟩
theorem Q1p {x y x' y':LV} {n d:Int} (h1:Xc x y n) (h2:Xc x' y' d) (hn:Qm n≤4294967295) (hd:Qm d≤4294967295) (hq:Qs 4294967295 (Zl n d)):Qc Tryz.prog 156 [.agg [x,y,x',y']] [.agg (rl (-(Zl n d)))]:=by
  have c1:=Bp h1 h2 hn hd
  obtain ⟨b,l,rfl,rfl,_⟩:=h1
  obtain ⟨b',l',rfl,rfl,_⟩:=h2
  exact w tt Tryz.func156 rfl [.c [] c1,.c [] (Es (Qe _) hq.1)] rfl rfl trivial
theorem Q6i:Qc Tryz.prog 95 [.one (.row [[.bool false,.row []],[.bool false,.row [[.int .u32 1]]]]),.one (.row []),.agg [.bool false,.row [],.bool false,.row []]] [.agg (cl Qyt)]:=by
  have i01:IsInts [[.bool false,.row []],[.bool false,.row [[.int .u32 1]]]] [0,1]:=by
    refine ⟨⟨_,_,rfl,false,[],rfl,rfl,(fun x hx=>by cases hx),rfl⟩,⟨_,_,rfl,false,[1],rfl,rfl,(fun x hx=>by rw [List.mem_singleton.1 hx]; decide),rfl⟩,trivial⟩
  have cn:=Ws i01 (by decide) (Qd cs_run1.x (by decide))
  have cn0:=Xa (p:=[]) rfl (by decide) Wd
  rw [show trim [0,1]=[0,1] from rfl] at cn
  have cg:=Q1p Yq Yq (by decide) (by decide) (show Qs 4294967295 (Zl 0 0) from ⟨by decide,by decide⟩)
  rw [show -(Zl 0 0)=0 from by decide] at cg
  have p0:=Qtp (n:=0) (by decide)
  have p1:=Qtp (n:=1) (by decide)
  have s1:=W5 (p:=[0,1]) (c:=1) (by decide) (Qd cs_run1.x (by decide)) (by decide)
  have s0:=W5 (p:=[]) (c:=1) (by decide) Wd (by decide)
  rw [show Qw [0,1] 1=[0,1] from rfl] at s1
  rw [show Qw [] 1=[] from rfl] at s0
  have ck:=Qt7 Qig (cs_run1.up (by decide) (by decide))
  refine Zy Tryz.func95 rfl ?_
  refine go tt [.c [] cn,.c [] cn0,.c [] cg,.c [] Q0y,.c [] Q0x,.c [] (Vb _),.r 40 (eI (b:=1) (by decide)),.c [] (Vb _),.r 43 (eI (b:=0) (by decide)),.r 46 (eI (b:=((1:Nat):Int)) (by decide))] rfl (by simp [Qa]) ?_
  exact en tt [.r 52 (eI (b:=((0:Nat):Int)) (by decide)),.c [] p0,.c [] s1,.r 60 (eI (b:=((1:Nat):Int)) (by decide)),.c [] p1,.c [] s0,.c [] p1,.c [] ck] rfl rfl (by simp [Qa])
end Orr

namespace Orr
open Go Go.Proofs Orq
set_option maxRecDepth 10000
theorem Qwe {Bc:Tm→List Ct} {Br:Tm→List (List LV)} {t:Rat}:∀ {k:Nat} {c c':Cr} {r r':List (List LV)} {n n':Int},goF Bc Br t k c r n=some (c',r',n')→r'=r∨∃ a,r'=Br a
  | 0,_,_,_,_,_,_,h=>by cases h
  |
   k+1,c,c',r,r',n,n',h=>by
   simp only [goF] at h
   obtain ⟨ws,_,h⟩:=Option.bind_eq_some_iff.1 h
   obtain ⟨o,_,h⟩:=Option.bind_eq_some_iff.1 h
   cases o with
   | none=>injection h with h; injection h with _ h; injection h with h _; exact .inl h.symm
   |
    some a =>
    dsimp only at h
    split at h
    · injection h with h; injection h with _ h; injection h with h _; exact .inl h.symm
    · obtain ⟨w2,_,h⟩:=Option.bind_eq_some_iff.1 h
      rcases Qwe h with e | e
      · exact .inr ⟨a,e⟩
      · exact .inr e
abbrev wkP:List Pt:=[⟨Qyt,1⟩,⟨Qzf 1 0,2⟩]
def Q5i (l:List LV):Int:=match l with
  | [_,_,_,_,.int _ z]=>z
  | _=>0
theorem Qwq (l:List Pt):(Ql l).map Q5i=l.map (·.id):=by
  simp only [Ql,List.map_map]; rfl
theorem Zbt:(goF (Ix wkP) (Ai wkP) 1 5 (Qqm wkP (tq 0)) (Ai wkP (tq 0)) 0).map (fun x=>(x.2.1.map Q5i,x.2.2))=some ([2,1],1):=by decide +kernel
theorem Q8v:(H5 (tq 0) wkP).map (·.id)=[1,2]:=by decide +kernel
theorem Q3w:Sc Qyt:=⟨Qig,cs_run1.up (by decide) (by decide)⟩
theorem Qqd:∀ p∈wkP,Sc p.c:=fun p hp=>by
  rcases List.mem_cons.1 hp with rfl | hp
  · exact Q3w
  · rw [List.mem_singleton.1 hp]; exact Qyx (by decide) (by decide)
theorem Qca:Qc Tryz.prog 45 [] [.one (.bool true)]:=by
  have hq:Qs 900 (Zl 0 0):=⟨by decide,by decide⟩
  have ez:Zl 0 0=0:=by decide
  have zp:IsPts 4294967294 1073741824 (Ql wkP) wkP:=Qom fun p hp=>(Qqd p hp).pt
  have hnl:Jv [] wkP=(wkP,0):=rfl
  have cn:=Qnd (qs:=wkP) zp (by decide) hnl Qqd (by decide) Yq Yq (by decide) (by decide) hq
  rw [ez] at cn
  have ci:=Qeb (c:=Qqm wkP (tq 0)) (l:=wkP) (s:=H5 (tq 0) wkP) (by rw [Ue]; decide)
  rw [Q8v] at ci
  have cs:=Qke (a:=[1,2]) (b:=[1,2]) (by decide) (by decide)
  have cs2:=Qke (a:=[2,1]) (b:=[2,1]) (by decide) (by decide)
  obtain ⟨x,hx,hx2⟩:=Option.map_eq_some_iff.1 Zbt
  obtain ⟨c',r',n'⟩:=x
  injection hx2 with h3 h4
  dsimp only at h3 h4
  subst h4
  obtain ⟨s,hs,hsl⟩:∃ s,r'=Ql s∧s.length≤1000000:=by
    rcases Qwe hx with e | ⟨a,e⟩
    · exact ⟨_,e,by rw [Ue]; decide⟩
    · exact ⟨_,e,by rw [Ue]; decide⟩
  subst hs
  rw [Qwq] at h3
  have hB:=Dw Qqd (by decide)
  have hv:Va (tq 0):=Q4g (by rw [←ez]; exact hq)
  have hc:CrOk (Qqm wkP (tq 0)):=⟨hv,fun w hw=>by
      obtain ⟨x,hx,rfl⟩:=List.mem_map.1 hw
      exact ⟨hB.p _ hv x (U7 hx),fun t ht=>by cases ht⟩,by
      show ((Q6 (Ix wkP (tq 0))).map fresh).length≤1000
      rw [List.length_map,Wp]; exact hB.n _ hv⟩
  have ca:=Qtv (t:=1) ⟨by decide,by decide⟩ Qqd (by decide) hc ⟨by decide,by decide⟩ (by decide +kernel) hx
  have ci2:=Qeb (c:=c') (l:=wkP) (s:=s) hsl
  rw [h3] at ci2
  have co:=D3 (n:=1) (by decide)
  have ct:=Qt2 (q:=1) ⟨by decide,by decide⟩
  refine Zy Tryz.func45 rfl ?_
  exact en tt [.z 6,.c [] Q6i,.c [] (Q1a (by decide) (by decide)),.c [0] cn,.g 21 false rfl,.g 25 false rfl,.c [0] ci,.c [] cs,.f rfl,.c [] co,.c [] ct,.c [0] ca,.g 41 true rfl,.g 45 true rfl,.c [0] ci2,.c [] cs2] rfl rfl trivial
end Orr

namespace Orr
open Go Go.Proofs Orq
set_option maxRecDepth 10000
theorem Qrf {l m:List Pt} (h:l.Perm m) (hd:Gq l):Gq m:=(h.pairwise_iff (fun h=>fun e=>h e.symm)).1 hd
end Orr

namespace Orr
open Go Go.Proofs Orq
set_option maxRecDepth 10000
end Orr

namespace Orr
open Go Go.Proofs Orq
set_option maxRecDepth 10000
theorem Qpi {l:List Pt} {id:Int} (h:has l id=true):Gl l id<l.length:=by
  rcases Nat.lt_or_ge (Gl l id) l.length with h1 | h1
  · exact h1
  · simp [has,List.getElem?_eq_none h1] at h
theorem Q1c {lx ly:List (List LV)} {px py:List Int} {x y:LV} {d id:Int} {l:List Pt} (hx:IsInts lx px) (hy:IsInts ly py) (hd:Xc x y d) (hk:Cs 4294967294 1073741824 (Crv.mk px py d)) (hl:l.length≤1000000) (h:has l id=true) :
    Qc Tryz.prog 102 [.agg [pts l],.agg [.row lx,.row ly,x,y,.int .i64 id]] [.agg [pts (l.set (Gl l id) (Pt.mk (Crv.norm (Crv.mk px py d)) id))],.one (.int .i64 0)]:=by
  have ca:=Qnf (l:=l) id (by omega)
  have cf:=Qnj hx hy hd hk id
  obtain ⟨b,r,rfl,rfl,_⟩:=hd
  obtain ⟨q,hq⟩:∃ q,q=Pt.mk (Crv.norm (Crv.mk px py d)) id:=⟨_,rfl⟩
  rw [←hq] at cf ⊢
  have hpl:=Qpi h
  rw [h] at ca
  have e:pts (l.set (Gl l id) q)=.row ((l.map Jz).set (Gl l id) (Jz q)):=by unfold pts; rw [List.map_set]
  rw [e]
  exact w tt Tryz.func102 rfl [.c [] ca,.f rfl,.s (H4 l),.c [] cf,.i (Gl l id)] rfl rfl (by simp [Qa]; omega)
theorem Q1b {l:List Pt} {id:Int} (hl:l.length≤1000000) (h:has l id=true) :
    Qc Tryz.prog 103 [.agg [pts l],.one (.int .i64 id)] [.agg [pts (l.take (Gl l id)++l.drop (Gl l id+1))],.one (.int .i64 0)]:=by
  have ca:=Qnf (l:=l) id (by omega)
  have hpl:=Qpi h
  rw [h] at ca
  have s1:∀ c∈(l.map Jz).take (Gl l id),c.length=5:=fun c hc=>H4 l c (List.mem_of_mem_take hc)
  have s3:∀ c∈(l.map Jz).drop (Gl l id+1),c.length=5:=fun c hc=>H4 l c (List.mem_of_mem_drop hc)
  have e:pts (l.take (Gl l id)++l.drop (Gl l id+1))=.row ((l.map Jz).take (Gl l id)++(l.map Jz).drop (Gl l id+1)):=by unfold pts; rw [List.map_append,List.map_take,List.map_drop]
  rw [e]
  refine w tt Tryz.func103 rfl [.c [] ca,.f rfl,.i (Gl l id),.s s1,.i (Gl l id+1),.s s3] rfl ?_ ?_
  · simp
  · have h1:(List.map Jz l).length=l.length:=by simp
    have h2:∀ z∈List.map Jz l,z.length=ti35.sz:=H4 l
    simp only [Qa,List.length_take,List.length_drop,h1]
    and_intros <;> first | exact h2 | omega
theorem Qt6 {l:List Pt} {id:Int} (hl:l.length≤1000000) (h:has l id=false) :
    Qc Tryz.prog 103 [.agg [pts l],.one (.int .i64 id)] [.agg [pts l],.one (.int .i64 5)]:=by
  have ca:=Qnf (l:=l) id (by omega)
  rw [h] at ca
  exact w tt Tryz.func103 rfl [.c [] ca,.t rfl] rfl rfl trivial
end Orr

namespace Orr
open Go Go.Proofs Orq
set_option maxRecDepth 10000
theorem Q06 {lx ly:List (List LV)} {px py:List Int} {x y:LV} {d id:Int} {c:Cr} {l l':List Pt} {r1:List (List LV)} {ws:List Wt} (hx:IsInts lx px) (hy:IsInts ly py) (hd:Xc x y d) (hk:Cs 4294967294 1073741824 (Crv.mk px py d)) (hll:l.length≤900) (h:has l id=true) (hc:CrOk c)
    (hl':l'=l.set (Gl l id) (Pt.mk (Crv.norm (Crv.mk px py d)) id)) (hs:∀ p∈l',Sc p.c) (hw:Gk c.l c.now (Q6 (Ix l' c.now))=some ws) :
    Z5 Tryz.prog 72 [.one (.ow 0 0),.agg [.row lx,.row ly,x,y,.int .i64 id]] [.blk 96 (Yo c (Ql l) r1)] [.one (.int .i64 0)] [.blk 96 (Yo ⟨c.now,ws,c.ev⟩ (Ql l') (Ai l' c.now))]:=by
  have ct1:=Q1c (l:=l) hx hy hd hk (by omega) h
  rw [←hl'] at ct1
  have cw:=Qec (c:=c) (l:=l) (l':=l') (r1:=r1) hc hs (by rw [hl',List.length_set]; omega) hw
  obtain ⟨b,r,rfl,rfl,_⟩:=hd
  refine Zy Tryz.func72 rfl ?_
  exact ed tt [] [0] [.c [] ct1,.c [0] cw] rfl trivial
theorem Q03 {id:Int} {c:Cr} {l l':List Pt} {r1:List (List LV)} {ws:List Wt} (hll:l.length≤900) (h:has l id=true) (hc:CrOk c)
    (hl':l'=l.take (Gl l id)++l.drop (Gl l id+1)) (hs:∀ p∈l',Sc p.c) (hw:Gk c.l c.now (Q6 (Ix l' c.now))=some ws) :
    Z5 Tryz.prog 73 [.one (.ow 0 0),.one (.int .i64 id)] [.blk 96 (Yo c (Ql l) r1)] [.one (.int .i64 0)] [.blk 96 (Yo ⟨c.now,ws,c.ev⟩ (Ql l') (Ai l' c.now))]:=by
  have ct1:=Q1b (l:=l) (id:=id) (by omega) h
  rw [←hl'] at ct1
  have cw:=Qec (c:=c) (l:=l) (l':=l') (r1:=r1) hc hs (by rw [hl',List.length_append,List.length_take,List.length_drop]; omega) hw
  refine Zy Tryz.func73 rfl ?_
  exact ed tt [] [0] [.c [] ct1,.c [0] cw] rfl trivial
theorem Qtx {id:Int} {c:Cr} {l:List Pt} {r1:List (List LV)} (hll:l.length≤900) (h:has l id=false) :
    Z5 Tryz.prog 73 [.one (.ow 0 0),.one (.int .i64 id)] [.blk 96 (Yo c (Ql l) r1)] [.one (.int .i64 5)] [.blk 96 (Yo c (Ql l) r1)]:=by
  refine Zy Tryz.func73 rfl ?_
  exact ed tt [] [0] [.c [] (Qt6 (l:=l) (id:=id) (by omega) h),.c [0] (Qgz (c:=c) (l:=l) (l':=l) (r1:=r1) (e:=5) (by decide))] rfl trivial
theorem Quv {p:Pt}:Qc Tryz.prog 53 [.agg (rpt p)] [.agg (Jz p)]:=w tt Tryz.func53 rfl [] rfl rfl trivial
end Orr

namespace Orr
open Go
theorem Qv6 (c:Int) (l:List Int):Z6 (l.map (· * c))=Z6 l*c.natAbs:=by
  have key:∀ (l:List Int) (g:Nat),(l.map (· * c)).foldl (fun g z=>Nat.gcd g z.natAbs) (g*c.natAbs)=l.foldl (fun g z=>Nat.gcd g z.natAbs) g*c.natAbs:=by
    intro l
    induction l with
    | nil=>intro g; rfl
    |
     cons z l ih =>
     intro g
     simp only [List.map_cons,List.foldl_cons,Int.natAbs_mul,Nat.gcd_mul_right]
     exact ih _
  have:=key l 0
  rwa [Nat.zero_mul] at this
theorem Qjh {l:List Int} {c:Int} (hc:c≠0) (ht:Qj l):Qj (l.map (· * c)):=by
  have h:=Qbg (l:=l.map (· * c)) (m:=l.length) (by simp) (fun j y hj hy=>by rw [List.getElem?_eq_none (by simpa using hj)] at hy; cases hy) (fun h0=>⟨l.getD (l.length-1) 0*c,by rw [List.getElem?_map,getD_some (by omega)]; rfl,Int.mul_ne_zero (Xb ht h0) hc⟩)
  unfold Qj
  rw [h,List.take_of_length_le (by simp)]
theorem Qxb {k:Crv} (h:Nml k) {c:Int} (hc:c<0):Crv.norm ⟨k.x.map (· * c),k.y.map (· * c),k.d*c⟩=k:=by
  obtain ⟨hx,hy,hd,hg⟩:=h
  obtain ⟨K,hK⟩:∃ K:Crv,K=⟨k.x.map (· * c),k.y.map (· * c),k.d*c⟩:=⟨_,rfl⟩
  have hdc:k.d*c<0:=Int.mul_neg_of_pos_of_neg hd hc
  have hd':K.d'=k.d*c:=by rw [hK]; exact if_neg (by show ¬k.d*c=0; omega)
  have tx:trim K.x=k.x.map (· * c):=by rw [hK]; exact Qjh (by omega) hx
  have ty:trim K.y=k.y.map (· * c):=by rw [hK]; exact Qjh (by omega) hy
  have e:k.d*c::(k.x.map (· * c)++k.y.map (· * c))=(k.d::(k.x++k.y)).map (· * c):=by simp
  have hG:K.g=c:=by
    unfold Crv.g
    rw [hd',tx,ty,if_pos hdc,e,Qv6,hg]; omega
  have back:∀ l:List Int,(l.map (· * c)).map (· / c)=l:=fun l=>by
    rw [List.map_map]
    conv=>rhs; rw [←List.map_id l]
    exact List.map_congr_left fun z _=>Int.mul_ediv_cancel z (by omega)
  rw [←hK]
  unfold Crv.norm
  rw [hG,tx,ty,hd',back,back,Int.mul_ediv_cancel _ (by omega),show trim k.x=k.x from hx,show trim k.y=k.y from hy]
theorem Qp0 {M:List Pt} (hs:Jd M) {i j:Nat} {p r:Pt} (hij:i<j) (hi:M[i]? = some p) (hj:M[j]? = some r):p.id<r.id:=by
  obtain ⟨h1,e1⟩:=List.getElem?_eq_some_iff.1 hi
  obtain ⟨h2,e2⟩:=List.getElem?_eq_some_iff.1 hj
  rw [←e1,←e2]
  exact List.pairwise_iff_getElem.1 hs i j h1 h2 hij
theorem Qlr {M:List Pt} (hs:Jd M) {i:Nat} {p:Pt} (h:M[i]? = some p):Gl M p.id=i :=
  Qa1 (fun j r hj hr=>Qp0 hs hj hr h) (.inr ⟨p,h,Int.lt_irrefl _⟩)
theorem Q7f {M:List Pt} (hs:Jd M) {i:Nat} {p:Pt} (h:M[i]? = some p):has M p.id=true:=by
  unfold has; rw [Qlr hs h,h]; exact decide_eq_true rfl
theorem Qac {M:List Pt} {i:Nat} (hi:i<M.length) (j:Nat):(M.take i++M.drop (i+1))[j]? = if j<i then M[j]? else M[j+1]? := by
  by_cases h:j<i
  · rw [if_pos h,List.getElem?_append_left (by rw [List.length_take]; omega),List.getElem?_take,if_pos h]
  · rw [if_neg h,List.getElem?_append_right (by rw [List.length_take]; omega),List.length_take,List.getElem?_drop]
    congr 1; omega
theorem Qhu {M:List Pt} {i:Nat} (hi:i<M.length):(M.take i++M.drop (i+1)).length+1=M.length:=by
  rw [List.length_append,List.length_take,List.length_drop]; omega
theorem Qiw {M:List Pt} (hs:Jd M) {i:Nat} {p:Pt} (h:M[i]? = some p):Gl (M.take i++M.drop (i+1)) p.id=i:=by
  have hi:=(List.getElem?_eq_some_iff.1 h).1
  refine Qa1 (fun j r hj hr=>?_) ?_
  · rw [Qac hi,if_pos hj] at hr; exact Qp0 hs hj hr h
  · by_cases hl:i+1<M.length
    · refine .inr ⟨M[i+1],?_,?_⟩
      · rw [Qac hi,if_neg (Nat.lt_irrefl _)]; exact List.getElem?_eq_getElem hl
      · have:=Qp0 hs (Nat.lt_succ_self i) h (List.getElem?_eq_getElem hl); omega
    · left; have:=Qhu hi; omega
theorem Qwi {M:List Pt} (hs:Jd M) {i:Nat} {p:Pt} (h:M[i]? = some p):has (M.take i++M.drop (i+1)) p.id=false:=by
  have hi:=(List.getElem?_eq_some_iff.1 h).1
  unfold has
  rw [Qiw hs h,Qac hi,if_neg (Nat.lt_irrefl _)]
  cases hn:M[i+1]? with
  | none=>rfl
  |
   some r =>
   have:=Qp0 hs (Nat.lt_succ_self i) h hn
   exact decide_eq_false (by omega)
theorem Qx3 {M:List Pt} (hs:Jd M) {i:Nat} {p:Pt} (h:M[i]? = some p):put (M.take i++M.drop (i+1)) p=M:=by
  have hi:=(List.getElem?_eq_some_iff.1 h).1
  have hl:(M.take i).length=i:=by rw [List.length_take]; omega
  unfold put
  rw [Qiw hs h,List.take_append_of_le_length (by omega),List.take_of_length_le (by omega),List.drop_append_of_le_length (by omega),List.drop_of_length_le (by omega),List.nil_append]
  have e:M=M.take i++M.drop i:=(List.take_append_drop i M).symm
  conv=>rhs; rw [e,List.drop_eq_getElem_cons hi,(List.getElem?_eq_some_iff.1 h).2]
theorem Qyy {M:List Pt} (hs:Jd M) {i:Nat} {p:Pt} (h:M[i]? = some p):M.set (Gl M p.id) p=M:=by
  rw [Qlr hs h]
  apply List.ext_getElem?
  intro j
  rw [List.getElem?_set]
  split
  · rename_i e
    subst e
    rw [if_pos (List.getElem?_eq_some_iff.1 h).1,h]
  · rfl
end Orr

namespace Orr
open Go Go.Proofs Orq
set_option maxRecDepth 10000
theorem Qar {x:List Int} {i:Nat} {z:Int} (h:x[i]? = some z):Vm ((x.map (· * -5)).take i)++[Ze (z*-5)]=Vm ((x.map (· * -5)).take (i+1)):=by
  rw [List.take_succ,List.getElem?_map,h]; simp [Vm]
theorem Qe4 {z:Int} {s:Nat} (h:Qm z≤s):Qm (z*-5)≤s+3:=Nat.le_trans (Q0 _ _) (Nat.add_le_add h (by decide))
theorem Q9u {k:Crv} {s n:Nat} (h:Cs s n k):Cs (s+3) n ⟨k.x.map (· * -5),k.y.map (· * -5),k.d*-5⟩ :=
  ⟨fun z hz=>by obtain ⟨w,hw,rfl⟩:=List.mem_map.1 hz; exact Qe4 (h.x w hw),fun z hz=>by obtain ⟨w,hw,rfl⟩:=List.mem_map.1 hz; exact Qe4 (h.y w hw),Qe4 h.d,by simpa using h.lx,by simpa using h.ly⟩
theorem Q2i {ws:List Wt} {l:List Ct} (h:ws.map (·.c)=Q6 l) (ho:∀ c∈l,Cp c.p):∀ x∈Q6 (ws.map (·.c)),Cp x.p:=fun x hx=>by
  have:=U7 hx
  rw [h] at this
  exact ho x (U7 this)
set_option maxHeartbeats 8000000 in
theorem Qbo {zs:List RawPt} {n d k:Int} (hz:∀ z∈zs,z.Ok) (hn:-9223372036854775808≤n∧n≤9223372036854775807) (hdd:-9223372036854775808≤d∧d≤9223372036854775807) (hk:-9223372036854775808≤k∧k≤9223372036854775807):Qc Tryz.prog 14 [.one (.row (C5 zs)),.one (.int .i64 n),.one (.int .i64 d),.one (.int .i64 k)] [.one (.bool true)]:=by
  obtain ⟨e,he,hd,hm⟩:=Q6w (Eb 4 20 zs)
  have hq0:=Ej 30 0
  have cb:=Qqx (n:=30) (d:=0) hz rfl he hd hm (by decide) (by decide) (Zah (hq0.mono (by decide))) rfl
  obtain ⟨O,hO⟩:∃ O,O=Eb 4 20 zs:=⟨_,rfl⟩
  have hO4:O.length≤4:=by rw [hO]; exact Sp _ _ (Nat.zero_le _)
  have hlit:∀ p∈O,Qqf p:=fun p hp=>by rw [hO] at hp; exact Qc5 (by decide) p hp
  rw [←hO] at cb he hd
  obtain ⟨M,hM⟩:∃ M,M=Xd Mt (Ms O e):=⟨_,rfl⟩
  rw [←hM] at cb
  obtain ⟨q,hq⟩:∃ q,q=G6 30 0:=⟨_,rfl⟩
  rw [←hq] at cb hq0
  have hcn:(Ms O e).length=e:=by rw [E6,Bu he]
  have hMl:M.length=e:=by rw [hM,Yf,hcn]
  have hMs:Jd M:=by rw [hM]; exact C9 (Lb hd)
  have hMd:Gq M:=by rw [hM]; exact Qrf (Qmi _).symm (Lb hd)
  have hok:∀ p∈M,Nml p.c∧Cs 10 3 p.c:=fun p hp=>by
    rw [hM,U8] at hp
    exact Qn2 hlit e p hp
  have hsc:∀ p∈M,Sc p.c:=fun p hp=>⟨(hok p hp).1,(hok p hp).2.mono (by decide) (by decide)⟩
  have hln:M.length≤1000:=by omega
  have hv:Va (tq q):=Q4g (hq0.mono (by decide))
  have S:=Zaq hsc hln hMd
  obtain ⟨c0,hc0⟩:∃ c0,c0=Qqm M (tq q):=⟨_,rfl⟩
  have hst:KSt (Ix M) (Ai M) c0 (Ai M (tq q)):=by rw [hc0]; exact Q57 S hv
  have hn0:c0.now=tq q:=by rw [hc0]; rfl
  have hev0:c0.ev=0:=by rw [hc0]; rfl
  rw [←hc0] at cb
  have hal:(Qd6 M).length≤1000000:=by
    rw [Qsy]
    have:M.length*(M.length*2)≤4*(4*2):=Nat.mul_le_mul (by omega) (Nat.mul_le_mul (by omega) (Nat.le_refl 2))
    omega
  have csm:=Qnc hn hdd
  obtain ⟨t,ht⟩:∃ t,t=G6 n d:=⟨_,rfl⟩
  have htq:Qs 900 t:=by rw [ht]; exact (Ej n d).mono (by decide)
  rw [show Zl (G7 n 61-30) (1+G7 d 6)=t from ht.symm] at csm
  have ctt:=Qt2 (q:=t) (htq.mono (by decide))
  obtain ⟨c1,r1,a1,a2,hS,hadv⟩:∃ (c1:Cr) (r1:List (List LV)) (a1 a2:Int),KSt (Ix M) (Ai M) c1 r1∧Z5 Tryz.prog 42 [.one (.ow 0 0),.agg (rl t)] [.blk 96 (Yo c0 (Ql M) (Ai M (tq q)))] [.one (.int .i64 a1),.one (.int .i64 a2)] [.blk 96 (Yo c1 (Ql M) r1)]:=by
    by_cases hp:q≤t
    · obtain ⟨K,c',E,h1,h2,h3,h4,h5,h6,h7⟩:=Q50 S (Qd7 hsc) (fun a _=>Q0i) hal htq hst (by rw [hn0,Qjg]; exact Bs.2 hp)
      exact ⟨c',_,_,_,h4,Qtv (l:=M) (K:=K) htq hsc hln hst.inv.ok (by rw [hev0]; omega) (by rw [hn0,Qjg]; exact Bs.2 hp) h2⟩
    · exact ⟨c0,_,_,_,hst,Qkd (l:=M) (r1:=Ai M (tq q)) htq hst.inv.ok.n (by rw [hn0,Qjg]; exact Wu.2 (Rat.not_le.1 hp))⟩
  have hcrl:=J5 M
  refine Zy Tryz.func14 rfl ?_
  refine go tt [.c [0,1] cb,.f rfl,.c [] csm,.c [] ctt,.c [0] hadv,.c [0,3] Qtw,.f rfl] rfl trivial ?_
  by_cases hM0:M.length=0
  · exact en tt [.t (decide_eq_true (by omega)),.c [] Qca] rfl rfl trivial
  have hw1:G7 k (M.length:Int)=k % (M.length:Int):=if_neg (by omega)
  have hw2:=Int.emod_nonneg k (b:=(M.length:Int)) (by omega)
  have hw3:=Int.emod_lt_of_pos k (b:=(M.length:Int)) (by omega)
  obtain ⟨j,hj⟩:∃ j:Nat,(j:Int)=k % (M.length:Int):=⟨(k % (M.length:Int)).toNat,by omega⟩
  have cwi:=Tv (v:=k) (n:=(M.length:Int)) hk (by omega)
  rw [hw1,←hj] at cwi
  rw [←hcrl] at cwi
  obtain ⟨p,hp⟩:∃ p,M[j]? = some p:=⟨_,List.getElem?_eq_getElem (by omega)⟩
  obtain ⟨hpn,hpc⟩:=hok p (List.mem_of_getElem? hp)
  have hpid:has M p.id=true:=Q7f hMs hp
  obtain ⟨X,hX⟩:∃ X,X=p.c.x.map (· * -5):=⟨_,rfl⟩
  obtain ⟨Y,hY⟩:∃ Y,Y=p.c.y.map (· * -5):=⟨_,rfl⟩
  obtain ⟨D,hD⟩:∃ D,D=p.c.d*-5:=⟨_,rfl⟩
  have hXl:X.length=p.c.x.length:=by rw [hX,List.length_map]
  have hYl:Y.length=p.c.y.length:=by rw [hY,List.length_map]
  have hc5:Cs 13 3 (Crv.mk X Y D):=by rw [hX,hY,hD]; exact Q9u hpc
  have hnm:Crv.norm (Crv.mk X Y D)=p.c:=by rw [hX,hY,hD]; exact Qxb hpn (by decide)
  have hm5:=fun {z:Int} (h:Qm z≤10)=>Yg (a:=z) (b:=-5) (by omega) (by decide)
  have hto:=fun {z:Int} (h:Qm z≤10)=>Qqv (z:=z*-5) (by have:=Qe4 h; omega)
  have hfr:=fun {z:Int} (h:Qm z≤10)=>I4 (z:=z) (by omega)
  have cof:=W6 (n:=-5) (by decide)
  have cmd:=hm5 hpc.d
  have ctd:=hto hpc.d
  rw [←hD] at cmd ctd
  refine go tt [.f (decide_eq_false (by omega)),.c [] cwi,.x (Js hp),.c [] (hfr hpc.d),.c [] cof,.c [] cmd,.c [] ctd] rfl (by simp [Qa] <;> omega) ?_
  refine oz2 15 0 29 2 rfl rfl ?_
  have hxl:(p.c.x.map Ze).length=p.c.x.length:=by simp
  have hyl:(p.c.y.map Ze).length=p.c.y.length:=by simp
  have hx3:=hpc.lx
  have hy3:=hpc.ly
  have hXt:∀ i,i≤p.c.x.length→(Vm (X.take i)).length=i:=fun i hi=>by rw [Ly,List.length_take]; omega
  have hYt:∀ i,i≤p.c.y.length→(Vm (Y.take i)).length=i:=fun i hi=>by rw [Ly,List.length_take]; omega
  refine lp (S:=Nat) 7 (fun L1 i=>(71,.v (.one (.int .i64 (i:Int))))::L1) (fun i=>[.blk 96 (Yo c1 (Ql M) r1),.blk 128 (plB M q [[-q.num,(q.den:Int)],[1]] (M5 q M)),.blk 49 (fr t),.blk 96 (Yo c1 (Ql M) r1),.blk 112 (rpt p),.blk 31 [.orow 6 2 none,.nils,sg D,mg D],.row false 29 2 (Vm (X.take i))]) (fun i=>p.c.x.length-i) (fun i=>i≤p.c.x.length) 0 (Nat.zero_le _) rfl (fun _ _=>rfl) rfl fun i hi=>?_
  by_cases hlt:i<p.c.x.length
  · obtain ⟨z,hz⟩:∃ z,p.c.x[i]? = some z:=⟨_,List.getElem?_eq_getElem hlt⟩
    have hzs:=hpc.x z (List.mem_of_getElem? hz)
    have hs:∀ y∈[Ze (z*-5)],y.length=2:=fun y hy=>by rw [List.mem_singleton.1 hy]; rfl
    refine go tt [.t (decide_eq_true (by omega)),.x (Z4 (f:=Ze) hz),.c [] (hfr hzs),.c [] cof,.c [] (hm5 hzs),.c [] (hto hzs),.s (sz:=2) hs] rfl (by simp [Qa,hXt i hi]; omega) ?_
    exact rd (i+1) (by omega) hlt (by rw [hX,←Qar hz]; rfl)
  obtain rfl:i=p.c.x.length:=by omega
  rw [List.take_of_length_le (by omega)]
  refine go tt [.f (decide_eq_false (by omega))] rfl trivial ?_
  refine pz 6 rfl rfl ?_
  refine oz2 15 1 29 2 rfl rfl ?_
  refine lp (S:=Nat) 8 (fun L1 i=>(96,.v (.one (.int .i64 (i:Int))))::L1) (fun i=>[.blk 96 (Yo c1 (Ql M) r1),.blk 128 (plB M q [[-q.num,(q.den:Int)],[1]] (M5 q M)),.blk 49 (fr t),.blk 96 (Yo c1 (Ql M) r1),.blk 112 (rpt p),.blk 31 [.row (Vm X),.orow 7 2 none,sg D,mg D],.gone,.row false 29 2 (Vm (Y.take i))]) (fun i=>p.c.y.length-i) (fun i=>i≤p.c.y.length) 0 (Nat.zero_le _) rfl (fun _ _=>rfl) rfl fun i hi=>?_
  by_cases hlt:i<p.c.y.length
  · obtain ⟨z,hz⟩:∃ z,p.c.y[i]? = some z:=⟨_,List.getElem?_eq_getElem hlt⟩
    have hzs:=hpc.y z (List.mem_of_getElem? hz)
    have hs:∀ y∈[Ze (z*-5)],y.length=2:=fun y hy=>by rw [List.mem_singleton.1 hy]; rfl
    refine go tt [.t (decide_eq_true (by omega)),.x (Z4 (f:=Ze) hz),.c [] (hfr hzs),.c [] cof,.c [] (hm5 hzs),.c [] (hto hzs),.s (sz:=2) hs] rfl (by simp [Qa,hYt i hi]; omega) ?_
    exact rd (i+1) (by omega) hlt (by rw [hY,←Qar hz]; rfl)
  obtain rfl:i=p.c.y.length:=by omega
  rw [List.take_of_length_le (by omega)]
  -- it V8
  obtain ⟨⟨ok1,kk1⟩,hcs,hr1⟩:=hS
  obtain ⟨w2,l1,l2⟩:=Qao ok1.n ok1.l (Q6 (Ix M c1.now))
  have okw:=Orr.lay_ok c1.ev ok1 ok1.n (S.ok.p _ ok1.n) (S.ok.n _ ok1.n) l1
  have cturn:=Q06 (c:=c1) (l:=M) (l':=M) (r1:=r1) (Zd X) (Zd Y) (Qe D) (hc5.mono (by decide) (by decide)) (by omega) hpid ok1 (by rw [hnm]; exact (Qyy hMs hp).symm) hsc l1
  obtain ⟨s,hs⟩:∃ s,s=Ai M c1.now:=⟨_,rfl⟩
  rw [←hs] at cturn hr1
  rw [hr1] at cturn
  rw [hr1]
  have cal:=Qgx (c:=c1) (c':=⟨c1.now,w2,c1.ev⟩) (l:=M) (l':=M) (m:=M) (a:=c1.now) (r:=s) (by omega) hs
  have cC1:=I5 (T:=96) (c:=c1) (r0:=Ql M) (r1:=s) ok1
  have cC2:=I5 (T:=96) (c:=⟨c1.now,w2,c1.ev⟩) (r0:=Ql M) (r1:=s) okw
  have hcs2:Q6 ((⟨c1.now,w2,c1.ev⟩:Cr).l.map (·.c))=Q6 (c1.l.map (·.c)):=by
    show Q6 (w2.map (·.c))=_
    rw [l2,hcs]
  rw [hcs2] at cC2
  have hC5:∀ x∈Q6 (c1.l.map (·.c)),Cp x.p:=Q2i hcs (S.ok.p _ ok1.n)
  have hCl:(Q6 (c1.l.map (·.c))).length≤1000000:=by rw [Wp,List.length_map]; have:=ok1.k; omega
  have csc:=Qtz (l:=Q6 (c1.l.map (·.c))) hC5 hCl
  have cE1:=Qb3 (T:=96) (c:=c1) (r0:=Ql M) (r1:=s)
  have cE2:=Qb3 (T:=96) (c:=⟨c1.now,w2,c1.ev⟩) (r0:=Ql M) (r1:=s)
  -- away
  have hji:=(List.getElem?_eq_some_iff.1 hp).1
  obtain ⟨N,hN⟩:∃ N,N=M.take j++M.drop (j+1):=⟨_,rfl⟩
  have hNl:=Qhu hji
  rw [←hN] at hNl
  have hNm:∀ x∈N,x∈M:=fun x hx=>by
    rw [hN] at hx
    rcases List.mem_append.1 hx with h | h
    · exact List.mem_of_mem_take h
    · exact List.mem_of_mem_drop h
  have hNs:∀ x∈N,Sc x.c:=fun x hx=>hsc x (hNm x hx)
  have hBN:=Dw hNs (by omega)
  obtain ⟨w3,m1,m2⟩:=Qao okw.n okw.l (Q6 (Ix N c1.now))
  have okw3:=Orr.lay_ok c1.ev okw okw.n (hBN.p _ okw.n) (hBN.n _ okw.n) m1
  have cdr:=Q03 (c:=⟨c1.now,w2,c1.ev⟩) (l:=M) (l':=N) (r1:=s) (by omega) hpid okw (by rw [Qlr hMs hp]; exact hN) hNs m1
  have hgo:has N p.id=false:=by rw [hN]; exact Qwi hMs hp
  have cde:=Qtx (c:=⟨c1.now,w3,c1.ev⟩) (l:=N) (r1:=Ai N c1.now) (id:=p.id) (by omega) hgo
  -- and back
  have hnp:Crv.norm (Crv.mk p.c.x p.c.y p.c.d)=p.c:=Crv.norm_of hpn
  have hpb:put N ⟨Crv.norm (Crv.mk p.c.x p.c.y p.c.d),p.id⟩=M:=by rw [hnp,hN]; exact Qx3 hMs hp
  have hpe:Fq N ⟨Crv.norm (Crv.mk p.c.x p.c.y p.c.d),p.id⟩=0:=by
    unfold Fq
    rw [if_neg (by rw [hgo]; decide),if_neg (by omega)]
  obtain ⟨w4,n1,n2⟩:=Qao okw3.n okw3.l (Q6 (Ix M c1.now))
  have okw4:=Orr.lay_ok c1.ev okw3 okw3.n (S.ok.p _ ok1.n) (S.ok.n _ ok1.n) n1
  have cpu:=Q6j (c:=⟨c1.now,w3,c1.ev⟩) (l:=N) (r1:=Ai N c1.now) (ws:=w4) (Zd p.c.x) (Zd p.c.y) (Qe p.c.d) (hpc.mono (by decide) (by decide)) (by omega) hpe okw3 (by rw [hpb]; exact hsc) (by rw [hpb]; omega) (by rw [hpb]; exact n1)
  rw [hpb] at cpu
  have hpe6:Fq M ⟨Crv.norm (Crv.mk p.c.x p.c.y p.c.d),p.id⟩=6:=by
    unfold Fq
    rw [if_pos hpid]
  have cpe:=Q05 (c:=⟨c1.now,w4,c1.ev⟩) (l:=M) (r1:=Ai M c1.now) (Zd p.c.x) (Zd p.c.y) (Qe p.c.d) (hpc.mono (by decide) (by decide)) (by omega) hpe6 (by decide)
  rw [←hs] at cpu cpe
  have cal2:=Qgx (c:=c1) (c':=⟨c1.now,w4,c1.ev⟩) (l:=M) (l':=M) (m:=M) (a:=c1.now) (r:=s) (by omega) hs
  have cC4:=I5 (T:=96) (c:=⟨c1.now,w4,c1.ev⟩) (r0:=Ql M) (r1:=s) okw4
  have hcs4:Q6 ((⟨c1.now,w4,c1.ev⟩:Cr).l.map (·.c))=Q6 (c1.l.map (·.c)):=by
    show Q6 (w4.map (·.c))=_
    rw [n2,hcs]
  rw [hcs4] at cC4
  have hne:decide (c1.ev≠c1.ev)=false:=decide_eq_false (fun h=>h rfl)
  refine go tt [.f (decide_eq_false (by omega))] rfl trivial ?_
  refine pz 7 rfl rfl ?_
  refine go tt [.c [3] cturn,.g 123 false rfl,.lo,.c [0,3] cal,.g 129 false rfl,.lo,.c [0] cC1,.lo,.c [3] cC2,.c [] csc,.g 141 false rfl,.lo,.c [0] cE1,.lo,.c [3] cE2,.f hne,.c [3] cdr,.g 157 false rfl,.c [3] cde,.g 164 false rfl,.c [] Quv,.c [3] cpu,.g 171 false rfl,.c [] Quv,.c [3] cpe,.f rfl] rfl trivial ?_
  exact en tt [.lo,.c [0,3] cal2,.g 181 true rfl,.lo,.c [0] cC1,.lo,.c [3] cC4,.c [] csc,.g 192 true rfl,.c [] Qca] rfl rfl trivial
end Orr

namespace Orr
open Go Go.Proofs
variable {H:Type} {enc:TypeId×Value→H} {w:World} {base:Nat} {spare:Nat→Bool} {held:Bool}
theorem Fi {α:Type} {l:List α} {n i:Nat} (h:l.length=n) (hi:i<n):∃ x,l[i]? = some x:=⟨l[i]'(by omega),List.getElem?_eq_getElem (by omega)⟩
end Orr

namespace Orr
open Go Go.Proofs Go.ChangeShapes Go.WideShapes Go.ChangeAt Go.RowKit Go.WideElems
theorem Q1u {w:World} {a:Addr} {v:Value} (h:w.cell? a=some v):a.spot=none∧a.block<w.heap.size:=by
  simp only [World.cell?] at h
  split at h
  · rename_i c t fr hc
    split at h
    · cases h
    · rename_i hs
      refine ⟨by cases e:a.spot with | none=>rfl | some _=>simp [e] at hs,?_⟩
      exact (Array.getElem?_eq_some_iff.1 hc).1
  · cases h
theorem Q0f {a:Addr} (h:a.spot=none) (n m:Nat):(a.add n).add m=⟨a.block,a.off+n+m,none⟩:=by
  obtain ⟨b,o,s⟩:=a
  simp only at h
  subst h
  simp only [Addr.add]
  split
  · rename_i h; subst h
    split
    · rename_i h; subst h; simp
    · simp
  · split
    · rename_i h; subst h; simp
    · simp
def fr0 (w:World):Fr:=⟨fun b=>b<w.heap.size,fun _=>False,w,fun _=>False,fun _=>none⟩
theorem hs0 (w:World):HS (fr0 w) (ob []) (nw []) (fun _=>none) (fun _=>False) w where
  size:=Nat.le_refl _
  kept:=fun b hb=>⟨hb,rfl,Iff.rfl⟩
  ids:=fun i h=>h.elim
  nj:=fun i h=>by rw [Qfj] at h; cases h
  io:=⟨rfl,rfl⟩
  blk:=fun i=>by rw [Qfj]; trivial
  nk:=fun i g c m h _=>by rw [Qfj] at h; cases h
  inj:=fun i j g c m c' m' h _ _ _=>by rw [Qfj] at h; cases h
  mlt:=fun b h=>h.elim
  m0:=fun b _ h=>h.elim
  un:=fun i _=>⟨rfl,rfl⟩
  uj:=fun i _ h=>h.elim
theorem Q3v {w w':World} {bl:Nat→OB} {U:Nat→Prop} {E:Kb} {M:Nat→Prop} (h:HS (fr0 w) bl U E M w') {p:MemPlace} (hp:p.block<w.heap.size):w.sameAt w' p:=by
  cases p with
  | cell b off=>simp only [World.sameAt,World.cell?]; rw [(h.kept b hp).2.1]; rfl
  | map b=>exact (h.kept b hp).2.1
theorem Q2h {w w':World} {bl:Nat→OB} {U:Nat→Prop} {E:Kb} {M:Nat→Prop} (h:HS (fr0 w) bl U E M w') (may:MemPlace→Prop):w.keptBut w' may:=by
  refine ⟨h.io.1,h.io.2,fun i hi=>?_⟩
  have e:w'.heap[i]? = w.heap[i]? := (h.kept i hi).2.1
  rw [e]
  cases w.heap[i]? with
  | none=>rfl
  | some o=>cases o <;> simp
end Orr

namespace Orr
open Go Go.Proofs Go.ChangeShapes Go.WideShapes Go.ChangeAt Go.RowKit Go.WideElems
theorem Pw {H:Type} {P:Program} {e:TypeId}:∀ {l:List (DataW H)} {i:Nat} {d:DataW H},l[i]? = some d→∀ n∈d.weights P e,n∈DataW.weightsAll P e l
  | [],i,d,h,_,_=>by simp at h
  |
   x::l,0,d,h,n,hn=>by
   simp at h; subst h
   simp only [DataW.weightsAll,List.mem_append]; exact .inl hn
  |
   x::l,i+1,d,h,n,hn=>by
   simp only [DataW.weightsAll,List.mem_append]
   exact .inr (Pw (i:=i) (by simpa using h) n hn)
theorem Hb {H:Type} {P:Program} {t:TypeId} {fs:Array Field} {parts:List (DataW H)} (hu:P.underlying t=some (.struct fs)) (hz:((DataW.agg parts).weights P t).all (· ≤ reachBytes)=true) {i:Nat} {f:Field} {d:DataW H} (hf:fs[i]? = some f) (hd:parts[i]? = some d) :
    (d.weights P f.type).all (· ≤ reachBytes)=true:=by
  rw [List.all_eq_true] at hz ⊢
  intro n hn
  refine hz n ?_
  simp only [DataW.weights,hu]
  exact DataW.weights_mem_each (j:=i) (by rw [List.getElem?_map]; simp [hf]) hd n hn
variable {H:Type} {enc:TypeId×Value→H} {w:World}
abbrev O0:Nat→Prop:=fun _=>False
def Els (w:World) (cs:List Value) (ls:List LV):Prop:=cs.length=ls.length∧∀ (j:Nat) (u:LV),ls[j]? = some u→∃ v,cs[j]? = some v∧LRep w O0 v u
theorem C3 {α:Type} {rw_:α→List LV} {Ok:α→Prop} {t e sz:Nat} (hu:Tryz.prog.underlying t=some (.slice e)) (hc:Tryz.prog.cellsOf e=sz) (hsz:0<sz) (hb:1≤Tryz.prog.bytesOf e) (hw:∀ z,(rw_ z).length=sz)
    (elem:∀ fuel cs x,DataW.trod enc Tryz.prog w 0 (fun _=>true) true fuel e cs=some x→(x.1.weights Tryz.prog e).all (· ≤ reachBytes)=true→∃ z,Ok z∧Els w cs (rw_ z))
    {fuel:Nat} {cs:List Value} {x:DataW H×List MemPlace} (h:DataW.trod enc Tryz.prog w 0 (fun _=>true) true fuel t cs=some x) (hz:(x.1.weights Tryz.prog t).all (· ≤ reachBytes)=true) :
    ∃ (v:Value) (l:List α),cs=[v]∧(∀ z∈l,Ok z)∧l.length<2^47∧LRep w O0 v (.row (l.map rw_)):=by
  rcases Go.Deep.open_slice hu h with ⟨rfl,_⟩ | ⟨a',len,cap,m,n,D,Pl,rfl,_,hlc,hcap,hm,rfl,hr⟩
  · refine ⟨_,[],rfl,by simp,Nat.two_pow_pos 47,?_⟩
    exact LRep.row none 0 0 0 0 [] (fun _ _=>.bool true) (Nat.le_refl _) (by decide) (by simp) (by simp) (by simp) (by simp)
  · simp only [if_true] at hm
    subst hm
    rw [List.all_eq_true] at hz
    have hlen:len<2^47:=by
      have h0:=hz ((len+(m-len))*Tryz.prog.bytesOf e) (by simp [DataW.weights,hu])
      have h1:len≤(len+(m-len))*Tryz.prog.bytesOf e:=by
        have:=Nat.mul_le_mul (Nat.le_add_right len (m-len)) hb
        omega
      have h2:(len+(m-len))*Tryz.prog.bytesOf e≤reachBytes:=by simpa using h0
      exact Nat.lt_of_le_of_lt (Nat.le_trans h1 h2) reachBytes_lt
    have hel:∀ i,i<len→((D i).weights Tryz.prog e).all (· ≤ reachBytes)=true:=fun i hi=>by
      rw [List.all_eq_true]
      intro k hk
      refine hz k ?_
      simp only [DataW.weights,hu]
      refine List.mem_cons_of_mem _ (List.mem_append.2 (.inl (Pw (i:=i) ?_ k hk)))
      rw [List.getElem?_map,List.getElem?_range hi]; rfl
    have hone:∀ i,i<len→∃ z cs',Ok z∧Els w cs' (rw_ z)∧∀ j,j<sz→w.cell? ((a'.add (i*sz)).add j)=cs'[j]? := fun i hi=>by
      obtain ⟨cs',hcs,htr⟩:=hr i (by omega)
      rw [hc] at hcs
      obtain ⟨_,hl,hcell⟩:=World.cells?_some hcs
      obtain ⟨z,hz1,hz2⟩:=elem _ _ _ htr (hel i hi)
      refine ⟨z,cs',hz1,hz2,fun j hj=>?_⟩
      rw [hcell j (by omega)]
    have hspot:0<len→a'.spot=none∧a'.block<w.heap.size:=fun h0=>by
      obtain ⟨z,cs',_,⟨hl,_⟩,h3⟩:=hone 0 h0
      have h4:=h3 0 hsz
      have:(a'.add (0*sz)).add 0=a':=by simp [Addr.add]
      rw [this,List.getElem?_eq_getElem (by rw [hl,hw]; exact hsz)] at h4
      exact Q1u h4
    obtain ⟨l,hll,hl⟩:∃ l:List α,l.length=len∧∀ i z,l[i]? = some z→Ok z∧∃ cs',Els w cs' (rw_ z)∧∀ j,j<sz→w.cell? ((a'.add (i*sz)).add j)=cs'[j]? := by
      have:∀ k,k≤len→∃ l:List α,l.length=k∧∀ i z,l[i]? = some z→Ok z∧∃ cs',Els w cs' (rw_ z)∧∀ j,j<sz→w.cell? ((a'.add (i*sz)).add j)=cs'[j]? := by
        intro k
        induction k with
        | zero=>intro _; exact ⟨[],rfl,fun i z h=>by simp at h⟩
        |
         succ k ih =>
         intro hk
         obtain ⟨l,h1,h2⟩:=ih (by omega)
         obtain ⟨z,cs',h3,h4,h5⟩:=hone k (by omega)
         refine ⟨l++[z],by simp [h1],fun i y hy=>?_⟩
         rcases Nat.lt_or_ge i l.length with hi | hi
         · rw [List.getElem?_append_left hi] at hy; exact h2 i y hy
         · rw [List.getElem?_append_right hi] at hy
           have:i-l.length=0:=by
             rcases Nat.eq_zero_or_pos (i-l.length) with h | h
             · exact h
             · rw [List.getElem?_eq_none (by rw [List.length_singleton]; exact h)] at hy; cases hy
           rw [this] at hy
           simp at hy
           subst hy
           have:i=k:=by omega
           subst this
           exact ⟨h3,cs',h4,h5⟩
      exact this len (Nat.le_refl _)
    refine ⟨_,l,rfl,fun z hz=>?_,by rw [hll]; exact hlen,?_⟩
    · obtain ⟨i,hi⟩:=List.mem_iff_getElem?.1 hz
      exact (hl i z hi).1
    · have key:LRep w O0 (.slice (some a') (l.map rw_).length m) (.row (l.map rw_)):=by
        have hgl:∀ i c,(l.map rw_)[i]? = some c→∃ z,l[i]? = some z∧c=rw_ z∧i<len:=fun i c h=>by
          rw [List.getElem?_map] at h
          cases e:l[i]? with
          | none=>rw [e] at h; cases h
          | some z=>rw [e] at h; simp at h; exact ⟨z,rfl,h.symm,by have:=(List.getElem?_eq_some_iff.1 e).1; omega⟩
        have hcl:∀ i c,(l.map rw_)[i]? = some c→∃ cs':List Value,Els w cs' c∧∀ j,j<sz→w.cell? ⟨a'.block,a'.off+i*sz+j,none⟩=cs'[j]? := fun i c h=>by
          obtain ⟨z,hz,rfl,hi⟩:=hgl i c h
          obtain ⟨_,cs',h1,h2⟩:=hl i z hz
          refine ⟨cs',h1,fun j hj=>?_⟩
          rw [←h2 j hj,Q0f (hspot (by omega)).1]
        refine LRep.row (some a') m sz a'.block a'.off (l.map rw_) (fun i j=>(w.cell? ⟨a'.block,a'.off+i*sz+j,none⟩).getD (.bool true)) (by rw [List.length_map]; omega) ?_ ?_ ?_ ?_ ?_
        · have:maxLen=2^63-1:=by rfl
          omega
        · intro c hc2
          obtain ⟨z,_,rfl⟩:=List.mem_map.1 hc2
          exact hw z
        · intro h0
          rw [List.length_map,hll] at h0
          obtain ⟨hs,hb⟩:=hspot h0
          refine ⟨?_,hb,by simp [O0]⟩
          obtain ⟨b,o,s⟩:=a'
          simp only at hs
          rw [hs]
        · intro i c hi j hj
          obtain ⟨z,_,rfl,_⟩:=hgl i c hi
          obtain ⟨cs',⟨h1,_⟩,h2⟩:=hcl i _ hi
          have hjs:j<sz:=by rw [←hw z]; exact hj
          rw [h2 j hjs,List.getElem?_eq_getElem (by rw [h1]; exact hj)]; rfl
        · intro i c hi j u hu2
          obtain ⟨z,_,rfl,_⟩:=hgl i c hi
          obtain ⟨cs',⟨h1,h3⟩,h2⟩:=hcl i _ hi
          obtain ⟨v,hv,hr2⟩:=h3 j u hu2
          have hjs:j<sz:=by rw [←hw z]; exact (List.getElem?_eq_some_iff.1 hu2).1
          show LRep w O0 ((w.cell? ⟨a'.block,a'.off+i*sz+j,none⟩).getD (.bool true)) u
          rw [h2 j hjs,hv]; exact hr2
      rw [List.length_map,hll] at key
      exact key
abbrev Zbq (x:Nat):List LV:=[.int .u32 (x:Int)]
theorem Qzs:∀ fuel cs x,DataW.trod enc Tryz.prog w 0 (fun _=>true) true fuel 169 cs=some x→(x.1.weights Tryz.prog 169).all (· ≤ reachBytes)=true→∃ z:Nat,z<4294967296∧Els w cs (Zbq z):=by
  intro fuel cs x h _
  obtain ⟨n,rfl,_,hwf⟩:=DataW.trod_int Tryz.underlying169 h
  have hn:0≤n∧n<4294967296:=by
    have:0≤n∧n≤4294967295:=by simpa [Lit.wf,IntKind.min,IntKind.max,IntKind.signed,IntKind.bits] using hwf
    omega
  refine ⟨n.toNat,by omega,rfl,fun j u hu=>?_⟩
  match j,hu with
  |
   0,hu =>
   simp at hu; subst hu
   refine ⟨_,rfl,?_⟩
   rw [show max n 0=n by omega]
   exact .int _ _
  | j+1,hu=>simp at hu
set_option maxRecDepth 20000 in
theorem Qah:∀ fuel cs x,DataW.trod enc Tryz.prog w 0 (fun _=>true) true fuel 29 cs=some x→(x.1.weights Tryz.prog 29).all (· ≤ reachBytes)=true→∃ z:RawInt,z.Ok∧Els w cs (Ee z):=by
  intro fuel cs x h hz
  obtain ⟨xs,n,_,rfl,hl,hxs,hf⟩:=DataW.trod_struct Tryz.underlying29 h
  have hl:cs.length=2:=hl
  match cs,hl with
  |
   [v0,v1],_ =>
   obtain ⟨z0,hz0⟩:=Fi (i:=0) hxs (by decide)
   obtain ⟨z1,hz1⟩:=Fi (i:=1) hxs (by decide)
   have h0:=hf 0 _ rfl
   have h1:=hf 1 _ rfl
   rw [hz0] at h0; rw [hz1] at h1
   obtain ⟨b,e0,_⟩:=DataW.trod_bool Tryz.underlying4 h0
   have f0:v0=.bool b:=(List.cons.inj (show [v0]=[Value.bool b] from e0)).1
   have hw1:=Hb Tryz.underlying29 hz (i:=1) rfl (d:=z1.1) (by rw [List.getElem?_map,hz1]; rfl)
   obtain ⟨v,l,e1,hlo,_,hrep⟩:=C3 (sz:=1) (Ok:=fun u:Nat=>u<4294967296) (rw_:=Zbq) Tryz.underlying27 (by kernel_rfl) (by decide) (of_decide_eq_true (by kernel_rfl)) (fun _=>rfl) Qzs h1 hw1
   have f1:v1=v:=(List.cons.inj (show [v1]=[v] from e1)).1
   subst f0 f1
   refine ⟨⟨b,l⟩,⟨hlo⟩,rfl,fun j u hu=>?_⟩
   match j,hu with
   | 0,hu=>simp at hu; subst hu; exact ⟨_,rfl,.bool _⟩
   | 1,hu=>simp at hu; subst hu; exact ⟨_,rfl,hrep⟩
   | j+2,hu=>simp at hu
set_option maxRecDepth 20000 in
theorem Qlq:∀ fuel cs x,DataW.trod enc Tryz.prog w 0 (fun _=>true) true fuel 35 cs=some x→(x.1.weights Tryz.prog 35).all (· ≤ reachBytes)=true→∃ z:RawPt,z.Ok∧Els w cs (rwq z):=by
  intro fuel cs x h hz
  obtain ⟨xs,n,_,rfl,hl,hxs,hf⟩:=DataW.trod_struct Tryz.underlying35 h
  have hl:cs.length=5:=hl
  match cs,hl with
  |
   [v0,v1,v2,v3,v4],_ =>
   obtain ⟨z0,hz0⟩:=Fi (i:=0) hxs (by decide)
   obtain ⟨z1,hz1⟩:=Fi (i:=1) hxs (by decide)
   have h0:=hf 0 _ rfl
   have h1:=hf 1 _ rfl
   rw [hz0] at h0; rw [hz1] at h1
   obtain ⟨id,e4,_,hwf⟩:=DataW.trod_int Tryz.underlying3 h1
   have f4:v4=.int .i64 id:=(List.cons.inj (show [v4]=[Value.int .i64 id] from e4)).1
   have hw0:=Hb Tryz.underlying35 hz (i:=0) rfl (d:=z0.1) (by rw [List.getElem?_map,hz0]; rfl)
   obtain ⟨ys,n2,_,e5,_,hys,hg⟩:=DataW.trod_struct Tryz.underlying31 h0
   rw [e5] at hw0
   obtain ⟨y0,hy0⟩:=Fi (i:=0) hys (by decide)
   obtain ⟨y1,hy1⟩:=Fi (i:=1) hys (by decide)
   obtain ⟨y2,hy2⟩:=Fi (i:=2) hys (by decide)
   have g0:=hg 0 _ rfl
   have g1:=hg 1 _ rfl
   have g2:=hg 2 _ rfl
   rw [hy0] at g0; rw [hy1] at g1; rw [hy2] at g2
   have w0:=Hb Tryz.underlying31 hw0 (i:=0) rfl (d:=y0.1) (by rw [List.getElem?_map,hy0]; rfl)
   have w1:=Hb Tryz.underlying31 hw0 (i:=1) rfl (d:=y1.1) (by rw [List.getElem?_map,hy1]; rfl)
   have w2:=Hb Tryz.underlying31 hw0 (i:=2) rfl (d:=y2.1) (by rw [List.getElem?_map,hy2]; rfl)
   obtain ⟨u0,lx,e0,hx,_,rx⟩:=C3 (sz:=2) (Ok:=RawInt.Ok) (rw_:=Ee) Tryz.underlying26 (by kernel_rfl) (by decide) (of_decide_eq_true (by kernel_rfl)) (fun _=>rfl) Qah g0 w0
   obtain ⟨u1,ly,e1,hy,_,ry⟩:=C3 (sz:=2) (Ok:=RawInt.Ok) (rw_:=Ee) Tryz.underlying26 (by kernel_rfl) (by decide) (of_decide_eq_true (by kernel_rfl)) (fun _=>rfl) Qah g1 w1
   obtain ⟨d,hd,hde⟩:=Qah _ _ _ g2 w2
   have f0:v0=u0:=(List.cons.inj (show [v0]=[u0] from e0)).1
   have f1:v1=u1:=(List.cons.inj (show [v1]=[u1] from e1)).1
   have hde2:Els w [v2,v3] (Ee d):=hde
   subst f0 f1 f4
   obtain ⟨q2,hq2,r2⟩:=hde2.2 0 _ rfl
   obtain ⟨q3,hq3,r3⟩:=hde2.2 1 _ rfl
   simp at hq2 hq3
   subst hq2 hq3
   refine ⟨⟨lx,ly,d,id⟩,⟨hx,hy,hd,by simpa [Lit.wf,IntKind.min,IntKind.max,IntKind.signed,IntKind.bits] using hwf⟩,rfl,fun j u hu=>?_⟩
   match j,hu with
   | 0,hu=>simp [rwq] at hu; subst hu; exact ⟨_,rfl,rx⟩
   | 1,hu=>simp [rwq] at hu; subst hu; exact ⟨_,rfl,ry⟩
   | 2,hu=>simp [rwq] at hu; subst hu; exact ⟨_,rfl,r2⟩
   | 3,hu=>simp [rwq] at hu; subst hu; exact ⟨_,rfl,r3⟩
   | 4,hu=>simp [rwq] at hu; subst hu; exact ⟨_,rfl,.int _ _⟩
   | j+5,hu=>simp [rwq] at hu
end Orr

namespace Orr
open Go Go.Proofs Go.ChangeShapes Go.WideShapes Go.ChangeAt Go.RowKit Go.WideElems
set_option maxRecDepth 20000 in
theorem Qh6 {f:FuncId} {fn:Func} {s:ChangeSpec} (hp:fn.params = #[24,3,3,3]) (hr:fn.resultTypes = #[4]) (hv:s.vars=[])
    (hs:∀ (H:Type) (d1 d2 d3 d4:DataW H),s.fn H [d1,d2,d3,d4]={ results:=[.lit (.bool true)],args:=[d1,d2,d3,d4] })
    (hlaid:laidOutB Tryz.prog=true) (hr22:Tryz.prog.readableRec 24=true) (hr3:Tryz.prog.readableRec 3=true) (hs22:24<Tryz.prog.types.size) (hs3:3<Tryz.prog.types.size)
    (law:∀ (zs:List RawPt) (n d k:Int),(∀ z∈zs,z.Ok)→(-2^63≤n∧n≤2^63-1)→(-2^63≤d∧d≤2^63-1)→(-2^63≤k∧k≤2^63-1)→Qc Tryz.prog f [.one (.row (C5 zs)),.one (.int .i64 n),.one (.int .i64 d),.one (.int .i64 k)] [.one (.bool true)])
    {H:Type} {enc:TypeId×Value→H} {W:World} {base:Nat} {args:Array Value} {ds gs:List (DataW H)} {Vs:List MemPlace} {fresh handsOn:Bool}
    (hval:∀ (j:Nat) t v,fn.params[j]? = some t→args[j]? = some v→Value.okWide Tryz.prog W .any base t v)
    (hW:DataW.Whole enc Tryz.prog fn.params.toList s.vars false W args.toList ds gs Vs)
    (hz:(DataW.weightsEach Tryz.prog (fn.params.toList++s.plain.varTypes Tryz.prog) (ds++gs)).all (· ≤ reachBytes)=true) :
    Calls Tryz.prog f args W fun e W'=>∃ v,e=.returned v∧s.post enc Tryz.prog fn false fresh handsOn false W args v W':=by
  have hW':=hW
  obtain ⟨p,q,hA0,hV,rfl,hfz,hnd⟩:=hW
  have hA:DataW.TrodAll enc Tryz.prog W 0 (fun _=>true) true fn.params.toList args.toList ds p:=hA0
  rw [hv] at hV
  obtain ⟨rfl,rfl⟩:=trodVars_none hV
  have hlt:=hW'.lt
  rw [hp] at hA hval hz
  obtain ⟨v0,vs0,d0,ds0,p0,q0,hargs0,rfl,rfl,h0,r0⟩:=trodAll_cons hA
  obtain ⟨v1,vs1,d1,ds1,p1,q1,rfl,rfl,rfl,h1,r1⟩:=trodAll_cons r0
  obtain ⟨v2,vs2,d2,ds2,p2,q2,rfl,rfl,rfl,h2,r2⟩:=trodAll_cons r1
  obtain ⟨v3,vs3,d3,ds3,p3,q3,rfl,rfl,rfl,h3,r3⟩:=trodAll_cons r2
  obtain ⟨rfl,rfl,rfl⟩:=trodAll_nil r3
  obtain rfl:args = #[v0,v1,v2,v3]:=by cases args; simp_all
  obtain ⟨n,rfl,rfl,rfl,w1⟩:=open_int Tryz.underlying3 (hval 1 3 v1 rfl rfl) h1
  obtain ⟨d,rfl,rfl,rfl,w2⟩:=open_int Tryz.underlying3 (hval 2 3 v2 rfl rfl) h2
  obtain ⟨k,rfl,rfl,rfl,w3⟩:=open_int Tryz.underlying3 (hval 3 3 v3 rfl rfl) h3
  have hv0:=hval 0 24 v0 rfl rfl
  obtain ⟨a,len,cap,rfl⟩:=okWide_slice Tryz.underlying24 hv0
  have hz0:(d0.weights Tryz.prog 24).all (· ≤ reachBytes)=true:=by
    rw [List.all_eq_true] at hz ⊢
    intro j hj
    exact hz j (DataW.weights_mem_each (j:=0) rfl rfl j hj)
  have h0':=h0
  obtain ⟨fu,h0'⟩:=h0'
  obtain ⟨v,zs,e0,hok,hlen,hrep⟩:=C3 (sz:=5) (Ok:=RawPt.Ok) (rw_:=rwq) Tryz.underlying24 (by kernel_rfl) (by decide) (of_decide_eq_true (by kernel_rfl)) (fun _=>rfl) Qlq h0' hz0
  have f0:Value.slice a len cap=v:=(List.cons.inj (show [Value.slice a len cap]=[v] from e0)).1
  subst f0
  have hd1:-2^63≤d∧d≤2^63-1:=by simpa [Lit.wf,IntKind.min,IntKind.max,IntKind.signed,IntKind.bits] using w2
  have hrep:LRep W (fun _=>False) (.slice a len cap) (.row (C5 zs)):=hrep
  have hn1:-2^63≤n∧n≤2^63-1:=by simpa [Lit.wf,IntKind.min,IntKind.max,IntKind.signed,IntKind.bits] using w1
  have hk1:-2^63≤k∧k≤2^63-1:=by simpa [Lit.wf,IntKind.min,IntKind.max,IntKind.signed,IntKind.bits] using w3
  have hcall:=(law zs n d k hok hn1 hd1 hk1).2 (fr0 W) (fun _=>none) (fun _=>False) W [.slice a len cap,.int .i64 n,.int .i64 d,.int .i64 k] (hs0 W) (.cons (show XRep W (fun _=>False) (fun _=>none) (.slice a len cap) (.row (C5 zs)) from hrep.x) (.cons (show XRep W (fun _=>False) (fun _=>none) (.int .i64 n) (.int .i64 n) from (LRep.int .i64 n).x) (.cons (show XRep W (fun _=>False) (fun _=>none) (.int .i64 d) (.int .i64 d) from (LRep.int .i64 d).x) (.cons (show XRep W (fun _=>False) (fun _=>none) (.int .i64 k) (.int .i64 k) from (LRep.int .i64 k).x) .nil))))
  refine hcall.mono fun e W' ⟨v,u,Bo,E',M',he,⟨hu,hBo⟩,_,hm,har⟩=>?_
  subst hu
  obtain rfl:v=.bool true:=by
    have h:LRep _ _ v (.bool true):=har
    cases h
    rfl
  refine ⟨_,he,?_⟩
  refine ⟨[d0,.lit (.int .i64 n),.lit (.int .i64 d),.lit (.int .i64 k)],[],_,[],p0++([]++([]++([]++[]))),[],hW',?_,?_,?_,Q2h hm _,fun h=>by cases h⟩
  · rw [hr,List.append_nil,hs]
    exact trodAll_cons_mk (shut_bool Tryz.underlying4 true) trodAll_mk0
  · rw [hp,List.append_nil,hs]
    have hb:∀ p∈p0,p.block<W.heap.size:=fun p hp=>hlt p (by simp [hp])
    exact trodAll_cons_mk (Trod_stays hlaid hr22 hs22 h0 (fun p hp=>Q3v hm (hb p hp)) (fun p hp=>by simpa using hb p hp)) (trodAll_cons_mk (shut_int Tryz.underlying3 w1) (trodAll_cons_mk (shut_int Tryz.underlying3 w2) (trodAll_cons_mk (shut_int Tryz.underlying3 w3) trodAll_mk0)))
  · rw [hv,List.append_nil,hs]
    rfl
end Orr
