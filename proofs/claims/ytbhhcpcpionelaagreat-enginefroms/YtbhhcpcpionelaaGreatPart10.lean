/- En3 EnZ En4 EnO EnR EnK FromL FromW EnQ EnP RawO EnA EnE W24 EnU EnV AscL RoomL WF24 ReadN LastN LastR LastS ArgR ArgO -/
import Derived.Test.YtbhhcpcpionelaaGreatPart09
import Derived.Test.YtbhhcpcpionelaaGreatPart08
import Derived.Test.YtbhhcpcpionelaaGreatPart07
import Derived.Test.YtbhhcpcpionelaaGreatPart00
import Derived.Test.YtbhhcpcpionelaaGreatPart06
import Derived.Deep.Slices
import Derived.ProofKit
import Derived.OpenShut
import Derived.WideKeyArgs
import Derived.SizedLaws
set_option linter.all false
namespace Orr
open Go Go.Proofs Tryz Orq
set_option maxRecDepth 10000
abbrev anw (S W H P:List Pt) (T:List P3):Un:=[ids (S.map (·.id)),ids (W.map (·.id)),ids (H.map (·.id)),ids (P.map (·.id)),.row (VF T)]
theorem Qhs {np nd:Int} {M S W H P:List Pt} {T:List P3} {r2:Uo} {q:Rat} {s t h p d:Cr} (hS:S.length<=1000000) (hH:H.length<=1000000) (hT:T.length<=1000) (hW:W=[]\/∃ w,W=[w]) (hP:P=[]\/∃ a b,P=[a,b]) :
 Uz prog 39 [.one (.ow 0 0)] [.blk 88 (enR 0 q),tB np nd M,.blk 196 (Ho s (Ut M) (Ut S)),.blk 199 (Tt t (Ut M) (W.map U3,r2)),.blk 201 (Ho h (Ut M) (Ut H)),.blk 203 (Ho p (Ut M) (Ut P)),.blk 205 (Ho d (Ut M) (VF T))]
  [.agg (anw S W H P T)] [.blk 88 (enR 0 q),tB np nd M,.blk 196 (Ho s (Ut M) (Ut S)),.blk 199 (Tt t (Ut M) (W.map U3,r2)),.blk 201 (Ho h (Ut M) (Ut H)),.blk 203 (Ho p (Ut M) (Ut P)),.blk 205 (Ho d (Ut M) (VF T))]:=by
 have c1:=Qne (c:=s) (l:=M) hS;have c2:=Qm5 (c:=h) (l:=M) hH;have c3:=uL (c:=d) (r0:=Ut M) hT;rcases hW with rfl | ⟨w,rfl⟩
 ·have c4:=Qao (c:=t) (r0:=Ut M) (r2:=r2);rcases hP with rfl | ⟨a,b,rfl⟩
  ·have c5:=xG (c:=p) (r0:=Ut M);refine Gb func39 rfl ?_;exact Ud [] [0,1,2,3,4,5,6] [.c [2] c1,.c [4] c2,.c [6] c3,.c [3] c4,.f rfl,.c [5] c5,.f rfl] rfl
  ·have c5:=pJ (c:=p) (r0:=Ut M) (a:=a) (b:=b);refine Gb func39 rfl ?_;exact Ud [] [0,1,2,3,4,5,6] [.c [2] c1,.c [4] c2,.c [6] c3,.c [3] c4,.f rfl,.c [5] c5,.t rfl] rfl
 ·have c4:=Qhv (c:=t) (r0:=Ut M) (r2:=r2) (w:=w);rcases hP with rfl | ⟨a,b,rfl⟩
  ·have c5:=xG (c:=p) (r0:=Ut M);refine Gb func39 rfl ?_;exact Ud [] [0,1,2,3,4,5,6] [.c [2] c1,.c [4] c2,.c [6] c3,.c [3] c4,.t rfl,.c [5] c5,.f rfl] rfl
  ·have c5:=pJ (c:=p) (r0:=Ut M) (a:=a) (b:=b);refine Gb func39 rfl ?_;exact Ud [] [0,1,2,3,4,5,6] [.c [2] c1,.c [4] c2,.c [6] c3,.c [3] c4,.t rfl,.c [5] c5,.t rfl] rfl
abbrev Qmq (M:List Pt) (q:Rat):Un:=anw (Tq (tq q) M) (Np (Fg (tq q)) M).1 (S0 M (tq q)) (ZF (Fg (tq q)) M) (yE (Fg (tq q)) M)
theorem Qkp (sg:Ui->Int) (M:List Pt):(Np sg M).1=[]\/∃ w,(Np sg M).1=[w]:=by
 by_cases h:0<M.length
 ·obtain ⟨a,ha,_⟩:=Mj sg M.length M (Ql _) h;exact .inr ⟨a,ha⟩
 ·obtain rfl:=Qh (by omega:M.length=0);exact .inl rfl
theorem Qdt (sg:Ui->Int) (M:List Pt):ZF sg M=[]\/∃ a b,ZF sg M=[a,b]:=by
 match M with
 | []=>exact .inl rfl
 | [_]=>exact .inl rfl
 | _::_::_=>exact .inr ⟨_,_,rfl⟩
theorem Qal {np nd:Int} {M:List Pt} {q:Rat} {s t h p d:Cr} (hM:M.length<=6):Uz prog 39 [.one (.ow 0 0)] (IC 0 np nd M q s t h p d) [.agg (Qmq M q)] (IC 0 np nd M q s t h p d) :=
 Qhs (by rw [Bn]; omega) (by have:=UI M (tq q); omega) (by have:=eO (Fg (tq q)) hM; omega) (Qkp _ _) (Qdt _ _)
abbrev Qe6 (k i:Nat) (e:Int):LV:=match Nat.blt k i with
 | true=>.int .i64 e
 | false=>.int .i64 0
theorem oY {np nd:Int} {M:List Pt} {q:Rat} {s t h p d:Cr}:Uz prog 10 [.one (.ow 0 0)] (IC 0 np nd M q s t h p d) [.agg [.int .i64 s.ev,.int .i64 t.ev,.int .i64 h.ev,.int .i64 p.ev,.int .i64 d.ev]] (IC 0 np nd M q s t h p d):=by
 refine Gb func10 rfl ?_;refine W9 [.c Ur pH] rfl ?_;refine Ue (S:=Nat) 9 (λL1 i=>(8,.v (.oi i))::L1) (λi=>[.blk 88 (enR 0 q),tB np nd M,bS s M q,bT t M q,bH h M q,bP p M q,bD d M q,.blk 29 [.int .i64 0,.int .i64 0,.int .i64 0,.int .i64 0,.int .i64 0],.blk 29 [Qe6 0 i s.ev,Qe6 1 i t.ev,Qe6 2 i h.ev,Qe6 3 i p.ev,Qe6 4 i d.ev]]) (λi=>5-i) (λi=>i<=5) 0 (by decide) rfl rfl λi hi=>?_
 rcases (show i=0\/i=1\/i=2\/i=3\/i=4\/i=5 by omega) with rfl | rfl | rfl | rfl | rfl | rfl
 ·exact go tt [.t rfl,.i 0,.c [2] XJ,.i 0] rfl (by simp [Uw]) (rd 1 (by omega) (by omega) rfl)
 ·exact go tt [.t rfl,.i 1,.c [3] lK,.i 1] rfl (by simp [Uw]) (rd 2 (by omega) (by omega) rfl)
 ·exact go tt [.t rfl,.i 2,.c [4] XJ,.i 2] rfl (by simp [Uw]) (rd 3 (by omega) (by omega) rfl)
 ·exact go tt [.t rfl,.i 3,.c [5] XJ,.i 3] rfl (by simp [Uw]) (rd 4 (by omega) (by omega) rfl)
 ·exact go tt [.t rfl,.i 4,.c [6] XJ,.i 4] rfl (by simp [Uw]) (rd 5 (by omega) (by omega) rfl)
 ·exact Ud [] [0,1,2,3,4,5,6] [.f rfl] rfl
theorem Qk2:∀ p∈([]:List Pt),Sc p.c:=λ_ h=>by cases h
theorem Qgh:∀ x∈([]:List Ct),Cp x.p:=λ_ h=>by cases h
theorem wA:Uf 119 [.one (.row [])] [.agg [.row []],.oi 0]:=by
 refine Gb func119 rfl ?_;refine W9 [.f rfl] rfl ?_;refine nlb 1 rfl rfl rfl ?_;refine Ue (S:=Unit) 2 (λL1 _=>(14,.v (.oi 0))::L1) (λ_=>[.blk 194 [.nils],.blk 194 [.row []]]) (λ_=>0) (λ_=>True) () trivial rfl rfl λ_ _=>?_
 exact Ub [.f rfl] rfl
abbrev zT (r0 r1 r2:LV):OB:=.blk 199 [.bool false,.nils,.bool false,.nils,.bool false,.nils,.bool false,.nils,.bool false,.nils,.nils,.int .i64 0,r0,r1,r2]
theorem Qk0 {a:Tm}:Uz prog 166 [.one (.ow 0 0),.agg (ta a),.one (.row [])] [zT (.row []) .nils (.orow 1 10 none),.row false 264 10 []] [.one (.row [])] [zT (.row []) .nils (.orow 1 10 none),.row false 264 10 []]:=by
 refine Gb func166 rfl ?_;exact Ud [] [0,1] [.t rfl] rfl
theorem Qgf {a:Tm}:Uz prog 123 [.one (.ow 0 0),.agg (ta a)] [zT (.row []) .nils .nils] [.one (.row [])] [zT (.row []) (.row []) (.row [])]:=by
 refine Gb func123 rfl ?_;refine W9 [] rfl ?_;refine oz 0 14 264 10 rfl rfl ?_;refine W9 [.k (As (l:=[])),.c [0,2] (Qk0 (a:=a)),.o 5 126 7] rfl ?_;refine Ue (S:=Unit) 4 (λL1 _=>(29,.v (.oi 0))::(5,.v (.one (.orow 3 7 none)))::L1) (λ_=>[zT (.row []) (.row []) (.orow 2 10 none),.blk 189 (ta a),.row false 264 10 [],.row false 126 7 []]) (λ_=>0) (λ_=>True) () trivial rfl rfl λ_ _=>?_
 exact Ud [2,3] [0] [.f rfl] rfl
theorem Qgg:Uf 169 [.agg [.row []]] [.one (.row [])]:=uO (l:=[]) (λ_ h=>by cases h) (by decide)
theorem Qml {a:Tm} (ha:Va a):Uf 163 [.agg (ta a),.one (.row [])] [.one (.row [])]:=xP (l:=[]) Qk2 (by decide) ha
theorem Qgd {a:Tm} (ha:Va a):Uz prog 124 [.one (.ow 0 0),.agg (ta a)] [.blk 201 (fU (.row []) .nils)] [.one (.row [])] [.blk 201 (fU (.row []) (.row []))]:=by
 have cn:Uf 168 [.agg (ta a),.one (.row [])] [.one (.row [])]:=pD (R:=[]) Qk2 (by decide) ha;have cc:Uz prog 165 [.agg (ta a),.one (.row [])] [] [.one (.orow 0 7 none)] [.row false 126 7 []]:=HZ (l:=[]) Qk2 (by decide) ha;refine Gb func124 rfl ?_;exact Ud [2] [0] [.k Qgg,.k (Qml ha),.k cn,.k (As (l:=[])),.k (Qml ha),.c [2] cc,.t rfl] rfl
theorem Qge {a:Tm}:Uz prog 125 [.one (.ow 0 0),.agg (ta a)] [.blk 203 (fU (.row []) .nils)] [.one (.row [])] [.blk 203 (fU (.row []) (.row []))]:=by
 refine Gb func125 rfl ?_;refine W9 [.k (As (l:=[]))] rfl ?_;refine nlc 0 13 rfl rfl rfl ?_;exact Ud [] [0] [.t rfl] rfl
theorem Qgc {a:Tm}:Uz prog 126 [.one (.ow 0 0),.agg (ta a)] [.blk 205 (fU (.row []) .nils)] [.one (.row [])] [.blk 205 (fU (.row []) (.row []))]:=by
 refine Gb func126 rfl ?_;refine W9 [.k Qgg,.o 6 126 7] rfl ?_;refine Ue (S:=Unit) 4 (λL1 _=>(42,.v (.oi 0))::(6,.v (.one (.orow 2 7 none)))::L1) (λ_=>[.blk 205 (fU (.row []) .nils),.blk 189 (ta a),.row false 126 7 [],.mpb (E8 (QJ (Fg a) []))]) (λ_=>0) (λ_=>True) () trivial rfl rfl λ_ _=>?_
 refine W9 [.f rfl] rfl ?_;refine Ue (S:=Unit) 5 (λL1 _=>(97,.v (.oi 0))::(6,.v (.one (.orow 2 7 none)))::L1) (λ_=>[.blk 205 (fU (.row []) .nils),.blk 189 (ta a),.row false 126 7 [],.mpb (E8 (QJ (Fg a) [])),.mpb (Ig (E8 (QJ (Fg a) [])) (JF (Fg a) []))]) (λ_=>0) (λ_=>True) () trivial rfl rfl λ_ _=>?_
 refine W9 [.f rfl] rfl ?_;refine ozM 0 13 101 3 rfl rfl ?_;refine Ue (S:=Unit) 6 (λL1 _=>(174,.v (.oi 0))::L1) (λ_=>[.blk 205 [.bool false,.nils,.bool false,.nils,.bool false,.nils,.bool false,.nils,.bool false,.nils,.nils,.int .i64 0,.row [],.orow 5 3 none],.blk 189 (ta a),.row false 126 7 [],.mpb (E8 (QJ (Fg a) [])),.mpb (Ig (E8 (QJ (Fg a) [])) (JF (Fg a) [])),.row false 101 3 []]) (λ_=>0) (λ_=>True) () trivial rfl rfl λ_ _=>?_
 exact Ud [2,5] [0] [.f rfl] rfl
section
variable {x y x' y':LV} {n d:Int} (h1:Gk x y n) (h2:Gk x' y' d) (bn:U5 n<=4294967295) (bd:U5 d<=4294967295) (ht:Qs 1640000 (Hg n d))
include h1 h2 bn bd ht
theorem Qkz:Uz prog 71 [.agg [x,y,x',y'],.one (.row [])] [] [.one (.ow 0 0),.oi 0] [.blk 196 (Ho ⟨tq (Hg n d),[],0⟩ [] [])]:=by
 have co:=JS h1 h2 bn bd (ht.mono (by decide));have cb:Uz prog 122 [.one (.ow 0 0),.agg (ta (tq (Hg n d)))] [.blk 196 (fU (.row []) .nils)] [.one (.row [])] [.blk 196 (fU (.row []) (.row []))]:=lZ (l:=[]) Qk2 (by decide) (CB ht);have cg:=XZ (T:=196) (r0:=[]) (r1:=[]) (CB ht) Qgh (by decide);obtain ⟨b,l1,rfl,rfl,_⟩:=h1;obtain ⟨b',l2,rfl,rfl,_⟩:=h2;refine Gb func71 rfl ?_;exact Ud [] [2] [.k wA,.f rfl,.k co,.c [2] cb,.c [2] cg] rfl
theorem Qk1:Uz prog 72 [.agg [x,y,x',y'],.one (.row [])] [] [.one (.ow 0 0),.oi 0] [.blk 199 (Tt ⟨tq (Hg n d),[],0⟩ [] ([],[]))]:=by
 have co:=JS h1 h2 bn bd (ht.mono (by decide));have cg:=lJ (T:=199) (r0:=[]) (r1:=([],[])) (CB ht) Qgh (by decide);obtain ⟨b,l1,rfl,rfl,_⟩:=h1;obtain ⟨b',l2,rfl,rfl,_⟩:=h2;refine Gb func72 rfl ?_;exact Ud [] [2] [.k wA,.f rfl,.k co,.c [2] (Qgf (a:=tq (Hg n d))),.c [2] cg] rfl
theorem Qkx:Uz prog 73 [.agg [x,y,x',y'],.one (.row [])] [] [.one (.ow 0 0),.oi 0] [.blk 201 (Ho ⟨tq (Hg n d),[],0⟩ [] [])]:=by
 have co:=JS h1 h2 bn bd (ht.mono (by decide));have cg:=XZ (T:=201) (r0:=[]) (r1:=[]) (CB ht) Qgh (by decide);obtain ⟨b,l1,rfl,rfl,_⟩:=h1;obtain ⟨b',l2,rfl,rfl,_⟩:=h2;refine Gb func73 rfl ?_;exact Ud [] [2] [.k wA,.f rfl,.k co,.c [2] (Qgd (CB ht)),.c [2] cg] rfl
theorem Qky:Uz prog 74 [.agg [x,y,x',y'],.one (.row [])] [] [.one (.ow 0 0),.oi 0] [.blk 203 (Ho ⟨tq (Hg n d),[],0⟩ [] [])]:=by
 have co:=JS h1 h2 bn bd (ht.mono (by decide));have cg:=XZ (T:=203) (r0:=[]) (r1:=[]) (CB ht) Qgh (by decide);obtain ⟨b,l1,rfl,rfl,_⟩:=h1;obtain ⟨b',l2,rfl,rfl,_⟩:=h2;refine Gb func74 rfl ?_;exact Ud [] [2] [.k wA,.f rfl,.k co,.c [2] (Qge (a:=tq (Hg n d))),.c [2] cg] rfl
theorem Qkw:Uz prog 75 [.agg [x,y,x',y'],.one (.row [])] [] [.one (.ow 0 0),.oi 0] [.blk 205 (Ho ⟨tq (Hg n d),[],0⟩ [] [])]:=by
 have co:=JS h1 h2 bn bd (ht.mono (by decide));have cg:=XZ (T:=205) (r0:=[]) (r1:=[]) (CB ht) Qgh (by decide);obtain ⟨b,l1,rfl,rfl,_⟩:=h1;obtain ⟨b',l2,rfl,rfl,_⟩:=h2;refine Gb func75 rfl ?_;exact Ud [] [2] [.k wA,.f rfl,.k co,.c [2] (Qgc (a:=tq (Hg n d))),.c [2] cg] rfl
end
end Orr
namespace Orr
open Go Go.Proofs Tryz Orq
set_option maxRecDepth 10000
theorem Qnn {np nd:Int} (h1:1<=np/\np<=6) (h2:0<=nd/\nd<=2):Uz prog 69 [.oi np,.oi nd] [] [.one (.ow 0 0),.oi 0] [.blk 158 [.int .i64 np,.int .i64 nd,.nils]]:=by
 refine Gb func69 rfl ?_;exact Ud [] [0] [.F,.f (by simp; omega),.f (by simp; omega),.f (by simp; omega)] rfl
theorem Qm3 {np nd:Int} (h1:1<=np/\np<=6) (h2:0<=nd/\nd<=2):Uz prog 26 [.oi np,.oi nd] [] [.one (.ow 0 0),.oi 0] (IC 0 np nd [] 0 (Qg5 [] (tq 0)) (Qqr [] (tq 0)) (Qqp [] (tq 0)) (Qqq [] (tq 0)) (Qqo [] (tq 0))):=by
 have ez:Hg (0:Rat).num ((0:Rat).den:Int)=0:=by decide
 have hq:Qs 1640000 (Hg (0:Rat).num ((0:Rat).den:Int)):=by rw [ez]; exact ⟨by decide,by decide⟩
 have i1:=Uu (0:Rat).num;have i2:=Uu ((0:Rat).den:Int);have c1:=Qkz i1 i2 (by decide) (by decide) hq;have c2:=Qk1 i1 i2 (by decide) (by decide) hq;have c3:=Qkx i1 i2 (by decide) (by decide) hq;have c4:=Qky i1 i2 (by decide) (by decide) hq;have c5:=Qkw i1 i2 (by decide) (by decide) hq;rw [ez] at c1 c2 c3 c4 c5;have ci:=Qa5 (n:=0) (by decide);rw [show ((0:Int):Rat)=0 from rfl,Ew] at ci;refine Gb func26 rfl ?_;refine W9 [.c [0] (Qnn h1 h2),.f rfl] rfl ?_;refine nlc 0 2 rfl rfl rfl ?_;exact Ud [] [1,0,2,3,4,5,6] [.k ci,.c [2] c1,.c [3] c2,.c [4] c3,.c [5] c4,.c [6] c5] rfl
def Em.ins (A:Em) (p:Pt):Em×Int:=(if Pi A.np A.nd A.M p=0 then { A with M:=put A.M p } else A,Pi A.np A.nd A.M p)
def Em.rep (A:Em) (p:Pt):Em×Int:=(if Sx A.nd A.M p=0 then { A with M:=A.M.set (P6 A.M p.id) p } else A,Sx A.nd A.M p)
open Classical in
noncomputable def Em.adv (A:Em) (t:Rat):Em×Int:=if Qs 128 t then (if t<A.q then (A,8) else ({ A with q:=t,s:=A.s+(cnt (JV A.M) A.q t:Nat),t:=A.t+(cnt (zR A.M) A.q t:Nat),h:=A.h+(cnt (CE A.M) A.q t:Nat),p:=A.p+(cnt (dS A.M) A.q t:Nat),d:=A.d+(cnt (wI A.M) A.q t:Nat) },0)) else (A,1)
theorem Qmc {np nd:Int} {k:Crv} (hn:QK k) (hnd:nd<=2) (h1:E7 k=true) (h2:¬nd<Of k):Sc k:=by
 obtain ⟨s1,s2,s3⟩:=VV.1 h1;unfold Of at h2;exact ⟨hn,s1,s2,s3,by omega,by omega⟩
theorem Qdl {p:Pt} (h:Ax p=true):(0<=p.id/\p.id<=1048576)/\E7 p.c=true:=by
 simp only [Ax,Zj,decide_eq_true_iff] at h;exact ⟨⟨h.1,h.2.1⟩,h.2.2⟩
theorem tD {M:List Pt} (hs:Ld M) {p:Pt} (h:has M p.id=true):Ld (M.set (P6 M p.id) p):=by
 have hl:=qJ h;have hid:∀ (x:Pt),M[P6 M p.id]? = some x->x.id=p.id:=λx hx=>by
  simp only [has,hx] at h; exact of_decide_eq_true h
 unfold Ld;rw [J9];intro i j hi hj hij;rw [Xf] at hi hj;have hx:=Qf hi;have hy:=Qf hj;have hlt:=Qr3 hs hij hx hy;rw [List.getElem_set,List.getElem_set]
 split
 ·rename_i e; subst e;rw [if_neg (by omega)];have:=hid _ hx;omega
 ·split
  ·rename_i e; subst e;have:=hid _ hy;omega
  ·exact hlt
theorem ZZ {M:List Pt} {i:Nat} {p x:Pt} (h:x∈M.set i p):x=p\/x∈M:=by
 rcases Jn h with h | h
 ·exact .inr h
 ·exact .inl h
abbrev iG (f:Nat) (args:Uq) (E:Es) (res:Uq) (E':Es):Prop:=Uz prog f args (enB 0 E) res (enB 0 E')
theorem MW {E:Es} {b:Int} (h:EOk b E) {lx ly:Uo} {px py:Ui} {x y:LV} {d id:Int} (hx:IsInts lx px) (hy:IsInts ly py) (hd:Gk x y d) (hk:Cs 4294967294 1073741824 (Crv.mk px py d)) :
 ∃ E',EOk b E'/\E'.m=(E.m.ins ⟨Crv.norm (Crv.mk px py d),id⟩).1/\iG 27 [.one (.ow 0 0),.oi id,.agg [.row lx,.row ly,x,y]] E [.one (.int .i64 (E.m.ins ⟨Crv.norm (Crv.mk px py d),id⟩).2)] E':=by
 have hM:=h.m.m;have hl6:=hM.ln;have ct:=Qno (np:=E.np) (nd:=E.nd) (l:=E.M) (id:=id) hx hy hd hk (by omega);obtain ⟨p,hp⟩:=nmE (Pt.mk (Crv.norm (Crv.mk px py d)) id);have hpn:QK p.c:=by rw [hp]; exact Crv.nml _
 by_cases e:Pi E.np E.nd E.M p=0
 ·have e0:Ax p=true/\has E.M p.id=false/\¬E.nd<Of p.c/\¬E.np<=(E.M.length:Int):=by
   unfold Pi at e;by_cases a1:Ax p=false
   ·rw [if_pos a1] at e; cases e
   rw [if_neg a1] at e;by_cases a2:has E.M p.id=true
   ·rw [if_pos a2] at e; cases e
   rw [if_neg a2] at e;by_cases a3:E.nd<Of p.c
   ·rw [if_pos a3] at e; cases e
   rw [if_neg a3] at e;by_cases a4:E.np<=(E.M.length:Int)
   ·rw [if_pos a4] at e; cases e
   exact ⟨by simpa using a1,by simpa using a2,a3,a4⟩
  obtain ⟨f1,f2,f3,f4⟩:=e0;obtain ⟨g1,g2⟩:=Qdl f1;have hsc:=Qmc (np:=E.np) hpn h.nd.2 g2 f3;have hpl:(put E.M p).length<=6:=by rw [cR]; have:=h.np.2; omega
  have hM':MOk (put E.M p):=⟨λz hz=>by rcases TA hz with rfl | hz; exact hsc; exact hM.sc z hz,hpl,BK hM.so f2⟩;have hME:MEn E.np E.nd (put E.M p):=⟨hM',by rw [cR]; have:=h.np.2; omega,λz hz=>by rcases TA hz with rfl | hz; omega; exact h.m.deg z hz,λz hz=>by rcases TA hz with rfl | hz; exact g1; exact h.m.id z hz⟩;have hpe:VQ E.M p=0:=by unfold VQ; rw [if_neg (by rw [f2]; decide),if_neg (by have:=h.np.2; omega)]
  rw [hp] at e hpe hM' hME hpl;rw [e,if_pos rfl] at ct;obtain ⟨w1,l1,a1⟩:=h.s.again okS hM';obtain ⟨w2,l2,a2⟩:=h.t.again okT hM';obtain ⟨w3,l3,a3⟩:=h.h.again okH hM';obtain ⟨w4,l4,a4⟩:=h.p.again okP hM';obtain ⟨w5,l5,a5⟩:=h.d.again okD hM';have c1:=Qnf (c:=E.s) (l:=E.M) (r1:=zS E.M (tq E.q)) hx hy hd hk (by omega) hpe h.s.st.inv.ok hM'.sc (by omega) l1;have c2:=Qhu (c:=E.t) (l:=E.M) (r1:=dC E.M (tq E.q)) hx hy hd hk (by omega) hpe h.t.st.inv.ok hM'.sc (by omega) l2;have c3:=Qhd (c:=E.h) (l:=E.M) (r1:=oQ E.M (tq E.q)) hx hy hd hk (by omega) hpe h.h.st.inv.ok hM'.sc (by omega) l3;have c4:=Qhk (c:=E.p) (l:=E.M) (r1:=brP E.M (tq E.q)) hx hy hd hk (by omega) hpe h.p.st.inv.ok hM'.sc (by omega) l4;have c5:=Qhb (c:=E.d) (l:=E.M) (r1:=dB E.M (tq E.q)) hx hy hd hk (by omega) hpe h.d.st.inv.ok hM'.sc (by omega) l5;rw [h.s.now] at c1;rw [h.t.now] at c2;rw [h.h.now] at c3;rw [h.p.now] at c4;rw [h.d.now] at c5;obtain ⟨b1,r,rfl,rfl,_⟩:=hd;refine ⟨⟨E.np,E.nd,put E.M ⟨Crv.norm (Crv.mk px py d),id⟩,E.q,⟨tq E.q,w1,E.s.ev⟩,⟨tq E.q,w2,E.t.ev⟩,⟨tq E.q,w3,E.h.ev⟩,⟨tq E.q,w4,E.p.ev⟩,⟨tq E.q,w5,E.d.ev⟩⟩,⟨h.np,h.nd,hME,h.q,a1,a2,a3,a4,a5,h.es,h.et,h.eh,h.ep,h.ed⟩,?_,?_⟩
  ·unfold Em.ins;show _=if Pi E.np E.nd E.M _=0 then _ else _
   rw [if_pos e]; rfl
  ·have e2:(E.m.ins ⟨Crv.norm (Crv.mk px py d),id⟩).2=0:=e;rw [e2];exact oP ct c1 c2 c3 c4 c5
 ·rw [hp] at e;rw [if_neg e] at ct;obtain ⟨b1,r,rfl,rfl,_⟩:=hd;refine ⟨E,h,?_,dO e ct⟩;unfold Em.ins;show _=if Pi E.np E.nd E.M _=0 then _ else _
  rw [if_neg e]
theorem Qb5 {E:Es} {b:Int} (h:EOk b E) {lx ly:Uo} {px py:Ui} {x y:LV} {d id:Int} (hx:IsInts lx px) (hy:IsInts ly py) (hd:Gk x y d) (hk:Cs 4294967294 1073741824 (Crv.mk px py d)) :
 ∃ E',EOk b E'/\E'.m=(E.m.rep ⟨Crv.norm (Crv.mk px py d),id⟩).1/\iG 36 [.one (.ow 0 0),.oi id,.agg [.row lx,.row ly,x,y]] E [.one (.int .i64 (E.m.rep ⟨Crv.norm (Crv.mk px py d),id⟩).2)] E':=by
 have hM:=h.m.m;have hl6:=hM.ln;have ct:=Qh3 (np:=E.np) (nd:=E.nd) (l:=E.M) (id:=id) hx hy hd hk (by omega);obtain ⟨p,hp⟩:=nmE (Pt.mk (Crv.norm (Crv.mk px py d)) id);have hpn:QK p.c:=by rw [hp]; exact Crv.nml _
 have hpi:p.id=id:=by rw [hp]
 by_cases e:Sx E.nd E.M p=0
 ·have e0:Ax p=true/\has E.M p.id=true/\¬E.nd<Of p.c:=by
   unfold Sx at e;by_cases a1:Ax p=false
   ·rw [if_pos a1] at e; cases e
   rw [if_neg a1] at e;by_cases a2:has E.M p.id=false
   ·rw [if_pos a2] at e; cases e
   rw [if_neg a2] at e;by_cases a3:E.nd<Of p.c
   ·rw [if_pos a3] at e; cases e
   exact ⟨by simpa using a1,by simpa using a2,a3⟩
  obtain ⟨f1,f2,f3⟩:=e0;obtain ⟨g1,g2⟩:=Qdl f1;have hsc:=Qmc (np:=E.np) hpn h.nd.2 g2 f3;have hM':MOk (E.M.set (P6 E.M p.id) p):=⟨λz hz=>by rcases ZZ hz with rfl | hz; exact hsc; exact hM.sc z hz,by rw [Xf]; exact hl6,tD hM.so f2⟩;have hME:MEn E.np E.nd (E.M.set (P6 E.M p.id) p):=⟨hM',by rw [Xf]; exact h.m.len,λz hz=>by rcases ZZ hz with rfl | hz; omega; exact h.m.deg z hz,λz hz=>by rcases ZZ hz with rfl | hz; exact g1; exact h.m.id z hz⟩;rw [hpi] at f2 hM' hME;rw [hp] at e hM' hME;rw [e,if_pos rfl] at ct;obtain ⟨w1,l1,a1⟩:=h.s.again okS hM';obtain ⟨w2,l2,a2⟩:=h.t.again okT hM';obtain ⟨w3,l3,a3⟩:=h.h.again okH hM';obtain ⟨w4,l4,a4⟩:=h.p.again okP hM';obtain ⟨w5,l5,a5⟩:=h.d.again okD hM';have c1:=Qhn (c:=E.s) (l:=E.M) (r1:=zS E.M (tq E.q)) hx hy hd hk (by omega) f2 h.s.st.inv.ok rfl hM'.sc l1;have c2:=Qan (c:=E.t) (l:=E.M) (r1:=dC E.M (tq E.q)) hx hy hd hk (by omega) f2 h.t.st.inv.ok rfl hM'.sc l2;have c3:=oR (c:=E.h) (l:=E.M) (r1:=oQ E.M (tq E.q)) hx hy hd hk (by omega) f2 h.h.st.inv.ok rfl hM'.sc l3;have c4:=Qaa (c:=E.p) (l:=E.M) (r1:=brP E.M (tq E.q)) hx hy hd hk (by omega) f2 h.p.st.inv.ok rfl hM'.sc l4;have c5:=oK (c:=E.d) (l:=E.M) (r1:=dB E.M (tq E.q)) hx hy hd hk (by omega) f2 h.d.st.inv.ok rfl hM'.sc l5;rw [h.s.now] at c1;rw [h.t.now] at c2;rw [h.h.now] at c3;rw [h.p.now] at c4;rw [h.d.now] at c5;obtain ⟨b1,r,rfl,rfl,_⟩:=hd;refine ⟨⟨E.np,E.nd,E.M.set (P6 E.M id) ⟨Crv.norm (Crv.mk px py d),id⟩,E.q,⟨tq E.q,w1,E.s.ev⟩,⟨tq E.q,w2,E.t.ev⟩,⟨tq E.q,w3,E.h.ev⟩,⟨tq E.q,w4,E.p.ev⟩,⟨tq E.q,w5,E.d.ev⟩⟩,⟨h.np,h.nd,hME,h.q,a1,a2,a3,a4,a5,h.es,h.et,h.eh,h.ep,h.ed⟩,?_,?_⟩
  ·unfold Em.rep;show _=if Sx E.nd E.M _=0 then _ else _
   rw [if_pos e]; rfl
  ·have e2:(E.m.rep ⟨Crv.norm (Crv.mk px py d),id⟩).2=0:=e;rw [e2];exact Qad ct c1 c2 c3 c4 c5
 ·rw [hp] at e;rw [if_neg e] at ct;obtain ⟨b1,r,rfl,rfl,_⟩:=hd;refine ⟨E,h,?_,lQ e ct⟩;unfold Em.rep;show _=if Sx E.nd E.M _=0 then _ else _
  rw [if_neg e]
theorem LQ {E:Es} {b:Int} (h:EOk b E) (hb:b<=900000000000000000) {x0 x1 x2 x3:LV} {n m:Int} {t:Rat} (ha:Gk x0 x1 n) (hc:Gk x2 x3 m) (sa:U5 n<=4294967295) (sb:U5 m<=4294967295) (ht:Hg n m=t) :
 ∃ E',EOk (b+67000000) E'/\E'.m=(E.m.adv t).1/\((E.m.adv t).2≠0->E'=E)/\iG 21 [.one (.ow 0 0),.agg [x0,x1,x2,x3]] E [.one (.int .i64 (E.m.adv t).2)] E':=by
 have hM:=h.m.m;have hl6:=hM.ln;by_cases hs:Qs 128 t
 ·by_cases hp:t<E.q
  ·have e2:E.m.adv t=(E.m,8):=by unfold Em.adv; rw [if_pos hs]; exact if_pos hp
   rw [e2];exact ⟨E,h.mono (by omega),rfl,λ_=>rfl,CZ ha hc sa sb ht hs h.q hp⟩
  ·have hqt:E.q<=t:=K9.1 hp;have e2:E.m.adv t=(({ E.m with q:=t,s:=E.s.ev+(cnt (JV E.M) E.q t:Nat),t:=E.t.ev+(cnt (zR E.M) E.q t:Nat),h:=E.h.ev+(cnt (CE E.M) E.q t:Nat),p:=E.p.ev+(cnt (dS E.M) E.q t:Nat),d:=E.d.ev+(cnt (wI E.M) E.q t:Nat) }:Em),0):=by unfold Em.adv; rw [if_pos hs]; exact if_neg hp
   rw [e2];have hq:Qs 1640000 t:=hs.mono (by decide);obtain ⟨K1,d1,k1,g1,a1,v1,u1,_⟩:=h.s.adv okS hM hq hqt;obtain ⟨K2,d2,k2,g2,a2,v2,u2,_⟩:=h.t.adv okT hM hq hqt;obtain ⟨K3,d3,k3,g3,a3,v3,u3,_⟩:=h.h.adv okH hM hq hqt;obtain ⟨K4,d4,k4,g4,a4,v4,u4,_⟩:=h.p.adv okP hM hq hqt;obtain ⟨K5,d5,k5,g5,a5,v5,u5,_⟩:=h.d.adv okD hM hq hqt;have hcm:∀ {c:Cr},c.now=tq E.q->Fe c.now t<=0:=λ{c} hn=>by
    rw [hn,wW]; exact TK.2 hqt
   have c1:=Qnd hq hM.sc (by omega) h.s.st.inv.ok (by have:=h.es; omega) (hcm h.s.now) g1;have c2:=Qht hq hM.sc (by omega) h.t.st.inv.ok (by have:=h.et; omega) (hcm h.t.now) g2;have c3:=Qm4 hq hM.sc (by omega) h.h.st.inv.ok (by have:=h.eh; omega) (hcm h.h.now) g3;have c4:=Qhj hq hM.sc (by omega) h.p.st.inv.ok (by have:=h.ep; omega) (hcm h.p.now) g4;have c5:=Qm2 hq hM.sc (by omega) h.d.st.inv.ok (by have:=h.ed; omega) (hcm h.d.now) g5;refine ⟨⟨E.np,E.nd,E.M,t,d1,d2,d3,d4,d5⟩,⟨h.np,h.nd,h.m,hs,a1,a2,a3,a4,a5,?_,?_,?_,?_,?_⟩,?_,λh=>absurd rfl h,dL ha hc sa sb ht hs h.q hqt c1 c2 c3 c4 c5⟩
   ·have:=h.es; show 0<=d1.ev/\d1.ev<=_; omega
   ·have:=h.et; show 0<=d2.ev/\d2.ev<=_; omega
   ·have:=h.eh; show 0<=d3.ev/\d3.ev<=_; omega
   ·have:=h.ep; show 0<=d4.ev/\d4.ev<=_; omega
   ·have:=h.ed; show 0<=d5.ev/\d5.ev<=_; omega
   ·unfold Es.m;simp only [v1,v2,v3,v4,v5]
 ·have e2:E.m.adv t=(E.m,1):=by unfold Em.adv; exact if_neg hs
  rw [e2];exact ⟨E,h.mono (by omega),rfl,λ_=>rfl,AI ha hc sa sb ht hs⟩
end Orr
namespace Orr
open Go Go.Proofs Tryz Orq
set_option maxRecDepth 10000
theorem En (a:Int):∀ i,U5 (a^i)<=U5 a*i+1
 | 0=>by rw [Wq]; show U5 1<=_; exact Qc (by decide) (V4 1 _)
 |
  i+1=>by
  rw [Wp];have h1:=Ft (a^i) a;have h2:=En a i;rw [Wx]; omega
theorem pV {a:Int} {n:Nat} (ha:U5 a<=1000) (hn:n<=256):Uf 133 [.agg (G6 a),.oi n] [.agg (G6 (a^n))]:=by
 refine Gb func133 rfl ?_;refine W9 [.k (RJ (z:=1) (by decide)),.r 8 (v:=.oi n) (by simp; omega),.r 9 (v:=.oi n) (by simp)] rfl ?_;refine lp (S:=Nat) 3 (λL1 i=>(10,.v (.oi i))::L1) (λi=>[.blk 37 (G6 a),.blk 37 [.bool false,.nils],.blk 37 (G6 (a^i))]) (λi=>n-i) (λi=>i<=n) 0 (Qi _) rfl (λ_ _=>rfl) (by rw [Wq]; rfl) λi hi=>?_
 by_cases h:i<n
 ·have h1:=En a i;have h2:U5 a*i<=1000*256:=Q7 ha (by omega);have cm:=Sk (Uu (a^i)) (Uu a) (by omega) (by omega);rw [<-Wp] at cm;refine Ua [.t (by simp; omega),.k cm] rfl ?_;exact rd (i+1) (by omega) h rfl
 ·obtain rfl:i=n:=by omega
  exact Ub [.f (by simp)] rfl
def Gg (n d:Int):Ui->Ui×Int
 | []=>([],1)
 | x::l=>(A0 (Ge (Gg n d l).1 [n,d]) [x*(Gg n d l).2],(Gg n d l).2*d)
theorem rQ (n d:Int):∀ l,U7 (Gg n d l).1
 | []=>rfl
 | _::_=>Fq _ _
theorem uT {n d:Int} (hn:U5 n<=130) (hd:U5 d<=130):Bd 130 [n,d]:=λz hz=>by
 rcases Qm.1 hz with rfl | hz
 ·exact hn
 ·rw [Qj.1 hz]; exact hd
theorem WZ {n d:Int} (hn:U5 n<=130) (hd:U5 d<=130) {s:Nat}:∀ {l:Ui},Bd s l->l.length<=8->Bd (s+140*l.length) (Gg n d l).1/\(Gg n d l).1.length<=l.length/\U5 (Gg n d l).2<=130*l.length+1
 | [],_,_=>⟨I5,Ql _,by show U5 1<=_; exact Qc (by decide) (V4 1 _)⟩
 |
  x::l,h,hl=>by
  rw [Q4] at hl ⊢;obtain ⟨h1,h2,h3⟩:=WZ hn hd (λz hz=>h z (Qg _ hz)) (by omega:l.length<=8);have hx:=h x (Qw ..);have b1:=Se (u:=4) h1 (uT hn hd) (by omega);have b2:Bd (s+(130*l.length+1)) [x*(Gg n d l).2]:=λz hz=>by
   rw [Qj.1 hz];have:=Ft x (Gg n d l).2;omega
  refine ⟨Uv (I6 b1 b2) (by omega),?_,?_⟩
  ·have h4:=Ep (Ge (Gg n d l).1 [n,d]) [x*(Gg n d l).2];have h5:=Ru (Gg n d l).1 [n,d];simp only [Q4,Jd] at h4 h5;show (A0 _ _).length<=_;omega
  ·have:=Ft (Gg n d l).2 d;show U5 ((Gg n d l).2*d)<=_;omega
theorem lO {a:Ui} {j:Nat} {x:Int} (h:a[j]? = some x):a.drop j=x::a.drop (j+1):=by
 obtain ⟨h1,h2⟩:=Qe.1 h;rw [Zp h1,h2]
theorem oC {a:Ui} {n d:Int} {s:Nat} (ta:U7 a) (ha:Bd s a) (hs:s<=1000) (hl:a.length<=8) (hn:U5 n<=130) (hd:U5 d<=130) (h0:d≠0):Uf 130 [pr a,.agg (G6 n),.agg (G6 d)] [pr (Gg n d a).1,.oi 0]:=by
 have nn:=Pw (Uu n) (by omega);have nd:=Pw (Uu d) (by omega);have cn:=Hd (p:=a) ta (by omega) (Uv ha (by omega));have td:U7 [n,d]:=by simp [U7,trim,h0]
 refine Gb func130 rfl ?_;refine Ua [.k nd,.k (Nv (z:=d)),.f (by simpa using h0),.k cn,.z 8,.k nn,.k nd,.k (RJ (z:=1) (by decide)),.r 25 (eI (b:=(a.length:Int)-1) (by simp))] rfl ?_;refine lp (S:=Nat) 3 (λL1 j=>(11,.v (.oi ((j:Int)-1)))::(8,.v (pr (Gg n d (a.drop j)).1))::L1) (λj=>[.blk 37 (G6 n),.blk 37 (G6 d),.blk 37 (G6 (Gg n d (a.drop j)).2)]) (λj=>j) (λj=>j<=a.length) a.length (Ql _) rfl (λ_ _=>rfl) (by rw [Ys]; rfl) λj hj=>?_
 cases j with
 | zero=>exact Ub [.f (by simp)] rfl
 |
  succ j =>
  obtain ⟨x,hx⟩:=gxE (l:=a) (i:=j) (by omega);obtain ⟨b1,b2,b3⟩:=WZ hn hd (l:=a.drop (j+1)) (λz hz=>ha z (Qy hz)) (by rw [Ze]; omega);have hdl:(a.drop (j+1)).length<=8:=by rw [Ze]; omega
  have e:Gg n d (a.drop j)=(A0 (Ge (Gg n d (a.drop (j+1))).1 [n,d]) [x*(Gg n d (a.drop (j+1))).2],(Gg n d (a.drop (j+1))).2*d):=by rw [lO hx]; rfl
  have e1:(Gg n d (a.drop j)).1=A0 (Ge (Gg n d (a.drop (j+1))).1 [n,d]) [x*(Gg n d (a.drop (j+1))).2]:=by rw [e]
  have e2:(Gg n d (a.drop j)).2=(Gg n d (a.drop (j+1))).2*d:=by rw [e]
  have tm:=rQ n d (a.drop (j+1));obtain ⟨P,hP⟩:=nmE ((Gg n d (a.drop (j+1))).1);obtain ⟨W,hW⟩:=nmE ((Gg n d (a.drop (j+1))).2);rw [<-hP,<-hW] at e1;rw [<-hW] at e2;rw [<-hP] at b1 b2 tm;rw [<-hW] at b3;have hxs:=ha x (Qa hx);have c1:=YJ tm td (by omega) (by show 2<137438953472; decide) b1 (uT hn hd) (by omega);have c2:=Sk (Uu x) (Uu W) (by omega) (by omega);have bm:=Se (u:=4) b1 (uT hn hd) (by omega);have hm:=Ft x W;have hlm:=Ru P [n,d];simp only [Q4,Jd] at hlm;have c3:=PY (p:=Ge P [n,d]) (q:=[x*W]) (by omega) (by show 1<274877906944; decide) (Uv bm (by omega)) (λz hz=>by rw [Qj.1 hz]; omega);rw [<-e1] at c3;have c4:=Sk (Uu W) (Uu d) (by omega) (by omega);rw [<-e2] at c4;rw [show ((j+1:Nat):Int)-1=(j:Int) by omega,<-hP,<-hW];refine Ua [.t (by simp),.k c1,.x (Su hx),.k c2,.k c3,.k c4] rfl ?_;exact rd j (by omega) (by omega) rfl
def M7 (px py:Ui) (q:Rat):Crv:=⟨Fl (Gg (-q).num ((-q).den:Int) (trim px)).1 (((-q).den:Int)^(max ((trim px).length-1) ((trim py).length-1)-((trim px).length-1))),Fl (Gg (-q).num ((-q).den:Int) (trim py)).1 (((-q).den:Int)^(max ((trim px).length-1) ((trim py).length-1)-((trim py).length-1))),((-q).den:Int)^(max ((trim px).length-1) ((trim py).length-1))⟩
theorem Qac {lx ly:Uo} {px py:Ui} {q:Rat} {s:Nat} (hx:IsInts lx px) (hy:IsInts ly py) (hq:Qs 128 q) (bx:Bd s px) (by_:Bd s py) (hs:s<=1000) (llx:px.length<=8) (lly:py.length<=8) :
 Cs 4294967294 1073741824 (M7 px py q)/\Uf 77 [.one (.row lx),.one (.row ly),.agg (rl q)] [.agg (cl (Crv.norm (M7 px py q)))]:=by
 have cx:=Nu hx (by omega) (Uv bx (by omega));have cy:=Nu hy (by omega) (Uv by_ (by omega));have cg:=Qa6 (q:=q) (hq.mono (by decide));have hnq:Qs 128 (-q):=by
  refine ⟨?_,?_⟩
  ·rw [Rat.neg_num,Hu]; exact hq.1
  ·rw [Rat.neg_den]; exact hq.2
 have hX:Bd s (trim px):=H7 bx;have hY:Bd s (trim py):=H7 by_;have lX:(trim px).length<=8:=Qc (Ha px) llx;have lY:(trim py).length<=8:=Qc (Ha py) lly;have h0:((-q).den:Int)≠0:=by have:=(-q).den_pos; omega
 have hn1:U5 (-q).num<=130:=Qc hnq.1 (by decide);have hd1:U5 ((-q).den:Int)<=130:=Qc hnq.2 (by decide);have m1:=oC (H6 px) hX hs (by omega) hn1 hd1 h0;have m2:=oC (H6 py) hY hs (by omega) hn1 hd1 h0;obtain ⟨p1,p2,_⟩:=WZ hn1 hd1 hX (by omega);obtain ⟨q1,q2,_⟩:=WZ hn1 hd1 hY (by omega);unfold M7;obtain ⟨D,hD⟩:=nmE (((-q).den:Int));obtain ⟨N,hN⟩:=nmE ((-q).num);have hgl:rl (-q)=[sg N,mg N,sg D,mg D]:=by rw [hN,hD]
 rw [hgl] at cg;rw [<-hD,<-hN] at m1 m2 p1 p2 q1 q2 ⊢;rw [<-hD] at hd1;obtain ⟨X,hXe⟩:=nmE (trim px);obtain ⟨Y,hYe⟩:=nmE (trim py);rw [<-hXe] at cx hX lX m1 p1 p2 ⊢;rw [<-hYe] at cy hY lY m2 q1 q2 ⊢;obtain ⟨a,ha⟩:=nmE (X.length-1);obtain ⟨b,hb⟩:=nmE (Y.length-1);rw [<-ha,<-hb];obtain ⟨k,hk⟩:=nmE (max a b);rw [<-hk];have w1:=pV (a:=D) (n:=k-a) (by omega) (by omega);have w2:=pV (a:=D) (n:=k-b) (by omega) (by omega);have w3:=pV (a:=D) (n:=k) (by omega) (by omega);have z1:=En D (k-a);have z2:=En D (k-b);have z3:=En D k;have y1:U5 D*(k-a)<=130*8:=Q7 hd1 (by omega);have y2:U5 D*(k-b)<=130*8:=Q7 hd1 (by omega);have y3:U5 D*k<=130*8:=Q7 hd1 (by omega);have s1:=Sy (p:=(Gg N D X).1) (c:=D^(k-a)) (by omega) (Uv p1 (by omega)) (by omega);have s2:=Sy (p:=(Gg N D Y).1) (c:=D^(k-b)) (by omega) (Uv q1 (by omega)) (by omega);have e1:=Fp p1 (c:=D^(k-a)) (Ql _);have e2:=Fp q1 (c:=D^(k-b)) (Ql _);have f1:=Fh (Gg N D X).1 (D^(k-a));have f2:=Fh (Gg N D Y).1 (D^(k-b));have hcs:Cs 4294967294 1073741824 ⟨Fl (Gg N D X).1 (D^(k-a)),Fl (Gg N D Y).1 (D^(k-b)),D^k⟩:=⟨Uv e1 (by omega),Uv e2 (by omega),by show U5 (D^k)<=_; omega,by show (Fl _ _).length<=_; omega,by show (Fl _ _).length<=_; omega⟩;refine ⟨hcs,?_⟩;have cn:=RO (Ga _) (Ga _) (Uu _) hcs;have ek:((max a b:Nat):Int)=(k:Int):=by rw [hk]
 exact Uc func77 rfl [.k cx,.k cy,.k cg,.k m1,.k m2,.k (Ph X),.r 40 (eI (b:=(a:Int)) (by omega)),.k (Ph Y),.r 43 (eI (b:=(b:Int)) (by omega)),.r 46 (eI (b:=(k:Int)) (by omega)),.r 52 (eI (b:=((k-a:Nat):Int)) (by omega)),.k w1,.k s1,.r 60 (eI (b:=((k-b:Nat):Int)) (by omega)),.k w2,.k s2,.k w3,.k cn] rfl rfl (by simp [Uw]; omega)
theorem Qny {E:Es} {b:Int} (h:EOk b E) {lx ly:Uo} {px py:Ui} {s:Nat} {id:Int} (hx:IsInts lx px) (hy:IsInts ly py) (bx:Bd s px) (by_:Bd s py) (hs:s<=1000) (llx:px.length<=8) (lly:py.length<=8) :
 ∃ E',EOk b E'/\E'.m=(E.m.rep ⟨Crv.norm (M7 px py E.q),id⟩).1/\iG 29 [.one (.ow 0 0),.oi id,.one (.row lx),.one (.row ly)] E [.one (.int .i64 (E.m.rep ⟨Crv.norm (M7 px py E.q),id⟩).2)] E':=by
 obtain ⟨hc,cr⟩:=Qac hx hy h.q bx by_ hs llx lly;have hcn:=hc.norm (by omega);have hnm:=Crv.nml (M7 px py E.q);obtain ⟨C,hC⟩:=nmE (Crv.norm (M7 px py E.q));rw [<-hC] at cr hcn hnm ⊢;obtain ⟨E',h1,h2,h3⟩:=Qb5 h (id:=id) (Ga C.x) (Ga C.y) (Uu C.d) hcn;have eC:Crv.norm (Crv.mk C.x C.y C.d)=C:=Crv.norm_of hnm;rw [eC] at h2 h3;refine ⟨E',h1,h2,?_⟩;refine Gb func29 rfl ?_;exact Ud [] [0,1,2,3,4,5,6] [.k cr,.c Ur h3] rfl
theorem Qnz {E:Es} {b:Int} (h:EOk b E) {c:Crv} {id e:Int} {A A':Em} (hn:QK c) (hc:Cs 4294967294 1073741824 c) (hm:E.m=A) (he:A.ins ⟨c,id⟩=(A',e)):∃ E',EOk b E'/\E'.m=A'/\iG 27 [.one (.ow 0 0),.oi id,.agg (cl c)] E [.oi e] E':=by
 obtain ⟨E',h1,h2,h3⟩:=MW h (id:=id) (Ga c.x) (Ga c.y) (Uu c.d) hc;have e1:Crv.norm (Crv.mk c.x c.y c.d)=c:=Crv.norm_of hn;rw [e1,hm,he] at h2 h3;exact ⟨E',h1,h2,h3⟩
theorem Qoe {A:Em} {p:Pt} (h:Pi A.np A.nd A.M p=0):A.ins p=({ A with M:=put A.M p },0):=by unfold Em.ins; rw [h,if_pos rfl]
theorem Qpf {A:Em} {p:Pt} (h:Sx A.nd A.M p=0):A.rep p=({ A with M:=A.M.set (P6 A.M p.id) p },0):=by unfold Em.rep; rw [h,if_pos rfl]
theorem nE {c:Crv} {id:Int} (h:0<=id/\id<=1048576) (hs:E7 c=true):Ax ⟨c,id⟩=true:=by
 simp [Ax,h.1,h.2,hs]
theorem kO {c:Crv} (h:Sc c):E7 c=true:=VV.2 ⟨h.c.x,h.c.y,h.c.d⟩
section
variable {np nd:Int} {M:List Pt} {p:Pt}
theorem Qki (h:Ax p=true) (h2:has M p.id=false) (h3:Of p.c<=nd) (h4:(M.length:Int)<np):Pi np nd M p=0:=by
 unfold Pi; rw [if_neg (by rw [h]; decide),if_neg (by rw [h2]; decide),if_neg (by omega),if_neg (by omega)]
theorem Qfx (h:Ax p=true) (h2:has M p.id=true) (h3:Of p.c<=nd):Sx nd M p=0:=by
 unfold Sx; rw [if_neg (by rw [h]; decide),if_neg (by rw [h2]; decide),if_neg (by omega)]
end
end Orr
namespace Orr
open Go Go.Proofs Tryz Orq
theorem OP (q:Rat):(q.num:Rat) / (((q.den:Int):Int):Rat)=q:=by rw [Hk,Xd]
theorem ZB (d:Rat) (j:Nat):∀ k:Nat,d^(j+k)=d^j*d^k
 | 0=>by rw [Xk,Z4,Rat.mul_one]
 | k+1=>by rw [<-J4,Zu,Zu,ZB d j k,Rat.mul_assoc]
theorem yI (n d:Int):∀ l,(((Gg n d l).2:Int):Rat)=(d:Rat)^l.length
 | []=>by show ((1:Int):Rat)=(d:Rat)^0; rw [Z4]; rfl
 |
  x::l=>by
  show (((Gg n d l).2*d:Int):Rat)=_;rw [Xg,yI n d l,Q4,Zu]
theorem vN {n d:Int} (hd:(d:Rat)≠0) (t:Rat):∀ l:Ui,Uy (Gg n d l).1 t*(d:Rat)=(d:Rat)^l.length*Uy l (t+(n:Rat) / (d:Rat))
 | []=>by show (0:Rat)*_=_*0; rw [Rat.zero_mul,Rat.mul_zero]
 |
  x::l=>by
  have ih:=vN (n:=n) hd t l;have h2:=yI n d l;have h3:(n:Rat) / (d:Rat)*(d:Rat)=n:=Zc hd;have e1:Uy (Gg n d (x::l)).1 t=Uy (Gg n d l).1 t*((n:Rat)+t*((d:Rat)+t*0))+(((x*(Gg n d l).2:Int):Rat)+t*0):=by
   show Uy (A0 (Ge (Gg n d l).1 [n,d]) [x*(Gg n d l).2]) t=_;rw [WF,Fw]; rfl
  have e2:Uy (x::l) (t+(n:Rat) / (d:Rat))=(x:Rat)+(t+(n:Rat) / (d:Rat))*Uy l (t+(n:Rat) / (d:Rat)):=rfl;rw [e1,e2,Xg,h2,Q4,Zu];obtain ⟨s,hs⟩:=nmE ((n:Rat) / (d:Rat));rw [<-hs] at ih h3 ⊢;obtain ⟨P,hP⟩:=nmE (Uy l (t+s));obtain ⟨M,hM⟩:=nmE (Uy (Gg n d l).1 t);obtain ⟨Q,hQ⟩:=nmE ((d:Rat)^l.length);rw [<-hP,<-hM,<-hQ] at ih;rw [<-hP,<-hM,<-hQ];have:M*((n:Rat)+t*((d:Rat)+t*0))*(d:Rat)=(M*(d:Rat))*((n:Rat)+t*(d:Rat)):=by grind
  have e3:(M*((n:Rat)+t*((d:Rat)+t*0))+((x:Rat)*Q+t*0))*(d:Rat)=(M*(d:Rat))*((n:Rat)+t*(d:Rat))+(x:Rat)*Q*(d:Rat):=by grind
  rw [e3,ih];have e4:(n:Rat)+t*(d:Rat)=(t+s)*(d:Rat):=by grind
  rw [e4]; grind
theorem cB {X:Ui} {q t:Rat} {k:Nat} (hk:X.length-1<=k):Uy (Fl (Gg (-q).num ((-q).den:Int) X).1 (((-q).den:Int)^(k-(X.length-1)))) t=((((-q).den:Int)^k:Int):Rat)*Uy X (t-q):=by
 obtain ⟨D,hD⟩:=nmE (((-q).den:Int));have hd:(D:Rat)≠0:=by
  have:=(-q).den_pos;intro h;have h':((D:Int):Rat)=((0:Int):Rat):=h;rw [V5] at h';omega
 have hq:((-q).num:Rat) / (D:Rat)=-q:=by rw [hD]; exact OP (-q)
 have hm:=vN (n:=(-q).num) hd t X;rw [hq,show t+-q=t-q by grind] at hm;rw [<-hD];rw [Hq,W7,W7];by_cases h0:X.length=0
 ·have e:X=[]:=Qh h0;subst e;show (0:Rat)*_=_*0;rw [Rat.zero_mul,Rat.mul_zero]
 ·obtain ⟨j,hj⟩:∃ j,X.length=j+1:=⟨X.length-1,by omega⟩;rw [hj,Zu] at hm;have hm2:Uy (Gg (-q).num D X).1 t=(D:Rat)^j*Uy X (t-q):=by
   have:(D:Rat)*(Uy (Gg (-q).num D X).1 t-(D:Rat)^j*Uy X (t-q))=0:=by grind
   rcases X7.1 this with h | h
   ·exact absurd h hd
   ·grind
  have e:k=j+(k-j):=by omega
  rw [hm2,show X.length-1=j by omega]
  conv=>rhs; rw [e,ZB]
  grind
theorem Qpb (px py:Ui) (q t:Rat):Uy (M7 px py q).x t=((M7 px py q).d:Rat)*Uy px (t-q):=by
 unfold M7;dsimp only;rw [cB (by omega),Tn]
theorem Qpc (px py:Ui) (q t:Rat):Uy (M7 px py q).y t=((M7 px py q).d:Rat)*Uy py (t-q):=by
 unfold M7;dsimp only;rw [cB (by omega),Tn]
theorem Qpa (px py:Ui) (q:Rat):(M7 px py q).d≠0:=by
 unfold M7;dsimp only;have:=(-q).den_pos;exact Int.pow_ne_zero (by omega)
theorem vX {k:Crv} (h:k.d≠0) {p:Ui} (hp:∀ z∈trim p,z∈trim k.x++trim k.y) (t:Rat):Uy (Bi (trim p) k.g) t*(k.d:Rat)=Uy p t*((k.d' / k.g:Int):Rat):=by
 have hg:=k.g_dvd;have hd:∀ z∈trim p,k.g∣z:=λz hz=>Jt (hg z (Qg _ (hp z hz)))
 have e1:=GX hd t;rw [Tn] at e1;have e2:k.d'=k.d:=if_neg h;obtain ⟨c,hc⟩:k.g∣k.d':=Jt (hg k.d' (Qw ..));rw [hc,Jp _ k.g_ne,e1];rw [<-e2,hc,Xg];grind
theorem Qoy {k:Crv} (h:k.d≠0) (t:Rat):Uy (Crv.norm k).x t*(k.d:Rat)=Uy k.x t*((Crv.norm k).d:Rat):=vX h (λ_ hz=>Xu _ hz) t
theorem Qoz {k:Crv} (h:k.d≠0) (t:Rat):Uy (Crv.norm k).y t*(k.d:Rat)=Uy k.y t*((Crv.norm k).d:Rat):=vX h (λ_ hz=>X1 _ hz) t
theorem Qpd (px py:Ui) (q t:Rat):Uy (Crv.norm (M7 px py q)).x t=((Crv.norm (M7 px py q)).d:Rat)*Uy px (t-q)/\Uy (Crv.norm (M7 px py q)).y t=((Crv.norm (M7 px py q)).d:Rat)*Uy py (t-q):=by
 have h0:=Qpa px py q;have h1:=Qoy h0 t;have h2:=Qoz h0 t;rw [Qpb] at h1;rw [Qpc] at h2;have hd:((M7 px py q).d:Rat)≠0:=λh=>h0 (by
  have h':(((M7 px py q).d:Int):Rat)=((0:Int):Rat):=h;rwa [V5] at h')
 obtain ⟨D,hD⟩:=nmE (((M7 px py q).d:Rat));rw [<-hD] at h1 h2 hd;constructor
 ·have:D*(Uy (Crv.norm (M7 px py q)).x t-((Crv.norm (M7 px py q)).d:Rat)*Uy px (t-q))=0:=by grind
  rcases X7.1 this with h | h
  ·exact absurd h hd
  ·grind
 ·have:D*(Uy (Crv.norm (M7 px py q)).y t-((Crv.norm (M7 px py q)).d:Rat)*Uy py (t-q))=0:=by grind
  rcases X7.1 this with h | h
  ·exact absurd h hd
  ·grind
theorem FC {n d:Int} (hn:U5 n<=6) (hd:U5 d<=6) {s:Nat}:∀ {l:Ui},Bd s l->l.length<=8->Bd (s+16*l.length) (Gg n d l).1/\(Gg n d l).1.length<=l.length/\U5 (Gg n d l).2<=6*l.length+1
 | [],_,_=>⟨I5,Ql _,by show U5 1<=_; exact Qc (by decide) (V4 1 _)⟩
 |
  x::l,h,hl=>by
  rw [Q4] at hl ⊢;obtain ⟨h1,h2,h3⟩:=FC hn hd (λz hz=>h z (Qg _ hz)) (by omega:l.length<=8);have hx:=h x (Qw ..);have b0:Bd 6 [n,d]:=λz hz=>by
   rcases Qm.1 hz with rfl | hz
   ·exact hn
   ·rw [Qj.1 hz]; exact hd
  have b1:=Se (u:=4) h1 b0 (by omega);have b2:Bd (s+(6*l.length+1)) [x*(Gg n d l).2]:=λz hz=>by
   rw [Qj.1 hz];have:=Ft x (Gg n d l).2;omega
  refine ⟨Uv (I6 b1 b2) (by omega),?_,?_⟩
  ·have h4:=Ep (Ge (Gg n d l).1 [n,d]) [x*(Gg n d l).2];have h5:=Ru (Gg n d l).1 [n,d];simp only [Q4,Jd] at h4 h5;show (A0 _ _).length<=_;omega
  ·have:=Ft (Gg n d l).2 d;show U5 ((Gg n d l).2*d)<=_;omega
theorem Qpe {px py:Ui} {q:Rat} (hx:Bd 8 px) (hy:Bd 8 py) (lx:px.length<=2) (ly:py.length<=2) (hq:Qs 6 q):Sc (Crv.norm (M7 px py q))/\Of (Crv.norm (M7 px py q))<=1:=by
 have hn:U5 (-q).num<=6:=by rw [Rat.neg_num,Hu]; exact hq.1
 have hd:U5 ((-q).den:Int)<=6:=by rw [Rat.neg_den]; exact hq.2
 have hX:=H7 hx;have hY:=H7 hy;have lX:(trim px).length<=2:=Qc (Ha px) lx;have lY:(trim py).length<=2:=Qc (Ha py) ly;obtain ⟨p1,p2,_⟩:=FC hn hd hX (by omega);obtain ⟨q1,q2,_⟩:=FC hn hd hY (by omega);have hp:∀ j,j<=1->U5 (((-q).den:Int)^j)<=7:=λj hj=>by
  have:=En ((-q).den:Int) j;have:U5 ((-q).den:Int)*j<=6*1:=Q7 hd hj;omega
 have hcs:Cs 128 2 (M7 px py q):=by
  unfold M7;refine ⟨Uv (Fp p1 (hp _ (by omega))) (by omega),Uv (Fp q1 (hp _ (by omega))) (by omega),Qc (hp _ (by omega)) (by decide),Qc (Fh _ _) (by omega),Qc (Fh _ _) (by omega)⟩
 have h:=hcs.norm (by decide);have h1:=h.lx;have h2:=h.ly;exact ⟨⟨Crv.nml _,h.mono (Nat.le_refl _) (by decide)⟩,by unfold Of; omega⟩
end Orr
namespace Orr
open Go Go.Proofs Tryz Orq
set_option maxRecDepth 10000
theorem Qnc {a:Int}:Uf 133 [.agg (G6 a),.oi (-1)] [.agg (G6 1)]:=by
 refine Gb func133 rfl ?_;refine W9 [.k (RJ (z:=1) (by decide))] rfl ?_;refine Ue (S:=Unit) 3 (λL1 _=>(10,.v (.oi 0))::L1) (λ_=>[.blk 37 (G6 a),.blk 37 [.bool false,.nils],.blk 37 (G6 1)]) (λ_=>0) (λ_=>True) () trivial rfl rfl λ_ _=>?_
 exact Ub [.f rfl] rfl
theorem TU (q:Rat):(((q.den:Int):Int):Rat)≠0:=λh=>by
 have h':(((q.den:Int):Int):Rat)=((0:Int):Rat):=h;rw [V5] at h';have:=q.den_pos; omega
theorem Qdz (q:Rat):(q.num:Rat)=q*(((q.den:Int):Int):Rat):=by
 have h:=OP q;have:=Zc (a:=(q.num:Rat)) (TU q);rw [h] at this;exact this.symm
theorem cL {d:Rat} (h:d≠0):∀ k:Nat,d^k≠0
 | 0=>by rw [Z4]; decide
 |
  k+1=>by
  rw [Zu];intro h';rcases X7.1 h' with e | e
  ·exact cL h k e
  ·exact h e
theorem Qjs {p:Ui} {t:Rat}:∃ k:Nat,(p.length=0/\BW p t.num t.den=0\/p.length=k+1/\Rat.divInt (BW p t.num t.den) ((t.den:Int)^k)=Uy p t):=by
 by_cases h:p.length=0
 ·have e:p=[]:=Qh h;subst e; exact ⟨0,.inl ⟨rfl,rfl⟩⟩
 ·refine ⟨p.length-1,.inr ⟨by omega,?_⟩⟩;have hd:=TU t;have hv:((BW p t.num t.den:Int):Rat)*(((t.den:Int):Int):Rat)=(((t.den:Int):Int):Rat)^p.length*Uy (p.drop (p.length-p.length)) ((t.num:Rat) / (((t.den:Int):Int):Rat)):=(zY p t.num t.den hd p.length (Ql _)).2;rw [Kd,Xw] at hv;have hq:(t.num:Rat) / (((t.den:Int):Int):Rat)=t:=OP t;rw [hq] at hv;obtain ⟨k,hk⟩:∃ k,p.length=k+1:=⟨p.length-1,by omega⟩;rw [hk,Zu] at hv;rw [hk,Js,<-YH,W7];have hp:=cL hd k;have e:((BW p t.num t.den:Int):Rat)=(((t.den:Int):Int):Rat)^k*Uy p t:=by
   have e0:((BW p t.num t.den:Int):Rat)*(((t.den:Int):Int):Rat)=(((t.den:Int):Int):Rat)^k*(((t.den:Int):Int):Rat)*Uy p t:=hv;have:(((t.den:Int):Int):Rat)*(((BW p t.num t.den:Int):Rat)-(((t.den:Int):Int):Rat)^k*Uy p t)=0:=by grind
   rcases X7.1 this with h | h
   ·exact absurd h hd
   ·grind
  rw [e,X3];have:=J8 _ hp;grind
theorem Qld {p:Ui} {t:Rat} (tp:U7 p) (hp:Bd 128 p) (hl:p.length<=8) (ht:Qs 128 t):Uf 84 [pr p,.agg (rl t)] [.agg (rl (Uy p t))]:=by
 have cn:=Hd (p:=p) tp (by omega) (Uv hp (by omega));have cpl:=pC (q:=t) (ht.mono (by omega));have cv:=xT (p:=p) (n:=t.num) (d:=t.den) (s:=128) (t:=128) (by omega) hp ht.1 ht.2 (by have:p.length*(128+1)<=8*129:=Q7 hl (Ql _); omega);have hv:=(zJ (k:=p.length) hp ht.1 ht.2).1;have hv:U5 (BW p t.num t.den)<=128+2+p.length*(128+1):=hv;have hv2:p.length*(128+1)<=8*129:=Q7 hl (Ql _);obtain ⟨k,h | h⟩:=Qjs (p:=p) (t:=t)
 ·obtain ⟨h1,h2⟩:=h;have e:p=[]:=Qh h1;rw [h2] at cv;have cm:=IW (n:=0) (d:=1) (by decide) (by decide) (by decide);have hz:Uy p t=Rat.divInt 0 1:=by rw [e]; rfl
  rw [hz];have el:((p.map G6).length:Int)-1=-1:=by rw [Zl]; omega
  exact Uc func84 rfl [.k cn,.k cpl,.k cv,.r 22 (eI el),.k Qnc,.k cm,.f rfl] rfl rfl (by simp [Uw]; omega)
 ·obtain ⟨h1,h2⟩:=h;have cw:=pV (a:=(t.den:Int)) (n:=k) (Qc ht.2 (by decide)) (by omega);have hi:=En (t.den:Int) k;have hi2:U5 (t.den:Int)*k<=128*8:=Q7 ht.2 (by omega);have hd0:(t.den:Int)^k≠0:=Int.pow_ne_zero (by have:=t.den_pos; omega);have cm:=IW (n:=BW p t.num t.den) (d:=(t.den:Int)^k) hd0 (by omega) (by omega);rw [h2] at cm;have el:((p.map G6).length:Int)-1=(k:Int):=by rw [Zl]; omega
  exact Uc func84 rfl [.k cn,.k cpl,.k cv,.r 22 (eI el),.k cw,.k cm,.f rfl] rfl rfl (by simp [Uw]; omega)
theorem Qa7 {a b:Rat} (ha:Qs 100000 a) (hb:Qs 100000 b) (h0:b≠0):Uf 83 [.agg (rl a),.agg (rl b)] [.agg (rl (a / b)),.oi 0]:=by
 have n1:=QU (q:=a) (ha.mono (by omega));have n2:=QU (q:=b) (hb.mono (by omega));have hn:b.num≠0:=λh=>h0 (Rat.num_eq_zero.1 h)
 have m1:=Sk (Uu a.num) (Uu (b.den:Int)) (by have:=ha.1; omega) (by have:=hb.2; omega);have m2:=Sk (Uu (a.den:Int)) (Uu b.num) (by have:=ha.2; omega) (by have:=hb.1; omega);have s1:=Ft a.num (b.den:Int);have s2:=Ft (a.den:Int) b.num;have hd0:(a.den:Int)*b.num≠0:=λh=>by
  rcases Jy.1 h with h | h
  ·have:=a.den_pos; omega
  ·exact hn h
 have cl:=A8 (n:=a.num*(b.den:Int)) (d:=(a.den:Int)*b.num) hd0 (by have:=ha.1; have:=hb.2; omega) (by have:=ha.2; have:=hb.1; omega);have e:Rat.divInt (a.num*(b.den:Int)) ((a.den:Int)*b.num)=a / b:=by
  rw [<-YH,Xg,Xg];have h1:=Qdz a;have h2:=Qdz b;have ha':=TU a;have hb':=TU b;rw [h1,h2,X3,X3,Rat.inv_mul_rev,Rat.inv_mul_rev];have i1:=J8 _ ha';have i2:=J8 _ hb';grind
 rw [e] at cl;exact Uc func83 rfl [.k n1,.k n2,.k (Nv (z:=b.num)),.f (by simpa using hn),.k m1,.k m2,.k cl] rfl
theorem Qqt {k:Crv} {t u v:Rat} (hs:Sc k) (ht:Qs 128 t) (hu:Uy k.x t / (k.d:Rat)=u) (hv:Uy k.y t / (k.d:Rat)=v) (s1:Qs 100000 (Uy k.x t)) (s2:Qs 100000 (Uy k.y t)):Uf 32 [.agg (cl k),.agg (rl t)] [.agg (rl u),.agg (rl v)]:=by
 have cn:=KQ hs.n (hs.c.mono (by decide) (by decide));have lx:=hs.c.lx;have ly:=hs.c.ly;have c1:=Qld (p:=k.x) hs.n.1 hs.c.x (by omega) ht;have c2:=Qld (p:=k.y) hs.n.2.1 hs.c.y (by omega) ht;have ci:=Qa5 (n:=k.d) (Qc hs.c.d (by decide));have hd:Qs 100000 (k.d:Rat):=⟨by show U5 (k.d:Rat).num<=_; rw [Rat.num_intCast]; exact Qc hs.c.d (by decide),by rw [Rat.den_intCast]; decide⟩;have hd0:(k.d:Rat)≠0:=λh=>by
  have h':((k.d:Int):Rat)=((0:Int):Rat):=h;rw [V5] at h';have:=hs.n.2.2.1; omega
 have q1:=Qa7 s1 hd hd0;have q2:=Qa7 s2 hd hd0;rw [hu] at q1;rw [hv] at q2;exact Uc func32 rfl [.k cn,.k c1,.k ci,.k q1,.k c2,.k ci,.k q2] rfl
theorem Qnm {np nd id:Int} {l:List Pt} {j:Nat} {p:Pt} (hl:l.length<1073741824) (hp:l[j]? = some p) (hj:P6 l id=j) (hh:has l id=true) (hs:Sc p.c):Uz prog 31 [.one (.ow 0 0),.oi id] [tB np nd l] [.agg (U3 p),.one (.bool true)] [tB np nd l]:=by
 have ca:=Qbb (np:=np) (nd:=nd) (l:=l) id hl;rw [hj,hh] at ca;have cf:=fY hs.n (hs.c.mono (by decide) (by decide));refine Gb func31 rfl ?_;exact Ud [] [0] [.c [0] ca,.f rfl,.x (Tg hp),.k cf] rfl
theorem pM {z:Int} (hz:U5 z<=10000):Uf 85 [.agg (ri z),.agg (G6 z)] [.one (.bool true)]:=by
 have ct:=Qlg (x:=z.natAbs) (Qc hz (by decide));obtain ⟨X,hX⟩:=nmE (Fo z.natAbs);have hln:X.length<=1000000:=by
  have:=Rk (x:=z.natAbs) (k:=10000) hz;rw [hX]; omega
 have hll:(lm X).length=X.length:=by simp [lm]
 rw [<-hX] at ct;have e:G6 z=[sg z,.row (lm X)]:=by rw [hX]; rfl
 rw [e];refine Gb func85 rfl ?_;refine W9 [.k ct,.f (by simp),.f (by simp)] rfl ?_;refine Ue (S:=Nat) 2 (λL1 i=>(25,.v (.oi i))::L1) (λ_=>[.blk 59 (ri z),.blk 37 [sg z,.row (lm X)]]) (λi=>X.length-i) (λi=>i<=X.length) 0 (Qi _) rfl rfl λi hi=>?_
 by_cases h:i<X.length
 ·obtain ⟨x,hx⟩:=gxE (l:=X) (i:=i) h;refine Ua [.T,.x (Gq hx),.x (Gq hx),.f (by simp)] rfl ?_;exact rd (i+1) (by omega) h rfl
 ·exact Ub [.F] rfl
theorem pW {q:Rat} (hq:Qs 10000 q):Uf 33 [.agg (fr q),.agg (rl q)] [.one (.bool true)] :=
 Uc func33 rfl [.k (pM hq.1),.t rfl,.k (pM hq.2)] rfl

end Orr
namespace Orr
open Go
structure RawOp where
 k:Int
 n:Int
 d:Int
 p:RawPt
 t:RawInt
 u:RawInt
structure RawOp.Ok (o:RawOp):Prop where
 k:-9223372036854775808<=o.k/\o.k<=9223372036854775807
 n:-9223372036854775808<=o.n/\o.n<=9223372036854775807
 d:-9223372036854775808<=o.d/\o.d<=9223372036854775807
 p:o.p.Ok
 t:o.t.Ok
 u:o.u.Ok
end Orr
namespace Orr
open Go Go.Proofs Tryz Orq
set_option maxRecDepth 10000
theorem O3 {v n:Int} (h:0<n):0<=VT v n/\VT v n<n:=by
 unfold VT;rw [if_neg (by omega)];exact ⟨Kw _ (by omega),V7 _ h⟩

theorem zI {b:Int} (h:0<=b):0<=(0:Int)/\(0:Int)<=b:=⟨Ya _,h⟩
def vZ (np nd:Int):Es:=⟨np,nd,[],0,Qg5 [] (tq 0),Qqr [] (tq 0),Qqp [] (tq 0),Qqq [] (tq 0),Qqo [] (tq 0)⟩
theorem XP:MOk []:=⟨λp h=>(by cases h),by decide,List.Pairwise.nil⟩
theorem Qdu {np nd:Int} (h1:1<=np/\np<=6) (h2:0<=nd/\nd<=2):EOk 0 (vZ np nd):=by
 have hq:Qs 1640000 (0:Rat):=⟨by decide,by decide⟩;exact ⟨h1,h2,⟨XP,by show ((0:Nat):Int)<=np; omega,λp h=>(by cases h),λp h=>(by cases h)⟩,(show Qs 128 (0:Rat) from ⟨by decide,by decide⟩),At.begin okS XP hq,At.begin okT XP hq,At.begin okH XP hq,At.begin okP XP hq,At.begin okD XP hq,zI (Ya _),zI (Ya _),zI (Ya _),zI (Ya _),zI (Ya _)⟩
theorem oD {np nd:Int} (h1:1<=np/\np<=6) (h2:0<=nd/\nd<=2):Uz prog 26 [.oi np,.oi nd] [] [.one (.ow 0 0),.oi 0] (enB 0 (vZ np nd)):=Qm3 h1 h2
theorem Qp9:(VP (JV RX) (zS RX) 3 600 (Qg5 RX (tq 0)) (zS RX (tq 0)) 0).map (λx=>x.2.2)=some 1:=by decide +kernel
theorem Qkq:(Tq (tq 3) RX).map (·.id)=[2,1]:=by decide +kernel
theorem Qdo:MOk RX:=⟨Qsi,by decide,by unfold Ld RX; decide⟩
theorem Qp8:cnt (JV RX) 0 3=1:=by
 have hq:Qs 1640000 (0:Rat):=⟨by decide,by decide⟩;have ht:Qs 1640000 (3:Rat):=⟨by decide,by decide⟩;have S:=okS.st RX Qdo;have hv:=CB hq;have hP:=okS.cp RX Qdo;have hm:=qD hP;have hmu:=Ql4 ((kS.al RX).flatMap CN) (tq 0);have hl:(Lh RX).length=8:=by rw [zA]; rfl
 have hc:¬Mp (tq 3) (tq 0):=λh'=>by
  have:=(UA hv.cut).2 h';rw [wW] at this;exact absurd this (by decide +kernel)
 have hl2:(kS.al RX).length=8:=hl;obtain ⟨c',r',E,g1,g2,g3,g4,g5,g6⟩:=Qlx S ht hP (λa _=>okS.al RX a) 599 ⟨tq 0,(Fj (JV RX (tq 0))).map fresh,0⟩ (zS RX (tq 0)) 0 (Qc hmu (by omega)) (iO S hv) hc;have h1:=Qp9;have g1:VP (JV RX) (zS RX) 3 600 (Qg5 RX (tq 0)) (zS RX (tq 0)) 0=some (c',r',0+((E.length:Nat):Int)):=g1;rw [g1] at h1;have h1:some (0+((E.length:Nat):Int))=some 1:=h1;injection h1 with h1;rw [Qbo S hv g6];omega
theorem Qdw:Crv.norm (Crv.mk [0,1] [] 0)=run1:=by
 have e:Crv.norm (Crv.mk [0,1] [] 1)=Crv.norm (Crv.mk [0,1] [] 0):=by simp only [Crv.norm,Crv.g,Crv.d']; rfl
 rw [<-e]; exact Crv.norm_of NH
theorem Qq8:Uf 35 [.one (.row [[.bool false,.row []],[.bool false,.row [[.int .u32 1]]]]),.one (.row [])] [.agg (cl run1)]:=by
 have i01:IsInts [[.bool false,.row []],[.bool false,.row [[.int .u32 1]]]] [0,1]:=by
  refine ⟨⟨_,_,rfl,false,[],rfl,rfl,(λx hx=>by cases hx),rfl⟩,⟨_,_,rfl,false,[1],rfl,rfl,(λx hx=>by rw [Qj.1 hx]; decide),rfl⟩,trivial⟩
 have h:=Qlh (lx:=[[.bool false,.row []],[.bool false,.row [[.int .u32 1]]]]) (ly:=[]) (px:=[0,1]) (py:=[]) i01 trivial ⟨Uv cs_run1.x (by decide),I5,by show U5 0<=_; decide,by show 2<=1073741824; decide,by show 0<=1073741824; decide⟩;rw [Qdw] at h; exact h
theorem Qjp:Pi 2 1 [] ⟨run1,1⟩=0:=by decide +kernel
theorem Qjq:Pi 2 1 [⟨run1,1⟩] ⟨Bt 1 0,2⟩=0:=by decide +kernel
theorem Qqb:∃ E1 E2:Es,EOk 0 E2/\E2.m=⟨2,1,RX,0,0,0,0,0,0⟩/\iG 27 [.one (.ow 0 0),.oi 1,.agg (cl run1)] (vZ 2 1) [.oi 0] E1/\iG 27 [.one (.ow 0 0),.oi 2,.agg (cl (Bt 1 0))] E1 [.oi 0] E2:=by
 have h0:=Qdu (np:=2) (nd:=1) (by decide) (by decide);have hst:=BH (x:=1) (y:=0) (by decide) (by decide);have e1:Crv.norm (Crv.mk run1.x run1.y run1.d)=run1:=Crv.norm_of NH;have e2:Crv.norm (Crv.mk (Bt 1 0).x (Bt 1 0).y (Bt 1 0).d)=Bt 1 0:=Crv.norm_of hst.n;obtain ⟨E1,a1,a2,a3⟩:=MW h0 (id:=1) (Ga run1.x) (Ga run1.y) (Uu run1.d) (cs_run1.up (by decide) (by decide));rw [e1] at a2 a3;have i1:(vZ 2 1).m.ins ⟨run1,1⟩=((⟨2,1,[⟨run1,1⟩],0,0,0,0,0,0⟩:Em),0):=by
  unfold Em.ins;rw [show Pi (vZ 2 1).m.np (vZ 2 1).m.nd (vZ 2 1).m.M ⟨run1,1⟩=0 from Qjp,if_pos rfl]; rfl
 rw [i1] at a2 a3;obtain ⟨E2,b1,b2,b3⟩:=MW a1 (id:=2) (Ga (Bt 1 0).x) (Ga (Bt 1 0).y) (Uu (Bt 1 0).d) (hst.c.mono (by decide) (by decide));rw [e2,a2] at b2 b3;have i2:((⟨2,1,[⟨run1,1⟩],0,0,0,0,0,0⟩:Em),(0:Int)).1.ins ⟨Bt 1 0,2⟩=((⟨2,1,RX,0,0,0,0,0,0⟩:Em),0):=by
  unfold Em.ins;dsimp only;rw [Qjq,if_pos rfl]; rfl
 rw [i2] at b2 b3;exact ⟨E1,E2,b1,b2,a3,b3⟩
theorem yB {E:Es} {A:Em} (h:E.m=A):E.np=A.np/\E.nd=A.nd/\E.M=A.M/\E.q=A.q/\E.s.ev=A.s/\E.t.ev=A.t/\E.h.ev=A.h/\E.p.ev=A.p/\E.d.ev=A.d:=by subst h; exact ⟨rfl,rfl,rfl,rfl,rfl,rfl,rfl,rfl,rfl⟩
theorem zD {A:Em} {t:Rat} (h1:Qs 128 t) (h2:¬t<A.q):A.adv t=(({ A with q:=t,s:=A.s+(cnt (JV A.M) A.q t:Nat),t:=A.t+(cnt (zR A.M) A.q t:Nat),h:=A.h+(cnt (CE A.M) A.q t:Nat),p:=A.p+(cnt (dS A.M) A.q t:Nat),d:=A.d+(cnt (wI A.M) A.q t:Nat) }:Em),0):=by
 unfold Em.adv; rw [if_pos h1]; exact if_neg h2
theorem lN:Uf 34 [] [.one (.bool true)]:=by
 obtain ⟨E1,E2,h2,m2,i1,i2⟩:=Qqb;have ht:Qs 128 (3:Rat):=⟨by decide,by decide⟩;obtain ⟨E3,h3,m3,_,a3⟩:=LQ h2 (by decide) (Uu (3:Rat).num) (Uu ((3:Rat).den:Int)) (by decide) (by decide) (Sw 3);rw [m2,zD ht (by show ¬(3:Rat)<0; decide)] at m3 a3;obtain ⟨_,_,e1,e2,e3,_⟩:=yB m2;obtain ⟨_,_,f1,f2,f3,_⟩:=yB m3;dsimp only at e1 e2 e3 f1 f2 f3;rw [Qp8] at f3;have t2:=Qal (np:=E2.np) (nd:=E2.nd) (M:=E2.M) (q:=E2.q) (s:=E2.s) (t:=E2.t) (h:=E2.h) (p:=E2.p) (d:=E2.d) h2.m.m.ln;have t3:=Qal (np:=E3.np) (nd:=E3.nd) (M:=E3.M) (q:=E3.q) (s:=E3.s) (t:=E3.t) (h:=E3.h) (p:=E3.p) (d:=E3.d) h3.m.m.ln;obtain ⟨A2,hA2⟩:=nmE (Qmq E2.M E2.q);obtain ⟨A3,hA3⟩:=nmE (Qmq E3.M E3.q);rw [<-hA2] at t2;rw [<-hA3] at t3;have g2:∃ a b c d,A2=[ids [1,2],.row a,.row b,.row c,.row d]:=by
  rw [hA2,e1,e2];show ∃ a b c d,[ids ((Tq (tq 0) RX).map (·.id)),_,_,_,_]=_;rw [Qqa];exact ⟨_,_,_,_,rfl⟩
 have g3:∃ a b c d,A3=[ids [2,1],.row a,.row b,.row c,.row d]:=by
  rw [hA3,f1,f2];show ∃ a b c d,[ids ((Tq (tq 3) RX).map (·.id)),_,_,_,_]=_;rw [Qkq];exact ⟨_,_,_,_,rfl⟩
 obtain ⟨a,b,c,d,rfl⟩:=g2;obtain ⟨a',b',c',d',rfl⟩:=g3;have cs:=Qah (a:=[1,2]) (b:=[1,2]) (by decide) (by decide);have cs2:=Qah (a:=[2,1]) (b:=[2,1]) (by decide) (by decide);have co:=AO (n:=3) (by decide);have ct:=Qam (q:=3) ⟨by decide,by decide⟩;have cst:=pU (x:=1) (y:=0) (by decide) (by decide);have ce:=oY (np:=E3.np) (nd:=E3.nd) (M:=E3.M) (q:=E3.q) (s:=E3.s) (t:=E3.t) (h:=E3.h) (p:=E3.p) (d:=E3.d);rw [f3] at ce;refine Gb func34 rfl ?_;exact Ub [.c Ur (oD (by decide) (by decide)),.f rfl,.f rfl,.z 16,.k Qq8,.c Ur i1,.f rfl,.k cst,.c Ur i2,.f rfl,.c Ur t2,.k co,.k ct,.c Ur a3,.t rfl,.k cs,.t rfl,.c Ur t3,.k cs2,.t rfl,.c Ur ce,.i 0] rfl rfl (by simp [Uw])
theorem Qes {a b:Int} {s:Nat} (ha:U5 a<=s) (hb:U5 b<=s) (h1:1<=s):Qs s (Hg a b):=by
 unfold Hg
 split
 ·exact ⟨El ha,Ek (Qc (show U5 1<=1 by decide) h1) h1⟩
 ·exact ⟨El ha,Ek hb h1⟩
theorem Qs.n32 {s:Nat} {t:Rat} (h:Qs s t) (hs:s<=4294967295):U5 t.num<=4294967295/\U5 (t.den:Int)<=4294967295:=⟨Qc h.1 hs,Qc h.2 hs⟩
theorem Qb4 {E:Es} {b:Int} {s:Nat} (h:EOk b E) (hb:b<=900000000000000000) {t:Rat} (ht:Qs s t) (hs:s<=4294967295):∃ E',EOk (b+67000000) E'/\E'.m=(E.m.adv t).1/\((E.m.adv t).2≠0->E'=E)/\iG 21 [.one (.ow 0 0),.agg (rl t)] E [.one (.int .i64 (E.m.adv t).2)] E' :=
 LQ h hb (Uu t.num) (Uu (t.den:Int)) (ht.n32 hs).1 (ht.n32 hs).2 (Sw t)
noncomputable def advE (A:Em) (t:Rat):Em:={ A with q:=t,s:=A.s+(cnt (JV A.M) A.q t:Nat),t:=A.t+(cnt (zR A.M) A.q t:Nat),h:=A.h+(cnt (CE A.M) A.q t:Nat),p:=A.p+(cnt (dS A.M) A.q t:Nat),d:=A.d+(cnt (wI A.M) A.q t:Nat) }
theorem Qk7 {A:Em} {t:Rat} (h1:Qs 128 t) (h2:¬t<A.q):A.adv t=(advE A t,0):=zD h1 h2
end Orr
namespace Orr
end Orr
namespace Orr
open Go Go.Proofs Tryz Orq
theorem lE {x y:Int} (hx:-9223372036854775808<=x/\x<=9223372036854775807) (hy:-9223372036854775808<=y/\y<=9223372036854775807):Of (Bt x y)<=0:=by
 have h:=(PD hx hy).norm (by decide);have h1:(Bt x y).x.length<=1:=h.lx;have h2:(Bt x y).y.length<=1:=h.ly;unfold Of; omega
end Orr
namespace Orr
open Go Go.Proofs Tryz Orq
set_option maxRecDepth 10000
theorem Qo9 {a b:Int} (ha:0<=a/\a<30) (hb:1<=b/\b<=6):Qs 6 (Hg a b):=by
 have h6:∀ z:Int,0<=z->z<60->U5 z<=6:=λz h1 h2=>by
  have:(2:Nat)^6=64:=by decide
  exact Tu.2 (by omega)
 exact Qes (h6 a ha.1 (by omega)) (h6 b (by omega) (by omega)) (by decide)
theorem TO {z:Int} {s:Nat} (h:U5 z<=s) (h1:1<=s):Qs s (z:Rat):=⟨by rw [Rat.num_intCast]; exact h,by rw [Rat.den_intCast]; exact Qc (by decide) h1⟩
theorem bI (x u:Int) (K:Int):Uy (trim [x,u]) (K:Rat)=((x+u*K:Int):Rat):=by
 rw [Tn];show (x:Rat)+(K:Rat)*((u:Rat)+(K:Rat)*0)=_;rw [K8,Xg]; grind
set_option maxHeartbeats 8000000 in
theorem CX {x y u v n d l:Int} (hx:-9223372036854775808<=x/\x<=9223372036854775807) (hy:-9223372036854775808<=y/\y<=9223372036854775807) (hu:-9223372036854775808<=u/\u<=9223372036854775807) (hv:-9223372036854775808<=v/\v<=9223372036854775807) (hn:-9223372036854775808<=n/\n<=9223372036854775807) (hd:-9223372036854775808<=d/\d<=9223372036854775807) (hl:-9223372036854775808<=l/\l<=9223372036854775807):Uf 6 [.oi x,.oi y,.oi u,.oi v,.oi n,.oi d,.oi l] [.one (.bool true)]:=by
 have cn:=Ea (v:=n) (n:=30) hn (by decide);have cd:=Ea (v:=d) (n:=6) hd (by decide);have cl:=Ea (v:=l) (n:=20) hl (by decide);have cx:=Ea (v:=x) (n:=40) hx (by decide);have cy:=Ea (v:=y) (n:=40) hy (by decide);have cu:=Ea (v:=u) (n:=9) hu (by decide);have cv:=Ea (v:=v) (n:=9) hv (by decide);have bn:=O3 (v:=n) (n:=30) (by decide);have bd:=O3 (v:=d) (n:=6) (by decide);have bl:=O3 (v:=l) (n:=20) (by decide);have bx:=O3 (v:=x) (n:=40) (by decide);have by_:=O3 (v:=y) (n:=40) (by decide);have bu:=O3 (v:=u) (n:=9) (by decide);have bv:=O3 (v:=v) (n:=9) (by decide);obtain ⟨K,hK⟩:=nmE (VT l 20);obtain ⟨X,hX⟩:∃ X,VT x 40-20=X:=⟨_,rfl⟩;obtain ⟨Y,hY⟩:∃ Y,VT y 40-20=Y:=⟨_,rfl⟩;obtain ⟨U,hU⟩:∃ U,VT u 9-4=U:=⟨_,rfl⟩;obtain ⟨V,hV⟩:∃ V,VT v 9-4=V:=⟨_,rfl⟩;rw [<-hK] at cl bl;have co:=Qqz (n:=VT n 30) (d:=1+VT d 6) (by omega) (by omega);obtain ⟨T,hT⟩:=nmE (Hg (VT n 30) (1+VT d 6));have hT6:Qs 6 T:=by rw [hT]; exact Qo9 (by omega) (by omega)
 have hT0:0<=T:=by
  rw [hT,GW (by omega),<-YH,X3];exact Y8 (by exact_mod_cast bn.1) (Qq (Rat.inv_pos.2 (by exact_mod_cast (show 0<1+VT d 6 by omega))))
 rw [<-hT] at co;have cK:=AO (n:=K) (by omega);have sK:U5 K<=5:=by
  have:(2:Nat)^5=32:=by decide
  exact Tu.2 (by omega)
 have hKq:Qs 6 (K:Rat):=TO (Qc sK (by decide)) (by decide);have ca:=Qm1 (a:=T) (b:=(K:Rat)) (hT6.mono (by decide)) (hKq.mono (by decide));obtain ⟨S,hS⟩:=nmE (T+(K:Rat));have hSq:Qs 128 S:=by rw [hS]; exact (Qo7 hT6 hKq).mono (by decide)
 have hK0:(0:Rat)<=(K:Rat):=by exact_mod_cast bl.1
 have hTS:T<=S:=by rw [hS]; grind
 rw [<-hS] at ca;have cT:=Qam (q:=T) (hT6.mono (by decide));have cS:=Qam (q:=S) (hSq.mono (by decide));have st:=pU (x:=0) (y:=0) (by decide) (by decide);have hst:=BH (x:=0) (y:=0) (by decide) (by decide);have h0:=Qdu (np:=3) (nd:=1) (by decide) (by decide);have cN:=oD (np:=3) (nd:=1) (by decide) (by decide);obtain ⟨E1,a1,a2,a3⟩:=Qnz h0 (id:=4) hst.n (hst.c.mono (by decide) (by decide)) rfl (Qoe (A:=(vZ 3 1).m) (p:=⟨Bt 0 0,4⟩) (Qki (np:=3) (nd:=1) (M:=[]) (nE (by decide) (kO hst)) rfl (Int.le_trans (lE (x:=0) (y:=0) (by decide) (by decide)) (by decide)) (by decide)));have e1:E1.m=⟨3,1,[⟨Bt 0 0,4⟩],0,0,0,0,0,0⟩:=a2;obtain ⟨E2,b1,b2,_,b3⟩:=Qb4 a1 (by decide) (hT6.mono (show 6<=128 by decide)) (by decide);rw [e1,Qk7 (hT6.mono (by decide)) (by show ¬T<0; exact K9.2 hT0)] at b2 b3;obtain ⟨p1,p2,p3,p4,_⟩:=yB b2;have p1:E2.np=3:=p1;have p2:E2.nd=1:=p2;have p3:E2.M=[⟨Bt 0 0,4⟩]:=p3;have p4:E2.q=T:=p4;have b8:∀ a b:Int,-20<=a/\a<=20->-20<=b/\b<=20->Bd 8 (trim [a,b]):=λa b ha hb=>H7 λz hz=>by
  have:(2:Nat)^8=256:=by decide
  rcases Qm.1 hz with rfl | hz
  ·exact Tu.2 (by omega)
  ·rw [Qj.1 hz]; exact Tu.2 (by omega)
 have hbX:=b8 X U (by omega) (by omega);have hbY:=b8 Y V (by omega) (by omega);have lX:(trim [X,U]).length<=2:=Ha [X,U];have lY:(trim [Y,V]).length<=2:=Ha [Y,V];have hR:=Qpe (q:=T) hbX hbY lX lY hT6;obtain ⟨E3,d1,d2,d3⟩:=Qny b1 (id:=4) (Ga (trim [X,U])) (Ga (trim [Y,V])) hbX hbY (by decide) (by omega) (by omega);rw [p4] at d2 d3;obtain ⟨C,hC⟩:=nmE (Crv.norm (M7 (trim [X,U]) (trim [Y,V]) T));have hat:=Qpd (trim [X,U]) (trim [Y,V]) T S;rw [<-hC] at d2 d3 hR hat;have hrep:=Qpf (A:=E2.m) (p:=⟨C,4⟩) (Qfx (nE (by decide) (kO hR.1)) (by show has E2.M 4=true; rw [p3]; rfl) (by show Of C<=E2.nd; rw [p2]; exact hR.2));rw [hrep] at d2 d3;obtain ⟨_,_,r3,r4,_⟩:=yB d2;have r3:E3.M=[⟨C,4⟩]:=by
  rw [r3];show E2.M.set (P6 E2.M 4) ⟨C,4⟩=_;rw [p3]; rfl
 have r4:E3.q=T:=by rw [r4]; exact p4
 obtain ⟨E4,f1,f2,_,f3⟩:=Qb4 d1 (by decide) hSq (by decide);rw [Qk7 hSq (by show ¬S<E3.q; rw [r4]; exact K9.2 hTS)] at f2 f3;obtain ⟨_,_,g3,_⟩:=yB f2;have g3:E4.M=[⟨C,4⟩]:=by rw [g3]; exact r3
 have b3:iG 21 [.one (.ow 0 0),.agg (rl T)] E1 [.oi 0] E2:=b3;have d3:iG 29 [.one (.ow 0 0),.oi 4,pr (trim [X,U]),pr (trim [Y,V])] E2 [.oi 0] E3:=d3;have f3:iG 21 [.one (.ow 0 0),.agg (rl S)] E3 [.oi 0] E4:=f3;have cg:=Qnm (np:=E4.np) (nd:=E4.nd) (l:=E4.M) (id:=4) (j:=0) (p:=⟨C,4⟩) (by rw [g3]; show 1<1073741824; decide) (by rw [g3]; rfl) (by rw [g3]; rfl) (by rw [g3]; rfl) hR.1;have hST:S-T=(K:Rat):=by rw [hS]; grind
 obtain ⟨q1,q2⟩:=hat;rw [hST,Tn,<-Tn [X,U],bI] at q1;rw [hST,Tn,<-Tn [Y,V],bI] at q2;have hUK:-80<=U*K/\U*K<=80:=by
  have h1:U*K<=4*K:=Yb (by omega) (by omega);have h2:-4*K<=U*K:=Yb (by omega) (by omega);omega
 have hVK:-80<=V*K/\V*K<=80:=by
  have h1:V*K<=4*K:=Yb (by omega) (by omega);have h2:-4*K<=V*K:=Yb (by omega) (by omega);omega
 have s100:∀ z:Int,-100<=z/\z<=100->U5 z<=7:=λz hz=>by
  have:(2:Nat)^7=128:=by decide
  exact Tu.2 (by omega)
 have cd0:(C.d:Rat)≠0:=λh=>by
  have h':((C.d:Int):Rat)=((0:Int):Rat):=h;rw [V5] at h';have:=hR.1.n.2.2.1; omega
 have key:∀ z:Int,-100<=z/\z<=100->∀ w:Rat,w=(C.d:Rat)*(z:Rat)->w / (C.d:Rat)=(z:Rat)/\Qs 100000 w:=λz hz w hw=>by
  refine ⟨?_,?_⟩
  ·rw [hw,X3];have:=J8 _ cd0;grind
  ·rw [hw,<-Xg];have h1:=Ft C.d z;have h2:=s100 z hz;have h3:=hR.1.c.d;exact TO (by omega) (by decide)
 obtain ⟨k1,k2⟩:=key (X+U*K) (by omega) _ q1;obtain ⟨k3,k4⟩:=key (Y+V*K) (by omega) _ q2;have cat:=Qqt hR.1 hSq k1 k3 k2 k4;have o1:=AO (n:=X+U*K) (by omega);have o2:=AO (n:=Y+V*K) (by omega);have m1:=pW (q:=((X+U*K:Int):Rat)) (TO (Qc (s100 _ (by omega)) (by decide)) (by decide));have m2:=pW (q:=((Y+V*K:Int):Rat)) (TO (Qc (s100 _ (by omega)) (by decide)) (by decide));have pX:=DY (p:=[X,U]) (by simp) (λz hz=>by simp only [Qm,Jq,or_false] at hz; omega);have pY:=DY (p:=[Y,V]) (by simp) (λz hz=>by simp only [Qm,Jq,or_false] at hz; omega);refine Gb func6 rfl ?_;refine Ua [.k cn,.k cd,.k co,.k cl,.k cK,.k ca,.k cx,.r 37 (eI hX),.k cy,.r 40 (eI hY),.k cu,.r 43 (eI hU),.k cv,.r 46 (eI hV),.c Us cN,.f rfl,.f rfl,.k st,.c Us a3,.f rfl,.k cT,.c Us b3,.f rfl,.k pX,.k pY,.c Us d3,.f rfl] rfl ?_;exact Ub [.k cS,.c Us f3,.f rfl,.c [3] cg,.k cl,.k cS,.k cat,.g 109 true rfl,.k o1,.k m1,.g 119 true rfl,.k o2,.k m2,.g 129 true rfl,.k lN] rfl rfl (by simp [Uw]; omega)
end Orr
namespace Orr
open Go Go.Proofs Tryz
variable {H:Type} {enc:TypeId×Value->H} {w:World} {base:Nat} {spare:Nat->Bool} {held:Bool}
end Orr
namespace Orr
open Go Go.Proofs Tryz Go.ChangeShapes Go.WideShapes Go.ChangeAt Go.RowKit Go.WideElems
def fr0 (w:World):Fr:=⟨λb=>b<w.heap.size,λ_=>False,w,λ_=>False,λ_=>none⟩
theorem BA (w:World):HS (fr0 w) (ob []) (nw []) (λ_=>none) (λ_=>False) w where
 size:=Ql _
 kept:=λb hb=>⟨hb,rfl,Iff.rfl⟩
 ids:=λi h=>h.elim
 nj:=λi h=>by rw [ON] at h; cases h
 io:=⟨rfl,rfl⟩
 blk:=λi=>by rw [ON]; trivial
 nk:=λi g c m h _=>by rw [ON] at h; cases h
 inj:=λi j g c m c' m' h _ _ _=>by rw [ON] at h; cases h
 mlt:=λb h=>h.elim
 m0:=λb _ h=>h.elim
 un:=λi _=>⟨rfl,rfl⟩
 uj:=λi _ h=>h.elim
theorem Qj1 {w w':World} {bl:Nat->OB} {U:Nat->Prop} {E:Nn} {M:Nat->Prop} (h:HS (fr0 w) bl U E M w') {p:MemPlace} (hp:p.block<w.heap.size):w.sameAt w' p:=by
 cases p with
 | cell b off=>simp only [World.sameAt,World.cell?]; rw [(h.kept b hp).2.1]; rfl
 | map b=>exact (h.kept b hp).2.1
theorem Qiu {w w':World} {bl:Nat->OB} {U:Nat->Prop} {E:Nn} {M:Nat->Prop} (h:HS (fr0 w) bl U E M w') (may:MemPlace->Prop):w.keptBut w' may:=by
 refine ⟨h.io.1,h.io.2,λi hi=>?_⟩;have e:w'.heap[i]? = w.heap[i]? := (h.kept i hi).2.1;rw [e];cases w.heap[i]? with
 | none=>rfl
 | some o=>cases o <;> simp
variable {H:Type} {enc:TypeId×Value->H} {w:World}
end Orr
namespace Orr
open Go Go.Proofs Tryz Go.ChangeShapes Go.WideShapes Go.ChangeAt Go.RowKit Go.WideElems
variable {H:Type} {enc:TypeId×Value->H} {w:World}
end Orr
namespace Orr
open Go Go.Proofs Tryz Go.ChangeShapes Go.WideShapes Go.ChangeAt Go.RowKit Go.WideElems
set_option maxRecDepth 10000
def sH (t:TypeId) (R:TV->Prop):Prop:=∀ {H:Type} {enc:TypeId×Value->H} {W:World} {base:Nat} {v:Value} {d:DataW H} {p:List MemPlace},Value.okWide prog W .any base t v->DataW.Trod enc prog W 0 (λ_=>true) true t v d p->(d.weights prog t).all (· <= reachBytes)=true->∃ u,R u/\TRep W (λ_=>False) (λ_=>none) v u
section
variable {H:Type} {enc:TypeId×Value->H} {W W':World} {base:Nat}
theorem kF:∀ {ps:List (TypeId×(TV->Prop))} {args:List Value} {ds:List (DataW H)} {p:List MemPlace},DataW.TrodAll enc prog W 0 (λ_=>true) true (ps.map (·.1)) args ds p ->
 (∀ (j:Nat) t v,(ps.map (·.1))[j]? = some t->args[j]? = some v->Value.okWide prog W .any base t v)->(∀ (j:Nat) t d,(ps.map (·.1))[j]? = some t->ds[j]? = some d->(d.weights prog t).all (· ≤ reachBytes)=true)->(∀ q∈ps,sH q.1 q.2) ->
 ∃ us,F2 (λu (q:TypeId×(TV->Prop))=>q.2 u) us ps/\F2 (TRep W (λ_=>False) (λ_=>none)) args us/\ds.length=ps.length
 |
  [],args,ds,p,h,_,_,_=>by
  obtain ⟨rfl,rfl,rfl⟩:=trodAll_nil h;exact ⟨[],.nil,.nil,rfl⟩
 |
  q::ps,args,ds,p,h,hv,hw,hr=>by
  obtain ⟨v,vs,d,ds',p1,p2,rfl,rfl,rfl,h1,h2⟩:=trodAll_cons h;obtain ⟨u,r1,r2⟩:=hr q (Qw ..) (hv 0 q.1 v rfl rfl) h1 (hw 0 q.1 d rfl rfl);obtain ⟨us,s1,s2,s3⟩:=kF h2 (λj t v h h'=>hv (j+1) t v (by simpa using h) (by simpa using h')) (λj t d h h'=>hw (j+1) t d (by simpa using h) (by simpa using h')) λq hq=>hr q (Qg _ hq)
  exact ⟨u::us,.cons r1 s1,.cons r2 s2,by simp [s3]⟩
theorem wJ {sp':Nat->Bool} (hl:laidOutB prog=true):∀ {ps:List (TypeId×(TV->Prop))} {args:List Value} {ds:List (DataW H)} {p:List MemPlace},DataW.TrodAll enc prog W 0 (λ_=>true) true (ps.map (·.1)) args ds p ->
 (∀ q∈ps,prog.readableRec q.1=true/\q.1<prog.types.size)->(∀ x∈p,W.sameAt W' x)->(∀ x∈p,sp' x.block=true)->DataW.TrodAll enc prog W' 0 sp' true (ps.map (·.1)) args ds p
 |
  [],args,ds,p,h,_,_,_=>by
  obtain ⟨rfl,rfl,rfl⟩:=trodAll_nil h;exact trodAll_mk0
 |
  q::ps,args,ds,p,h,hr,hs,hb=>by
  obtain ⟨v,vs,d,ds',p1,p2,rfl,rfl,rfl,h1,h2⟩:=trodAll_cons h;obtain ⟨r1,r2⟩:=hr q (Qw ..);exact trodAll_cons_mk (Trod_stays hl r1 r2 h1 (λx hx=>hs x (Qr.2 (.inl hx))) λx hx=>hb x (Qr.2 (.inl hx))) (wJ hl h2 (λq hq=>hr q (Qg _ hq)) (λx hx=>hs x (Qr.2 (.inr hx))) λx hx=>hb x (Qr.2 (.inr hx)))
end
theorem Qc9 {ps:List (TypeId×(TV->Prop))} {f:FuncId} {fn:Func} {s:ChangeSpec} (hp:fn.params=(ps.map (·.1)).toArray) (hr:fn.resultTypes = #[4]) (hv:s.vars=[])
 (hs:∀ (H:Type) (ds:List (DataW H)),ds.length=ps.length->s.fn H ds={ results:=[.lit (.bool true)],args:=ds })
 (hlaid:laidOutB prog=true) (hrec:∀ q∈ps,prog.readableRec q.1=true/\q.1<prog.types.size) (hrd:∀ q∈ps,sH q.1 q.2)
 (law:∀ us:Uq,F2 (λu (q:TypeId×(TV->Prop))=>q.2 u) us ps->BI prog f us [.one (.bool true)])
 {H:Type} {enc:TypeId×Value->H} {W:World} {base:Nat} {args:Array Value} {ds gs:List (DataW H)} {Rz:List MemPlace} {fresh handsOn:Bool}
 (hval:∀ (j:Nat) t v,fn.params[j]? = some t->args[j]? = some v->Value.okWide prog W .any base t v)
 (hW:DataW.Whole enc prog fn.params.toList s.vars false W args.toList ds gs Rz)
 (hz:(DataW.weightsEach prog (fn.params.toList++s.plain.varTypes prog) (ds++gs)).all (· <= reachBytes)=true) :
 Calls prog f args W λe W'=>∃ v,e=.returned v/\s.post enc prog fn false fresh handsOn false W args v W':=by
 have hW':=hW;obtain ⟨p,q,hA0,hV,rfl,hfz,hnd⟩:=hW;have hA:DataW.TrodAll enc prog W 0 (λ_=>true) true fn.params.toList args.toList ds p:=hA0;rw [hv] at hV;obtain ⟨rfl,rfl⟩:=trodVars_none hV;have hlt:=hW'.lt;rw [hp] at hA hval hz;have hA:DataW.TrodAll enc prog W 0 (λ_=>true) true (ps.map (·.1)) args.toList ds p:=by simpa using hA
 obtain ⟨us,r1,r2,r3⟩:=kF (base:=base) hA (λj t v h h'=>hval j t v (by simpa using h) (by simpa using h')) (λj t d h h'=>by
  rw [Vb] at hz ⊢;intro k hk;have hj:j<(ps.map (·.1)).length:=(Qe.1 h).1;have hj2:j<ds.length:=(Qe.1 h').1;exact hz k (DataW.weights_mem_each (j:=j) (by rw [Zq (by simpa using hj)]; simpa using h) (by rw [Zq hj2]; exact h') k hk)) hrd
 have hcall:=(law us r1).2 (fr0 W) (λ_=>none) (λ_=>False) W args.toList (BA W) r2;have ea:args.toList.toArray=args:=by simp
 rw [ea] at hcall;refine hcall.mono λe W' ⟨v,u,Bo,E',M',he,⟨hu,hBo⟩,_,hm,har⟩=>?_
 subst hu;obtain rfl:v=.bool true:=by
  have h:LRep _ _ v (.bool true):=har;cases h;rfl
 refine ⟨_,he,?_⟩;refine ⟨ds,[],_,[],p,[],hW',?_,?_,?_,Qiu hm _,λh=>by cases h⟩
 ·rw [hr,Zy,hs H ds r3];exact trodAll_cons_mk (shut_bool underlying4 true) trodAll_mk0
 ·rw [hp,Zy,hs H ds r3];have hb:∀ x∈p,x.block<W.heap.size:=λx hx=>hlt x (by simp [hx])
  have:=wJ (sp':=λb=>decide (b<W.heap.size)) hlaid hA hrec (λx hx=>Qj1 hm (hb x hx)) λx hx=>by simpa using hb x hx
  simpa using this
 ·rw [hv,Zy,hs H ds r3];rfl
abbrev zM (u:TV):Prop:=∃ n:Int,(-9223372036854775808<=n/\n<=9223372036854775807)/\u=.oi n
theorem Cj:sH 3 zM:=λ{H enc W base v d p} hv h _=>by
 obtain ⟨n,rfl,rfl,rfl,w1⟩:=open_int underlying3 hv h;exact ⟨_,⟨n,by simpa [Lit.wf,IntKind.min,IntKind.max,IntKind.signed,IntKind.bits] using w1,rfl⟩,show XRep W (λ_=>False) (λ_=>none) (.int .i64 n) (.int .i64 n) from (LRep.int .i64 n).x⟩
end Orr
namespace Orr
open Go Go.Proofs Tryz Go.ChangeShapes Go.WideShapes Go.ChangeAt Go.RowKit Go.WideElems
set_option maxRecDepth 10000
section
variable {H:Type} {enc:TypeId×Value->H} {w:World}
end
end Orr
