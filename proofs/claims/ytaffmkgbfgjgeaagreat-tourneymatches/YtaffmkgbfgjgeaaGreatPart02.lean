/- Av6 Av7 Av8 DrawM Av9 AvCopy AvMake0 Types TypesA -/
import Derived.Test.YtaffmkgbfgjgeaaGreatPart01
import Derived.Test.YtaffmkgbfgjgeaaGreatPart00
import Derived.DeepKeys
import Derived.LoopN
import Derived.Test.YtaffmkgbfgjgeaaGreatProg
set_option linter.all false

namespace Orr
open Go
variable {P:Program}
def V4 (x:Nat):List Nat:=if h:x=0 then [] else (x % 4294967296)::V4 (x / 4294967296)
termination_by x
decreasing_by omega
theorem Un:V4 0=[]:=by unfold V4; simp
theorem Po {x:Nat} (h:x≠0):V4 x=(x % 4294967296)::V4 (x / 4294967296):=by rw [V4]; simp [h]
theorem G3 (x:Nat):val (V4 x)=x:=by
  induction x using Nat.strongRecOn with
  |
   _ x ih =>
   rcases Hl x with h | h
   · subst h; rw [Un]; rfl
   · rw [Po (by omega)]
     simp only [val]
     rw [ih _ (by omega)]; omega
theorem Rl (x:Nat):Nrm (V4 x):=by
  induction x using Nat.strongRecOn with
  |
   _ x ih =>
   rcases Hl x with h | h
   · subst h; rw [Un]; exact ⟨by simp,fun h=>absurd rfl h⟩
   · rw [Po (by omega)]
     obtain ⟨h1,h2⟩:=ih (x / 4294967296) (by omega)
     refine ⟨fun u hu=>?_,fun _=>?_⟩
     · rcases Vw.1 hu with rfl | hu
       · omega
       · exact h1 u hu
     · by_cases h3:x / 4294967296=0
       · rw [h3,Un]; exact ⟨x % 4294967296,rfl,by omega⟩
       · have h4:V4 (x / 4294967296)≠[]:=by rw [Po h3]; simp
         obtain ⟨u,hu,hu0⟩:=h2 h4
         refine ⟨u,?_,hu0⟩
         rcases hl:V4 (x / 4294967296) with _ | ⟨y,l⟩
         · exact absurd hl h4
         · rw [hl] at hu; simpa using hu
theorem Qof {l:List Nat} {x:Nat} (h:Nrm l) (hv:val l=x):l=V4 x:=Qka h (Rl x) (by rw [hv,G3])
def Xv (l:List Nat):LV:=.row (l.map fun (x:Nat)=>[.int .u32 (x:Int)])
def sg (z:Int):LV:=.bool (decide (z<0))
def mg (z:Int):LV:=Xv (V4 z.natAbs)
abbrev W9 (z:Int):List LV:=[sg z,mg z]
def Yx (x y:LV) (z:Int):Prop:=∃ b l,x=.bool b∧y=Xv l∧(∀ u∈l,u<4294967296)∧z=if b=true then -((val l:Nat):Int) else ((val l:Nat):Int)
theorem Zm (z:Int):Yx (sg z) (mg z) z:=by
  refine ⟨_,_,rfl,rfl,(Rl _).1,?_⟩
  rw [G3]
  by_cases h:z<0 <;> simp [h] <;> omega
theorem Tb:Yx (.bool false) (.row []) 0:=⟨false,[],rfl,rfl,by simp,rfl⟩
theorem Qku:sg 0=.bool false:=rfl
theorem Qc8:mg 0=.row []:=by unfold mg; rw [show (0:Int).natAbs=0 from rfl,Un]; rfl
theorem Quq (z:Int):32*(V4 z.natAbs).length≤Xj z+31:=by
  have:=K9 (Rl z.natAbs)
  rwa [G3] at this
theorem Ql0 {z:Int}:(V4 z.natAbs).length=0↔z=0:=by
  constructor
  · intro h
    have h0:=P5 h
    have:=(Fe (Rl z.natAbs)).2 h0
    rw [G3] at this; omega
  · rintro rfl; rw [show (0:Int).natAbs=0 from rfl,Un]; rfl
theorem Qpf {w:World} {O:Nat→Prop} {v:Value} {l:List Nat} (h:LRep w O v (Xv l)) (hl:∀ u∈l,u<4294967296):∃ A c,v=.slice A l.length c∧Rel.row32.at_ w O [.slice A l.length c] l:=by
  unfold Xv at h
  generalize hm:l.map (fun (x:Nat)=>[LV.int .u32 (x:Int)])=m at h
  cases h with
  |
   row A c sz b o m f hc hc63 hm47 hs hA hcell hrep =>
   have e:m.length=l.length:=by rw [←hm]; simp
   refine ⟨A,c,by rw [e],A,c,rfl,by omega,hc63,by omega,fun h0=>?_⟩
   obtain ⟨rfl,h1,h2⟩:=hA (by omega)
   refine ⟨b,o,rfl,h1,h2,fun i x hx=>?_⟩
   have hi:m[i]? = some [LV.int .u32 (x:Int)]:=by rw [←hm,S1,hx]; rfl
   have hsz:sz=1:=(hs _ (Vo hi)).symm
   subst hsz
   refine ⟨[.int .u32 (x:Int)],⟨rfl,hl x (Vo hx)⟩,fun j v hj=>?_⟩
   cases j with
   | succ j=>simp at hj
   |
    zero =>
    simp at hj; subst hj
    have h3:=hcell i _ hi 0 (by simp)
    have h4:=hrep i _ hi 0 _ rfl
    have h5:f i 0=.int .u32 (x:Int):=by generalize f i 0=q at h4; cases h4; rfl
    rw [h5] at h3
    exact h3
theorem Qpg {w:World} {O:Nat→Prop} {A:Option Addr} {n c:Nat} {l:List Nat} (h:Rel.row32.at_ w O [.slice A n c] l):LRep w O (.slice A n c) (Xv l):=by
  obtain ⟨A',c',h1,h2,h3,h4,hr⟩:=h
  simp at h1; obtain ⟨rfl,rfl,rfl⟩:=h1
  have hb:∃ b o,0<l.length→A=some ⟨b,o,none⟩∧b<w.heap.size∧¬O b∧∀ i x,l[i]? = some x→∃ cs,Rel.u32.at_ w O cs x∧∀ j v,cs[j]? = some v→w.cell? ⟨b,o+i*Rel.u32.size+j,none⟩=some v:=by
    rcases Hl l.length with h0 | h0
    · exact ⟨0,0,fun h=>by omega⟩
    · obtain ⟨b,o,h⟩:=hr h0
      exact ⟨b,o,fun _=>h⟩
  obtain ⟨b,o,hb⟩:=hb
  have hlen:(l.map fun (x:Nat)=>[LV.int .u32 (x:Int)]).length=l.length:=by simp
  have hget:∀ (i:Nat) (cs:List LV),(l.map fun (x:Nat)=>[LV.int .u32 (x:Int)])[i]? = some cs→∃ x,l[i]? = some x∧cs=[LV.int .u32 (x:Int)]:=fun i cs hi=>by
    rw [S1] at hi
    cases hx:l[i]? with
    | none=>rw [hx] at hi; cases hi
    | some x=>rw [hx] at hi; injection hi with hi; exact ⟨x,rfl,hi.symm⟩
  have key:=LRep.row (w:=w) (O:=O) A c 1 b o (l.map fun (x:Nat)=>[LV.int .u32 (x:Int)]) (fun i _=>.int .u32 (((l[i]?).getD 0:Nat):Int)) (by rw [hlen]; exact h2) h3 (by rw [hlen]; exact h4) (by simp)
    (fun h0=>by rw [hlen] at h0; obtain ⟨h5,h6,h7,_⟩:=hb h0; exact ⟨h5,h6,h7⟩)
    (fun i cs hi j hj=>by
      obtain ⟨x,hx,rfl⟩:=hget i cs hi
      have h0:0<l.length:=qZu (K6 _) (Uy.1 hx).1
      obtain ⟨_,_,_,hc⟩:=hb h0
      obtain ⟨cs,⟨rfl,_⟩,h8⟩:=hc i x hx
      have hj0:j=0:=by simp at hj; omega
      subst hj0
      have:=h8 0 _ rfl
      rw [hx]; exact this)
    (fun i cs hi j x hx=>by
      obtain ⟨y,hy,rfl⟩:=hget i cs hi
      cases j with
      | succ j=>simp at hx
      |
       zero =>
       simp at hx; subst hx
       rw [hy]; exact .int _ _)
  rw [hlen] at key
  exact key
theorem Qrr {w:World} {O:Nat→Prop} {v:Value} {l:List Nat} (h:LRep w O v (Xv l)) (hl:∀ u∈l,u<4294967296):∃ A n c,v=.slice A n c∧Rel.natA.at_ w O [.slice A n c] (val l):=by
  obtain ⟨A,c,rfl,h1⟩:=Qpf h hl
  exact ⟨A,_,c,rfl,l,h1,hl,rfl⟩
theorem Qrs {w:World} {O:Nat→Prop} {A:Option Addr} {n c:Nat} {x:Nat} (h:Rel.natN.at_ w O [.slice A n c] x):LRep w O (.slice A n c) (Xv (V4 x)):=by
  obtain ⟨l,h1,h2,h3⟩:=h
  rw [←Qof h2 h3]
  exact Qpg h1
theorem L6 {w:World} {O:Nat→Prop} {v:Value} {x y:LV} {z:Int} (h:TRep w O v (.agg [x,y])) (hi:Yx x y z):∃ b A n c,v=.agg #[.bool b,.slice A n c]∧Rel.intA.at_ w O [.bool b,.slice A n c] z:=by
  obtain ⟨vs,rfl,hr⟩:=h
  obtain ⟨b,l,rfl,rfl,hl,rfl⟩:=hi
  rcases vs with _ | ⟨v1,_ | ⟨v2,_ | ⟨v3,vs⟩⟩⟩
  · exact hr.elim
  · exact hr.2.elim
  · have h1:LRep w O v1 (.bool b):=hr.1
    cases h1
    obtain ⟨A,n,c,rfl,h2⟩:=Qrr (hr.2.1:LRep w O v2 (Xv l)) hl
    exact ⟨b,A,n,c,rfl,(b,val l),⟨[.bool b],[.slice A n c],rfl,rfl,h2⟩,rfl⟩
  · exact hr.2.2.elim
theorem Qjy {w:World} {O:Nat→Prop} {v:Value} {z:Int} (h:(Rel.intN.aggF z v).holds w O):TRep w O v (.agg (W9 z)):=by
  obtain ⟨cs,rfl,h⟩:=h
  obtain ⟨b,A,n,c,rfl⟩:=Xk h
  obtain ⟨h1,h2⟩:=Qa1 h
  refine ⟨_,rfl,?_,(Qrs h1).x,trivial⟩
  show LRep w O (.bool b) (.bool (decide (z<0)))
  rw [h2]; exact .bool _
theorem Qf1 (Ob:Nat→Prop):Q3 Ob []=Ob:=by funext b; simp [Q3]
theorem Ly {f:Nat} {args:List AV} {r:AV} (h:∀ (Ob:Nat→Prop) (W:World) (vs:List Value),(∀ b,Ob b→b<W.heap.size)→TReps W Ob vs args→∃ F,Calls P f vs.toArray W (Ms W Ob F)∧∀ w v,(F v).holds w Ob→ARep w Ob v r):Za P f args r:=by
  intro Ob W vs Bi hO hheld hargs hBin
  have hBin:Bi=[]:=hBin
  subst hBin
  rw [Qf1] at hargs
  obtain ⟨F,hc,hF⟩:=h Ob W vs hO hargs
  refine hc.mono fun e w' ⟨v,he,hg,hv⟩=>⟨v,r,[],[],he,⟨rfl,rfl⟩,by rw [Qf1]; exact hF w' v hv,rfl,⟨hg.1,fun b hb _=>hg.2 b hb,fun b _ hb=>(by simp at hb),hg.io⟩,⟨fun _ _ _ hm=>by (cases hm),qVh⟩⟩
theorem Qan {f:Nat} {x y:LV} {z:Int} {r:AV} (hi:Yx x y z) (h:∀ (Ob:Nat→Prop) (W:World) (b:Bool) (A:Option Addr) (n c:Nat),(∀ b,Ob b→b<W.heap.size)→Rel.intA.at_ W Ob [.bool b,.slice A n c] z→∃ F,Calls P f #[.agg #[.bool b,.slice A n c]] W (Ms W Ob F)∧∀ w v,(F v).holds w Ob→ARep w Ob v r):Za P f [.agg [x,y]] r :=
  Ly fun Ob W vs hO hargs=>by
    rcases vs with _ | ⟨v,_ | ⟨v2,vs⟩⟩
    · exact hargs.elim
    · obtain ⟨b,A,n,c,rfl,h1⟩:=L6 hargs.1 hi
      exact h Ob W b A n c hO h1
    · exact hargs.2.elim
theorem Ri {f:Nat} {x y x' y':LV} {z z':Int} {r:AV} (hi:Yx x y z) (hi':Yx x' y' z') (h:∀ (Ob:Nat→Prop) (W:World) (b:Bool) (A:Option Addr) (n c:Nat) (b':Bool) (A':Option Addr) (n' c':Nat),(∀ b,Ob b→b<W.heap.size)→Rel.intA.at_ W Ob [.bool b,.slice A n c] z→Rel.intA.at_ W Ob [.bool b',.slice A' n' c'] z'→∃ F,Calls P f #[.agg #[.bool b,.slice A n c],.agg #[.bool b',.slice A' n' c']] W (Ms W Ob F)∧∀ w v,(F v).holds w Ob→ARep w Ob v r):Za P f [.agg [x,y],.agg [x',y']] r :=
  Ly fun Ob W vs hO hargs=>by
    rcases vs with _ | ⟨v,_ | ⟨v2,_ | ⟨v3,vs⟩⟩⟩
    · exact hargs.elim
    · exact hargs.2.elim
    · obtain ⟨b,A,n,c,rfl,h1⟩:=L6 hargs.1 hi
      obtain ⟨b',A',n',c',rfl,h2⟩:=L6 hargs.2.1 hi'
      exact h Ob W b A n c b' A' n' c' hO h1 h2
    · exact hargs.2.2.elim
theorem Mt {w:World} {O:Nat→Prop} {z:Int}:∀ v,(Rel.intN.aggF z v).holds w O→ARep w O v (.agg (W9 z)):=fun _ h=>(Qjy h).a
theorem Qxe {w:World} {O:Nat→Prop} {c:Value} {r:AV} (hr:cst c=some r):∀ v,(Yg c v).holds w O→ARep w O v r:=fun v h=>by
  have h:v=c:=h
  subst h; exact Lw hr
def IsInts:List (List LV)→List Int→Prop
  | [],[]=>True
  | x::l,z::p=>(∃ a b,x=[a,b]∧Yx a b z)∧IsInts l p
  | _,_=>False
theorem IsInts.len:∀ {l:List (List LV)} {p:List Int},IsInts l p→l.length=p.length
  | [],[],_=>rfl
  | x::l,z::p,h=>by simp [h.2.len]
  | [],_::_,h=>h.elim
  | _::_,[],h=>h.elim
theorem IsInts.get:∀ {l:List (List LV)} {p:List Int},IsInts l p→∀ {i:Nat} {z:Int},p[i]? = some z→∃ a b,l[i]? = some [a,b]∧Yx a b z
  | [],[],_,i,z,h=>by simp at h
  |
   x::l,y::p,h,0,z,hz=>by
   simp at hz; subst hz
   obtain ⟨a,b,rfl,hi⟩:=h.1
   exact ⟨a,b,rfl,hi⟩
  | x::l,y::p,h,i+1,z,hz=>by simpa using h.2.get (i:=i) (by simpa using hz)
  | [],_::_,h,_,_,_=>h.elim
  | _::_,[],h,_,_,_=>h.elim
theorem Y2:∀ (p:List Int),IsInts (p.map W9) p
  | []=>trivial
  | z::p=>⟨⟨_,_,rfl,Zm z⟩,Y2 p⟩
theorem IsInts.append:∀ {l l':List (List LV)} {p p':List Int},IsInts l p→IsInts l' p'→IsInts (l++l') (p++p')
  | [],_,[],_,_,h=>h
  | x::l,_,z::p,_,h,h'=>⟨h.1,h.2.append h'⟩
  | [],_,_::_,_,h,_=>h.elim
  | _::_,_,[],_,h,_=>h.elim
theorem Qrk {w:World} {O:Nat→Prop} {v:Value} {l:List (List LV)} {p:List Int} (h:LRep w O v (.row l)) (hi:IsInts l p):∃ A n c,v=.slice A n c∧Rel.intA.slice.at_ w O [.slice A n c] p:=by
  have hl:=hi.len
  cases h with
  |
   row A c sz b o l f hc hc63 hm47 hs hA hcell hrep =>
   refine ⟨A,_,c,rfl,A,c,by rw [hl],by omega,hc63,by omega,fun h0=>?_⟩
   obtain ⟨rfl,h1,h2⟩:=hA (by omega)
   refine ⟨b,o,rfl,h1,h2,fun i z hz=>?_⟩
   obtain ⟨x,y,hx,hxy⟩:=hi.get hz
   have hsz:sz=2:=(hs _ (Vo hx)).symm
   subst hsz
   have hr1:=hrep i _ hx 0 x rfl
   have hr2:=hrep i _ hx 1 y rfl
   have hT:TRep w O (.agg #[f i 0,f i 1]) (.agg [x,y]):=⟨[f i 0,f i 1],rfl,hr1.x,hr2.x,trivial⟩
   obtain ⟨bb,A',n',c',e,h3⟩:=L6 hT hxy
   simp at e
   obtain ⟨e1,e2⟩:=e
   refine ⟨_,h3,fun j v hj=>?_⟩
   have hc0:=hcell i _ hx 0 (by simp)
   have hc1:=hcell i _ hx 1 (by simp)
   rw [e1] at hc0
   rw [e2] at hc1
   rcases j with _ | _ | j
   · simp at hj; subst hj; exact hc0
   · simp at hj; subst hj; exact hc1
   · simp at hj
theorem Qlr {f:Nat} {l:List (List LV)} {p:List Int} {r:AV} (hi:IsInts l p) (h:∀ (Ob:Nat→Prop) (W:World) (A:Option Addr) (n c:Nat),(∀ b,Ob b→b<W.heap.size)→Rel.intA.slice.at_ W Ob [.slice A n c] p→∃ F,Calls P f #[.slice A n c] W (Ms W Ob F)∧∀ w v,(F v).holds w Ob→ARep w Ob v r):Za P f [.one (.row l)] r :=
  Ly fun Ob W vs hO hargs=>by
    rcases vs with _ | ⟨v,_ | ⟨v2,vs⟩⟩
    · exact hargs.elim
    · obtain ⟨A,n,c,rfl,h1⟩:=Qrk hargs.1 hi
      exact h Ob W A n c hO h1
    · exact hargs.2.elim
theorem Qv2 {w:World} {O:Nat→Prop} {f g:Value→Fact} {r s:AV} (h1:∀ v,(f v).holds w O→TRep w O v r) (h2:∀ v,(g v).holds w O→TRep w O v s):∀ v,(Qjd f g v).holds w O→ARep w O v (.tup [r,s]):=fun v ⟨x,y,e,h3,h4⟩=>⟨[x,y],e,h1 x h3,h2 y h4,trivial⟩
theorem Qxf {w:World} {O:Nat→Prop} {kd:IntKind} {p:Int}:∀ v,(Yg (.int kd p) v).holds w O→TRep w O v (.one (.int kd p)):=fun v h=>by
  have h:v=.int kd p:=h
  subst h; exact LRep.int _ _
end Orr
namespace Orr
open Go
variable {P:Program} {n:Nat} {L:Sg} {B:List OB}
theorem Qpl {fn:Func} (hr:fn.results = #[]):RVs P n L B fn.results.toList []:=by rw [hr]; trivial
theorem I6 {fn:Func} {r1:ResultVar} {u:AV} (hr:fn.results = #[r1]) (h1:RV P n L B r1 u):RVs P n L B fn.results.toList [u]:=by rw [hr]; exact ⟨h1,trivial⟩
theorem Qx8 {fn:Func} {r1 r2 r3:ResultVar} {u1 u2 u3:AV} (hr:fn.results = #[r1,r2,r3]) (h1:RV P n L B r1 u1) (h2:RV P n L B r2 u2) (h3:RV P n L B r3 u3):RVs P n L B fn.results.toList [u1,u2,u3]:=by rw [hr]; exact ⟨h1,h2,h3,trivial⟩
theorem Qgh {fn:Func} {r1 r2:ResultVar} {u1 u2:AV} (hr:fn.results = #[r1,r2]) (h1:RV P n L B r1 u1) (h2:RV P n L B r2 u2):RVs P n L B fn.results.toList [u1,u2]:=by rw [hr]; exact ⟨h1,h2,trivial⟩
theorem Qiq {fn:Func} {us:List AV} {r:AV} (h:RVs P n L B fn.results.toList us) (he:Qen us=r):RQ P fn n (Is r) .ret L B:=by
  obtain ⟨is,hs⟩:=Qgo B
  exact ⟨us,is,[],h,hs,he,rfl⟩
def pl (p:List Int):LV:=.row (p.map W9)
def ids (l:List Int):LV:=.row (l.map fun (x:Int)=>[.int .i64 x])
theorem ofI_zero:W9 0=[LV.bool false,LV.row []]:=by simp [W9,Qku,Qc8]
theorem Y6 (p:List Int):Vq (pl p)=some p.length:=by simp [Vq,pl]
theorem Qgd (p:List Int):Vq (ids p)=some p.length:=by simp [Vq,ids]
theorem Qg {α β:Type} {f:α→β} {l:List α} {i:Nat} {x:α} (h:l[i]? = some x):(l.map f)[i]? = some (f x):=by rw [S1,h]; rfl
theorem Jj {α:Type} {f:α→List LV} {sz:Nat} (l:List α) (h:∀ x,(f x).length=sz):∀ c∈l.map f,c.length=sz:=fun c hc=>by
  obtain ⟨x,_,rfl⟩:=Ww.1 hc
  exact h x
theorem Wu {α:Type} {f:α→List LV} (l:List α) (h:∀ x,G9 (f x)=true):∀ c∈l.map f,∀ x∈c,x.free=true:=fun c hc x hx=>by
  obtain ⟨y,_,rfl⟩:=Ww.1 hc
  exact U9 (h y) x hx
theorem Js {c0:List LV} {sz:Nat} (h:c0.length=sz):∀ c∈[c0],c.length=sz:=fun c hc=>by rw [qZt] at hc; rw [hc]; exact h
theorem Jx {c0:List LV} (h:G9 c0=true):∀ c∈[c0],∀ x∈c,x.free=true:=fun c hc x hx=>by rw [qZt] at hc; rw [hc] at hx; exact U9 h x hx
variable {ops:Array Oper} {rest:List Oper} {N:Sg→List OB→Prop} {d:Nat} {ty:TypeId} {pos:String} {after:Array Edge}
theorem Zi {x y:Operand} {r:Option (Nat×Nat)} {sz lo len:Nat} {kd:IntKind} {p:Int} (i:Nat) {E t:TypeId} (hu:∀ w,(underlying t).run P w=.ok (.slice E) w) (hs:∀ w,(Go.sizeOf E).run P w=.ok sz w)
    (hx:J3 L x=some (.one (.orow r sz lo len))) (hy:J3 L y=some (.one (.int kd p))) (hp:p=(i:Int)) (hi:i<len) (hd:Nat.blt d n=true) :
    AP P ops n { dst:=some d,op:=.indexAddr t x y,type:=ty,pos:=pos,after:=after,guard:=none } d (.one (.oel r sz (lo+i) 0)) L B:=by
  intro K Ob w0 w a Bs L' Fs h hL hB
  obtain ⟨v,hv,hr⟩:=Zt hL hx
  obtain ⟨u,hu',hr2⟩:=Zt hL hy
  obtain rfl:=Xn hr2
  rcases r with _ | ⟨g,c⟩
  · obtain ⟨_,_,rfl⟩:=hr; omega
  · obtain ⟨h8,o,rfl,h9⟩:=hr
    have ho:o=lo*sz:=h9 (.inr (by omega))
    refine Q5 i h hv hu' hu hs hp hi hd fun a' h'=>wpList_nil ⟨rfl,_,h',?_⟩
    show _=_
    subst ho
    simp [qJx]
theorem Sw {S:TypeId} {x:Operand} {f off:Nat} {r:Option (Nat×Nat)} {sz i o:Nat} (hrun:∀ b o w,(Instr.fieldAt S (.pointer (some ⟨b,o,none⟩)) f).run P w=.ok (.pointer (some ⟨b,o+off,none⟩)) w)
    (hx:J3 L x=some (.one (.oel r sz i o))) (hd:Nat.blt d n=true) :
    AP P ops n { dst:=some d,op:=.fieldAddr S x f,type:=ty,pos:=pos,after:=after,guard:=none } d (.one (.oel r sz i (o+off))) L B:=by
  intro K Ob w0 w a Bs L' Fs h hL hB
  obtain ⟨v,hv,hr1⟩:=Zt hL hx
  rcases r with _ | ⟨g,c⟩
  · exact hr1.elim
  · obtain rfl:v=.pointer (some ⟨g,i*sz+o,none⟩):=hr1
    exact Qu h hv hrun hd fun a' h'=>wpList_nil ⟨rfl,_,h',by show _=_; rw [qYl]⟩
theorem X7 (j:Nat) {T E:TypeId} {x:Operand} {r:Option (Nat×Nat)} {sz i o m:Nat} {ls:List (List LV)} {z q:List LV} {ag:Bool} {u:AV} {B':List OB} (ht:∀ w,(isAgg T).run P w=.ok ag w) (hs:∀ w,(Go.sizeOf T).run P w=.ok m w)
    (hi:Jr B j=some (.row r E sz ls,B')) (hx:J3 L x=some (.one (.oel r sz i o))) (hz:ls[i]? = some z) (hr:Qgp z o m=some q) (hu:Wx ag q=some u) (hd:Nat.blt d n=true) :
    AP P ops n { dst:=some d,op:=.load T x,type:=ty,pos:=pos,after:=after,guard:=none } d u L B:=by
  intro K Ob w0 w a Bs L' Fs h hL hB
  obtain ⟨hxi,rfl⟩:=Uu hi
  obtain ⟨Bo,Bs',hp,hob,_⟩:=hB.front hxi
  obtain ⟨v,hv,hr1⟩:=Zt hL hx
  rcases r with _ | ⟨g,c⟩
  · exact hr1.elim
  · obtain rfl:v=.pointer (some ⟨g,i*sz+o,none⟩):=hr1
    obtain ⟨h0,h2,h3,vss,ex,h4,rfl,h5,h6,h7⟩:=hob
    have hmem:(g,Tag.ty E,vss.flatten++ex)∈Bs:=hp.mem_iff.2 (by simp)
    obtain ⟨k,hk⟩:=qZr.1 hmem
    obtain ⟨rfl,hle⟩:=El hr
    obtain ⟨vs,hvs,hreps⟩:=h4.get hz
    have hzl:=h2 z (Vo hz)
    have hall:=h4.all h2
    have hlen:=hreps.len
    have hreps':XReps w (Q3 Ob Bs) ((vs.drop o).take m) ((z.drop o).take m):=(hreps.drop o).take m
    have hl:((vs.drop o).take m).length=m:=by simp; omega
    have hcell:∀ j u,((vs.drop o).take m)[j]? = some u→w.cell? ⟨g,i*sz+o+j,none⟩=some u:=fun j u hj=>by
      rw [h.own_cell hk]
      rw [Ei] at hj
      split at hj
      · rw [qXj] at hj
        have e2:vss.flatten[i*sz+(o+j)]? = vs[o+j]? := by
          rw [Be hall (by have:=(Uy.1 hj).1; omega),hvs]; rfl
        rw [hj] at e2
        rw [qYl,qZy (Uy.1 e2).1,e2]
      · cases hj
    cases ag with
    |
     true =>
     simp only [Wx,Option.some.injEq] at hu
     subst hu
     exact S8 h hv ht hs hl hcell hd fun a' h'=>wpList_nil ⟨rfl,_,h',show ARep _ _ _ (.agg _) from ⟨_,rfl,hreps'⟩⟩
    |
     false =>
     obtain ⟨y,e2,rfl⟩:=U5 hu
     rw [e2] at hreps'
     generalize (vs.drop o).take m=vs at *
     rcases vs with _ | ⟨v0,_ | ⟨v1,vs⟩⟩
     · exact hreps'.elim
     · exact Xc h hv ht (by simpa using hcell 0 v0 rfl) hd fun a' h'=>wpList_nil ⟨rfl,_,h',show ARep _ _ _ (.one y) from hreps'.1⟩
     · exact hreps'.2.elim
theorem RReps.setAt {w:World} {O:Nat→Prop} {vss:List (List Value)} {ls:List (List LV)} (h:RReps w O vss ls) {vs:List Value} {z:List LV} (hz:XReps w O vs z) (i:Nat):RReps w O (vss.set i vs) (ls.set i z):=by
  refine RReps.of (by simp [h.len]) fun j v x hv hx=>?_
  rw [qVd] at hv hx
  split at hv
  · rename_i e
    rw [if_pos e] at hx
    split at hv <;> first | cases hv | skip
    rename_i hl
    rw [if_pos (by rw [←h.len]; exact hl)] at hx
    injection hx with hx; subst hx; exact hz
  · rename_i e
    rw [if_neg e] at hx
    exact h.get' hv hx
theorem Jp (j:Nat) {T E:TypeId} {x y:Operand} {r:Option (Nat×Nat)} {sz i o m:Nat} {ls ls2:List (List LV)} {z ys q:List LV} {u:AV} {B':List OB} (hs:∀ w,(Go.sizeOf T).run P w=.ok m w)
    (hi:Jr B j=some (.row r E sz ls,B')) (hx:J3 L x=some (.one (.oel r sz i o))) (hy:J3 L y=some u) (hl:Gh u=some ys) (hf:G9 ys=true) (hm:ys.length=m) (hz:ls[i]? = some z) (hr:updO z o m ys=some q) (hls:ls.set i q=ls2)
    (k:AW P ops n rest N L (.row r E sz ls2::B')) :
    AW P ops n ({ dst:=none,op:=.store T x y,type:=ty,pos:=pos,after:=after,guard:=none }::rest) N L B:=by
  intro K Ob w0 w a Q hs0 hQ
  subst hls
  obtain ⟨L',Bo,Bs,h,hL,hob,hB⟩:=hs0.front hi
  obtain ⟨v,hv,hr1⟩:=Zt hL hx
  obtain ⟨v2,hv2,hr2⟩:=Zt hL hy
  obtain ⟨hc2,ht2⟩:=Fq hr2 hl
  obtain ⟨rfl,hlen⟩:=Qd9 hr
  rcases r with _ | ⟨g,c⟩
  · exact hr1.elim
  · obtain rfl:v=.pointer (some ⟨g,i*sz+o,none⟩):=hr1
    obtain ⟨h0,h2,h3,vss,ex,h4,rfl,h5,h6,h7⟩:=hob
    obtain ⟨vs,hvs,hreps⟩:=h4.get hz
    have hzl:=h2 z (Vo hz)
    have hall:=h4.all h2
    have hvl:=hreps.len
    have hil:i<vss.length:=(Uy.1 hvs).1
    have hcl:=hc2.len
    have hadd:=h.add (f:=⟨fun w O=>(∀ t x,lk L t=some x→∃ v,Z0 L' t=some v∧ARep w O v x)∧BsRep w O B' Bs∧RReps w O vss ls∧XReps w O vs z∧XReps w O v2.cells.toList ys,fun hle h=>⟨Fd hle h.1,h.2.1.keep hle,h.2.2.1.keep hle,h.2.2.2.1.keep hle,h.2.2.2.2.keep hle⟩⟩) ⟨hL,hB,h4,hreps,hc2⟩
    have hfl:=Vf hall
    have hbound:(i+1)*sz≤vss.length*sz:=O8 _ hil
    rw [qJl] at hbound
    refine Z3 hadd 0 rfl hv hv2 hs rfl (hcl.trans hm) (by rw [Nat.ble_eq,Fl]; omega) (C4.2 hc2.one) fun w' h'=>?_
    obtain ⟨h8,h9,h10,h11,h12⟩:=h'.fact 0 rfl
    have e:upd (vss.flatten++ex) (i*sz+o) v2.cells.toList=(vss.set i (upd vs o v2.cells.toList)).flatten++ex:=by
      have hpre:∀ (pre post:List Value) (k:Nat) (ys:List Value),k+ys.length≤pre.length→upd (pre++post) k ys=upd pre k ys++post:=by
        intro pre
        induction pre with
        |
         nil =>
         intro post k ys hk
         cases ys with
         | nil=>cases post <;> simp [upd]
         | cons y ys=>simp at hk
        |
         cons p pre ih =>
         intro post k ys hk
         cases ys with
         | nil=>simp [upd]
         |
          cons y ys =>
          cases k with
          | zero=>simp only [Lm,upd]; rw [ih post 0 ys (by simp at hk ⊢; omega)]
          | succ k=>simp only [Lm,upd]; rw [ih post k (y::ys) (by simp at hk ⊢; omega)]
      rw [hpre _ _ _ _ (by omega)]
      congr 1
      have h13:vss=vss.take i++vs::vss.drop (i+1):=by
        rw [←(Uy.1 hvs).2]; simp
      have h14:vss.set i (upd vs o v2.cells.toList)=vss.take i++upd vs o v2.cells.toList::vss.drop (i+1):=List.set_eq_take_append_cons_drop .. |>.trans (by rw [if_pos hil])
      rw [h14]
      conv=>lhs; rw [h13]
      rw [qJc,qYm,qJc,qYm]
      have h15:(vss.take i).flatten.length=i*sz:=by
        rw [Vf (sz:=sz) fun c hc=>hall c (Rx hc),Kd,Nb (by omega)]
      rw [←h15,F2,hpre _ _ _ _ (by omega)]
    rw [show i*sz+o=i*sz+o from rfl] at h'
    simp only [Lm,qVv,List.set_cons_zero] at h' h8 h9 h10 h11 h12
    have e':=e
    refine k _ _ _ _ _ _ (SA.of (Bo:=[_]) h'.noFacts h8 ?_ h9) hQ
    refine ⟨h0,?_,?_,vss.set i (upd vs o v2.cells.toList),ex,h10.setAt (h11.upd o h12) i,by rw [←e'],?_,by simpa using h6,h7⟩
    · intro c hc
      rcases qYo hc with hc | rfl
      · exact h2 c hc
      · rw [Qfp]; exact hzl
    · intro c hc y hy
      rcases qYo hc with hc | rfl
      · exact h3 c hc y hy
      · obtain ⟨k2,hk2⟩:=qZr.1 hy
        have key:∀ (z ys:List LV) (o:Nat),(∀ x∈z,x.free=true)→(∀ x∈ys,x.free=true)→∀ x∈P8 z o ys,x.free=true:=by
          intro z
          induction z with
          | nil=>intro ys o _ _ x hx; cases ys <;> simp [P8] at hx
          |
           cons a z ih =>
           intro ys o hz hy x hx
           cases ys with
           | nil=>simp [P8] at hx; exact hz x (by simpa using hx)
           |
            cons b ys =>
            cases o with
            |
             zero =>
             simp only [P8,Vw] at hx
             rcases hx with rfl | hx
             · exact hy _ (Fm ..)
             · exact ih ys 0 (fun q hq=>hz q (Ge _ hq)) (fun q hq=>hy q (Ge _ hq)) x hx
            |
             succ o =>
             simp only [P8,Vw] at hx
             rcases hx with rfl | hx
             · exact hz _ (Fm ..)
             · exact ih (b::ys) o (fun q hq=>hz q (Ge _ hq)) hy x hx
        exact key z ys o (h3 z (Vo hz)) (U9 hf) y hy
    · rw [←e',If]; exact h5
end Orr
namespace Orr
open Go
theorem Qm {x r:Int} (h:x=r) (h1:-9223372036854775808≤r∧r≤9223372036854775807):IntKind.i64.wrap x=r:=by rw [h]; exact Xq h1.1 h1.2
end Orr
namespace Orr
open Go
theorem Qlu {P:Program} {S f off T m:Nat} {ag:Bool} {fs:Array Field} (hu:∀ w,(underlying S).run P w=.ok (.struct fs) w) (hf:(fs[f]?).map (fun fl=>(fl.type,fl.offset))=some (T,off)) (ht:∀ w,(isAgg T).run P w=.ok ag w) (hs:∀ w,(Go.sizeOf T).run P w=.ok m w)
    (vs:List Value) (v:Value) (hv:if ag=true then v=.agg ((vs.drop off).take m).toArray else vs[off]? = some v) (_:off+m≤vs.length) (w:World):(Instr.field S (.agg vs.toArray) f).run P w=.ok v w:=by
  cases h:fs[f]? with
  | none=>rw [h] at hf; cases hf
  |
   some fl =>
   rw [h] at hf
   simp only [qVy,Option.some.injEq,Prod.mk.injEq] at hf
   obtain ⟨rfl,rfl⟩:=hf
   cases ag with
   |
    true =>
    simp only [if_true] at hv
    subst hv
    simp [Instr.field,hu,h,asAgg,Go.part,ht,hs,List.extract]
    done
   |
    false =>
    simp at hv
    simp [Instr.field,hu,h,asAgg,Go.part,ht,hv]
end Orr
namespace Orr
open Go
variable {P:Program} {ops:Array Oper} {n:Nat} {rest:List Oper} {N:Sg→List OB→Prop} {L:Sg} {B:List OB}
theorem D9:∀ {xs ys:List LV},W3 xs=some ys→(∀ x∈xs,x.free=true)→∀ y∈ys,y.free=true
  | [],ys,h,_=>by simp [W3] at h; subst h; simp
  |
   x::l,ys,h,hf=>by
   simp only [W3] at h
   split at h
   · cases h
   · rename_i r hl
     have ih:=D9 hl fun y hy=>hf y (Ge _ hy)
     split at h <;> injection h with h <;> subst h <;> intro y hy <;> rcases Vw.1 hy with rfl | hy
     · rfl
     · exact ih y hy
     · exact hf _ (Fm ..)
     · exact ih y hy
theorem G6 (i:Nat) {r:Option (Nat×Nat)} {E sz m:Nat} {zs zs':List LV} {ls':List (List LV)} {B':List OB} (hi:Jr B i=some (.row r E sz (List.replicate m zs),B')) (hz:W3 zs=some zs') (hls:List.replicate m zs'=ls') (k:AW P ops n rest N L (.row r E sz ls'::B')):AW P ops n rest N L B:=by
  intro K Ob w0 w a Q hs hQ
  subst hls
  obtain ⟨L',Bo,Bs,h1,h2,h3,h4⟩:=hs.front hi
  refine k _ _ _ _ _ _ (SA.of h1 h2 ?_ h4) hQ
  rcases r with _ | ⟨g,c⟩
  · obtain ⟨h5,h6,h7⟩:=h3
    have hm:m=0:=by have:=congrArg List.length h6; simpa using this
    subst hm
    exact ⟨h5,rfl,h7⟩
  · obtain ⟨h5,h6,h7,vss,ex,h8,h9,h10,h11,h12⟩:=h3
    refine ⟨h5,fun c hc=>?_,fun c hc x hx=>?_,vss,ex,?_,h9,h10,by simpa using h11,h12⟩
    · have e:=qZx hc
      subst e
      rw [Nk hz]
      obtain ⟨hm,_⟩:=qKa.1 hc
      exact h6 zs (qKa.2 ⟨hm,rfl⟩)
    · have e:=qZx hc
      subst e
      obtain ⟨hm,_⟩:=qKa.1 hc
      exact D9 hz (h7 zs (qKa.2 ⟨hm,rfl⟩)) x hx
    · refine RReps.of (by have:=h8.len; simpa using this) fun j v x hv hx=>?_
      have e:=qZx (Vo hx)
      subst e
      have hj:j<m:=by have:=(Uy.1 hx).1; simpa using this
      exact Ru hz (h8.get' hv (by simp [hj]))
theorem Jq (i:Nat) {r:Option (Nat×Nat)} {E sz:Nat} {ls ls':List (List LV)} {B':List OB} (hi:Jr B i=some (.row r E sz ls,B')) (he:ls=ls') (k:AW P ops n rest N L (.row r E sz ls'::B')):AW P ops n rest N L B:=by
  subst he; exact Qel i hi k
theorem Es (m:Nat):List.replicate m [LV.bool false,LV.row []]=(List.replicate m (0:Int)).map W9:=by simp [W9,Qku,Qc8]
theorem Uh {α:Type} (f:α→List LV) (l:List α) (i:Nat) (x:α):(l.map f).set i (f x)=(l.set i x).map f:=List.map_set.symm
def Em (g:Nat→Int) (n i:Nat):List Int:=(List.range i).map g++List.replicate (n-i) 0
theorem Cf (g:Nat→Int) (n:Nat):List.replicate n 0=Em g n 0:=by simp [Em]
theorem Ui (g:Nat→Int) {n i:Nat} (h:i≤n):(Em g n i).length=n:=by simp [Em]; omega
theorem Eo (g:Nat→Int) {n i:Nat} (h:i<n):(Em g n i)[i]? = some 0:=by
  unfold Em
  rw [qXh (by simp),Zr,List.length_range,qJz,qYu,if_pos (by omega)]
theorem Ep (g:Nat→Int) {n i:Nat} (h:i<n):(Em g n i).set i (g i)=Em g n (i+1):=by
  unfold Em
  obtain ⟨k,hk⟩:∃ k,n-i=k+1:=⟨n-i-1,by omega⟩
  rw [hk,show n-(i+1)=k from by omega,qVi _ _ (by simp),qVw]
  simp [qJs]
theorem En (g:Nat→Int) (n:Nat):Em g n n=(List.range n).map g:=by simp [Em]
theorem Io {x y:Operand} {kd:IntKind} {p q r:Int} {ats:Array TypeId} {d:Nat} {ty:TypeId} {pos:String} {after:Array Edge} (hx:J3 L x=some (.one (.int kd p))) (hy:J3 L y=some (.one (.int kd q))) (hr:(if q>p then q else p)=r) (hd:Nat.blt d n=true) :
    AP P ops n { dst:=some d,op:=.call { callee:=.builtin .max,args := #[x,y],argTypes:=ats },type:=ty,pos:=pos,after:=after,guard:=none } d (.one (.int kd r)) L B:=by
  intro K Ob w0 w a Bs L' Fs h hL hB
  obtain ⟨v,hv,hr1⟩:=Zt hL hx
  obtain ⟨u,hu',hr2⟩:=Zt hL hy
  obtain rfl:=Xn hr1
  obtain rfl:=Xn hr2
  exact Qi2 h hv hu' hr hd fun a' h'=>wpList_nil ⟨rfl,_,h',LRep.int _ _⟩
theorem Qxo {x y:Operand} {kd:IntKind} {p q r:Int} {ats:Array TypeId} {d:Nat} {ty:TypeId} {pos:String} {after:Array Edge} (hx:J3 L x=some (.one (.int kd p))) (hy:J3 L y=some (.one (.int kd q))) (hr:(if q<p then q else p)=r) (hd:Nat.blt d n=true) :
    AP P ops n { dst:=some d,op:=.call { callee:=.builtin .min,args := #[x,y],argTypes:=ats },type:=ty,pos:=pos,after:=after,guard:=none } d (.one (.int kd r)) L B:=by
  intro K Ob w0 w a Bs L' Fs h hL hB
  obtain ⟨v,hv,hr1⟩:=Zt hL hx
  obtain ⟨u,hu',hr2⟩:=Zt hL hy
  obtain rfl:=Xn hr1
  obtain rfl:=Xn hr2
  exact Qi3 h hv hu' hr hd fun a' h'=>wpList_nil ⟨rfl,_,h',LRep.int _ _⟩
theorem Iz {w:World} {O:Nat→Prop} {A:Option Addr} {m c lo hi c' sz0:Nat} {l l':List (List LV)} (h:LRep w O (.slice A m c) (.row l)) (h1:lo≤hi) (h2:hi≤l.length) (hc':c'=c∨c'=hi) (hsz:∀ z∈l,z.length=sz0) (hl':(l.drop lo).take (hi-lo)=l') :
    LRep w O (.slice (if c'=lo then A else A.map (·.add (lo*sz0))) (hi-lo) (c'-lo)) (.row l'):=by
  subst hl'
  generalize hv:Value.slice A m c=v at h
  cases h with
  |
   row A' c0 sz b o l f hc hc63 hm47 hs hA hcell hrep =>
   injection hv with e1 e2 e3
   subst e1 e2 e3
   have hlen:((l.drop lo).take (hi-lo)).length=hi-lo:=by simp; omega
   have hget:∀ (i:Nat) (cs:List LV),((l.drop lo).take (hi-lo))[i]? = some cs→l[lo+i]? = some cs:=fun i cs hi'=>by
     rw [Ei] at hi'
     split at hi'
     · rwa [qXj] at hi'
     · cases hi'
   have key:=LRep.row (w:=w) (O:=O) (if c'=lo then A else A.map (·.add (lo*sz0))) (c'-lo) sz b (o+lo*sz) ((l.drop lo).take (hi-lo)) (fun i j=>f (lo+i) j) (by rw [hlen]; rcases hc' with rfl | rfl <;> omega) (by rcases hc' with rfl | rfl <;> omega) (by rw [hlen]; omega)
     (fun cs hm=>hs cs (Pr (Rx hm)))
     (fun h0=>by
       rw [hlen] at h0
       obtain ⟨rfl,h3,h4⟩:=hA (by omega)
       have hx:=Xx (show lo<l.length by omega)
       have e5:sz0=sz:=by rw [←hsz _ (Vo hx),hs _ (Vo hx)]
       subst e5
       have:¬(c'=lo):=by rcases hc' with rfl | rfl <;> omega
       rw [if_neg this]
       exact ⟨by simp [U4],h3,h4⟩)
     (fun i cs hi' j hj=>by
       have:=hcell (lo+i) cs (hget i cs hi') j hj
       rw [show o+lo*sz+i*sz+j=o+(lo+i)*sz+j from by rw [qJx]; omega]
       exact this)
     (fun i cs hi' j x hx=>hrep (lo+i) cs (hget i cs hi') j x hx)
   rw [hlen] at key
   exact key
section
variable {d:Nat} {ty:TypeId} {pos:String} {after:Array Edge}
theorem C9 {w:World} {O:Nat→Prop} {v:Value} {l:List (List LV)} (h:LRep w O v (.row l)):∃ A c,v=.slice A l.length c∧l.length≤c∧LRep w O (.slice A l.length c) (.row l):=by
  have h':=h
  cases h with
  | row A c sz b o l f hc hc63 hm47 hs hA hcell hrep=>exact ⟨A,c,rfl,hc,h'⟩
theorem Yc (i:Nat) {T E sz:Nat} {x y:Operand} {kd:IntKind} {p:Int} {l l':List (List LV)} (hu:∀ w,(underlying T).run P w=.ok (.slice E) w) (hs:∀ w,(Go.sizeOf E).run P w=.ok sz w) (hx:J3 L x=some (.one (.row l))) (hy:J3 L y=some (.one (.int kd p))) (hp:p=(i:Int)) (hi:i≤l.length) (hsz:∀ z∈l,z.length=sz) (hl':l.take i=l') (hd:Nat.blt d n=true) :
    AP P ops n { dst:=some d,op:=.slice T x none (some y) none,type:=ty,pos:=pos,after:=after,guard:=none } d (.one (.row l')) L B:=by
  refine Rn hd fun K Ob w0 w a Bs L' Fs h hL hB=>?_
  subst hp
  obtain ⟨v,hv,hr⟩:=Zt hL hx
  obtain ⟨u,hu',hr2⟩:=Zt hL hy
  obtain rfl:=Xn hr2
  obtain ⟨A,c,rfl,hc,hr'⟩:=C9 hr
  have key:=Iz (lo:=0) (hi:=i) (c':=c) hr' (by omega) hi (.inl rfl) hsz (l':=l') (by rw [qXf,qYg]; exact hl')
  refine ⟨_,?_,key⟩
  simp [execOp,h.ev hv,h.ev hu',Instr.sliceAt,Instr.slice,Instr.sliceBounds,hu,hs,Jd _ (show i≤c by omega)]
theorem Uv (i:Nat) {T E sz:Nat} {x y:Operand} {kd:IntKind} {p:Int} {l l':List (List LV)} (hu:∀ w,(underlying T).run P w=.ok (.slice E) w) (hs:∀ w,(Go.sizeOf E).run P w=.ok sz w) (hx:J3 L x=some (.one (.row l))) (hy:J3 L y=some (.one (.int kd p))) (hp:p=(i:Int)) (hi:i≤l.length) (hsz:∀ z∈l,z.length=sz) (hl':l.drop i=l') (hd:Nat.blt d n=true) :
    AP P ops n { dst:=some d,op:=.slice T x (some y) none none,type:=ty,pos:=pos,after:=after,guard:=none } d (.one (.row l')) L B:=by
  refine Rn hd fun K Ob w0 w a Bs L' Fs h hL hB=>?_
  subst hp
  obtain ⟨v,hv,hr⟩:=Zt hL hx
  obtain ⟨u,hu',hr2⟩:=Zt hL hy
  obtain rfl:=Xn hr2
  obtain ⟨A,c,rfl,hc,hr'⟩:=C9 hr
  have key:=Iz (lo:=i) (hi:=l.length) (c':=c) hr' hi (X2 _) (.inl rfl) hsz (l':=l') (by rw [Y0 (by simp)]; exact hl')
  refine ⟨_,?_,key⟩
  simp [execOp,h.ev hv,h.ev hu',Instr.sliceAt,Instr.slice,Instr.sliceBounds,hu,hs,Jd _ hi]
theorem Fu (i:Nat) {T E sz lo len:Nat} {x y:Operand} {kd:IntKind} {p:Int} {r:Option (Nat×Nat)} (hu:∀ w,(underlying T).run P w=.ok (.slice E) w) (hs:∀ w,(Go.sizeOf E).run P w=.ok sz w) (hx:J3 L x=some (.one (.orow r sz lo len))) (hy:J3 L y=some (.one (.int kd p))) (hp:p=(i:Int)) (hi:i≤len) (hd:Nat.blt d n=true) :
    AP P ops n { dst:=some d,op:=.slice T x none (some y) none,type:=ty,pos:=pos,after:=after,guard:=none } d (.one (.orow r sz lo i)) L B:=by
  refine Rn hd fun K Ob w0 w a Bs L' Fs h hL hB=>?_
  subst hp
  obtain ⟨v,hv,hr⟩:=Zt hL hx
  obtain ⟨u,hu',hr2⟩:=Zt hL hy
  obtain rfl:=Xn hr2
  rcases r with _ | ⟨g,c⟩
  · obtain ⟨rfl,rfl,rfl⟩:=hr
    have h0:i=0:=by omega
    subst h0
    refine ⟨.slice none 0 0,?_,rfl,rfl,rfl⟩
    have:=Jd (P:=P) (kd:=kd) (i:=0) (y:=0) .sliceAcap (X2 _)
    simp at this
    simp [execOp,h.ev hv,h.ev hu',Instr.sliceAt,Instr.slice,Instr.sliceBounds,hu,hs,this]
  · obtain ⟨h8,o,rfl,h9⟩:=hr
    refine ⟨.slice (some ⟨g,o,none⟩) i (c-lo),?_,by omega,o,rfl,h9⟩
    have hne:=Jd (P:=P) (kd:=kd) (i:=i) (y:=c-lo) .sliceAcap (by omega)
    simp [execOp,h.ev hv,h.ev hu',Instr.sliceAt,Instr.slice,Instr.sliceBounds,hu,hs,hne,U4]
theorem Wg (i:Nat) {T E sz lo len:Nat} {x y:Operand} {kd:IntKind} {p:Int} {r:Option (Nat×Nat)} (hu:∀ w,(underlying T).run P w=.ok (.slice E) w) (hs:∀ w,(Go.sizeOf E).run P w=.ok sz w) (hx:J3 L x=some (.one (.orow r sz lo len))) (hy:J3 L y=some (.one (.int kd p))) (hp:p=(i:Int)) (hi:i≤len) (hd:Nat.blt d n=true) :
    AP P ops n { dst:=some d,op:=.slice T x (some y) none none,type:=ty,pos:=pos,after:=after,guard:=none } d (.one (.orow r sz (lo+i) (len-i))) L B:=by
  refine Rn hd fun K Ob w0 w a Bs L' Fs h hL hB=>?_
  subst hp
  obtain ⟨v,hv,hr⟩:=Zt hL hx
  obtain ⟨u,hu',hr2⟩:=Zt hL hy
  obtain rfl:=Xn hr2
  rcases r with _ | ⟨g,c⟩
  · obtain ⟨rfl,rfl,rfl⟩:=hr
    have h0:i=0:=by omega
    subst h0
    refine ⟨.slice none 0 0,?_,rfl,rfl,rfl⟩
    have:=Jd (P:=P) (kd:=kd) (i:=0) (y:=0) .sliceB (X2 _)
    simp at this
    simp [execOp,h.ev hv,h.ev hu',Instr.sliceAt,Instr.slice,Instr.sliceBounds,hu,hs,this]
  · obtain ⟨h8,o,rfl,h9⟩:=hr
    have hne:=Jd (P:=P) (kd:=kd) (i:=i) (y:=len) .sliceB hi
    refine ⟨.slice (if c-lo=i then some ⟨g,o,none⟩ else some ⟨g,o+i*sz,none⟩) (len-i) (c-lo-i),?_,by omega,?_⟩
    · by_cases he:c-lo=i <;> simp [execOp,h.ev hv,h.ev hu',Instr.sliceAt,Instr.slice,Instr.sliceBounds,hu,hs,hne,U4,he]
    · by_cases he:c-lo=i
      · rw [if_pos he]
        refine ⟨o,by congr 1; omega,fun hh=>?_⟩
        rcases hh with hh | hh
        · have h0:lo=0:=by omega
          have h1:i=0:=by omega
          subst h0 h1
          have:=h9 (.inl rfl)
          simpa using this
        · omega
      · rw [if_neg he]
        refine ⟨o+i*sz,by congr 1; omega,fun hh=>?_⟩
        have:=h9 (by rcases hh with hh | hh <;> omega)
        rw [this,qJx]
end
end Orr
namespace Orr
theorem Zc {L:Sg} {x:AV} {t:Nat} (h:lk L t=some x):Ck L x [t]:=⟨h,trivial⟩
end Orr
namespace Orr
open Go
variable {P:Program} {ops:Array Oper} {n:Nat} {rest:List Oper} {N:Sg→List OB→Prop} {L:Sg} {B:List OB}
theorem Vn (i:Nat) {g:Nat} {T:TypeId} {xs zs ys:List LV} {B':List OB} (hi:Jr B i=some (.blk g T xs,B')) (hun:W3 xs=some zs) (he:zs=ys) (k:AW P ops n rest N L (.blk g T ys::B')):AW P ops n rest N L B:=by
  intro K Ob w0 w a Q hs hQ
  subst he
  obtain ⟨L',Bo,Bs,h1,h2,⟨cs,rfl,h3⟩,h4⟩:=hs.front hi
  exact k _ _ _ _ _ _ (SA.of h1 h2 ⟨cs,rfl,Ru hun h3⟩ h4) hQ
end Orr

namespace Orr
open Go
variable {P:Program} {ops:Array Oper} {n:Nat} {rest:List Oper} {N:Sg→List OB→Prop} {L:Sg} {B:List OB} {Q:Exit→Sg→List OB→Prop}
variable {d:Nat} {ty:TypeId} {pos:String} {after:Array Edge}
theorem AP.frame {o:Oper} {u:AV} (h:AP P ops n o d u L B):∀ (K Ob:Nat→Prop) (w0 w:World) (a:Act) (Bx Bs:List Va) (L':List (Nat×Value)) (Fs:List Fact),St K Ob w0 w a n L' Fs (Bx++Bs) →
    (∀ t x,lk L t=some x→∃ v,Z0 L' t=some v∧ARep w (Q3 Ob (Bx++Bs)) v x)→BsRep w (Q3 Ob (Bx++Bs)) B Bs →
    wpList P ops (fun e a' w'=>e=.normal∧∃ v,St K Ob w0 w' a' n ((d,v)::L') Fs (Bx++Bs)∧ARep w' (Q3 Ob (Bx++Bs)) v u) [o] a w:=by
  intro K Ob w0 w a Bx Bs L' Fs hs hL hB
  have e:Q3 (Q3 Ob Bx) Bs=Q3 Ob (Bx++Bs):=by
    funext b
    simp only [Q3,F6,Y7]
    exact propext ⟨fun h=>by rcases h with (h | h) | h <;> simp [h],fun h=>by rcases h with h | h | h <;> simp [h]⟩
  have hnd:=hs.nodup
  rw [F6,qYn] at hnd
  have hst:St (fun b=>b<w.heap.size∧b∉Bs.map (·.1)) (Q3 Ob Bx) w w a n L' Fs Bs:=by
    refine ⟨hs.size,hs.defers,hs.slots,X2 _,fun _ _=>rfl,fun g T cs hm=>?_,hnd.2.1,fun f hf=>?_,fun b hb=>hb.1,fun b hb=>?_,fun b hb ho=>?_,rfl,rfl⟩
    · obtain ⟨_,h2,h3⟩:=hs.own g T cs (Y7.2 (.inr hm))
      exact ⟨fun hk=>hk.2 (Ww.2 ⟨_,hm,rfl⟩),h2,h3⟩
    · rw [e]; exact hs.facts f hf
    · refine hs.owns_lt ?_
      simp only [Q3,F6,Y7]
      exact hb.imp id .inl
    · rcases ho with ho | ho
      · exact hs.ownO b (by simp only [F6,Y7]; exact .inr hb) ho
      · exact hnd.2.2 b ho b hb rfl
  have key:=h _ (Q3 Ob Bx) w w a Bs L' Fs hst (by rw [e]; exact hL) (by rw [e]; exact hB)
  refine Wt hs.defers (R:=fun a' w'=>∃ v,St _ (Q3 Ob Bx) w w' a' n ((d,v)::L') Fs Bs∧ARep w' (Q3 (Q3 Ob Bx) Bs) v u) (fun a w ⟨v,h,_⟩=>h.defers) key fun a' w' ⟨v,h1,h2⟩=>wpList_nil ⟨rfl,v,?_,by rw [←e]; exact h2⟩
  refine ⟨h1.size,h1.defers,h1.slots,Xd hs.wsize h1.wsize,fun b hb=>?_,fun g T cs hm=>?_,hs.nodup,fun f hf=>by rw [←e]; exact h1.facts f hf,hs.base,hs.obase,hs.ownO,h1.io.1.trans hs.io.1,h1.io.2.trans hs.io.2⟩
  · refine (h1.grow b ⟨qZv (hs.base b hb) hs.wsize,fun hm=>?_⟩).trans (hs.grow b hb)
    obtain ⟨⟨g,T,cs⟩,hg,rfl⟩:=Ww.1 hm
    exact (hs.own g T cs (Y7.2 (.inr hg))).1 hb
  · obtain ⟨h3,h4,h5⟩:=hs.own g T cs hm
    rcases Y7.1 hm with hm | hm
    · refine ⟨h3,qZv h4 h1.wsize,(h1.grow g ⟨h4,fun hb=>?_⟩).trans h5⟩
      exact hnd.2.2 g (Ww.2 ⟨_,hm,rfl⟩) g hb rfl
    · exact ⟨h3,(h1.own g T cs hm).2.1,(h1.own g T cs hm).2.2⟩
def gOf:Value→Nat
  | .pointer (some p)=>p.block
  | _=>0
abbrev Ra:=List (Nat×Nat×List Value)
def T1 (As:Ra) (p:Nat→Bool) (v:Nat→Value):List Va:=(As.filter fun x=>p x.1).map fun x=>(gOf (v x.1),Tag.ty x.2.1,x.2.2)
def Ys:Ra→Nat→Option (Nat×List Value)
  | [],_=>none
  |
   x::As,i=>match Nat.beq x.1 i with
   | true=>some x.2
   | false=>Ys As i
theorem Gy:∀ {As:Ra} {i:Nat} (p:Nat→Bool) (v:Nat→Value) (u:Value),Ys As i=none→T1 As (fun j=>j == i || p j) (fun j=>if j=i then u else v j)=T1 As p v
  | [],_,_,_,_,_=>rfl
  |
   x::As,i,p,v,u,h=>by
   simp only [Ys] at h
   split at h
   · cases h
   · rename_i e
     have ih:=Gy (As:=As) p v u h
     have hne:x.1≠i:=qJi e
     unfold T1 at ih ⊢
     have e1:(x.1 == i || p x.1)=p x.1:=by simp [hne]
     cases hp:p x.1
     · rw [qXm (by simp [hne,hp]),qXm (by simp [hp]),ih]
     · rw [qXn (by simp [hp]),qXn (by simp [hp]),Ln,Ln,ih]
       simp only [hne,if_false]
theorem Qc9:∀ {As:Ra} {i T:Nat} {cs:List Value} (p:Nat→Bool) (v:Nat→Value) (g:Nat),(As.map (·.1)).Nodup→Ys As i=some (T,cs)→p i=false →
    (T1 As (fun j=>j == i || p j) (fun j=>if j=i then .pointer (some ⟨g,0,none⟩) else v j)).Perm ((g,Tag.ty T,cs)::T1 As p v)
  | [],_,_,_,_,_,_,_,h,_=>by cases h
  |
   x::As,i,T,cs,p,v,g,hn,h,hp=>by
   rw [Ln,qJp] at hn
   simp only [Ys] at h
   split at h
   · rename_i e
     have e:x.1=i:=Fj e
     injection h with h
     have hnone:Ys As i=none:=by
       have:∀ (As:Ra),i∉As.map (·.1)→Ys As i=none:=by
         intro As
         induction As with
         | nil=>intro _; rfl
         |
          cons y As ih =>
          intro hm
          simp only [Ln,Vw,not_or] at hm
          simp only [Ys]
          have:Nat.beq y.1 i=false:=by
            cases hb:Nat.beq y.1 i
            · rfl
            · exact absurd (Fj hb).symm hm.1
          rw [this]; exact ih hm.2
       exact this As (by rw [←e]; exact hn.1)
     have ih:=Gy (As:=As) p v (.pointer (some ⟨g,0,none⟩)) hnone
     unfold T1 at ih ⊢
     rw [qXn (by simp [e]),qXm (by rw [e,hp]; simp),Ln,ih]
     simp only [e,if_true,h,gOf]
     exact .refl _
   · rename_i e
     have hne:x.1≠i:=qJi e
     have ih:=Qc9 (As:=As) p v g hn.2 h hp
     unfold T1 at ih ⊢
     cases hpx:p x.1
     · rw [qXm (by simp [hne,hpx]),qXm (by simp [hpx])]; exact ih
     · rw [qXn (by simp [hpx]),qXn (by simp [hpx]),Ln,Ln]
       simp only [hne,if_false]
       exact (ih.cons _).trans (List.Perm.swap ..)
def AL (P:Program) (ops:Array Oper) (n:Nat) (o:Oper) (d T:Nat) (cs:List Value):Prop :=
  ∀ (K Ob:Nat→Prop) (w0 w:World) (a:Act) (Bs:List Va) (L':List (Nat×Value)) (Fs:List Fact),St K Ob w0 w a n L' Fs Bs →
    wpList P ops (fun e a' w'=>e=.normal∧∃ g,St K Ob w0 w' a' n ((d,.pointer (some ⟨g,0,none⟩))::L') Fs ((g,Tag.ty T,cs)::Bs)) [o] a w
theorem Vr {T:TypeId} {z:Value} (hz:∀ w,(zeroValue T).run P w=.ok z w) (hd:Nat.blt d n=true):AL P ops n { dst:=some d,op:=.alloc T,type:=ty,pos:=pos,after:=after,guard:=none } d T z.cells.toList :=
  fun K Ob w0 w a Bs L' Fs h=>Jl h hz hd fun g w' a' h'=>wpList_nil ⟨rfl,g,h'⟩
def DOp (P:Program) (ops:Array Oper) (n:Nat) (L:Sg) (B:List OB) (As:Ra) (i d:Nat) (u:AV) (dep:Sg) (o:Oper):Prop :=
  match Ys As i with
  | some (T,cs)=>AL P ops n o d T cs
  | none=>AP P ops n o d u (dep++L) B
def Qne (P:Program) (ops:Array Oper) (n:Nat) (L:Sg) (B:List OB) (As:Ra) (D:List Nat) (us:List AV):Nat→List (List (Nat×AV))→List Oper→Prop
  | i,dep::deps,o::os=>DOp P ops n L B As i (D.getD i 0) (us.getD i .un) dep o∧Qne P ops n L B As D us (i+1) deps os
  | _,_,_=>True
def dF (As:Ra) (i:Nat) (u:AV) (v:Value):Fact:=match Ys As i with
  | some _=>⟨fun _ _=>∃ g,v=.pointer (some ⟨g,0,none⟩),fun _ h=>h⟩
  | none=>Rw u v
def Oo (As:Ra):Nat→List AV→List (Value→Fact)
  | _,[]=>[]
  | i,u::us=>dF As i u::Oo As (i+1) us
theorem Qcd (As:Ra):∀ {us:List AV} {k i:Nat} {u:AV},us[i]? = some u→(Oo As k us)[i]? = some (dF As (k+i) u)
  | [],_,_,_,h=>by simp at h
  | x::us,k,0,u,h=>by simp at h; subst h; rfl
  |
   x::us,k,i+1,u,h=>by
   have:=Qcd As (us:=us) (k:=k+1) (i:=i) (by simpa using h)
   rw [show k+(i+1)=k+1+i from by omega]
   simpa [Oo] using this
def Ql1 (As:Ra):List (List LV)→(Nat→Nat)→Option (List OB)
  |
   [],_=>match As with
   | []=>some []
   | _=>none
  |
   zs::r,g=>match As with
   | []=>none
   |
    x::As=>match Ql1 As r g with
    | some B=>some (.blk (g x.1) x.2.1 zs::B)
    | none=>none
def Qk6:Ra→List (List LV)→Prop
  | [],[]=>True
  | x::As,zs::r=>zl.zls x.2.2=some zs∧Qk6 As r
  | _,_=>False
theorem Ik {w:World} {O:Nat→Prop} {g:Nat→Nat}:∀ {As:Ra} {zss:List (List LV)} {B1:List OB},Qk6 As zss→Ql1 As zss g=some B1→∀ {B:List OB} {Bs:List Va},BsRep w O B Bs→BsRep w O (B1++B) (As.map (fun x=>(g x.1,Tag.ty x.2.1,x.2.2))++Bs)
  | [],[],B1,_,h,B,Bs,hB=>by simp [Ql1] at h; subst h; exact hB
  |
   x::As,zs::r,B1,hz,h,B,Bs,hB=>by
   simp only [Ql1] at h
   split at h
   · rename_i q hq
     injection h with h; subst h
     exact ⟨[(g x.1,Tag.ty x.2.1,x.2.2)],_,rfl,⟨_,rfl,Qed hz.1⟩,Ik hz.2 hq hB⟩
   · cases h
  | [],_::_,_,h,_,_,_,_=>h.elim
  | _::_,[],_,h,_,_,_,_=>h.elim
def S7 (As:Ra) (g:Nat→Nat):Nat→List Nat→List AV→Sg→Option Sg
  | _,[],[],L=>some L
  |
   i,d::D,u::us,L=>match S7 As g (i+1) D us L with
   |
    some r=>match Ys As i with
    | some _=>some ((d,.one (.ow (g i) 0))::r)
    | none=>some ((d,u)::r)
   | none=>none
  | _,_,_,_=>none
theorem C1 {w:World} {O:Nat→Prop} {As:Ra} {g:Nat→Nat} {v:Nat→Value} {L:Sg} {L2:List (Nat×Value)} (hL:∀ t x,lk L t=some x→∃ y,Z0 L2 t=some y∧ARep w O y x):∀ {D:List Nat} {us:List AV} {i:Nat} {L3:Sg},S7 As g i D us L=some L3 →
    (∀ j,j<D.length→Ys As (i+j)=none→ARep w O (v (i+j)) (us.getD j .un))→(∀ j,j<D.length→(Ys As (i+j)).isSome=true→v (i+j)=.pointer (some ⟨g (i+j),0,none⟩)) →
    ∀ t x,lk L3 t=some x→∃ y,Z0 ((List.range' i D.length).map (fun j=>(D.getD (j-i) 0,v j))++L2) t=some y∧ARep w O y x
  | [],[],i,L3,h,_,_,t,x,hx=>by simp [S7] at h; subst h; simpa using hL t x hx
  |
   d::D,u::us,i,L3,h,h1,h2,t,x,hx=>by
   simp only [S7] at h
   split at h
   · rename_i r hr
     have ih:=C1 hL hr (fun j hj hf=>by
       have:=h1 (j+1) (by simp; omega) (by rw [show i+(j+1)=i+1+j from by omega]; exact hf)
       rw [show i+(j+1)=i+1+j from by omega] at this
       simpa using this) (fun j hj hf=>by
       have:=h2 (j+1) (by simp; omega) (by rw [show i+(j+1)=i+1+j from by omega]; exact hf)
       rwa [show i+(j+1)=i+1+j from by omega] at this)
     have hrange:(List.range' i (d::D).length).map (fun j=>((d::D).getD (j-i) 0,v j))=(d,v i)::(List.range' (i+1) D.length).map (fun j=>(D.getD (j-(i+1)) 0,v j)):=by
       rw [qXe,List.range'_succ,Ln,qJz]
       congr 1
       refine qJr fun j hj=>?_
       have:=List.mem_range'_1.1 hj
       rw [show j-i=(j-(i+1))+1 from by omega]
       simp
     rw [hrange]
     have key:∀ u',(ARep w O (v i) u')→lk ((d,u')::r) t=some x→∃ y,Z0 ((d,v i)::(List.range' (i+1) D.length).map (fun j=>(D.getD (j-(i+1)) 0,v j))++L2) t=some y∧ARep w O y x:=by
       intro u' hu hx
       simp only [lk] at hx
       simp only [Lm,Z0]
       cases e:Nat.beq t d <;> rw [e] at hx
       · exact ih t x hx
       · injection hx with hx; subst hx; exact ⟨_,rfl,hu⟩
     split at h
     · rename_i q hq
       injection h with h; subst h
       have:=h2 0 (by simp) (by rw [Mp,hq]; rfl)
       rw [Mp] at this
       exact key (.one (.ow (g i) 0)) this hx
     · rename_i hq
       injection h with h; subst h
       have:=h1 0 (by simp) (by rw [Mp]; exact hq)
       rw [Mp] at this
       exact key _ (by simpa using this) hx
   · cases h
  | [],_::_,_,_,h,_,_,_,_,_=>by simp [S7] at h
  | _::_,[],_,_,h,_,_,_,_,_=>by simp [S7] at h
theorem U3 {id:Nat} {l:List Oper} (hm:P.follows .mixedOrders=true) (m:Nat) (D:List Nat) (deps:List (List Nat)) (us:List AV) (As:Ra) (zss:List (List LV)) (hchk:K7 l m (D.map some) deps=true)
    (hDm:(Nat.beq D.length m && Nat.beq us.length m && deps.all fun js=>js.all fun j=>Nat.blt j m && (Ys As j).isNone)=true) (hAs:(As.all fun x=>Nat.blt x.1 m)=true) (hnd:(As.map (·.1)).Nodup) (hzl:Qk6 As zss) (hnone:(D.all fun t=>(lk L t).isNone)=true)
    (hops:Qne P l.toArray n L B As D us 0 (depsOf D us deps) (l.take m))
    (k:∀ g:Nat→Nat,∃ L2 B1,S7 As g 0 D us L=some L2∧Ql1 As zss g=some B1∧AW P l.toArray n (l.drop m) (fun L B=>Q .normal L B) L2 (B1++B)):AC P n (.region id l.toArray true) Q L B:=by
  rintro K Ob w0 w a ⟨L',Bs,h,hL,hB⟩
  simp only [qXp,C4] at hDm hnone hAs
  obtain ⟨⟨hD,hU⟩,hdl⟩:=hDm
  have hD:=Fj hD
  have hU:=Fj hU
  have hdl1:∀ js∈deps,∀ j∈js,j<m:=fun js hj j hjj=>by have:=(hdl js hj j hjj).1; rwa [Mo] at this
  have hdl2:∀ js∈deps,∀ j∈js,Ys As j=none:=fun js hj j hjj=>by have:=(hdl js hj j hjj).2; rwa [qXo] at this
  obtain ⟨L3,h1,h2,h3⟩:=only L hL
  have hst:St K Ob w0 w a n L3 [] Bs:={ h with slots:=fun t v hv=>h.slots t v (h2 t v hv) }
  have hst2:=hst.add (f:=SF L L3 B Bs [] []) ⟨h3,hB,trivial⟩
  have hc:=Hz hchk
  have hS:∀ i,(hi:i<m)→(Oo As 0 us).getD i U2=dF As i (us[i]'(by rw [hU]; exact hi)):=fun i hi=>by
    have:=Qcd As (us:=us) (k:=0) (i:=i) (Xx (by rw [hU]; exact hi))
    rw [V6,this,Vl]; rfl
  have hus:∀ i,(hi:i<m)→us.getD i .un=us[i]'(by rw [hU]; exact hi):=fun i hi=>by
    rw [V6,Xx (by rw [hU]; exact hi)]; rfl
  have hget:∀ (os:List Oper) (ds:List (List (Nat×AV))) (k:Nat),Qne P l.toArray n L B As D us k ds os→∀ (i:Nat) dep o,ds[i]? = some dep→os[i]? = some o→DOp P l.toArray n L B As (k+i) (D.getD (k+i) 0) (us.getD (k+i) .un) dep o:=by
    intro os
    induction os with
    | nil=>intro ds k _ i dep o _ ho; simp at ho
    |
     cons o os ih =>
     intro ds k hap i dep o' hd ho
     rcases ds with _ | ⟨dp,ds⟩
     · simp at hd
     · cases i with
       | zero=>simp at hd ho; subst hd ho; exact hap.1
       |
        succ i =>
        have:=ih ds (k+1) hap.2 i dep o' (by simpa using hd) (by simpa using ho)
        rw [show k+(i+1)=k+1+i from by omega]
        exact this
  have hdraw1:∀ (i:Nat) (dj:List Nat) (o:Oper),deps[i]? = some dj→l[i]? = some o→i<m→Qb6 P l.toArray K Ob w0 n L3 [SF L L3 B Bs [] []] (fun p v=>T1 As p v++Bs) (D.map some) (Oo As 0 us) i dj o:=by
    intro i dj o hd ho hi p hpi _ v Fx a' w' hs
    have hop:=hget (l.take m) _ 0 hops i _ o (Ul hd) (by rw [Ei,if_pos hi]; exact ho)
    rw [Vl] at hop
    have hjm:=hdl1 dj (Vo hd)
    have hjn:=hdl2 dj (Vo hd)
    rw [Ho D v dj fun j hj=>by rw [hD]; exact hjm j hj] at hs
    have hfacts:∀ j∈dj,ARep w' (Q3 Ob (T1 As p v++Bs)) (v j) (us.getD j .un):=fun j hj=>by
      have:=hs.facts ((Oo As 0 us).getD j U2 (v j)) (Y7.2 (.inl (Ww.2 ⟨j,hj,rfl⟩)))
      rw [hS j (hjm j hj)] at this
      unfold dF at this
      rw [hjn j hj] at this
      rw [hus j (hjm j hj)]
      exact this
    obtain ⟨h6,h7,_⟩:(SF L L3 B Bs [] []).holds w' (Q3 Ob (T1 As p v++Bs)):=hs.facts _ (Y7.2 (.inr (by simp)))
    have hdk:=Ud D i (by rw [hD]; exact hi)
    unfold DOp at hop
    cases hf:Ys As i with
    |
     none =>
     rw [hf] at hop
     have hw:=AP.frame hop K Ob w0 w' a' (T1 As p v) Bs _ _ hs (Ft h6 hfacts) h7
     refine Wt hs.defers (fun _ _ ⟨_,hh,_⟩=>hh.defers) hw fun a2 w2 hh=>?_
     obtain ⟨x,h8,h9⟩:=hh
     refine wpList_nil ⟨rfl,x,?_⟩
     simp only [Gy (As:=As) p v x hf]
     rw [if_pos hdk.2,hdk.1,hS i hi]
     rw [hus i hi] at h9
     refine h8.drawEnd (by simp [Z0]) ?_
     unfold dF; rw [hf]; exact h9
    |
     some q =>
     obtain ⟨T,cs⟩:=q
     rw [hf] at hop
     have hw:=hop K Ob w0 w' a' (T1 As p v++Bs) _ _ hs
     refine Wt hs.defers (fun _ _ ⟨_,hh⟩=>hh.defers) hw fun a2 w2 hh=>?_
     obtain ⟨g,h8⟩:=hh
     refine wpList_nil ⟨rfl,.pointer (some ⟨g,0,none⟩),?_⟩
     have hp:=Qc9 (As:=As) p v g hnd hf hpi
     rw [if_pos hdk.2,hdk.1,hS i hi]
     have h9:=h8.perm (Bs':=T1 As (fun j=>j == i || p j) (fun j=>if j=i then .pointer (some ⟨g,0,none⟩) else v j)++Bs) (hp.append_right Bs)
     refine h9.drawEnd (by simp [Z0]) ?_
     unfold dF; rw [hf]; exact ⟨g,rfl⟩
  have hdrawops:∀ (js:List (List Nat)) (os:List Oper) (k:Nat),(∀ i dj o,js[i]? = some dj→os[i]? = some o→Qb6 P l.toArray K Ob w0 n L3 [SF L L3 B Bs [] []] (fun p v=>T1 As p v++Bs) (D.map some) (Oo As 0 us) (k+i) dj o) →
      DrawOps P l.toArray K Ob w0 n L3 [SF L L3 B Bs [] []] (fun p v=>T1 As p v++Bs) (D.map some) (Oo As 0 us) k js os:=by
    intro js
    induction js with
    | nil=>intro os k _; cases os <;> trivial
    |
     cons dj js ih =>
     intro os k hall
     rcases os with _ | ⟨o,os⟩
     · trivial
     · refine ⟨by have:=hall 0 dj o rfl rfl; rwa [Mp] at this,ih os (k+1) fun i dj' o' hd ho=>?_⟩
       have:=hall (i+1) dj' o' (by simpa using hd) (by simpa using ho)
       rwa [show k+(i+1)=k+1+i from by omega] at this
  refine Qao hm m (D.map some) deps (Oo As 0 us) (fun p v=>T1 As p v++Bs) hchk hst2 (fun v=>by simp [T1]) ?_ (hdrawops deps l 0 fun i dj o hd ho=>by
    rw [Vl]
    exact hdraw1 i dj o hd ho (by have:=(Uy.1 hd).1; rw [hc.deplen] at this; exact this)) fun p hp v a' w' hs=>?_
  · rw [C4]
    intro j hj
    have hjm:j<m:=Tu.1 hj
    rw [(Ud D j (by rw [hD]; exact hjm)).1]
    have hmem:D.getD j 0∈D:=by rw [V6,Xx (by rw [hD]; exact hjm)]; exact qJa _
    have:=hnone _ hmem
    rw [qXo] at this
    rw [h1 _ this]; simp
  · rw [Ho D v _ fun j hj=>by rw [hD]; exact Tu.1 hj] at hs
    let g:Nat→Nat:=fun j=>gOf (v j)
    have hall:T1 As p v=As.map fun x=>(g x.1,Tag.ty x.2.1,x.2.2):=by
      unfold T1
      rw [qVt.2 fun x hx=>hp x.1 (by have:=hAs x hx; rwa [Mo] at this)]
    have hf1:∀ j,j<D.length→Ys As (0+j)=none→ARep w' (Q3 Ob (T1 As p v++Bs)) (v (0+j)) (us.getD j .un):=fun j hj hf=>by
      rw [Vl] at hf ⊢
      have hjm:j<m:=by omega
      have:=hs.facts ((Oo As 0 us).getD j U2 (v j)) (Y7.2 (.inl (Ww.2 ⟨j,Tu.2 hjm,rfl⟩)))
      rw [hS j hjm] at this
      unfold dF at this
      rw [hf] at this
      rw [hus j hjm]
      exact this
    have hf2:∀ j,j<D.length→(Ys As (0+j)).isSome=true→v (0+j)=.pointer (some ⟨g (0+j),0,none⟩):=fun j hj hf=>by
      rw [Vl] at hf ⊢
      have hjm:j<m:=by omega
      have:=hs.facts ((Oo As 0 us).getD j U2 (v j)) (Y7.2 (.inl (Ww.2 ⟨j,Tu.2 hjm,rfl⟩)))
      rw [hS j hjm] at this
      unfold dF at this
      cases hq:Ys As j with
      | none=>rw [hq] at hf; cases hf
      |
       some q =>
       rw [hq] at this
       obtain ⟨g',hg⟩:=this
       show v j=.pointer (some ⟨gOf (v j),0,none⟩)
       rw [hg]; rfl
    obtain ⟨h6,h7,_⟩:(SF L L3 B Bs [] []).holds w' (Q3 Ob (T1 As p v++Bs)):=hs.facts _ (Y7.2 (.inr (by simp)))
    obtain ⟨L2,B1,hk1,hk2,hk3⟩:=k g
    have hlk:=C1 h6 hk1 hf1 hf2
    have hr:List.range' 0 D.length=List.range m:=by rw [List.range_eq_range',hD]
    rw [hr] at hlk
    simp only [qYg] at hlk
    have hB2:=Ik (w:=w') (O:=Q3 Ob (T1 As p v++Bs)) hzl hk2 h7
    rw [←hall] at hB2
    exact hk3 K Ob w0 w' a' _ ⟨_,T1 As p v++Bs,hs.noFacts,hlk,hB2⟩ fun a2 w2 h=>h
theorem Ex {T E size len:Nat} {z:Value} {zs r:List LV} {ps:List (Nat×Operand)} {us:List (Nat×AV)} {ls:List (List LV)} (hu:∀ w,(underlying T).run P w=.ok (.slice E) w) (hs:∀ w,(Go.sizeOf E).run P w=.ok size w) (hz:∀ w,(zeroValue E).run P w=.ok z w)
    (hz1:zl z=some zs) (hz2:Nat.beq zs.length size=true) (hsz:Nat.blt 0 size=true) (hl:Nat.ble (len*size) 16777216=true) (hl0:Nat.blt 0 len=true) (hx:O4 L ps=some us) (hf:Mi (fun i=>some (i*size,size)) (zrep len zs) us=some r)
    (hc:R1 size len r=some ls) (hfr:M7 ls=true) (hd:Nat.blt d n=true) (k:∀ r,AW P ops n rest N ((d,.one (.orow r size 0 len))::L) (.row r E size ls::B)) :
    AW P ops n ({ dst:=some d,op:=.buildSlice T len ps.toArray,type:=ty,pos:=pos,after:=after,guard:=none }::rest) N L B:=by
  rintro K Ob w0 w a Q ⟨L',Bs,h,hL,hB⟩ hQ
  have hz2:=Fj hz2
  have hsz:0<size:=by rwa [Mo] at hsz
  have hl:=qXk hl
  have hl0:0<len:=by rwa [Mo] at hl0
  obtain ⟨vs,h1,h2,h3⟩:=Ax hL hx
  have hzr:=Lb (w:=w) (O:=Q3 Ob Bs) hz1
  have hzl:=hzr.len
  obtain ⟨cells,h4,h5⟩:=Sl (w:=w) (O:=Q3 Ob Bs) hf (Et hzr len) h2 h3
  have h6:=Bc h4
  obtain ⟨vss,rfl,h7,h8,h9⟩:=Ns h5 hc
  have hadd:=h.add (f:=⟨fun w O=>(∀ t x,lk L t=some x→∃ v,Z0 L' t=some v∧ARep w O v x)∧BsRep w O B Bs∧RReps w O vss ls,fun hle h=>⟨Fd hle h.1,h.2.1.keep hle,h.2.2.keep hle⟩⟩) ⟨hL,hB,h7⟩
  refine V3 hadd h1 (fun w=>Vd (size:=size) (zs:=z.cells.toList) hu hs hz (by simp) (by rw [hzl]; exact hz2) hsz hl hl0 h6 w) hd fun g w' a' h'=>?_
  obtain ⟨h10,h11,h12⟩:=h'.fact 0 rfl
  have hll:len≤16777216:=Xd (qYv len hsz) hl
  have h63:(2:Nat)^63=9223372036854775808:=by decide
  refine k (some (g,len)) _ _ _ _ _ _ (SA.of (Bo:=[_]) h'.noFacts (Gk h10 ?_) ?_ h11) hQ
  · exact ⟨by omega,0,rfl,fun _=>by simp⟩
  · exact ⟨hsz,h8,Pj hfr,vss,[],h12,by simp,by rw [qXg,Vf (sz:=size) (h12.all h8),h12.len,h9],by omega,by omega⟩
end Orr
namespace Orr
open Go
variable {P:Program} {n:Nat} {L:Sg} {B:List OB} {Q:Exit→Sg→List OB→Prop} {c:Code}
end Orr
namespace Orr
open Go
variable {P:Program} {ops:Array Oper} {n:Nat} {rest:List Oper} {N:Sg→List OB→Prop} {L:Sg} {B:List OB} {Q:Exit→Sg→List OB→Prop} {c:Code}
theorem SA.slotEq {K Ob:Nat→Prop} {w0 w:World} {a:Act} (h:SA K Ob w0 w a n L B) {t:Nat} {x y:AV} (ht:lk L t=some x) (he:x=y):SA K Ob w0 w a n ((t,y)::L) B:=by
  subst he
  obtain ⟨L',Bs,h1,h2,h3⟩:=h
  refine ⟨L',Bs,h1,fun s u hu=>?_,h3⟩
  simp only [lk] at hu
  cases e:Nat.beq s t <;> rw [e] at hu
  · exact h2 s u hu
  · injection hu with hu; subst hu; rw [Fj e]; exact h2 t _ ht
theorem Xs (t:Nat) {x y:AV} (ht:lk L t=some x) (he:x=y) (k:AW P ops n rest N ((t,y)::L) B):AW P ops n rest N L B:=fun _ _ _ _ _ _ hs hQ=>k _ _ _ _ _ _ (hs.slotEq ht he) hQ
end Orr

namespace Orr
open Go
variable {P:Program} {ops:Array Oper} {n:Nat} {rest:List Oper} {N:Sg→List OB→Prop} {L:Sg} {B:List OB} {d:Nat} {ty:TypeId} {pos:String} {after:Array Edge}
theorem Tk {t E len sz i:Nat} {kd:IntKind} {p:Int} (hu:∀ w,(underlying t).run P w=.ok (.array len E) w) (hs:∀ w,(Go.sizeOf E).run P w=.ok sz w) (hp:p=(i:Int)) (hi:i<len)
    (b o:Nat) (w:World):(Instr.indexAt t (.pointer (some ⟨b,o,none⟩)) (.int kd p)).run P w=.ok (.pointer (some ⟨b,o+i*sz,none⟩)) w:=by
  subst hp
  have h0:(0:Int)≤(i:Int)∧(i:Int)<(len:Int):=⟨by omega,by omega⟩
  simp [Instr.indexAt,asIntOf,hu,hs,Instr.sureAddr,h0,hi,Addr.add]
theorem Xa (i:Nat) {t E len sz g o:Nat} {x y:Operand} {kd:IntKind} {p:Int} (hu:∀ w,(underlying t).run P w=.ok (.array len E) w) (hs:∀ w,(Go.sizeOf E).run P w=.ok sz w)
    (hx:J3 L x=some (.one (.ow g o))) (hy:J3 L y=some (.one (.int kd p))) (hp:p=(i:Int)) (hi:i<len) (hd:Nat.blt d n=true) :
    AP P ops n { dst:=some d,op:=.indexAddr t x y,type:=ty,pos:=pos,after:=after,guard:=none } d (.one (.ow g (o+i*sz))) L B :=
  Rn hd fun K Ob w0 w a Bs L' Fs h hL hB=>by
    obtain ⟨v,hv,hr1⟩:=Zt hL hx
    obtain rfl:v=.pointer (some ⟨g,o,none⟩):=hr1
    obtain ⟨u,hu',hr2⟩:=Zt hL hy
    obtain rfl:=Xn hr2
    refine ⟨.pointer (some ⟨g,o+i*sz,none⟩),?_,rfl⟩
    simp only [execOp,h.ev hv,h.ev hu']
    rw [Sem.run_bind,Tk hu hs hp hi]
    rfl
theorem Vu (i:Nat) {t E len sz j szR o:Nat} {r:Option (Nat×Nat)} {x y:Operand} {kd:IntKind} {p:Int} (hu:∀ w,(underlying t).run P w=.ok (.array len E) w) (hs:∀ w,(Go.sizeOf E).run P w=.ok sz w)
    (hx:J3 L x=some (.one (.oel r szR j o))) (hy:J3 L y=some (.one (.int kd p))) (hp:p=(i:Int)) (hi:i<len) (hd:Nat.blt d n=true) :
    AP P ops n { dst:=some d,op:=.indexAddr t x y,type:=ty,pos:=pos,after:=after,guard:=none } d (.one (.oel r szR j (o+i*sz))) L B :=
  Rn hd fun K Ob w0 w a Bs L' Fs h hL hB=>by
    obtain ⟨v,hv,hr1⟩:=Zt hL hx
    obtain ⟨u,hu',hr2⟩:=Zt hL hy
    obtain rfl:=Xn hr2
    rcases r with _ | ⟨g,c⟩
    · exact hr1.elim
    · obtain rfl:v=.pointer (some ⟨g,j*szR+o,none⟩):=hr1
      refine ⟨.pointer (some ⟨g,j*szR+o+i*sz,none⟩),?_,by show _=_; rw [qYl]⟩
      simp only [execOp,h.ev hv,h.ev hu']
      rw [Sem.run_bind,Tk hu hs hp hi]
      rfl
theorem Zo (i:Nat) {t E len sz:Nat} {l r:List LV} {x y:Operand} {kd:IntKind} {p:Int} (hu:∀ w,(underlying t).run P w=.ok (.array len E) w) (hs:∀ w,(Go.sizeOf E).run P w=.ok sz w)
    (hx:J3 L x=some (.one (.sh l))) (hy:J3 L y=some (.one (.int kd p))) (hp:p=(i:Int)) (hi:i<len) (hr:Sh (i*sz) l=some r) (hd:Nat.blt d n=true) :
    AP P ops n { dst:=some d,op:=.indexAddr t x y,type:=ty,pos:=pos,after:=after,guard:=none } d (.one (.sh r)) L B :=
  Rn hd fun K Ob w0 w a Bs L' Fs h hL hB=>by
    obtain ⟨v,hv,hr1⟩:=Zt hL hx
    obtain ⟨u,hu',hr2⟩:=Zt hL hy
    obtain rfl:=Xn hr2
    obtain ⟨b,o,rfl,h2⟩:=Qkv (Qpb hr1) hr
    refine ⟨.pointer (some ⟨b,o+i*sz,none⟩),?_,h2⟩
    simp only [execOp,h.ev hv,h.ev hu']
    rw [Sem.run_bind,Tk hu hs hp hi]
    rfl
theorem Qlv {t E len sz i:Nat} {kd:IntKind} {p:Int} (hu:∀ w,(underlying t).run P w=.ok (.array len E) w) (hs:∀ w,(Go.sizeOf E).run P w=.ok sz w) (ht:∀ w,(isAgg E).run P w=.ok false w)
    (hp:p=(i:Int)) (hi:i<len) {vs:List Value} {v:Value} (hv:vs[i*sz]? = some v) (w:World):(Instr.index t (.agg vs.toArray) (.int kd p)).run P w=.ok v w:=by
  subst hp
  have h0:(0:Int)≤(i:Int)∧(i:Int)<(len:Int):=⟨by omega,by omega⟩
  simp [Instr.index,asIntOf,hu,hs,h0,hi,Go.part,ht,hv]
theorem By (i:Nat) {t E len sz:Nat} {x y:Operand} {kd:IntKind} {p:Int} {xs:List LV} {z:LV} (hu:∀ w,(underlying t).run P w=.ok (.array len E) w) (hs:∀ w,(Go.sizeOf E).run P w=.ok sz w) (ht:∀ w,(isAgg E).run P w=.ok false w)
    (hx:J3 L x=some (.agg xs)) (hy:J3 L y=some (.one (.int kd p))) (hp:p=(i:Int)) (hi:i<len) (hz:xs[i*sz]? = some z) (hd:Nat.blt d n=true) :
    AP P ops n { dst:=some d,op:=.index t x y,type:=ty,pos:=pos,after:=after,guard:=none } d (.one z) L B :=
  Rn hd fun K Ob w0 w a Bs L' Fs h hL hB=>by
    obtain ⟨v,hv,vs,rfl,hreps⟩:=Zt hL hx
    obtain ⟨u,hu',hr2⟩:=Zt hL hy
    obtain rfl:=Xn hr2
    obtain ⟨v,hv2,hr⟩:=hreps.get hz
    refine ⟨v,?_,hr⟩
    simp only [execOp,h.ev hv,h.ev hu']
    rw [Sem.run_bind,Qlv hu hs ht hp hi hv2]
    rfl
def Quk (l:List Int):List LV:=l.map (LV.int .i64)
theorem Qc3 {w:World} {O:Nat→Prop}:∀ {l:List Int} {vs:List Value},XReps w O vs (Quk l)→vs=l.map (Value.int .i64)
  | [],[],_=>rfl
  | [],_::_,h=>h.elim
  | _::_,[],h=>h.elim
  |
   x::l,v::vs,h=>by
   obtain ⟨h1,h2⟩:=h
   have e:v=.int .i64 x:=Xn (h:=show ARep w O v (.one (.int .i64 x)) from h1)
   rw [e,Qc3 h2]; rfl
theorem Qsr {t:TypeId} {a b:List Int} (hg:P.eqGuardType P.depth t=false) (he:∀ w,(Op.equal t (.agg (a.map (Value.int .i64)).toArray) (.agg (b.map (Value.int .i64)).toArray)).run P w=.ok (decide (a=b)) w)
    {ev:Operand→Value} {x y:Operand} {t':TypeId} (hx:ev x=.agg (a.map (Value.int .i64)).toArray) (hy:ev y=.agg (b.map (Value.int .i64)).toArray) (w:World) :
    (execOp ev { dst:=some d,op:=.binOp .eql t x y t',type:=ty,pos:=pos,after:=after,guard:=none }).run P w=.ok (.value (.bool (decide (a=b)))) w
    ∧ (execOp ev { dst:=some d,op:=.binOp .neq t x y t',type:=ty,pos:=pos,after:=after,guard:=none }).run P w=.ok (.value (.bool (!decide (a=b)))) w:=by
  constructor <;> simp [execOp,hx,hy,eqGuard,run_program,hg,Go.binOp,he]
theorem Qth {x y:Operand} {xs ys:List LV} (a b:List Int) {r:Bool} {t t':TypeId} (hg:P.eqGuardType P.depth t=false)
    (he:∀ w,(Op.equal t (.agg (a.map (Value.int .i64)).toArray) (.agg (b.map (Value.int .i64)).toArray)).run P w=.ok (decide (a=b)) w)
    (hx:J3 L x=some (.agg xs)) (hy:J3 L y=some (.agg ys)) (hxs:xs=Quk a) (hys:ys=Quk b) (hr:(!decide (a=b))=r) (hd:Nat.blt d n=true) :
    AP P ops n { dst:=some d,op:=.binOp .neq t x y t',type:=ty,pos:=pos,after:=after,guard:=none } d (.one (.bool r)) L B :=
  Rn hd fun K Ob w0 w aa Bs L' Fs h hL hB=>by
    subst hxs hys hr
    obtain ⟨v,hv,vs,rfl,h1⟩:=Zt hL hx
    obtain ⟨u,hu,us,rfl,h2⟩:=Zt hL hy
    obtain rfl:=Qc3 h1
    obtain rfl:=Qc3 h2
    exact ⟨.bool (!decide (a=b)),(Qsr hg he (h.ev hv) (h.ev hu) w).2,LRep.bool _⟩
def H3:LV→Option Bool
  | .nilp=>some true
  | .sh _=>some false
  | .ow _ _=>some false
  | .oel (some _) _ _ _=>some false
  | _=>none
theorem Qdh {w:World} {O:Nat→Prop} {v:Value} {x:LV} {b:Bool} (h:ARep w O v (.one x)) (hb:H3 x=some b):∃ p:Option Addr,v=.pointer p∧p.isNone=b:=by
  cases x <;> first | (simp [H3] at hb; done) | skip
  case nilp=>simp [H3] at hb; subst hb; cases (show LRep w O v .nilp from h); exact ⟨none,rfl,rfl⟩
  case sh l =>
    simp [H3] at hb; subst hb
    cases (show LRep w O v (.sh l) from h); exact ⟨_,rfl,rfl⟩
  case ow g o=>simp [H3] at hb; subst hb; exact ⟨_,h,rfl⟩
  case oel r sz i o =>
    rcases r with _ | ⟨g,c⟩
    · simp [H3] at hb
    · simp [H3] at hb; subst hb; exact ⟨_,h,rfl⟩
theorem Qbt {t E:TypeId} {p:Option Addr} (hu:∀ w,(underlying t).run P w=.ok (.pointer E) w) {ev:Operand→Value} {x y:Operand} {t':TypeId} (hx:ev x=.pointer p) (hy:ev y=.pointer none) (w:World) :
    (execOp ev { dst:=some d,op:=.binOp .eql t x y t',type:=ty,pos:=pos,after:=after,guard:=none }).run P w=.ok (.value (.bool p.isNone)) w
    ∧ (execOp ev { dst:=some d,op:=.binOp .neq t x y t',type:=ty,pos:=pos,after:=after,guard:=none }).run P w=.ok (.value (.bool (!p.isNone))) w:=by
  have he:(Op.equal t (.pointer p) (.pointer none)).run P w=.ok p.isNone w:=by
    have key:∀ d,(Op.equalIn (d+1) t (.pointer p) (.pointer none)).run P w=.ok p.isNone w:=fun d=>by cases p <;> simp [Op.equalIn,hu]
    exact key 9999
  constructor <;> simp [execOp,hx,hy,eqGuard,Go.binOp,he]
theorem Qrv {x y:Operand} {u:LV} {b r:Bool} {t t' E:TypeId} (hu:∀ w,(underlying t).run P w=.ok (.pointer E) w) (hx:J3 L x=some (.one u)) (hy:J3 L y=some (.one .nilp)) (hb:H3 u=some b) (hr:b=r) (hd:Nat.blt d n=true) :
    AP P ops n { dst:=some d,op:=.binOp .eql t x y t',type:=ty,pos:=pos,after:=after,guard:=none } d (.one (.bool r)) L B :=
  Rn hd fun K Ob w0 w aa Bs L' Fs h hL hB=>by
    subst hr
    obtain ⟨v,hv,h1⟩:=Zt hL hx
    obtain ⟨u',hu',h2⟩:=Zt hL hy
    obtain ⟨p,rfl,rfl⟩:=Qdh h1 hb
    obtain ⟨q,rfl,hq⟩:=Qdh h2 rfl
    obtain rfl:q=none:=by cases q <;> simp_all
    exact ⟨.bool p.isNone,(Qbt hu (h.ev hv) (h.ev hu') w).1,LRep.bool _⟩
theorem Qrx {x y:Operand} {u:LV} {b r:Bool} {t t' E:TypeId} (hu:∀ w,(underlying t).run P w=.ok (.pointer E) w) (hx:J3 L x=some (.one u)) (hy:J3 L y=some (.one .nilp)) (hb:H3 u=some b) (hr:(!b)=r) (hd:Nat.blt d n=true) :
    AP P ops n { dst:=some d,op:=.binOp .neq t x y t',type:=ty,pos:=pos,after:=after,guard:=none } d (.one (.bool r)) L B :=
  Rn hd fun K Ob w0 w aa Bs L' Fs h hL hB=>by
    subst hr
    obtain ⟨v,hv,h1⟩:=Zt hL hx
    obtain ⟨u',hu',h2⟩:=Zt hL hy
    obtain ⟨p,rfl,rfl⟩:=Qdh h1 hb
    obtain ⟨q,rfl,hq⟩:=Qdh h2 rfl
    obtain rfl:q=none:=by cases q <;> simp_all
    exact ⟨.bool (!p.isNone),(Qbt hu (h.ev hv) (h.ev hu') w).2,LRep.bool _⟩
end Orr

namespace Orr
open Go
variable {P:Program} {Q:Exit→Act→World→Prop}
variable {K Ob:Nat→Prop} {w0 w:World} {a:Act} {n:Nat} {L:List (Nat×Value)} {Fs:List Fact} {Bs:List Va}
def Hn (P:Program) (ops:Array Oper) (K Ob:Nat→Prop) (w0:World) (n:Nat) (L:List (Nat×Value)) (Fs:List Fact) (Inv:(Nat→Bool)→(Nat→Value)→World→List Va→Prop) (D:List (Option Nat)) (S:List (Value→Fact)) (i:Nat) (dep:List Nat) (o:Oper):Prop :=
  ∀ (p:Nat→Bool) (_:p i=false) (_:∀ j∈dep,p j=true) (v:Nat→Value) (Fx:List Fact) (a:Act) (w:World) (Bs:List Va),Inv p v w Bs→St K Ob w0 w a n (dL D v dep++L) (dep.map (fun j=>(S.getD j U2) (v j))++(Fs++Fx)) Bs →
    wpList P ops (fun e a' w'=>e=.normal∧∃ u Bs',Inv (fun j=>j == i || p j) (fun j=>if j=i then u else v j) w' Bs'∧St K Ob w0 w' a' n (if dE D i then [(dd D i,u)] else []) ((S.getD i U2) u::(Fs++Fx)) Bs') [o] a w
def DrawOpsW (P:Program) (ops:Array Oper) (K Ob:Nat→Prop) (w0:World) (n:Nat) (Lf:Nat→List (Nat×Value)) (Fs:List Fact) (Inv:(Nat→Bool)→(Nat→Value)→World→List Va→Prop) (D:List (Option Nat)) (S:List (Value→Fact)):Nat→List (List Nat)→List Oper→Prop
  | i,dep::deps,o::os=>Hn P ops K Ob w0 n (Lf i) Fs Inv D S i dep o∧DrawOpsW P ops K Ob w0 n Lf Fs Inv D S (i+1) deps os
  | _,_,_=>True
theorem DrawOpsW.get {ops:Array Oper} {Lf:Nat→List (Nat×Value)} {Inv:(Nat→Bool)→(Nat→Value)→World→List Va→Prop} {D:List (Option Nat)} {S:List (Value→Fact)}:∀ {k:Nat} {deps:List (List Nat)} {os:List Oper},DrawOpsW P ops K Ob w0 n Lf Fs Inv D S k deps os →
    ∀ (i:Nat) (dep:List Nat) (o:Oper),deps[i]? = some dep→os[i]? = some o→Hn P ops K Ob w0 n (Lf (k+i)) Fs Inv D S (k+i) dep o
  | k,[],os,_,i,dep,o,hd,_=>by simp at hd
  | k,d::deps,[],_,i,dep,o,_,ho=>by simp at ho
  |
   k,d::deps,p::os,h,i,dep,o,hd,ho=>by
   cases i with
   | zero=>simp at hd ho; subst hd; subst ho; exact h.1
   |
    succ i =>
    have:=DrawOpsW.get h.2 i dep o (by simpa using hd) (by simpa using ho)
    rw [show k+(i+1)=k+1+i from by omega]
    exact this
abbrev Np (P:Program) (ops:Array Oper) (K Ob:Nat→Prop) (w0:World) (n:Nat) (L:List (Nat×Value)) (Fs:List Fact) (Inv:(Nat→Bool)→(Nat→Value)→World→List Va→Prop) (D:List (Option Nat)) (S:List (Value→Fact)):Nat→List (List Nat)→List Oper→Prop:=DrawOpsW P ops K Ob w0 n (fun _=>L) Fs Inv D S
def Qqx (K Ob:Nat→Prop) (w0:World) (n:Nat) (L:List (Nat×Value)) (Fs:List Fact) (Inv:(Nat→Bool)→(Nat→Value)→World→List Va→Prop) (D:List (Option Nat)) (S:List (Value→Fact)) (ls:List Nat) (a:Act) (w:World):Prop :=
  ∃ (v:Nat→Value) (Bs:List Va),Inv (fun j=>decide (j∈ls)) v w Bs∧St K Ob w0 w a n (dL D v ls++L) (Fs++ls.map (fun j=>(S.getD j U2) (v j))) Bs
section
variable {l:List Oper} {m:Nat} {Lf:Nat→List (Nat×Value)} {Inv:(Nat→Bool)→(Nat→Value)→World→List Va→Prop} {D:List (Option Nat)} {S:List (Value→Fact)} {deps:List (List Nat)}
theorem Ql2 (hc:Chk l m D deps) (hL:∀ i,i<m→∀ j,j<m→dE D j=true→i∈Wa l j∨Z0 (Lf i) (dd D j)=none) (hLf:∀ i t v,Z0 (Lf i) t=some v→Z0 L t=some v) (hops:DrawOpsW P l.toArray K Ob w0 n Lf Fs Inv D S 0 deps l)
    {ls:List Nat} (hls:∀ j∈ls,j<m) {i:Nat} (hi:i<m) (hni:i∉ls) (hp:∀ j∈Wa l i,j∈ls) (hcl:∀ i∈ls,∀ j∈Wa l i,j∈ls) {a:Act} {w:World} (h:Qqx K Ob w0 n L Fs Inv D S ls a w)
    {N:Act→World→Prop} (hN:∀ a w,Qqx K Ob w0 n L Fs Inv D S (i::ls) a w→N a w):wpOp P l.toArray Q i N a w:=by
  obtain ⟨v,Bs,hinv,hst⟩:=h
  obtain ⟨o,ho,hd,hdep⟩:=hc.op i hi
  have hdepsi:deps[i]? = some (deps.getD i []):=by
    have:i<deps.length:=by rw [hc.deplen]; exact hi
    rw [V6,Xx this]; rfl
  have hinj:∀ ls':List Nat,(∀ j∈ls',j<m)→∀ x∈ls'.filter (dE D),∀ y∈ls'.filter (dE D),dd D x=dd D y→x=y:=fun ls' hl' x hx y hy e =>
    hc.inj x (hl' x (Xf hx).1) y (hl' y (Xf hy).1) (Xf hx).2 (Xf hy).2 e
  have hop:=hops.get i (deps.getD i []) o hdepsi ho
  rw [Vl] at hop
  have hdl:∀ j∈deps.getD i [],j∈ls:=fun j hj=>hp j (hdep j hj).1
  have hstart:St K Ob w0 w a n (dL D v (deps.getD i [])++Lf i) ((deps.getD i []).map (fun j=>(S.getD j U2) (v j))++(Fs++ls.map (fun j=>(S.getD j U2) (v j)))) Bs:=by
    refine { hst with slots:=fun t u hu=>?_,facts:=fun f hf=>?_ }
    · rcases Hc (D:=dd D) hu with ⟨j,hj,rfl⟩ | hu'
      · have hj':=Xf hj
        have hjls:=hdl j hj'.1
        have e1:=Wf (D:=dd D) (v:=v) (L:=Lf i) hj (hinj _ (fun x hx=>hls x (hdl x hx)))
        unfold dL at hu
        rw [e1] at hu; injection hu with hu; subst hu
        exact hst.slots _ _ (Wf (D:=dd D) (v:=v) (L:=L) (qJk.2 ⟨hjls,hj'.2⟩) (hinj _ hls))
      · refine hst.slots _ _ (Hb (D:=dd D) (fun x hx e=>?_) (hLf i _ _ hu'))
        rcases hL i hi x (hls x (Xf hx).1) (Xf hx).2 with h | this
        · exact hni (hcl x (Xf hx).1 i h)
        · rw [e,hu'] at this; cases this
    · rcases Y7.1 hf with hf | hf
      · obtain ⟨j,hj,rfl⟩:=Ww.1 hf
        exact hst.facts _ (Y7.2 (.inr (Ww.2 ⟨j,hdl j hj,rfl⟩)))
      · exact hst.facts _ hf
  have hwp:=hop (fun j=>decide (j∈ls)) (by simpa using hni) (fun j hj=>by simpa using hdl j hj) v (ls.map (fun j=>(S.getD j U2) (v j))) a w Bs hinv hstart
  have hBF:(fun j=>j == i || decide (j∈ls))=fun j=>decide (j∈i::ls):=by
    funext j; simp only [Vw]; by_cases e:j=i <;> simp [e]
  rw [hBF] at hwp
  -- what is known behind the operation
  have key:∀ a' w',(∃ x,a'=a.put o.dst x)→(∃ u Bs',Inv (fun j=>decide (j∈i::ls)) (fun j=>if j=i then u else v j) w' Bs'∧St K Ob w0 w' a' n (if dE D i then [(dd D i,u)] else []) ((S.getD i U2) u::(Fs++ls.map (fun j=>(S.getD j U2) (v j)))) Bs')→N a' w':=by
    intro a' w' ⟨x,hx⟩ ⟨u,Bs',hinv',hst'⟩
    refine hN a' w' ⟨fun j=>if j=i then u else v j,Bs',hinv',{ hst' with slots:=fun t y hy=>?_,facts:=fun f hf=>?_ }⟩
    · have hcongr:(ls.filter (dE D)).map (fun j=>(dd D j,if j=i then u else v j))=(ls.filter (dE D)).map (fun j=>(dd D j,v j)):=qJr fun j hj=>by
        have:j≠i:=fun e=>hni (e ▸ (Xf hj).1)
        simp [this]
      have hold:∀ {y},Z0 (dL D v ls++L) t=some y→(dE D i=true→t≠dd D i)→a'.tmps[t]? = some y:=fun {y} hy hne=>by
        have hsame:a'.tmps[t]? = a.tmps[t]? := by
          rw [hx,hd]
          cases e:D.getD i none with
          | none=>rfl
          |
           some d =>
           have h1:dE D i=true:=by unfold dE; rw [e]; rfl
           have h2:dd D i=d:=by unfold dd; rw [e]; rfl
           have:=hne h1
           rw [h2] at this
           simp only [Act.put]
           rw [Array.getElem?_setIfInBounds_ne (fun e=>this e.symm)]
        rw [hsame]
        exact hst.slots t y hy
      by_cases hE:dE D i=true
      · unfold dL at hy
        rw [qXn hE] at hy
        simp only [Ln,Lm,Z0,hcongr] at hy
        cases e:Nat.beq t (dd D i)
        · rw [e] at hy
          exact hold hy fun _=>qJi e
        · rw [e] at hy
          simp only [if_true] at hy
          injection hy with hy; subst hy
          have e':=Fj e
          subst e'
          refine hst'.slots _ _ ?_
          simp [Z0,hE]
      · unfold dL at hy
        rw [qXm hE,hcongr] at hy
        exact hold hy fun h=>absurd h hE
    · rcases Y7.1 hf with hf | hf
      · exact hst'.facts f (Ge _ (Y7.2 (.inl hf)))
      · rcases Ww.1 hf with ⟨j,hj,rfl⟩
        rcases Vw.1 hj with rfl | hj
        · simp only [if_true]
          exact hst'.facts _ (Fm ..)
        · have hne:j≠i:=fun e=>hni (e ▸ hj)
          simp only [hne,if_false]
          exact hst'.facts _ (Ge _ (Y7.2 (.inr (Ww.2 ⟨j,hj,rfl⟩))))
  unfold wpOp
  have hoa:l.toArray[i]? = some o:=by simpa using ho
  simp only [hoa]
  have hno:¬LetsOut (fun (e:Exit) (a':Act) (w':World)=>e=.normal∧∃ u Bs',Inv (fun j=>decide (j∈i::ls)) (fun j=>if j=i then u else v j) w' Bs'∧St K Ob w0 w' a' n (if dE D i then [(dd D i,u)] else []) ((S.getD i U2) u::(Fs++ls.map (fun j=>(S.getD j U2) (v j)))) Bs'):=by
    rintro ⟨_,_,h,_⟩; cases h
  by_cases hw:Region.wanted o (yielded l.toArray a.tmps)=true
  · rw [if_pos hw]
    simp only [wpList,hw,if_true] at hwp
    have hwp:=hwp.resolve_right (fun h=>hno h.2)
    refine .inl (Qec hst.defers (fun a' w' hk=>?_) (fun c a w h=>by cases h.1) hno hwp)
    obtain ⟨_,hk⟩:=hk
    exact ⟨by obtain ⟨u,_,_,hu⟩:=hk; exact hu.defers,fun hx=>key a' w' hx hk⟩
  · rw [if_neg hw]
    simp only [wpList,hw] at hwp
    exact key _ _ ⟨_,rfl⟩ hwp.2
theorem Qrc (hc:Chk l m D deps) (hL:∀ i,i<m→∀ j,j<m→dE D j=true→i∈Wa l j∨Z0 (Lf i) (dd D j)=none) (hLf:∀ i t v,Z0 (Lf i) t=some v→Z0 L t=some v) (hops:DrawOpsW P l.toArray K Ob w0 n Lf Fs Inv D S 0 deps l)
    (hfin:∀ (p:Nat→Bool),(∀ j,j<m→p j=true)→∀ (v:Nat→Value) a w Bs,Inv p v w Bs→St K Ob w0 w a n (dL D v (List.range m)++L) ((List.range m).map (fun j=>(S.getD j U2) (v j))++Fs) Bs→wpList P l.toArray Q (l.drop m) a w) :
    ∀ (fuel:Nat) (listed:Array Bool) (ls:List Nat) (a:Act) (w:World),listed.size=l.length→(∀ j,j<l.length→(listed.getD j true=true↔j∈ls))→(∀ j∈ls,j<m)→ls.Nodup→(∀ i∈ls,∀ j∈Wa l i,j∈ls) →
      l.length≤ls.length+fuel→Qqx K Ob w0 n L Fs Inv D S ls a w→wpAny P .any l.toArray Q fuel listed a w:=by
  have hall:∀ (ls:List Nat) (a:Act) (w:World),(∀ j∈ls,j<m)→(∀ j,j<m→j∈ls)→Qqx K Ob w0 n L Fs Inv D S ls a w→wpList P l.toArray Q (l.drop m) a w:=by
    intro ls a w hls hfull ⟨v,Bs,hinv,h⟩
    have hinj:∀ ls':List Nat,(∀ j∈ls',j<m)→∀ x∈ls'.filter (dE D),∀ y∈ls'.filter (dE D),dd D x=dd D y→x=y:=fun ls' hl' x hx y hy e =>
      hc.inj x (hl' x (Xf hx).1) y (hl' y (Xf hy).1) (Xf hx).2 (Xf hy).2 e
    refine hfin (fun j=>decide (j∈ls)) (fun j hj=>by simpa using hfull j hj) v a w Bs hinv { h with slots:=fun t u hu=>?_,facts:=fun f hf=>?_ }
    · by_cases hex:∃ j∈(List.range m).filter (dE D),dd D j=t
      · obtain ⟨j,hj,rfl⟩:=hex
        have hj':=Xf hj
        have hjm:j<m:=Tu.1 hj'.1
        have e1:=Wf (D:=dd D) (v:=v) (L:=L) hj (hinj _ (fun x hx=>Tu.1 hx))
        unfold dL at hu
        rw [e1] at hu; injection hu with hu; subst hu
        exact h.slots _ _ (Wf (D:=dd D) (v:=v) (L:=L) (qJk.2 ⟨hfull j hjm,hj'.2⟩) (hinj _ hls))
      · rcases Hc (D:=dd D) hu with h4 | hu'
        · exact absurd h4 hex
        · exact h.slots _ _ (Hb (D:=dd D) (fun x hx e=>hex ⟨x,qJk.2 ⟨Tu.2 (hls x (Xf hx).1),(Xf hx).2⟩,e⟩) hu')
    · rcases Y7.1 hf with hf | hf
      · obtain ⟨j,hj,rfl⟩:=Ww.1 hf
        exact h.facts _ (Y7.2 (.inr (Ww.2 ⟨j,hfull j (Tu.1 hj),rfl⟩)))
      · exact h.facts _ (Y7.2 (.inl hf))
  intro fuel
  induction fuel with
  |
   zero =>
   intro listed ls a w hs hlisted hls hn hcl hf h
   have h1:=Pv hn hls
   have h2:=hc.le
   have hfull:=Du hn hls (by omega)
   have hm:m=l.length:=by omega
   have hw:=hall ls a w hls hfull h
   rw [Ll (by omega)] at hw
   refine ⟨?_,hw⟩
   apply qYx.2
   intro j hj
   obtain ⟨h0,hjl,_⟩:=Vg hj
   have:=(hlisted j hjl).2 (hfull j (by omega))
   rw [h0] at this; cases this
  |
   succ fuel ih =>
   intro listed ls a w hs hlisted hls hn hcl hf h
   have hunl:∀ j,j<l.length→j∉ls→listed.getD j true=false:=fun j hj hno=>by
     cases e:listed.getD j true
     · rfl
     · exact absurd ((hlisted j hj).1 e) hno
   refine ⟨fun hnil=>?_,fun i hi=>?_⟩
   · -- nothing is ready: all has been done
     have hdone:∀ j,j<l.length→j∈ls:=by
       intro j
       induction j using Nat.strongRecOn with
       |
        _ j ihj =>
        intro hj
        apply Classical.byContradiction
        intro hno
        have:j∈Region.ready .any l.toArray listed:=Hf hj (hunl j hj hno) (fun x hx=>by
          have hxj:=hc.down j hj x hx
          rw [←Pm (by omega)]
          exact (hlisted x (by omega)).2 (ihj x hxj (by omega)))
        rw [hnil] at this; cases this
     have hm:l.length≤m:=by
       rcases Mq m l.length with hlt | hge
       · have:=hls m (hdone m hlt); omega
       · exact hge
     have hw:=hall ls a w hls (fun j hj=>hdone j (by have:=hc.le; omega)) h
     rw [Ll hm] at hw
     exact hw
   · obtain ⟨h0,hil,hp⟩:=Vg hi
     have hni:i∉ls:=fun hin=>by have:=(hlisted i hil).2 hin; rw [h0] at this; cases this
     have hpl:∀ j∈Wa l i,j∈ls:=fun j hj=>by
       have hji:=hc.down i hil j hj
       exact (hlisted j (by omega)).1 (by rw [Pm (by omega)]; exact hp j hj)
     by_cases him:i<m
     · refine Ql2 hc hL hLf hops hls him hni hpl hcl h fun a' w' h'=>?_
       refine ih _ (i::ls) a' w' (by simp [hs]) (fun x hx=>?_) (fun j hj=>?_) (qJp.2 ⟨hni,hn⟩) (fun x hx j hj=>?_) (by simp; omega) h'
       · by_cases hxi:i=x
         · subst hxi; simp [hs,hil]
         · rw [getD_set_ne true hxi,hlisted x hx]
           simp only [Vw]
           exact ⟨.inr,fun h=>h.resolve_left (fun e=>hxi e.symm)⟩
       · rcases Vw.1 hj with rfl | hj
         · exact him
         · exact hls j hj
       · rcases Vw.1 hx with rfl | hx
         · exact Ge _ (hpl j hj)
         · exact Ge _ (hcl x hx j hj)
     · have hmi:m≤i:=Nat.le_of_not_lt him
       have hin:∀ j,j<i→j∈ls:=fun j hj=>F9 (p:=fun x=>x∈ls) (fun x hx y hy=>hcl x hx y hy) (i+1) i hpl j (hc.late i hil hmi j hj)
       have him':i=m:=by
         rcases Mq m i with hlt | hge
         · have:=hls m (hin m hlt); omega
         · omega
       subst him'
       have hw:=hall ls a w hls hin h
       have hlate:=Qtg (P:=P) (Q:=Q) hc (fuel+1) i listed a w hs (fun j hj=>by
         rw [hlisted j hj]
         exact ⟨hls j,hin j⟩) (X2 _) (by
           have:=Pv hn hls
           omega) hw
       exact hlate.2 i hi
theorem Qnt {id:Nat} (hm:P.follows .mixedOrders=true) (m:Nat) (D:List (Option Nat)) (deps:List (List Nat)) (S:List (Value→Fact)) (Inv:(Nat→Bool)→(Nat→Value)→World→List Va→Prop) (hchk:K7 l m D deps=true) (h:St K Ob w0 w a n L Fs Bs) (hB:∀ w',w'.heap=w.heap→Inv (fun _=>false) (fun _=>undef) w' Bs)
    (hL:∀ i,i<m→∀ j,j<m→dE D j=true→i∈Wa l j∨Z0 (Lf i) (dd D j)=none) (hLf:∀ i t v,Z0 (Lf i) t=some v→Z0 L t=some v) (hops:DrawOpsW P l.toArray K Ob w0 n Lf Fs Inv D S 0 deps l)
    (hfin:∀ (p:Nat→Bool),(∀ j,j<m→p j=true)→∀ (v:Nat→Value) a w Bs,Inv p v w Bs→St K Ob w0 w a n (dL D v (List.range m)++L) ((List.range m).map (fun j=>(S.getD j U2) (v j))++Fs) Bs→wpList P l.toArray Q (l.drop m) a w) :
    (Code.region id l.toArray true).wp P Q a w:=by
  refine wp_region_any hm ?_
  refine Qrc (Hz hchk) hL hLf hops hfin l.toArray.size _ [] a _ (by simp) (fun j hj=>?_) (by simp) qVh (by simp) (by simp) ⟨fun _=>undef,Bs,hB _ rfl,?_⟩
  · have hj':j<(Array.replicate l.toArray.size false).size:=by simpa using hj
    simp [Array.getD,hj]
  · simpa [dL] using h.same (w':={ w with drawn:=w.drawn+1 }) rfl
end
theorem Qht {l:List Oper} {id:Nat} (hm:P.follows .mixedOrders=true) (m:Nat) (D:List (Option Nat)) (deps:List (List Nat)) (S:List (Value→Fact)) (Inv:(Nat→Bool)→(Nat→Value)→World→List Va→Prop) (hchk:K7 l m D deps=true) (h:St K Ob w0 w a n L Fs Bs) (hB:∀ w',w'.heap=w.heap→Inv (fun _=>false) (fun _=>undef) w' Bs)
    (hL:(List.range m).all (fun j => !(dE D j) || (Z0 L (dd D j)).isNone)=true) (hops:Np P l.toArray K Ob w0 n L Fs Inv D S 0 deps l)
    (hfin:∀ (p:Nat→Bool),(∀ j,j<m→p j=true)→∀ (v:Nat→Value) a w Bs,Inv p v w Bs→St K Ob w0 w a n (dL D v (List.range m)++L) ((List.range m).map (fun j=>(S.getD j U2) (v j))++Fs) Bs→wpList P l.toArray Q (l.drop m) a w) :
    (Code.region id l.toArray true).wp P Q a w :=
  Qnt (Lf:=fun _=>L) hm m D deps S Inv hchk h hB (fun i _ j hj hE=>.inr (by
    have:=C4.1 hL j (Tu.2 hj)
    simpa [hE] using this)) (fun _ _ _ h=>h) hops hfin
end Orr

namespace Orr
open Go
variable {P:Program} {ops:Array Oper} {n:Nat} {rest:List Oper} {N:Sg→List OB→Prop} {L:Sg} {B:List OB} {d:Nat} {ty:TypeId} {pos:String} {after:Array Edge}
def AM (P:Program) (ops:Array Oper) (n:Nat) (o:Oper) (d:Nat) (L:Sg) (B:List OB) (R:AV→List OB→Prop):Prop :=
  ∀ (K Ob:Nat→Prop) (w0 w:World) (a:Act) (Bs:List Va) (L':List (Nat×Value)) (Fs:List Fact),St K Ob w0 w a n L' Fs Bs→(∀ t x,lk L t=some x→∃ v,Z0 L' t=some v∧ARep w (Q3 Ob Bs) v x)→BsRep w (Q3 Ob Bs) B Bs →
    wpList P ops (fun e a' w'=>e=.normal∧∃ v Bs' u B1,R u B1∧St K Ob w0 w' a' n [(d,v)] Fs Bs'∧ARep w' (Q3 Ob Bs') v u∧BsRep w' (Q3 Ob Bs') B1 Bs') [o] a w
theorem Qem {w:World} {O:Nat→Prop}:∀ {Bin Br:List OB} {Bs:List Va},BsRep w O (Bin++Br) Bs→∃ Bi Bq,Bs=Bi++Bq∧BsRep w O Bin Bi∧BsRep w O Br Bq
  | [],Br,Bs,h=>⟨[],Bs,rfl,rfl,h⟩
  |
   b::Bin,Br,Bs,h=>by
   obtain ⟨Bo,Bs',rfl,h1,h2⟩:=h
   obtain ⟨Bi,Bq,rfl,h3,h4⟩:=Qem h2
   exact ⟨Bo++Bi,Bq,by simp,⟨Bo,Bi,rfl,h1,h3⟩,h4⟩
theorem Qjm {w:World} {O:Nat→Prop}:∀ {B1 B2:List OB} {b1 b2:List Va},BsRep w O B1 b1→BsRep w O B2 b2→BsRep w O (B1++B2) (b1++b2)
  | [],B2,b1,b2,h1,h2=>by rw [show b1=[] from h1]; exact h2
  |
   b::B1,B2,b1,b2,h1,h2=>by
   obtain ⟨Bo,Bs',rfl,h3,h4⟩:=h1
   exact ⟨Bo,Bs'++b2,by simp,h3,Qjm h4 h2⟩
theorem Km {o:Oper} {R:AV→List OB→Prop} (haw:∀ N:Sg→List OB→Prop,(∀ u B1,R u B1→N ((d,u)::L) B1)→AW P ops n [o] N L B):AM P ops n o d L B R:=by
  intro K Ob w0 w a Bs L' Fs h hL hB
  have h0:St (fun b=>b<w.heap.size∧b∉Bs.map (·.1)) Ob w w a n L' [] Bs :=
    { size:=h.size,defers:=h.defers,slots:=h.slots,wsize:=X2 _,grow:=fun _ _=>rfl,own:=fun g T cs hm=>⟨fun hk=>hk.2 (Ww.2 ⟨_,hm,rfl⟩),(h.own g T cs hm).2⟩,nodup:=h.nodup,
      facts:=fun f hf=>by simp at hf,base:=fun b hk=>hk.1,obase:=fun b hb=>qZv (h.obase b hb) h.wsize,ownO:=h.ownO,io:=⟨rfl,rfl⟩ }
  refine haw (fun L2 B2=>∃ u B1,R u B1∧L2=(d,u)::L∧B2=B1) (fun u B1 hR=>⟨u,B1,hR,rfl,rfl⟩) _ Ob w w a _ ⟨L',Bs,h0,hL,hB⟩ ?_
  rintro a' w' ⟨L2,B2,⟨L2',Bs2,h1,h2,h3⟩,u,B1,hR,rfl,rfl⟩
  obtain ⟨v,hv,hr⟩:=h2 d u (by simp [lk])
  have hle:Le w (Q3 Ob Bs) w' (Q3 Ob Bs2):=by
    refine ⟨h1.wsize,fun b hb hno=>h1.grow b ⟨hb,fun hm=>hno (.inr hm)⟩,fun b hb ho=>?_⟩
    rcases ho with ho | hm
    · exact .inl ho
    · by_cases hb2:b∈Bs.map (·.1)
      · exact .inr hb2
      · obtain ⟨⟨g,T,cs⟩,hg,rfl⟩:=Ww.1 hm
        exact absurd ⟨hb,hb2⟩ (h1.own g T cs hg).1
  have hnk:∀ b,K b→b<w.heap.size∧b∉Bs.map (·.1):=fun b hk=>⟨qZv (h.base b hk) h.wsize,fun hm=>by
    obtain ⟨⟨g,T,cs⟩,hg,rfl⟩:=Ww.1 hm
    exact (h.own g T cs hg).1 hk⟩
  refine ⟨rfl,v,Bs2,u,B2,hR,?_,hr,h3⟩
  exact { size:=h1.size,defers:=h1.defers,slots:=fun t x hx=>by
            simp only [Z0] at hx
            cases e:Nat.beq t d <;> rw [e] at hx
            · cases hx
            · injection hx with hx; subst hx; rw [Fj e]; exact h1.slots d v hv
          wsize:=Xd h.wsize h1.wsize,grow:=fun b hk=>(h1.grow b (hnk b hk)).trans (h.grow b hk),own:=fun g T cs hm=>⟨fun hk=>(h1.own g T cs hm).1 (hnk g hk),(h1.own g T cs hm).2⟩,
          nodup:=h1.nodup,facts:=fun f hf=>f.keep hle (h.facts f hf),base:=h.base,obase:=h.obase,ownO:=h1.ownO,io:=⟨h1.io.1.trans h.io.1,h1.io.2.trans h.io.2⟩ }
def Qqw (P:Program) (ops:Array Oper) (n:Nat) (L:Sg) (B:List OB) (R:AV→List OB→Prop) (c i d:Nat) (u:AV) (dep:Sg) (o:Oper):Prop :=
  match Nat.beq i c with
  | true=>AM P ops n o d (dep++L) B R
  | false=>AP P ops n o d u (dep++L) B
def Qt7 (P:Program) (ops:Array Oper) (n:Nat) (L:Sg) (B:List OB) (c i d:Nat) (u:AV) (dep:Sg) (o:Oper):Prop :=
  match Nat.beq i c with
  | true=>True
  | false=>AP P ops n o d u (dep++L) B
def MOps0 (P:Program) (ops:Array Oper) (n:Nat) (L:Sg) (B:List OB) (R:AV→List OB→Prop) (c:Nat) (D:List Nat) (us:List AV):Nat→List Sg→List Oper→Prop
  | i,dep::deps,o::os=>Qqw P ops n L B R c i (D.getD i 0) (us.getD i .un) dep o∧MOps0 P ops n L B R c D us (i+1) deps os
  | _,_,_=>True
def MOps1 (P:Program) (ops:Array Oper) (n:Nat) (L:Sg) (B:List OB) (c:Nat) (D:List Nat) (us:List AV):Nat→List Sg→List Oper→Prop
  | i,dep::deps,o::os=>Qt7 P ops n L B c i (D.getD i 0) (us.getD i .un) dep o∧MOps1 P ops n L B c D us (i+1) deps os
  | _,_,_=>True
theorem MOps0.get {R:AV→List OB→Prop} {c:Nat} {D:List Nat} {us:List AV}:∀ {os:List Oper} {ds:List Sg} {k:Nat},MOps0 P ops n L B R c D us k ds os→∀ (i:Nat) dep o,ds[i]? = some dep→os[i]? = some o→Qqw P ops n L B R c (k+i) (D.getD (k+i) 0) (us.getD (k+i) .un) dep o
  | [],_,_,_,i,_,_,_,ho=>by simp at ho
  | _::_,[],_,_,i,_,_,hd,_=>by simp at hd
  | o::os,dp::ds,k,h,0,dep,o',hd,ho=>by simp at hd ho; subst hd; subst ho; exact h.1
  |
   o::os,dp::ds,k,h,i+1,dep,o',hd,ho=>by
   have:=MOps0.get h.2 i dep o' (by simpa using hd) (by simpa using ho)
   rw [show k+(i+1)=k+1+i from by omega]
   exact this
theorem MOps1.get {c:Nat} {D:List Nat} {us:List AV}:∀ {os:List Oper} {ds:List Sg} {k:Nat},MOps1 P ops n L B c D us k ds os→∀ (i:Nat) dep o,ds[i]? = some dep→os[i]? = some o→Qt7 P ops n L B c (k+i) (D.getD (k+i) 0) (us.getD (k+i) .un) dep o
  | [],_,_,_,i,_,_,_,ho=>by simp at ho
  | _::_,[],_,_,i,_,_,hd,_=>by simp at hd
  | o::os,dp::ds,k,h,0,dep,o',hd,ho=>by simp at hd ho; subst hd; subst ho; exact h.1
  |
   o::os,dp::ds,k,h,i+1,dep,o',hd,ho=>by
   have:=MOps1.get h.2 i dep o' (by simpa using hd) (by simpa using ho)
   rw [show k+(i+1)=k+1+i from by omega]
   exact this
theorem Qds {w w':World} (h:w'.heap=w.heap) (O:Nat→Prop):Le w O w' O:=⟨Nat.le_of_eq (by rw [h]),fun _ _ _=>by rw [h],fun _ _ ho=>ho⟩
theorem Kl {id:Nat} {l:List Oper} {Q:Exit→Sg→List OB→Prop} (hm:P.follows .mixedOrders=true) (m:Nat) (D:List Nat) (deps:List (List Nat)) (us:List AV) (c:Nat) (R:AV→List OB→Prop) (hchk:K7 l m (D.map some) deps=true)
    (hDm:(Nat.beq D.length m && Nat.beq us.length m && Nat.blt c m && deps.all fun js=>js.all fun j=>Nat.blt j m && !(Nat.beq j c))=true) (hun:us[c]? = some .un) (hnone:(D.all fun t=>(lk L t).isNone)=true)
    (hops0:MOps0 P l.toArray n L B R c D us 0 (depsOf D us deps) (l.take m)) (hops1:∀ u B1,R u B1→MOps1 P l.toArray n L B1 c D us 0 (depsOf D us deps) (l.take m))
    (k:∀ u B1,R u B1→∃ L2,Lr D (us.set c u) L=some L2∧AW P l.toArray n (l.drop m) (fun L B=>Q .normal L B) L2 B1):AC P n (.region id l.toArray true) Q L B:=by
  rintro K Ob w0 w a ⟨L',Bs,h,hL,hB⟩
  simp only [qXp,C4] at hDm hnone
  obtain ⟨⟨⟨hD,hU⟩,hcm⟩,hdl⟩:=hDm
  have hD:=Fj hD
  have hU:=Fj hU
  have hcm:c<m:=by rwa [Mo] at hcm
  have hdl:∀ js∈deps,∀ j∈js,j<m:=fun js hj j hjj=>by have:=(hdl js hj j hjj).1; rwa [Mo] at this
  obtain ⟨L3,h1,h2,h3⟩:=only L hL
  have hst:St K Ob w0 w a n L3 [] Bs:={ h with slots:=fun t v hv=>h.slots t v (h2 t v hv) }
  have hst2:=hst.add (f:=SF L L3 [] [] [] []) ⟨h3,rfl,trivial⟩
  have hc:=Hz hchk
  let Inv:(Nat→Bool)→(Nat→Value)→World→List Va→Prop:=fun p v w Bs=>(p c=false∧BsRep w (Q3 Ob Bs) B Bs)∨(p c=true∧∃ u B1,R u B1∧ARep w (Q3 Ob Bs) (v c) u∧BsRep w (Q3 Ob Bs) B1 Bs)
  have hone:∀ (i:Nat) (dj:List Nat) (o:Oper),deps[i]? = some dj→l[i]? = some o→i<m→Hn P l.toArray K Ob w0 n L3 [SF L L3 [] [] [] []] Inv (D.map some) (us.map Rw) i dj o:=by
    intro i dj o hdj ho hi p hpi _ v Fx a' w' Bs hinv hs
    have hjm:=hdl dj (Vo hdj)
    rw [Ho D v dj fun j hj=>by rw [hD]; exact hjm j hj] at hs
    have hfacts:∀ j∈dj,ARep w' (Q3 Ob Bs) (v j) (us.getD j .un):=fun j hj=>by
      have:=hs.facts ((us.map Rw).getD j U2 (v j)) (Y7.2 (.inl (Ww.2 ⟨j,hj,rfl⟩)))
      rw [V6,S1,Xx (by rw [hU]; exact hjm j hj)] at this
      rw [V6,Xx (by rw [hU]; exact hjm j hj)]
      exact this
    obtain ⟨h6,_,_⟩:(SF L L3 [] [] [] []).holds w' (Q3 Ob Bs):=hs.facts _ (Y7.2 (.inr (by simp)))
    have hdk:=Ud D i (by rw [hD]; exact hi)
    have e5:(us.map Rw).getD i U2=Rw (us[i]'(by rw [hU]; exact hi)):=by
      rw [V6,S1,Xx (by rw [hU]; exact hi)]; rfl
    have e6:us.getD i .un=us[i]'(by rw [hU]; exact hi):=by
      rw [V6,Xx (by rw [hU]; exact hi)]; rfl
    have hdep:=Ul (D:=D) (us:=us) hdj
    have hl:(l.take m)[i]? = some o:=by rw [Ei,if_pos hi]; exact ho
    have plain:∀ (BX:List OB) (y:Value) (uy:AV),BsRep w' (Q3 Ob Bs) BX Bs→ARep w' (Q3 Ob Bs) y uy→AP P l.toArray n o (D.getD i 0) (us.getD i .un) (dj.map (fun j=>(D.getD j 0,us.getD j .un))++L) BX →
        (∀ (w2:World) (x:Value),BsRep w2 (Q3 Ob Bs) BX Bs→ARep w2 (Q3 Ob Bs) y uy→Inv (fun j=>j == i || p j) (fun j=>if j=i then x else v j) w2 Bs) →
        wpList P l.toArray (fun e a' w'=>e=.normal∧∃ u Bs',Inv (fun j=>j == i || p j) (fun j=>if j=i then u else v j) w' Bs'∧St K Ob w0 w' a' n (if dE (D.map some) i then [(dd (D.map some) i,u)] else []) (((us.map Rw).getD i U2) u::([SF L L3 [] [] [] []]++Fx)) Bs') [o] a' w':=by
      intro BX y uy hBX hy hap hinv2
      have hs2:=(hs.add (f:=Rw uy y) hy).add (f:=SF [] [] BX Bs [] []) ⟨fun t x (hh:none=some x)=>(nomatch hh),hBX,trivial⟩
      have hw:=hap K Ob w0 w' a' Bs _ _ hs2 (Ft h6 hfacts) hBX
      refine Wt hs.defers (fun _ _ ⟨_,hh,_⟩=>hh.defers) hw fun a2 w2 hh=>?_
      obtain ⟨x,h8,h9⟩:=hh
      obtain ⟨_,h10,_⟩:=h8.fact 0 rfl
      have h11:ARep w2 (Q3 Ob Bs) y uy:=h8.fact 1 rfl
      refine wpList_nil ⟨rfl,x,Bs,hinv2 w2 x h10 h11,?_⟩
      rw [if_pos hdk.2,hdk.1,e5]
      rw [e6] at h9
      have h8:St K Ob w0 w2 a2 n _ ((SF [] [] BX Bs [] []::Rw uy y::List.map (fun j=>(List.map Rw us).getD j U2 (v j)) dj)++([SF L L3 [] [] [] []]++Fx)) Bs:=h8
      exact h8.drawEnd (by simp [Z0]) h9
    cases hic:Nat.beq i c with
    |
     true =>
     have hic':=Fj hic
     subst hic'
     have hop:=hops0.get i _ o hdep hl
     rw [Vl] at hop
     unfold Qqw at hop
     rw [hic] at hop
     have hBX:BsRep w' (Q3 Ob Bs) B Bs:=by
       rcases hinv with ⟨_,hh⟩ | ⟨hh,_⟩
       · exact hh
       · rw [hpi] at hh; cases hh
     have hw:=hop K Ob w0 w' a' Bs _ _ hs (Ft h6 hfacts) hBX
     refine Wt hs.defers (fun _ _ ⟨_,_,_,_,_,hh,_⟩=>hh.defers) hw fun a2 w2 hh=>?_
     obtain ⟨x,Bs',u,B1,hR,h8,h9,h10⟩:=hh
     refine wpList_nil ⟨rfl,x,Bs',.inr ⟨by simp,u,B1,hR,by simpa using h9,h10⟩,?_⟩
     rw [if_pos hdk.2,hdk.1,e5]
     have e7:us[i]'(by rw [hU]; exact hi)=.un:=by
       have:=Xx (l:=us) (i:=i) (by rw [hU]; exact hi)
       rw [hun] at this; injection this with this; exact this.symm
     rw [e7]
     exact h8.drawEnd (f:=Rw .un x) (by simp [Z0]) trivial
    |
     false =>
     have hne:c≠i:=fun e=>by subst e; simp at hic
     have hpc:(c == i || p c)=p c:=by simp [hne]
     have hvc:∀ x:Value,(if c=i then x else v c)=v c:=fun x=>if_neg hne
     rcases hinv with ⟨hp,hh⟩ | ⟨hp,u1,B1,hR,hv1,hh⟩
     · have hop:=hops0.get i _ o hdep hl
       rw [Vl] at hop
       unfold Qqw at hop
       rw [hic] at hop
       exact plain B (.bool true) (.one (.bool true)) hh (LRep.bool _) hop fun w2 x h10 _=>.inl ⟨hpc.trans hp,h10⟩
     · have hop:=(hops1 u1 B1 hR).get i _ o hdep hl
       rw [Vl] at hop
       unfold Qt7 at hop
       rw [hic] at hop
       exact plain B1 (v c) u1 hh hv1 hop fun w2 x h10 h11=>.inr ⟨hpc.trans hp,u1,B1,hR,by show ARep _ _ (if c=i then x else v c) u1; rw [hvc x]; exact h11,h10⟩
  have hdrawops:∀ (js:List (List Nat)) (os:List Oper) (k:Nat),(∀ i dj o,js[i]? = some dj→os[i]? = some o→Hn P l.toArray K Ob w0 n L3 [SF L L3 [] [] [] []] Inv (D.map some) (us.map Rw) (k+i) dj o) →
      Np P l.toArray K Ob w0 n L3 [SF L L3 [] [] [] []] Inv (D.map some) (us.map Rw) k js os:=by
    intro js
    induction js with
    | nil=>intro os k _; cases os <;> trivial
    |
     cons dj js ih =>
     intro os k hall
     rcases os with _ | ⟨o,os⟩
     · trivial
     · refine ⟨by have:=hall 0 dj o rfl rfl; rwa [Mp] at this,ih os (k+1) fun i dj' o' hd ho=>?_⟩
       have:=hall (i+1) dj' o' (by simpa using hd) (by simpa using ho)
       rwa [show k+(i+1)=k+1+i from by omega] at this
  refine Qht hm m (D.map some) deps (us.map Rw) Inv hchk hst2 (fun w' hw'=>.inl ⟨rfl,hB.keep (Qds hw' _)⟩) ?_ (hdrawops deps l 0 fun i dj o hd ho=>by
    rw [Vl]
    exact hone i dj o hd ho (by have:=(Uy.1 hd).1; rw [hc.deplen] at this; exact this)) fun p hp v a' w' Bs hinv hs=>?_
  · rw [C4]
    intro j hj
    have hjm:j<m:=Tu.1 hj
    rw [(Ud D j (by rw [hD]; exact hjm)).1]
    have hmem:D.getD j 0∈D:=by rw [V6,Xx (by rw [hD]; exact hjm)]; exact qJa _
    have:=hnone _ hmem
    rw [qXo] at this
    rw [h1 _ this]; simp
  · rw [Ho D v _ fun j hj=>by rw [hD]; exact Tu.1 hj] at hs
    have hfacts:∀ j∈List.range m,ARep w' (Q3 Ob Bs) (v j) (us.getD j .un):=fun j hj=>by
      have hjm:=Tu.1 hj
      have:=hs.facts ((us.map Rw).getD j U2 (v j)) (Y7.2 (.inl (Ww.2 ⟨j,hj,rfl⟩)))
      rw [V6,S1,Xx (by rw [hU]; exact hjm)] at this
      rw [V6,Xx (by rw [hU]; exact hjm)]
      exact this
    obtain ⟨h6,_,_⟩:(SF L L3 [] [] [] []).holds w' (Q3 Ob Bs):=hs.facts _ (Y7.2 (.inr (by simp)))
    rcases hinv with ⟨hh,_⟩ | ⟨_,u1,B1,hR,hv1,hB1⟩
    · rw [hp c hcm] at hh; cases hh
    · obtain ⟨L2,hz,k⟩:=k u1 B1 hR
      obtain ⟨_,rfl⟩:=Cj hz
      have hU2:(us.set c u1).length=m:=by rw [H6]; exact hU
      have hzip:D.zip (us.set c u1)=(List.range m).map fun j=>(D.getD j 0,(us.set c u1).getD j .un):=by
        apply qVm
        · simp [hD,hU]
        · intro i h1 h2
          simp at h1 h2
          have e1:D[i]? = some D[i]:=Xx (by omega)
          have e2:(us.set c u1)[i]? = some ((us.set c u1)[i]'(by omega)):=Xx (by omega)
          rw [List.getElem_zip,List.getElem_map,List.getElem_range,V6,V6,e1,e2]; rfl
      rw [hzip] at k
      have hfacts2:∀ j∈List.range m,ARep w' (Q3 Ob Bs) (v j) ((us.set c u1).getD j .un):=fun j hj=>by
        have hjm:=Tu.1 hj
        by_cases hjc:c=j
        · subst hjc
          rw [V6,qXr (by omega)]; exact hv1
        · have:=hfacts j hj
          rw [V6] at this ⊢
          rwa [qJf hjc]
      exact k K Ob w0 w' a' _ ⟨_,Bs,hs.noFacts,Ft h6 hfacts2,hB1⟩ fun a2 w2 h=>h
end Orr

namespace Orr
open Go
variable {P:Program} {ops:Array Oper} {n:Nat} {rest:List Oper} {N:Sg→List OB→Prop} {L:Sg} {B:List OB} {d:Nat} {ty:TypeId} {pos:String} {after:Array Edge}
def Qt8 (w:World) (x:Value) (size m:Nat) (news:List Value):Prop :=
  news.length=m*size∧∃ A M c,x=.slice A M c∧(0<m→∃ b o,A=some ⟨b,o,none⟩∧∀ (j:Nat) (v:Value),news[j]? = some v→w.cell? ⟨b,o+j,none⟩=some v)
theorem Lp {size m:Nat} {x:Value} {news:List Value} {w:World} (h:Qt8 w x size m news):(Builtin.firstCells size m x).run P w=.ok news.toArray w:=by
  obtain ⟨hl,A,M,c,rfl,hA⟩:=h
  have:=Vh (P:=P) (w:=w) (x:=.slice A m c) ⟨hl,A,c,rfl,hA⟩
  cases A <;> exact this
theorem Qpv {Q:Exit→Act→World→Prop} {K Ob:Nat→Prop} {w0 w:World} {a:Act} {L:List (Nat×Value)} {Fs:List Fact} {Bs:List Va} {x y:Operand} {g o m c m' k' sz T T' E:Nat} {v:Value} {cs zs:List Value} {ats:Array TypeId} (h:St K Ob w0 w a n L Fs Bs) (i:Nat) (hi:Bs[i]? = some (g,Tag.ty T',cs)) (hx:ev L x=some (.slice (some ⟨g,o,none⟩) m c)) (hy:ev L y=some v)
    (hu:∀ w,(underlying T).run P w=.ok (.slice E) w) (hs:∀ w,(Go.sizeOf E).run P w=.ok sz w) (hat:ats[0]? = some T) (hlen:∀ w,(Builtin.lenOf v).run P w=.ok k' w) (hm':Nat.min k' m=m')
    (hsrc:Qt8 w v sz m' zs) (hl:zs=[]∨o+zs.length≤cs.length) (h1:∀ u∈zs,one u=true) (hd:Nat.blt d n=true)
    (k:∀ w' a',St K Ob w0 w' a' n ((d,.int .i64 (m':Int))::L) Fs (Bs.set i (g,T',upd cs o zs))→wpList P ops Q rest a' w') :
    wpList P ops Q ({ dst:=some d,op:=.call { callee:=.builtin .copy,args := #[x,y],argTypes:=ats },type:=ty,pos:=pos,after:=after,guard:=none }::rest) a w:=by
  have hst:∃ w',(storeCells ⟨g,o,none⟩ zs 0).run P w=.ok () w'∧St K Ob w0 w' a n L Fs (Bs.set i (g,T',upd cs o zs)):=by
    rcases hl with rfl | hl
    · have e:upd cs o []=cs:=by cases cs <;> simp [upd]
      have hset:Bs.set i (g,T',cs)=Bs:=by
        obtain ⟨hlt,e⟩:=Uy.1 hi
        rw [←e]; exact List.set_getElem_self hlt
      exact ⟨w,by simp [Go.storeCells],by rw [e,hset]; exact h⟩
    · exact St.storeCells (P:=P) zs cs o 0 w Bs i h hi (by omega) h1
  obtain ⟨w',hr,hw⟩:=hst
  refine Yl (w':=w') (v:=.int .i64 (m':Int)) rfl ?_ (k _ _ (hw.put _ hd))
  have hf:=Lp (P:=P) hsrc
  simp only [execOp,resolve,invoke,builtin,Builtin.copy_,Sem.run_bind,Sem.run_pure,Result.andThen_ok]
  simp [h.ev hx,h.ev hy,hat,hu,hs,hlen,hm',hf,hr,goInt,Sem.run_bind]
theorem Hk:∀ (pre post:List Value) (k:Nat) (ys:List Value),k+ys.length≤pre.length→upd (pre++post) k ys=upd pre k ys++post
  | [],post,k,[],_=>by cases post <;> simp [upd]
  | [],post,k,y::ys,hk=>by simp at hk
  | p::pre,post,k,[],_=>by simp [upd]
  | p::pre,post,0,y::ys,hk=>by simp only [Lm,upd]; rw [Hk pre post 0 ys (by simp at hk ⊢; omega)]
  | p::pre,post,k+1,y::ys,hk=>by simp only [Lm,upd]; rw [Hk pre post k (y::ys) (by simp at hk ⊢; omega)]
theorem Qk3:∀ (xs ys:List Value),xs.length=ys.length→upd xs 0 ys=ys
  | [],[],_=>rfl
  | x::xs,y::ys,h=>by simp only [upd]; rw [Qk3 xs ys (by simpa using h)]
  | [],_::_,h=>by simp at h
  | _::_,[],h=>by simp at h
theorem RReps.drop {w:World} {O:Nat→Prop}:∀ {vss:List (List Value)} {ls:List (List LV)} (k:Nat),RReps w O vss ls→RReps w O (vss.drop k) (ls.drop k):=fun k h=>by
  refine RReps.of (by simp [h.len]) fun j v x hv hx=>?_
  rw [qXj] at hv hx
  exact h.get' hv hx
theorem RReps.take {w:World} {O:Nat→Prop}:∀ {vss:List (List Value)} {ls:List (List LV)} (k:Nat),RReps w O vss ls→RReps w O (vss.take k) (ls.take k):=fun k h=>by
  refine RReps.of (by simp [h.len]) fun j v x hv hx=>?_
  rw [Ei] at hv hx
  split at hv
  · rename_i hlt
    rw [if_pos hlt] at hx
    exact h.get' hv hx
  · cases hv
theorem RReps.app {w:World} {O:Nat→Prop}:∀ {vss uss:List (List Value)} {ls ms:List (List LV)},RReps w O vss ls→RReps w O uss ms→RReps w O (vss++uss) (ls++ms):=fun {vss uss ls ms} h h'=>by
  refine RReps.of (by simp [h.len,h'.len]) fun j v x hv hx=>?_
  have hl:=h.len
  rw [List.getElem?_append] at hv hx
  split at hv
  · rename_i hlt
    rw [if_pos (by omega)] at hx
    exact h.get' hv hx
  · rename_i hlt
    rw [if_neg (by omega)] at hx
    rw [←hl] at hx
    exact h'.get' hv hx
theorem Qji (j:Nat) {T E sz lo1 len1 lo2 len2 m':Nat} {x y:Operand} {r:Option (Nat×Nat)} {ls ls2:List (List LV)} {ats:Array TypeId} {B':List OB} (hu:∀ w,(underlying T).run P w=.ok (.slice E) w) (hs:∀ w,(Go.sizeOf E).run P w=.ok sz w) (hat:ats[0]? = some T)
    (hi:Jr B j=some (.row r E sz ls,B')) (hx:J3 L x=some (.one (.orow r sz lo1 len1))) (hy:J3 L y=some (.one (.orow r sz lo2 len2))) (h1:lo1+len1≤ls.length) (h2:lo2+len2≤ls.length) (h0:0<ls.length) (hm':Nat.min len2 len1=m')
    (hls:ls.take lo1++(ls.drop lo2).take m'++ls.drop (lo1+m')=ls2) (hd:Nat.blt d n=true)
    (k:AW P ops n rest N ((d,.one (.int .i64 (m':Int)))::L) (.row r E sz ls2::B')) :
    AW P ops n ({ dst:=some d,op:=.call { callee:=.builtin .copy,args := #[x,y],argTypes:=ats },type:=ty,pos:=pos,after:=after,guard:=none }::rest) N L B:=by
  intro K Ob w0 w a Q hs0 hQ
  subst hls
  obtain ⟨L',Bo,Bs,h,hL,hob,hB⟩:=hs0.front hi
  obtain ⟨v,hv,hr1⟩:=Zt hL hx
  obtain ⟨v2,hv2,hr2⟩:=Zt hL hy
  rcases r with _ | ⟨g,c⟩
  · obtain ⟨_,e,_⟩:=hob; subst e; simp at h0
  · obtain ⟨ho1,a1,rfl,ha1⟩:=hr1
    obtain ⟨ho2,a2,rfl,ha2⟩:=hr2
    obtain ⟨hsz,hw,hfr,vss,ex,h4,rfl,h5,h6,h7⟩:=hob
    have hall:=h4.all hw
    have hvl:vss.length=ls.length:=h4.len
    have hm1:m'≤len1:=by subst hm'; exact Nat.min_le_right _ _
    have hm2:m'≤len2:=by subst hm'; exact Nat.min_le_left _ _
    let zs:=((vss.drop lo2).take m').flatten
    have hzl:zs.length=m'*sz:=by
      show ((vss.drop lo2).take m').flatten.length=_
      rw [Vf (sz:=sz) fun c hc=>hall c (Pr (Rx hc)),Kd,Na,Nb (by omega)]
    have htk:∀ q,q≤vss.length→(vss.take q).flatten.length=q*sz:=fun q hq=>by
      rw [Vf (sz:=sz) fun c hc=>hall c (Rx hc),Kd,Nb hq]
    have hsp:∀ q,q+m'≤vss.length→vss.flatten=(vss.take q).flatten++(((vss.drop q).take m').flatten++(vss.drop (q+m')).flatten):=fun q hq=>by
      rw [←qJc,←qJc]
      congr 1
      rw [←List.drop_drop,Iy,Iy]
    have hadd:=h.add (f:=⟨fun w O=>(∀ t x,lk L t=some x→∃ v,Z0 L' t=some v∧ARep w O v x)∧BsRep w O B' Bs∧RReps w O vss ls,fun hle h=>⟨Fd hle h.1,h.2.1.keep hle,h.2.2.keep hle⟩⟩) ⟨hL,hB,h4⟩
    have hsrc:Qt8 w (.slice (some ⟨g,a2,none⟩) len2 (c-lo2)) sz m' zs:=by
      refine ⟨hzl,_,_,_,rfl,fun hpos=>⟨g,a2,rfl,fun q u hq=>?_⟩⟩
      have ha:a2=lo2*sz:=ha2 (.inr (by omega))
      subst ha
      rw [h.own_cell (i:=0) rfl]
      have hql:=(Uy.1 hq).1
      rw [hsp lo2 (by omega),P6,qXh (by rw [htk lo2 (by omega)]; omega),htk lo2 (by omega),qJo,P6,qZy hql]
      exact hq
    have hone:∀ u∈zs,one u=true:=fun u hu=>by
      obtain ⟨vs,hvs,huv⟩:=List.mem_flatten.1 hu
      have hvs:=Pr (Rx hvs)
      obtain ⟨q,hq⟩:=qZr.1 hvs
      have hql:q<ls.length:=by rw [←hvl]; exact (Uy.1 hq).1
      exact (h4.get' hq (Xx hql)).one u huv
    refine Qpv hadd 0 rfl hv hv2 hu hs hat (fun _=>rfl) hm' hsrc ?_ hone hd fun w' a' h'=>?_
    · rcases Hl m' with h00 | hpos
      · left; exact P5 (by rw [hzl,h00]; simp)
      · right
        have ha:a1=lo1*sz:=ha1 (.inr (by omega))
        have:=O8 sz (show lo1+m'≤c by omega)
        rw [qJx] at this
        omega
    · have h':St K Ob w0 w' a' n _ _ ((g,E,upd (vss.flatten++ex) a1 zs)::Bs):=h'
      have h'':St K Ob w0 w' a' n ((d,.int .i64 (m':Int))::L') [] ((g,E,upd (vss.flatten++ex) a1 zs)::Bs):=h'.noFacts
      obtain ⟨h8,h9,h10⟩:=h'.fact 0 rfl
      have e:upd (vss.flatten++ex) a1 zs=(vss.take lo1++(vss.drop lo2).take m'++vss.drop (lo1+m')).flatten++ex:=by
        rcases Hl m' with h00 | hpos
        · have:zs=[]:=P5 (by rw [hzl,h00]; simp)
          rw [this,h00]
          have e:upd (vss.flatten++ex) a1 []=vss.flatten++ex:=by cases vss.flatten++ex <;> simp [upd]
          rw [e]; simp
        · have ha:a1=lo1*sz:=ha1 (.inr (by omega))
          subst ha
          rw [hsp lo1 (by omega),P6,←htk lo1 (by omega),show ∀ q,upd q (vss.take lo1).flatten.length zs=upd q ((vss.take lo1).flatten.length+0) zs from fun _=>rfl,F2,P6,Hk _ _ _ _ (by
            rw [hzl,Vf (sz:=sz) fun c hc=>hall c (Pr (Rx hc)),Kd,Na,Nb (by omega)]; omega),Qk3 _ _ (by
            rw [hzl,Vf (sz:=sz) fun c hc=>hall c (Pr (Rx hc)),Kd,Na,Nb (by omega)])]
          simp [zs,qJc,P6]
      have hlen3:(upd (vss.flatten++ex) a1 zs).length=c*sz:=by rw [If]; exact h5
      rw [e] at hlen3 h'' h8 h9 h10
      have hmem:∀ cc∈ls.take lo1++(ls.drop lo2).take m'++ls.drop (lo1+m'),cc∈ls:=fun cc hc=>by
        rcases Y7.1 hc with hc | hc
        · rcases Y7.1 hc with hc | hc
          · exact Rx hc
          · exact Pr (Rx hc)
        · exact Pr hc
      refine k _ _ _ _ _ _ (SA.of (Bo:=[_]) h'' (Gk h8 (LRep.int _ _)) ?_ h9) hQ
      exact ⟨hsz,fun cc hc=>hw cc (hmem cc hc),fun cc hc=>hfr cc (hmem cc hc),vss.take lo1++(vss.drop lo2).take m'++vss.drop (lo1+m'),ex,((h10.take _).app ((h10.drop _).take _)).app (h10.drop _),rfl,hlen3,by simp; omega,h7⟩
end Orr
namespace Orr
open Go
variable {P:Program} {n:Nat} {L:Sg} {B:List OB}
end Orr

namespace Orr
open Go
section
variable {P:Program} {ops:Array Oper} {Q:Exit→Act→World→Prop}
variable {K Ob:Nat→Prop} {w0 w:World} {a:Act} {n:Nat} {L:List (Nat×Value)} {Fs:List Fact} {Bs:List Va} {rest:List Oper}
variable {d:Nat} {ty:TypeId} {pos:String} {after:Array Edge}
theorem I5 {T E:TypeId} {m:Nat} {zs:List Value} {z:Value} {info:TypeInfo} (w:World)
    (hu:∀ w,(underlying T).run P w=.ok (.slice E) w) (hi:∀ w,(typeInfo E).run P w=.ok info w) (hb:Nat.ble info.bytes 256=true) (hs:∀ w,(Go.sizeOf E).run P w=.ok zs.length w)
    (hz:∀ w,(zeroValue E).run P w=.ok z w) (hz1:z.cells=zs.toArray) (hz0:0<zs.length) (hm:m<2^38) :
    (Instr.makeSlice T (.int .i64 0) (.int .i64 (m:Int))).run P w=.ok (.slice (some ⟨w.heap.size,0,none⟩) 0 m) (w.alloc (.cells (Up m zs).toArray E)):=by
  have h38:(2:Nat)^38=274877906944:=by decide
  have hw:=Ol m (by
   have:(2:Nat)^40=1099511627776:=by decide
   omega)
  have hb':info.bytes≤256:=qXk hb
  have hle:m*info.bytes≤274877906944*256:=qJd (by omega) hb'
  have e1:¬((m:Int)<0):=by omega
  have e:(info.bytes:Int)*(m:Int)=((m*info.bytes:Nat):Int):=by push_cast; exact Int.mul_comm _ _
  have e2:¬((info.bytes:Int)*(m:Int)>2^48):=by
    rw [e]
    have:(2:Int)^48=281474976710656:=by decide
    omega
  have e3:¬(m*info.bytes>roomBytes):=by
    unfold roomBytes
    have:(2:Nat)^47=140737488355328:=by decide
    omega
  have hw0:IntKind.i64.wrap 0=0:=by decide
  unfold Instr.makeSlice
  simp only [hu,hi,hs,asInt,asIntOf,Sem.run_bind,Sem.run_pure,Result.andThen_ok,hw,hw0,Int.toNat_natCast,Int.toNat_zero,e1,e2,decide_false,Bool.or_false,Int.lt_irrefl,gt_iff_lt,qXd,if_false,askRoom,e3]
  rcases Hl m with h0 | h0
  · subst h0
    simp only [qYr,if_true,Sem.run_pure,Result.andThen_ok,newRow,Sem.run_bind,V1,Up]
    have h0:∀ f:Nat→Value,Array.map f (Array.range 0) = #[]:=fun f=>by apply Array.ext <;> simp
    rw [h0]
  · have hne:¬(m*zs.length=0):=by
      have:=qVr h0 hz0; omega
    simp only [hne,if_false,Sem.run_bind,Sem.run_pure,Result.andThen_ok,hz,newRow,V1,hz1]
    have:=Tg m zs hz0
    simp only [List.size_toArray]
    rw [this]
theorem Qpy {T E:TypeId} {x y:Operand} {m:Nat} {zs:List Value} {z:Value} {info:TypeInfo} (h:St K Ob w0 w a n L Fs Bs) (hx:ev L x=some (.int .i64 0)) (hy:ev L y=some (.int .i64 (m:Int)))
    (hu:∀ w,(underlying T).run P w=.ok (.slice E) w) (hi:∀ w,(typeInfo E).run P w=.ok info w) (hb:Nat.ble info.bytes 256=true) (hs:∀ w,(Go.sizeOf E).run P w=.ok zs.length w)
    (hz:∀ w,(zeroValue E).run P w=.ok z w) (hz1:z.cells=zs.toArray) (hz0:Nat.blt 0 zs.length=true) (hm:m<2^38) (hd:Nat.blt d n=true)
    (k:∀ g w' a',St K Ob w0 w' a' n ((d,.slice (some ⟨g,0,none⟩) 0 m)::L) Fs ((g,E,Up m zs)::Bs)→wpList P ops Q rest a' w') :
    wpList P ops Q ({ dst:=some d,op:=.makeSlice T x y,type:=ty,pos:=pos,after:=after,guard:=none }::rest) a w :=
  Yl (w':=w.alloc (.cells (Up m zs).toArray E)) (v:=.slice (some ⟨w.heap.size,0,none⟩) 0 m) rfl
    (by
      simp only [execOp,h.ev hx,h.ev hy,Sem.run_bind]
      rw [I5 w hu hi hb hs hz hz1 (by rwa [Mo] at hz0) hm]
      rfl)
    (k _ _ _ ((h.alloc E (Up m zs)).put _ hd))
end
section
variable {P:Program} {ops:Array Oper} {n:Nat} {rest:List Oper} {N:Sg→List OB→Prop} {L:Sg} {B:List OB}
variable {d:Nat} {ty:TypeId} {pos:String} {after:Array Edge}
theorem Qqz (m:Nat) {T E sz:Nat} {x y:Operand} {p q:Int} {zs:List LV} {z:Value} {info:TypeInfo} (hu:∀ w,(underlying T).run P w=.ok (.slice E) w) (hi:∀ w,(typeInfo E).run P w=.ok info w) (hb:Nat.ble info.bytes 256=true) (hs:∀ w,(Go.sizeOf E).run P w=.ok sz w)
    (hz:∀ w,(zeroValue E).run P w=.ok z w) (hz1:zl z=some zs) (hz2:Nat.beq zs.length sz=true) (hz0:Nat.blt 0 sz=true) (hfr:G9 zs=true) (hx:J3 L x=some (.one (.int .i64 p))) (hy:J3 L y=some (.one (.int .i64 q))) (hp:p=0) (hq:q=(m:Int)) (hm:m<274877906944) (hd:Nat.blt d n=true)
    (k:∀ r,AW P ops n rest N ((d,.one (.orow r sz 0 0))::L) (.row r E sz []::B)) :
    AW P ops n ({ dst:=some d,op:=.makeSlice T x y,type:=ty,pos:=pos,after:=after,guard:=none }::rest) N L B:=by
  rintro K Ob w0 w a Q ⟨L',Bs,h,hL,hB⟩ hQ
  subst hp hq
  have e38:(2:Nat)^38=274877906944:=by decide
  have e63:(2:Nat)^63=9223372036854775808:=by decide
  obtain ⟨v,hv,hr⟩:=Zt hL hx
  obtain rfl:=Xn hr
  obtain ⟨v2,hv2,hr2⟩:=Zt hL hy
  obtain rfl:=Xn hr2
  have hz2:=Fj hz2
  have hzr:=Lb (w:=w) (O:=Q3 Ob Bs) hz1
  have hzl:=hzr.len
  have hzs:z.cells.toList.length=sz:=by omega
  have hz0':0<sz:=by rwa [Mo] at hz0
  have h2:=h.add (f:=SF L L' B Bs z.cells.toList zs) ⟨hL,hB,hzr⟩
  refine Qpy (zs:=z.cells.toList) h2 hv hv2 hu hi hb (by rw [hzs]; exact hs) hz (by simp) (by rw [hzs]; exact hz0) (by omega) hd fun g w' a' h'=>?_
  obtain ⟨h3,h4,h5⟩:=h'.fact 0 rfl
  refine k (some (g,m)) _ _ _ _ _ _ (SA.of (Bo:=[_]) h'.noFacts (Gk h3 ?_) ?_ h4) hQ
  · exact ⟨K6 _,0,rfl,fun _=>by simp⟩
  · refine ⟨hz0',by simp,by simp,[],Up m z.cells.toList,RReps.of rfl fun j v x hv _=>by simp at hv,by simp,?_,K6 _,by omega⟩
    rw [List.flatten_nil,qVv,Qbn,Vf (sz:=sz) (fun c hc=>by rw [qZx hc]; exact hzs)]; simp
end
end Orr

namespace Orr
open Go Go.Proofs
theorem Qp:Go.Proofs.Tryz.prog.follows .mixedOrders=true:=rfl
def Qv4:Array Value := #[.slice none 0 0,.slice none 0 0,.bool false,.slice none 0 0,.int .i64 0,.slice none 0 0,.slice none 0 0,.bool false,.slice none 0 0,.int .i64 0]
theorem Qb9 {vs:List (Nat×Value)} {cs:Array Value} (hf:Instr.fill (fun i=>some (i*5,5)) Qv4 vs=some cs) (w:World):(Instr.build 198 vs.toArray).run Tryz.prog w=.ok (.agg cs) w:=Mw Tryz.runUnderlying198 Tryz.zeroValue198 Tryz.sizeOf76 hf w
def Qv5:Array Value := #[.slice none 0 0,.slice none 0 0,.slice none 0 0,.slice none 0 0,.bool false,.slice none 0 0,.int .i64 0,.slice none 0 0,.slice none 0 0,.slice none 0 0,.slice none 0 0,.bool false,.slice none 0 0,.int .i64 0]
theorem Qca {vs:List (Nat×Value)} {cs:Array Value} (hf:Instr.fill (fun i=>some (i*7,7)) Qv5 vs=some cs) (w:World):(Instr.build 230 vs.toArray).run Tryz.prog w=.ok (.agg cs) w:=Mw Tryz.runUnderlying230 Tryz.zeroValue230 Tryz.sizeOf100 hf w
def Qzf:Array Value := #[.bool false,.slice none 0 0]
theorem Qte {vs:List (Nat×Value)} {cs:Array Value} (hf:Instr.fill (Qot [(0,1),(1,1)]) Qzf vs=some cs) (w:World):(Instr.build 55 vs.toArray).run Tryz.prog w=.ok (.agg cs) w:=Cl (sizes:=[1,1]) Tryz.runUnderlying55 Tryz.zeroValue55 ⟨Tryz.sizeOf4,Tryz.sizeOf53,trivial⟩ (hf:_) w
def Qzg:Array Value := #[.slice none 0 0,.slice none 0 0,.bool false,.slice none 0 0,.int .i64 0]
theorem Qw7 {vs:List (Nat×Value)} {cs:Array Value} (hf:Instr.fill (Qot [(0,4),(4,1)]) Qzg vs=some cs) (w:World):(Instr.build 76 vs.toArray).run Tryz.prog w=.ok (.agg cs) w:=Cl (sizes:=[4,1]) Tryz.runUnderlying76 Tryz.zeroValue76 ⟨Tryz.sizeOf74,Tryz.sizeOf3,trivial⟩ (hf:_) w
theorem Qfg (b o:Nat) (w:World):(Instr.fieldAt 122 (.pointer (some ⟨b,o,none⟩)) 0).run Tryz.prog w=.ok (.pointer (some ⟨b,o+0,none⟩)) w:=Yd (T:=104) (off:=0) Tryz.runUnderlying122 rfl Tryz.sizeOf104 (by decide) b o w
theorem Qfh (b o:Nat) (w:World):(Instr.fieldAt 122 (.pointer (some ⟨b,o,none⟩)) 1).run Tryz.prog w=.ok (.pointer (some ⟨b,o+12,none⟩)) w:=Yd (T:=106) (off:=12) Tryz.runUnderlying122 rfl Tryz.sizeOf106 (by decide) b o w
theorem Ba (b o:Nat) (w:World):(Instr.fieldAt 122 (.pointer (some ⟨b,o,none⟩)) 3).run Tryz.prog w=.ok (.pointer (some ⟨b,o+14,none⟩)) w:=Yd (T:=120) (off:=14) Tryz.runUnderlying122 rfl Tryz.sizeOf120 (by decide) b o w
theorem Qjv (b o:Nat) (w:World):(Instr.fieldAt 34 (.pointer (some ⟨b,o,none⟩)) 0).run Tryz.prog w=.ok (.pointer (some ⟨b,o+0,none⟩)) w:=Yd (T:=32) (off:=0) Tryz.runUnderlying34 rfl Tryz.sizeOf32 (by decide) b o w
theorem Jn (b o:Nat) (w:World):(Instr.fieldAt 55 (.pointer (some ⟨b,o,none⟩)) 0).run Tryz.prog w=.ok (.pointer (some ⟨b,o+0,none⟩)) w:=Yd (T:=4) (off:=0) Tryz.runUnderlying55 rfl Tryz.sizeOf4 (by decide) b o w
theorem Ja (b o:Nat) (w:World):(Instr.fieldAt 55 (.pointer (some ⟨b,o,none⟩)) 1).run Tryz.prog w=.ok (.pointer (some ⟨b,o+1,none⟩)) w:=Yd (T:=53) (off:=1) Tryz.runUnderlying55 rfl Tryz.sizeOf53 (by decide) b o w
theorem Lz (b o:Nat) (w:World):(Instr.fieldAt 74 (.pointer (some ⟨b,o,none⟩)) 0).run Tryz.prog w=.ok (.pointer (some ⟨b,o+0,none⟩)) w:=Yd (T:=52) (off:=0) Tryz.runUnderlying74 rfl Tryz.sizeOf52 (by decide) b o w
theorem L4 (b o:Nat) (w:World):(Instr.fieldAt 74 (.pointer (some ⟨b,o,none⟩)) 1).run Tryz.prog w=.ok (.pointer (some ⟨b,o+1,none⟩)) w:=Yd (T:=52) (off:=1) Tryz.runUnderlying74 rfl Tryz.sizeOf52 (by decide) b o w
theorem L5 (b o:Nat) (w:World):(Instr.fieldAt 74 (.pointer (some ⟨b,o,none⟩)) 2).run Tryz.prog w=.ok (.pointer (some ⟨b,o+2,none⟩)) w:=Yd (T:=55) (off:=2) Tryz.runUnderlying74 rfl Tryz.sizeOf55 (by decide) b o w
theorem Qrf (b o:Nat) (w:World):(Instr.fieldAt 76 (.pointer (some ⟨b,o,none⟩)) 0).run Tryz.prog w=.ok (.pointer (some ⟨b,o+0,none⟩)) w:=Yd (T:=74) (off:=0) Tryz.runUnderlying76 rfl Tryz.sizeOf74 (by decide) b o w
theorem Bb (b o:Nat) (w:World):(Instr.fieldAt 76 (.pointer (some ⟨b,o,none⟩)) 1).run Tryz.prog w=.ok (.pointer (some ⟨b,o+4,none⟩)) w:=Yd (T:=3) (off:=4) Tryz.runUnderlying76 rfl Tryz.sizeOf3 (by decide) b o w
abbrev Jc := @Tryz.runUnderlying53
abbrev Ji := @Tryz.runUnderlying30
abbrev Jy := @Tryz.runUnderlying28
abbrev Xw := @Tryz.sizeOf3
abbrev V0 := @Tryz.runUnderlying22
abbrev Yf := @Tryz.sizeOf55
abbrev Y4 := @Tryz.sizeOf276
abbrev Wr := @Tryz.runUnderlying52
abbrev Uo := @Tryz.runUnderlying276
abbrev Ue := @Tryz.runUnderlying24
abbrev Ko := @Tryz.zeroValue55
abbrev Fy := @Tryz.runUnderlying317
abbrev Wb := @Tryz.sizeOf76
abbrev Uf := @Tryz.sizeOf100
abbrev Ua := @Tryz.sizeOf34
abbrev Pq := @Tryz.runUnderlying42
abbrev Tz := @Tryz.zeroValue34
abbrev D4 := @Tryz.runUnderlying29
abbrev H9 := @Tryz.isAgg55
abbrev Iw := @Tryz.runUnderlying114
abbrev Ee := @Tryz.runUnderlying38
abbrev B5 := @Tryz.zeroValue32
abbrev Sz := @Tryz.isAgg276
abbrev qWa := @Tryz.runUnderlying123
abbrev qWb := @Tryz.runUnderlying48
abbrev qWc := @Tryz.runUnderlying172
abbrev S0 := @Tryz.isAgg3
abbrev Nn := @Tryz.isAgg53
abbrev Mn := @Tryz.isAgg4
abbrev Ef := @Tryz.sizeOf28
abbrev qWh := @Tryz.zeroValue100
abbrev Eg := @Tryz.func309
abbrev qWj := @Tryz.runUnderlying3
abbrev qWk := @Tryz.runUnderlying51
abbrev qWl := @Tryz.zeroValue276
abbrev qWm := @Tryz.sizeOf123
abbrev qWn := @Tryz.runUnderlying120
abbrev qWo := @Tryz.sizeOf47
abbrev qWp := @Tryz.sizeOf59
abbrev qWq := @Tryz.typeInfo55
abbrev qWr := @Tryz.zeroValue3
abbrev qWs := @Tryz.func228
abbrev qWt := @Tryz.func249
abbrev qWu := @Tryz.zeroValue76
abbrev qWv := @Tryz.func104
abbrev qWw := @Tryz.zeroValue74
abbrev qWx := @Tryz.isAgg59
abbrev qWy := @Tryz.sizeOf166
abbrev qWz := @Tryz.typeInfo3
abbrev qUa := @Tryz.isAgg100
abbrev qUb := @Tryz.sizeOf52
abbrev qUc := @Tryz.typeInfo34
abbrev qUd := @Tryz.func189
abbrev qUe := @Tryz.underlying4
abbrev qUf := @Tryz.zeroValue47
abbrev qUg := @Tryz.runUnderlying102
abbrev qUh := @Tryz.zeroValue230
abbrev qUi := @Tryz.sizeOf230
abbrev qUj := @Tryz.typeInfo276
abbrev qUk := @Tryz.func103
abbrev qUl := @Tryz.func251
abbrev qUm := @Tryz.func252
abbrev qUn := @Tryz.isAgg52
abbrev qUo := @Tryz.isAgg76
abbrev qUp := @Tryz.zeroValue166
abbrev qUq := @Tryz.zeroValue198
abbrev qUr := @Tryz.runUnderlying5
abbrev qUs := @Tryz.func178
abbrev qUt := @Tryz.isAgg34
abbrev qUu := @Tryz.zeroValue57
abbrev qUv := @Tryz.runUnderlying23
abbrev qUw := @Tryz.zeroValue196
abbrev qUx := @Tryz.func176
abbrev qUy := @Tryz.sizeOf198
abbrev qUz := @Tryz.func175
abbrev qFa := @Tryz.func179
abbrev qFb := @Tryz.func265
abbrev qFc := @Tryz.zeroValue106
abbrev qFd := @Tryz.zeroValue28
abbrev qFe := @Tryz.zeroValue59
abbrev qFf := @Tryz.func140
abbrev qFg := @Tryz.func169
abbrev qFh := @Tryz.func266
abbrev qFi := @Tryz.isAgg28
abbrev qFj := @Tryz.sizeOf32
abbrev qFk := @Tryz.sizeOf106
abbrev qFl := @Tryz.sizeOf196
abbrev qFm := @Tryz.func177
abbrev qFn := @Tryz.func191
abbrev qFo := @Tryz.func215
abbrev qFp := @Tryz.func267
abbrev qFq := @Tryz.func279
abbrev qFr := @Tryz.isAgg32
abbrev qFs := @Tryz.sizeOf4
abbrev qFt := @Tryz.typeInfo230
abbrev qFu := @Tryz.underlying3
abbrev qFv := @Tryz.isAgg106
abbrev qFw := @Tryz.sizeOf36
abbrev qFx := @Tryz.sizeOf44
abbrev qFy := @Tryz.func19
abbrev qFz := @Tryz.underlying74
abbrev qGa := @Tryz.func139
abbrev qGb := @Tryz.func155
abbrev qGc := @Tryz.func264
abbrev qGd := @Tryz.func310
abbrev qGe := @Tryz.isAgg36
abbrev qGf := @Tryz.isAgg44
abbrev qGg := @Tryz.runUnderlying198
abbrev qGh := @Tryz.runUnderlying362
abbrev qGi := @Tryz.sizeOf120
abbrev qGj := @Tryz.isAgg120
abbrev qGk := @Tryz.runUnderlying9
abbrev qGl := @Tryz.results318
abbrev qGm := @Tryz.func107
abbrev qGn := @Tryz.func130
abbrev qGo := @Tryz.func186
abbrev qGp := @Tryz.func193
abbrev qGq := @Tryz.func194
abbrev qGr := @Tryz.func205
abbrev qGs := @Tryz.func260
abbrev qGt := @Tryz.sizeOf104
end Orr

namespace Orr
open Go Go.Proofs
end Orr
