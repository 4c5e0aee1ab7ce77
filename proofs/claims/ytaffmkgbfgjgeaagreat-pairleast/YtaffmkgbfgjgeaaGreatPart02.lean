/- Av6 Av7 Av8 DrawM Av9 AvCopy AvMake0 Types TypesA -/
import Derived.Test.YtaffmkgbfgjgeaaGreatPart01
import Derived.Test.YtaffmkgbfgjgeaaGreatPart00
import Derived.DeepKeys
import Derived.LoopN
import Derived.Test.YtaffmkgbfgjgeaaGreatProg
set_option linter.all false

namespace Orr
open Go
variable {P:Program}
def Kb (x:Nat):List Nat:=if h:x=0 then [] else (x % 4294967296)::Kb (x / 4294967296)
termination_by x
decreasing_by omega
theorem U0:Kb 0=[]:=by unfold Kb; simp
theorem Pv {x:Nat} (h:x≠0):Kb x=(x % 4294967296)::Kb (x / 4294967296):=by rw [Kb]; simp [h]
theorem Hk (x:Nat):val (Kb x)=x:=by
  induction x using Nat.strongRecOn with
  |
   _ x ih =>
   rcases H9 x with h | h
   · subst h; rw [U0]; rfl
   · rw [Pv (by omega)]
     simp only [val]
     rw [ih _ (by omega)]; omega
theorem R0 (x:Nat):Nrm (Kb x):=by
  induction x using Nat.strongRecOn with
  |
   _ x ih =>
   rcases H9 x with h | h
   · subst h; rw [U0]; exact ⟨by simp,fun h=>absurd rfl h⟩
   · rw [Pv (by omega)]
     obtain ⟨h1,h2⟩:=ih (x / 4294967296) (by omega)
     refine ⟨fun u hu=>?_,fun _=>?_⟩
     · rcases Vb.1 hu with rfl | hu
       · omega
       · exact h1 u hu
     · by_cases h3:x / 4294967296=0
       · rw [h3,U0]; exact ⟨x % 4294967296,rfl,by omega⟩
       · have h4:Kb (x / 4294967296)≠[]:=by rw [Pv h3]; simp
         obtain ⟨u,hu,hu0⟩:=h2 h4
         refine ⟨u,?_,hu0⟩
         rcases hl:Kb (x / 4294967296) with _ | ⟨y,l⟩
         · exact absurd hl h4
         · rw [hl] at hu; simpa using hu
theorem Qqx {l:List Nat} {x:Nat} (h:Nrm l) (hv:val l=x):l=Kb x:=Ql8 h (R0 x) (by rw [hv,Hk])
def Xy (l:List Nat):LV:=.row (l.map fun (x:Nat)=>[.int .u32 (x:Int)])
def sg (z:Int):LV:=.bool (decide (z<0))
def mg (z:Int):LV:=Xy (Kb z.natAbs)
abbrev Wy (z:Int):List LV:=[sg z,mg z]
def Y1 (x y:LV) (z:Int):Prop:=∃ b l,x=.bool b∧y=Xy l∧(∀ u∈l,u<4294967296)∧z=if b=true then -((val l:Nat):Int) else ((val l:Nat):Int)
theorem Zc (z:Int):Y1 (sg z) (mg z) z:=by
  refine ⟨_,_,rfl,rfl,(R0 _).1,?_⟩
  rw [Hk]
  by_cases h:z<0 <;> simp [h] <;> omega
theorem T4:Y1 (.bool false) (.row []) 0:=⟨false,[],rfl,rfl,by simp,rfl⟩
theorem Qmf:sg 0=.bool false:=rfl
theorem Qfj:mg 0=.row []:=by unfold mg; rw [show (0:Int).natAbs=0 from rfl,U0]; rfl
theorem Qx4 (z:Int):32*(Kb z.natAbs).length≤Xh z+31:=by
  have:=Wl (R0 z.natAbs)
  rwa [Hk] at this
theorem Qnf {z:Int}:(Kb z.natAbs).length=0↔z=0:=by
  constructor
  · intro h
    have h0:=Md h
    have:=(Fh (R0 z.natAbs)).2 h0
    rw [Hk] at this; omega
  · rintro rfl; rw [show (0:Int).natAbs=0 from rfl,U0]; rfl
theorem Qrp {w:World} {O:Nat→Prop} {v:Value} {l:List Nat} (h:LRep w O v (Xy l)) (hl:∀ u∈l,u<4294967296):∃ A c,v=.slice A l.length c∧Rel.row32.at_ w O [.slice A l.length c] l:=by
  unfold Xy at h
  generalize hm:l.map (fun (x:Nat)=>[LV.int .u32 (x:Int)])=m at h
  cases h with
  |
   row A c sz b o m f hc hc63 hm47 hs hA hcell hrep =>
   have e:m.length=l.length:=by rw [←hm]; simp
   refine ⟨A,c,by rw [e],A,c,rfl,by omega,hc63,by omega,fun h0=>?_⟩
   obtain ⟨rfl,h1,h2⟩:=hA (by omega)
   refine ⟨b,o,rfl,h1,h2,fun i x hx=>?_⟩
   have hi:m[i]? = some [LV.int .u32 (x:Int)]:=by rw [←hm,Sd,hx]; rfl
   have hsz:sz=1:=(hs _ (Y6 hi)).symm
   subst hsz
   refine ⟨[.int .u32 (x:Int)],⟨rfl,hl x (Y6 hx)⟩,fun j v hj=>?_⟩
   cases j with
   | succ j=>simp at hj
   |
    zero =>
    simp at hj; subst hj
    have h3:=hcell i _ hi 0 (by simp)
    have h4:=hrep i _ hi 0 _ rfl
    have h5:f i 0=.int .u32 (x:Int):=by generalize f i 0=q at h4; cases h4; rfl
    rw [h5] at h3
    exact h3
theorem Qqe {w:World} {O:Nat→Prop} {A:Option Addr} {n c:Nat} {l:List Nat} (h:Rel.row32.at_ w O [.slice A n c] l):LRep w O (.slice A n c) (Xy l):=by
  obtain ⟨A',c',h1,h2,h3,h4,hr⟩:=h
  simp at h1; obtain ⟨rfl,rfl,rfl⟩:=h1
  have hb:∃ b o,0<l.length→A=some ⟨b,o,none⟩∧b<w.heap.size∧¬O b∧∀ i x,l[i]? = some x→∃ cs,Rel.u32.at_ w O cs x∧∀ j v,cs[j]? = some v→w.cell? ⟨b,o+i*Rel.u32.size+j,none⟩=some v:=by
    rcases H9 l.length with h0 | h0
    · exact ⟨0,0,fun h=>by omega⟩
    · obtain ⟨b,o,h⟩:=hr h0
      exact ⟨b,o,fun _=>h⟩
  obtain ⟨b,o,hb⟩:=hb
  have hlen:(l.map fun (x:Nat)=>[LV.int .u32 (x:Int)]).length=l.length:=by simp
  have hget:∀ (i:Nat) (cs:List LV),(l.map fun (x:Nat)=>[LV.int .u32 (x:Int)])[i]? = some cs→∃ x,l[i]? = some x∧cs=[LV.int .u32 (x:Int)]:=fun i cs hi=>by
    rw [Sd] at hi
    cases hx:l[i]? with
    | none=>rw [hx] at hi; cases hi
    | some x=>rw [hx] at hi; injection hi with hi; exact ⟨x,rfl,hi.symm⟩
  have key:=LRep.row (w:=w) (O:=O) A c 1 b o (l.map fun (x:Nat)=>[LV.int .u32 (x:Int)]) (fun i _=>.int .u32 (((l[i]?).getD 0:Nat):Int)) (by rw [hlen]; exact h2) h3 (by rw [hlen]; exact h4) (by simp)
    (fun h0=>by rw [hlen] at h0; obtain ⟨h5,h6,h7,_⟩:=hb h0; exact ⟨h5,h6,h7⟩)
    (fun i cs hi j hj=>by
      obtain ⟨x,hx,rfl⟩:=hget i cs hi
      have h0:0<l.length:=B9 (K7 _) (Wz.1 hx).1
      obtain ⟨_,_,_,hc⟩:=hb h0
      obtain ⟨cs,⟨rfl,_⟩,h8⟩:=hc i x hx
      have hj0:j=0:=by simp at hj; omega
      subst hj0
      have:=h8 0 _ rfl
      rw [hx]; exact this)
    (fun i cs hi j x hx=>by
      obtain ⟨y,hy,rfl⟩:=hget i cs hi
      cases j with
      | succ j=>simp at hx
      |
       zero =>
       simp at hx; subst hx
       rw [hy]; exact .int _ _)
  rw [hlen] at key
  exact key
theorem Qt2 {w:World} {O:Nat→Prop} {v:Value} {l:List Nat} (h:LRep w O v (Xy l)) (hl:∀ u∈l,u<4294967296):∃ A n c,v=.slice A n c∧Rel.natA.at_ w O [.slice A n c] (val l):=by
  obtain ⟨A,c,rfl,h1⟩:=Qrp h hl
  exact ⟨A,_,c,rfl,l,h1,hl,rfl⟩
theorem Qsu {w:World} {O:Nat→Prop} {A:Option Addr} {n c:Nat} {x:Nat} (h:Rel.natN.at_ w O [.slice A n c] x):LRep w O (.slice A n c) (Xy (Kb x)):=by
  obtain ⟨l,h1,h2,h3⟩:=h
  rw [←Qqx h2 h3]
  exact Qqe h1
theorem En {w:World} {O:Nat→Prop} {v:Value} {x y:LV} {z:Int} (h:TRep w O v (.agg [x,y])) (hi:Y1 x y z):∃ b A n c,v=.agg #[.bool b,.slice A n c]∧Rel.intA.at_ w O [.bool b,.slice A n c] z:=by
  obtain ⟨vs,rfl,hr⟩:=h
  obtain ⟨b,l,rfl,rfl,hl,rfl⟩:=hi
  rcases vs with _ | ⟨v1,_ | ⟨v2,_ | ⟨v3,vs⟩⟩⟩
  · exact hr.elim
  · exact hr.2.elim
  · have h1:LRep w O v1 (.bool b):=hr.1
    cases h1
    obtain ⟨A,n,c,rfl,h2⟩:=Qt2 (hr.2.1:LRep w O v2 (Xy l)) hl
    exact ⟨b,A,n,c,rfl,(b,val l),⟨[.bool b],[.slice A n c],rfl,rfl,h2⟩,rfl⟩
  · exact hr.2.2.elim
theorem Qmr {w:World} {O:Nat→Prop} {v:Value} {z:Int} (h:(Rel.intN.aggF z v).holds w O):TRep w O v (.agg (Wy z)):=by
  obtain ⟨cs,rfl,h⟩:=h
  obtain ⟨b,A,n,c,rfl⟩:=Xn h
  obtain ⟨h1,h2⟩:=Qcm h
  refine ⟨_,rfl,?_,(Qsu h1).x,trivial⟩
  show LRep w O (.bool b) (.bool (decide (z<0)))
  rw [h2]; exact .bool _
theorem Qf9 (Ob:Nat→Prop):Qy Ob []=Ob:=by funext b; simp [Qy]
theorem Et {f:Nat} {args:List AV} {r:AV} (h:∀ (Ob:Nat→Prop) (W:World) (vs:List Value),(∀ b,Ob b→b<W.heap.size)→TReps W Ob vs args→∃ F,Calls P f vs.toArray W (Na W Ob F)∧∀ w v,(F v).holds w Ob→ARep w Ob v r):Q8 P f args r:=by
  intro Ob W vs Bi hO hheld hargs hBin
  have hBin:Bi=[]:=hBin
  subst hBin
  rw [Qf9] at hargs
  obtain ⟨F,hc,hF⟩:=h Ob W vs hO hargs
  refine hc.mono fun e w' ⟨v,he,hg,hv⟩=>⟨v,r,[],[],he,⟨rfl,rfl⟩,by rw [Qf9]; exact hF w' v hv,rfl,⟨hg.1,fun b hb _=>hg.2 b hb,fun b _ hb=>(by simp at hb),hg.io⟩,⟨fun _ _ _ hm=>by (cases hm),qVk⟩⟩
theorem Qc5 {f:Nat} {x y:LV} {z:Int} {r:AV} (hi:Y1 x y z) (h:∀ (Ob:Nat→Prop) (W:World) (b:Bool) (A:Option Addr) (n c:Nat),(∀ b,Ob b→b<W.heap.size)→Rel.intA.at_ W Ob [.bool b,.slice A n c] z→∃ F,Calls P f #[.agg #[.bool b,.slice A n c]] W (Na W Ob F)∧∀ w v,(F v).holds w Ob→ARep w Ob v r):Q8 P f [.agg [x,y]] r :=
  Et fun Ob W vs hO hargs=>by
    rcases vs with _ | ⟨v,_ | ⟨v2,vs⟩⟩
    · exact hargs.elim
    · obtain ⟨b,A,n,c,rfl,h1⟩:=En hargs.1 hi
      exact h Ob W b A n c hO h1
    · exact hargs.2.elim
theorem Tc {f:Nat} {x y x' y':LV} {z z':Int} {r:AV} (hi:Y1 x y z) (hi':Y1 x' y' z') (h:∀ (Ob:Nat→Prop) (W:World) (b:Bool) (A:Option Addr) (n c:Nat) (b':Bool) (A':Option Addr) (n' c':Nat),(∀ b,Ob b→b<W.heap.size)→Rel.intA.at_ W Ob [.bool b,.slice A n c] z→Rel.intA.at_ W Ob [.bool b',.slice A' n' c'] z'→∃ F,Calls P f #[.agg #[.bool b,.slice A n c],.agg #[.bool b',.slice A' n' c']] W (Na W Ob F)∧∀ w v,(F v).holds w Ob→ARep w Ob v r):Q8 P f [.agg [x,y],.agg [x',y']] r :=
  Et fun Ob W vs hO hargs=>by
    rcases vs with _ | ⟨v,_ | ⟨v2,_ | ⟨v3,vs⟩⟩⟩
    · exact hargs.elim
    · exact hargs.2.elim
    · obtain ⟨b,A,n,c,rfl,h1⟩:=En hargs.1 hi
      obtain ⟨b',A',n',c',rfl,h2⟩:=En hargs.2.1 hi'
      exact h Ob W b A n c b' A' n' c' hO h1 h2
    · exact hargs.2.2.elim
theorem Nq {w:World} {O:Nat→Prop} {z:Int}:∀ v,(Rel.intN.aggF z v).holds w O→ARep w O v (.agg (Wy z)):=fun _ h=>(Qmr h).a
theorem Q0m {w:World} {O:Nat→Prop} {c:Value} {r:AV} (hr:cst c=some r):∀ v,(Yj c v).holds w O→ARep w O v r:=fun v h=>by
  have h:v=c:=h
  subst h; exact Ag hr
def IsInts:List (List LV)→List Int→Prop
  | [],[]=>True
  | x::l,z::p=>(∃ a b,x=[a,b]∧Y1 a b z)∧IsInts l p
  | _,_=>False
theorem IsInts.len:∀ {l:List (List LV)} {p:List Int},IsInts l p→l.length=p.length
  | [],[],_=>rfl
  | x::l,z::p,h=>by simp [h.2.len]
  | [],_::_,h=>h.elim
  | _::_,[],h=>h.elim
theorem IsInts.get:∀ {l:List (List LV)} {p:List Int},IsInts l p→∀ {i:Nat} {z:Int},p[i]? = some z→∃ a b,l[i]? = some [a,b]∧Y1 a b z
  | [],[],_,i,z,h=>by simp at h
  |
   x::l,y::p,h,0,z,hz=>by
   simp at hz; subst hz
   obtain ⟨a,b,rfl,hi⟩:=h.1
   exact ⟨a,b,rfl,hi⟩
  | x::l,y::p,h,i+1,z,hz=>by simpa using h.2.get (i:=i) (by simpa using hz)
  | [],_::_,h,_,_,_=>h.elim
  | _::_,[],h,_,_,_=>h.elim
theorem Y5:∀ (p:List Int),IsInts (p.map Wy) p
  | []=>trivial
  | z::p=>⟨⟨_,_,rfl,Zc z⟩,Y5 p⟩
theorem IsInts.append:∀ {l l':List (List LV)} {p p':List Int},IsInts l p→IsInts l' p'→IsInts (l++l') (p++p')
  | [],_,[],_,_,h=>h
  | x::l,_,z::p,_,h,h'=>⟨h.1,h.2.append h'⟩
  | [],_,_::_,_,h,_=>h.elim
  | _::_,_,[],_,h,_=>h.elim
theorem Qs4 {w:World} {O:Nat→Prop} {v:Value} {l:List (List LV)} {p:List Int} (h:LRep w O v (.row l)) (hi:IsInts l p):∃ A n c,v=.slice A n c∧Rel.intA.slice.at_ w O [.slice A n c] p:=by
  have hl:=hi.len
  cases h with
  |
   row A c sz b o l f hc hc63 hm47 hs hA hcell hrep =>
   refine ⟨A,_,c,rfl,A,c,by rw [hl],by omega,hc63,by omega,fun h0=>?_⟩
   obtain ⟨rfl,h1,h2⟩:=hA (by omega)
   refine ⟨b,o,rfl,h1,h2,fun i z hz=>?_⟩
   obtain ⟨x,y,hx,hxy⟩:=hi.get hz
   have hsz:sz=2:=(hs _ (Y6 hx)).symm
   subst hsz
   have hr1:=hrep i _ hx 0 x rfl
   have hr2:=hrep i _ hx 1 y rfl
   have hT:TRep w O (.agg #[f i 0,f i 1]) (.agg [x,y]):=⟨[f i 0,f i 1],rfl,hr1.x,hr2.x,trivial⟩
   obtain ⟨bb,A',n',c',e,h3⟩:=En hT hxy
   simp at e
   obtain ⟨e1,e2⟩:=e
   refine ⟨_,h3,fun j v hj=>?_⟩
   have hc0:=hcell i _ hx 0 (by simp)
   have hc1:=hcell i _ hx 1 (by simp)
   rw [e1] at hc0
   rw [e2] at hc1
   rcases j with _ | _ | j
   · simp at hj; subst hj; exact hc0
   · simp at hj; subst hj; exact hc1
   · simp at hj
theorem Qn6 {f:Nat} {l:List (List LV)} {p:List Int} {r:AV} (hi:IsInts l p) (h:∀ (Ob:Nat→Prop) (W:World) (A:Option Addr) (n c:Nat),(∀ b,Ob b→b<W.heap.size)→Rel.intA.slice.at_ W Ob [.slice A n c] p→∃ F,Calls P f #[.slice A n c] W (Na W Ob F)∧∀ w v,(F v).holds w Ob→ARep w Ob v r):Q8 P f [.one (.row l)] r :=
  Et fun Ob W vs hO hargs=>by
    rcases vs with _ | ⟨v,_ | ⟨v2,vs⟩⟩
    · exact hargs.elim
    · obtain ⟨A,n,c,rfl,h1⟩:=Qs4 hargs.1 hi
      exact h Ob W A n c hO h1
    · exact hargs.2.elim
theorem Qx1 {w:World} {O:Nat→Prop} {f g:Value→Fact} {r s:AV} (h1:∀ v,(f v).holds w O→TRep w O v r) (h2:∀ v,(g v).holds w O→TRep w O v s):∀ v,(Qjy f g v).holds w O→ARep w O v (.tup [r,s]):=fun v ⟨x,y,e,h3,h4⟩=>⟨[x,y],e,h1 x h3,h2 y h4,trivial⟩
theorem Qzo {w:World} {O:Nat→Prop} {kd:IntKind} {p:Int}:∀ v,(Yj (.int kd p) v).holds w O→TRep w O v (.one (.int kd p)):=fun v h=>by
  have h:v=.int kd p:=h
  subst h; exact LRep.int _ _
end Orr
namespace Orr
open Go
variable {P:Program} {n:Nat} {L:Sg} {B:List OB}
theorem Cw {fn:Func} (hr:fn.results = #[]):RVs P n L B fn.results.toList []:=by rw [hr]; trivial
theorem Qb0 {fn:Func} {r1:ResultVar} {u:AV} (hr:fn.results = #[r1]) (h1:RV P n L B r1 u):RVs P n L B fn.results.toList [u]:=by rw [hr]; exact ⟨h1,trivial⟩
theorem Qr4 {fn:Func} {r1 r2 r3:ResultVar} {u1 u2 u3:AV} (hr:fn.results = #[r1,r2,r3]) (h1:RV P n L B r1 u1) (h2:RV P n L B r2 u2) (h3:RV P n L B r3 u3):RVs P n L B fn.results.toList [u1,u2,u3]:=by rw [hr]; exact ⟨h1,h2,h3,trivial⟩
theorem Qpm {fn:Func} {r1 r2:ResultVar} {u1 u2:AV} (hr:fn.results = #[r1,r2]) (h1:RV P n L B r1 u1) (h2:RV P n L B r2 u2):RVs P n L B fn.results.toList [u1,u2]:=by rw [hr]; exact ⟨h1,h2,trivial⟩
theorem Qjf {fn:Func} {us:List AV} {r:AV} (h:RVs P n L B fn.results.toList us) (he:Qhz us=r):RQ P fn n (Is r) .ret L B:=by
  obtain ⟨is,hs⟩:=Qgz B
  exact ⟨us,is,[],h,hs,he,rfl⟩
def pl (p:List Int):LV:=.row (p.map Wy)
def ids (l:List Int):LV:=.row (l.map fun (x:Int)=>[.int .i64 x])
theorem ofI_zero:Wy 0=[LV.bool false,LV.row []]:=by simp [Wy,Qmf,Qfj]
theorem Jq (p:List Int):We (pl p)=some p.length:=by simp [We,pl]
theorem Qgy (p:List Int):We (ids p)=some p.length:=by simp [We,ids]
theorem Qg {α β:Type} {f:α→β} {l:List α} {i:Nat} {x:α} (h:l[i]? = some x):(l.map f)[i]? = some (f x):=by rw [Sd,h]; rfl
theorem Vu {α:Type} {f:α→List LV} {sz:Nat} (l:List α) (h:∀ x,(f x).length=sz):∀ c∈l.map f,c.length=sz:=fun c hc=>by
  obtain ⟨x,_,rfl⟩:=Wa.1 hc
  exact h x
theorem F1 {α:Type} {f:α→List LV} (l:List α) (h:∀ x,H3 (f x)=true):∀ c∈l.map f,∀ x∈c,x.free=true:=fun c hc x hx=>by
  obtain ⟨y,_,rfl⟩:=Wa.1 hc
  exact Fk (h y) x hx
theorem Yh {c0:List LV} {sz:Nat} (h:c0.length=sz):∀ c∈[c0],c.length=sz:=fun c hc=>by rw [qZw] at hc; rw [hc]; exact h
theorem Ya {c0:List LV} (h:H3 c0=true):∀ c∈[c0],∀ x∈c,x.free=true:=fun c hc x hx=>by rw [qZw] at hc; rw [hc] at hx; exact Fk h x hx
variable {ops:Array Oper} {rest:List Oper} {N:Sg→List OB→Prop} {d:Nat} {ty:TypeId} {pos:String} {after:Array Edge}
theorem Zr {x y:Operand} {r:Option (Nat×Nat)} {sz lo len:Nat} {kd:IntKind} {p:Int} (i:Nat) {E t:TypeId} (hu:∀ w,(underlying t).run P w=.ok (.slice E) w) (hs:∀ w,(Go.sizeOf E).run P w=.ok sz w)
    (hx:Yf L x=some (.one (.orow r sz lo len))) (hy:Yf L y=some (.one (.int kd p))) (hp:p=(i:Int)) (hi:i<len) (hd:Nat.blt d n=true) :
    AP P ops n { dst:=some d,op:=.indexAddr t x y,type:=ty,pos:=pos,after:=after,guard:=none } d (.one (.oel r sz (lo+i) 0)) L B:=by
  intro K Ob w0 w a Bs L' Fs h hL hB
  obtain ⟨v,hv,hr⟩:=Zq hL hx
  obtain ⟨u,hu',hr2⟩:=Zq hL hy
  obtain rfl:=Xt hr2
  rcases r with _ | ⟨g,c⟩
  · obtain ⟨_,_,rfl⟩:=hr; omega
  · obtain ⟨h8,o,rfl,h9⟩:=hr
    have ho:o=lo*sz:=h9 (.inr (by omega))
    refine Q5 i h hv hu' hu hs hp hi hd fun a' h'=>wpList_nil ⟨rfl,_,h',?_⟩
    show _=_
    subst ho
    simp [qJv]
theorem Sv {S:TypeId} {x:Operand} {f off:Nat} {r:Option (Nat×Nat)} {sz i o:Nat} (hrun:∀ b o w,(Instr.fieldAt S (.pointer (some ⟨b,o,none⟩)) f).run P w=.ok (.pointer (some ⟨b,o+off,none⟩)) w)
    (hx:Yf L x=some (.one (.oel r sz i o))) (hd:Nat.blt d n=true) :
    AP P ops n { dst:=some d,op:=.fieldAddr S x f,type:=ty,pos:=pos,after:=after,guard:=none } d (.one (.oel r sz i (o+off))) L B:=by
  intro K Ob w0 w a Bs L' Fs h hL hB
  obtain ⟨v,hv,hr1⟩:=Zq hL hx
  rcases r with _ | ⟨g,c⟩
  · exact hr1.elim
  · obtain rfl:v=.pointer (some ⟨g,i*sz+o,none⟩):=hr1
    exact Qt h hv hrun hd fun a' h'=>wpList_nil ⟨rfl,_,h',by show _=_; rw [qVa]⟩
theorem Yo (j:Nat) {T E:TypeId} {x:Operand} {r:Option (Nat×Nat)} {sz i o m:Nat} {ls:List (List LV)} {z q:List LV} {ag:Bool} {u:AV} {B':List OB} (ht:∀ w,(isAgg T).run P w=.ok ag w) (hs:∀ w,(Go.sizeOf T).run P w=.ok m w)
    (hi:Jg B j=some (.row r E sz ls,B')) (hx:Yf L x=some (.one (.oel r sz i o))) (hz:ls[i]? = some z) (hr:Qf6 z o m=some q) (hu:Uf ag q=some u) (hd:Nat.blt d n=true) :
    AP P ops n { dst:=some d,op:=.load T x,type:=ty,pos:=pos,after:=after,guard:=none } d u L B:=by
  intro K Ob w0 w a Bs L' Fs h hL hB
  obtain ⟨hxi,rfl⟩:=U7 hi
  obtain ⟨Bo,Bs',hp,hob,_⟩:=hB.front hxi
  obtain ⟨v,hv,hr1⟩:=Zq hL hx
  rcases r with _ | ⟨g,c⟩
  · exact hr1.elim
  · obtain rfl:v=.pointer (some ⟨g,i*sz+o,none⟩):=hr1
    obtain ⟨h0,h2,h3,vss,ex,h4,rfl,h5,h6,h7⟩:=hob
    have hmem:(g,Tag.ty E,vss.flatten++ex)∈Bs:=hp.mem_iff.2 (by simp)
    obtain ⟨k,hk⟩:=qZn.1 hmem
    obtain ⟨rfl,hle⟩:=Em hr
    obtain ⟨vs,hvs,hreps⟩:=h4.get hz
    have hzl:=h2 z (Y6 hz)
    have hall:=h4.all h2
    have hlen:=hreps.len
    have hreps':XReps w (Qy Ob Bs) ((vs.drop o).take m) ((z.drop o).take m):=(hreps.drop o).take m
    have hl:((vs.drop o).take m).length=m:=by simp; omega
    have hcell:∀ j u,((vs.drop o).take m)[j]? = some u→w.cell? ⟨g,i*sz+o+j,none⟩=some u:=fun j u hj=>by
      rw [h.own_cell hk]
      rw [Ei] at hj
      split at hj
      · rw [qXe] at hj
        have e2:vss.flatten[i*sz+(o+j)]? = vs[o+j]? := by
          rw [Bc hall (by have:=(Wz.1 hj).1; omega),hvs]; rfl
        rw [hj] at e2
        rw [qVa,qXa (Wz.1 e2).1,e2]
      · cases hj
    cases ag with
    |
     true =>
     simp only [Uf,Option.some.injEq] at hu
     subst hu
     exact S3 h hv ht hs hl hcell hd fun a' h'=>wpList_nil ⟨rfl,_,h',show ARep _ _ _ (.agg _) from ⟨_,rfl,hreps'⟩⟩
    |
     false =>
     obtain ⟨y,e2,rfl⟩:=Fv hu
     rw [e2] at hreps'
     generalize (vs.drop o).take m=vs at *
     rcases vs with _ | ⟨v0,_ | ⟨v1,vs⟩⟩
     · exact hreps'.elim
     · exact Xg h hv ht (by simpa using hcell 0 v0 rfl) hd fun a' h'=>wpList_nil ⟨rfl,_,h',show ARep _ _ _ (.one y) from hreps'.1⟩
     · exact hreps'.2.elim
theorem RReps.setAt {w:World} {O:Nat→Prop} {vss:List (List Value)} {ls:List (List LV)} (h:RReps w O vss ls) {vs:List Value} {z:List LV} (hz:XReps w O vs z) (i:Nat):RReps w O (vss.set i vs) (ls.set i z):=by
  refine RReps.of (by simp [h.len]) fun j v x hv hx=>?_
  rw [qYm] at hv hx
  split at hv
  · rename_i e
    rw [if_pos e] at hx
    split at hv <;> first | cases hv | skip
    rename_i hl
    rw [if_pos (by rw [←h.len]; exact hl)] at hx
    injection hx with hx; subst hx; exact hz
  · rename_i e
    rw [if_neg e] at hx
    exact h.get' hv hx
theorem Ju (j:Nat) {T E:TypeId} {x y:Operand} {r:Option (Nat×Nat)} {sz i o m:Nat} {ls ls2:List (List LV)} {z ys q:List LV} {u:AV} {B':List OB} (hs:∀ w,(Go.sizeOf T).run P w=.ok m w)
    (hi:Jg B j=some (.row r E sz ls,B')) (hx:Yf L x=some (.one (.oel r sz i o))) (hy:Yf L y=some u) (hl:G4 u=some ys) (hf:H3 ys=true) (hm:ys.length=m) (hz:ls[i]? = some z) (hr:updO z o m ys=some q) (hls:ls.set i q=ls2)
    (k:AW P ops n rest N L (.row r E sz ls2::B')) :
    AW P ops n ({ dst:=none,op:=.store T x y,type:=ty,pos:=pos,after:=after,guard:=none }::rest) N L B:=by
  intro K Ob w0 w a Q hs0 hQ
  subst hls
  obtain ⟨L',Bo,Bs,h,hL,hob,hB⟩:=hs0.front hi
  obtain ⟨v,hv,hr1⟩:=Zq hL hx
  obtain ⟨v2,hv2,hr2⟩:=Zq hL hy
  obtain ⟨hc2,ht2⟩:=Gf hr2 hl
  obtain ⟨rfl,hlen⟩:=Qed hr
  rcases r with _ | ⟨g,c⟩
  · exact hr1.elim
  · obtain rfl:v=.pointer (some ⟨g,i*sz+o,none⟩):=hr1
    obtain ⟨h0,h2,h3,vss,ex,h4,rfl,h5,h6,h7⟩:=hob
    obtain ⟨vs,hvs,hreps⟩:=h4.get hz
    have hzl:=h2 z (Y6 hz)
    have hall:=h4.all h2
    have hvl:=hreps.len
    have hil:i<vss.length:=(Wz.1 hvs).1
    have hcl:=hc2.len
    have hadd:=h.add (f:=⟨fun w O=>(∀ t x,lk L t=some x→∃ v,Z1 L' t=some v∧ARep w O v x)∧BsRep w O B' Bs∧RReps w O vss ls∧XReps w O vs z∧XReps w O v2.cells.toList ys,fun hle h=>⟨Fn hle h.1,h.2.1.keep hle,h.2.2.1.keep hle,h.2.2.2.1.keep hle,h.2.2.2.2.keep hle⟩⟩) ⟨hL,hB,h4,hreps,hc2⟩
    have hfl:=Vp hall
    have hbound:(i+1)*sz≤vss.length*sz:=qZm _ hil
    rw [qJj] at hbound
    refine Z7 hadd 0 rfl hv hv2 hs rfl (hcl.trans hm) (by rw [Nat.ble_eq,H7]; omega) (Bv.2 hc2.one) fun w' h'=>?_
    obtain ⟨h8,h9,h10,h11,h12⟩:=h'.fact 0 rfl
    have e:upd (vss.flatten++ex) (i*sz+o) v2.cells.toList=(vss.set i (upd vs o v2.cells.toList)).flatten++ex:=by
      have hpre:∀ (pre post:List Value) (k:Nat) (ys:List Value),k+ys.length≤pre.length→upd (pre++post) k ys=upd pre k ys++post:=by
        intro pre
        induction pre with
        |
         nil =>
         intro post k ys hk
         cases ys with
         | nil=>cases post <;> simp [upd]
         | cons y ys=>simp at hk
        |
         cons p pre ih =>
         intro post k ys hk
         cases ys with
         | nil=>simp [upd]
         |
          cons y ys =>
          cases k with
          | zero=>simp only [Eb,upd]; rw [ih post 0 ys (by simp at hk ⊢; omega)]
          | succ k=>simp only [Eb,upd]; rw [ih post k (y::ys) (by simp at hk ⊢; omega)]
      rw [hpre _ _ _ _ (by omega)]
      congr 1
      have h13:vss=vss.take i++vs::vss.drop (i+1):=by
        rw [←(Wz.1 hvs).2]; simp
      have h14:vss.set i (upd vs o v2.cells.toList)=vss.take i++upd vs o v2.cells.toList::vss.drop (i+1):=List.set_eq_take_append_cons_drop .. |>.trans (by rw [if_pos hil])
      rw [h14]
      conv=>lhs; rw [h13]
      rw [qJe,qYn,qJe,qYn]
      have h15:(vss.take i).flatten.length=i*sz:=by
        rw [Vp (sz:=sz) fun c hc=>hall c (N6 hc),Uk,Nm (by omega)]
      rw [←h15,Gk,hpre _ _ _ _ (by omega)]
    rw [show i*sz+o=i*sz+o from rfl] at h'
    simp only [Eb,qVy,List.set_cons_zero] at h' h8 h9 h10 h11 h12
    have e':=e
    refine k _ _ _ _ _ _ (SA.of (Bo:=[_]) h'.noFacts h8 ?_ h9) hQ
    refine ⟨h0,?_,?_,vss.set i (upd vs o v2.cells.toList),ex,h10.setAt (h11.upd o h12) i,by rw [←e'],?_,by simpa using h6,h7⟩
    · intro c hc
      rcases qYp hc with hc | rfl
      · exact h2 c hc
      · rw [Qg3]; exact hzl
    · intro c hc y hy
      rcases qYp hc with hc | rfl
      · exact h3 c hc y hy
      · obtain ⟨k2,hk2⟩:=qZn.1 hy
        have key:∀ (z ys:List LV) (o:Nat),(∀ x∈z,x.free=true)→(∀ x∈ys,x.free=true)→∀ x∈Mt z o ys,x.free=true:=by
          intro z
          induction z with
          | nil=>intro ys o _ _ x hx; cases ys <;> simp [Mt] at hx
          |
           cons a z ih =>
           intro ys o hz hy x hx
           cases ys with
           | nil=>simp [Mt] at hx; exact hz x (by simpa using hx)
           |
            cons b ys =>
            cases o with
            |
             zero =>
             simp only [Mt,Vb] at hx
             rcases hx with rfl | hx
             · exact hy _ (Ub ..)
             · exact ih ys 0 (fun q hq=>hz q (W0 _ hq)) (fun q hq=>hy q (W0 _ hq)) x hx
            |
             succ o =>
             simp only [Mt,Vb] at hx
             rcases hx with rfl | hx
             · exact hz _ (Ub ..)
             · exact ih (b::ys) o (fun q hq=>hz q (W0 _ hq)) hy x hx
        exact key z ys o (h3 z (Y6 hz)) (Fk hf) y hy
    · rw [←e',I8]; exact h5
end Orr
namespace Orr
open Go
theorem Qm {x r:Int} (h:x=r) (h1:-9223372036854775808≤r∧r≤9223372036854775807):IntKind.i64.wrap x=r:=by rw [h]; exact Xz h1.1 h1.2
end Orr
namespace Orr
open Go
theorem Qdg {P:Program} {S f off T m:Nat} {ag:Bool} {fs:Array Field} (hu:∀ w,(underlying S).run P w=.ok (.struct fs) w) (hf:(fs[f]?).map (fun fl=>(fl.type,fl.offset))=some (T,off)) (ht:∀ w,(isAgg T).run P w=.ok ag w) (hs:∀ w,(Go.sizeOf T).run P w=.ok m w)
    (vs:List Value) (v:Value) (hv:if ag=true then v=.agg ((vs.drop off).take m).toArray else vs[off]? = some v) (_:off+m≤vs.length) (w:World):(Instr.field S (.agg vs.toArray) f).run P w=.ok v w:=by
  cases h:fs[f]? with
  | none=>rw [h] at hf; cases hf
  |
   some fl =>
   rw [h] at hf
   simp only [qVx,Option.some.injEq,Prod.mk.injEq] at hf
   obtain ⟨rfl,rfl⟩:=hf
   cases ag with
   |
    true =>
    simp only [if_true] at hv
    subst hv
    simp [Instr.field,hu,h,asAgg,Go.part,ht,hs,List.extract]
    done
   |
    false =>
    simp at hv
    simp [Instr.field,hu,h,asAgg,Go.part,ht,hv]
end Orr
namespace Orr
open Go
variable {P:Program} {ops:Array Oper} {n:Nat} {rest:List Oper} {N:Sg→List OB→Prop} {L:Sg} {B:List OB}
theorem Lq:∀ {xs ys:List LV},Ud xs=some ys→(∀ x∈xs,x.free=true)→∀ y∈ys,y.free=true
  | [],ys,h,_=>by simp [Ud] at h; subst h; simp
  |
   x::l,ys,h,hf=>by
   simp only [Ud] at h
   split at h
   · cases h
   · rename_i r hl
     have ih:=Lq hl fun y hy=>hf y (W0 _ hy)
     split at h <;> injection h with h <;> subst h <;> intro y hy <;> rcases Vb.1 hy with rfl | hy
     · rfl
     · exact ih y hy
     · exact hf _ (Ub ..)
     · exact ih y hy
theorem Gy (i:Nat) {r:Option (Nat×Nat)} {E sz m:Nat} {zs zs':List LV} {ls':List (List LV)} {B':List OB} (hi:Jg B i=some (.row r E sz (List.replicate m zs),B')) (hz:Ud zs=some zs') (hls:List.replicate m zs'=ls') (k:AW P ops n rest N L (.row r E sz ls'::B')):AW P ops n rest N L B:=by
  intro K Ob w0 w a Q hs hQ
  subst hls
  obtain ⟨L',Bo,Bs,h1,h2,h3,h4⟩:=hs.front hi
  refine k _ _ _ _ _ _ (SA.of h1 h2 ?_ h4) hQ
  rcases r with _ | ⟨g,c⟩
  · obtain ⟨h5,h6,h7⟩:=h3
    have hm:m=0:=by have:=congrArg List.length h6; simpa using this
    subst hm
    exact ⟨h5,rfl,h7⟩
  · obtain ⟨h5,h6,h7,vss,ex,h8,h9,h10,h11,h12⟩:=h3
    refine ⟨h5,fun c hc=>?_,fun c hc x hx=>?_,vss,ex,?_,h9,h10,by simpa using h11,h12⟩
    · have e:=qZz hc
      subst e
      rw [N0 hz]
      obtain ⟨hm,_⟩:=qKc.1 hc
      exact h6 zs (qKc.2 ⟨hm,rfl⟩)
    · have e:=qZz hc
      subst e
      obtain ⟨hm,_⟩:=qKc.1 hc
      exact Lq hz (h7 zs (qKc.2 ⟨hm,rfl⟩)) x hx
    · refine RReps.of (by have:=h8.len; simpa using this) fun j v x hv hx=>?_
      have e:=qZz (Y6 hx)
      subst e
      have hj:j<m:=by have:=(Wz.1 hx).1; simpa using this
      exact R1 hz (h8.get' hv (by simp [hj]))
theorem Jx (i:Nat) {r:Option (Nat×Nat)} {E sz:Nat} {ls ls':List (List LV)} {B':List OB} (hi:Jg B i=some (.row r E sz ls,B')) (he:ls=ls') (k:AW P ops n rest N L (.row r E sz ls'::B')):AW P ops n rest N L B:=by
  subst he; exact Qam i hi k
theorem C7 (m:Nat):List.replicate m [LV.bool false,LV.row []]=(List.replicate m (0:Int)).map Wy:=by simp [Wy,Qmf,Qfj]
theorem W4 {α:Type} (f:α→List LV) (l:List α) (i:Nat) (x:α):(l.map f).set i (f x)=(l.set i x).map f:=List.map_set.symm
def An (g:Nat→Int) (n i:Nat):List Int:=(List.range i).map g++List.replicate (n-i) 0
theorem Cn (g:Nat→Int) (n:Nat):List.replicate n 0=An g n 0:=by simp [An]
theorem Uw (g:Nat→Int) {n i:Nat} (h:i≤n):(An g n i).length=n:=by simp [An]; omega
theorem E3 (g:Nat→Int) {n i:Nat} (h:i<n):(An g n i)[i]? = some 0:=by
  unfold An
  rw [qXj (by simp),Zw,List.length_range,qYa,qYx,if_pos (by omega)]
theorem Ai (g:Nat→Int) {n i:Nat} (h:i<n):(An g n i).set i (g i)=An g n (i+1):=by
  unfold An
  obtain ⟨k,hk⟩:∃ k,n-i=k+1:=⟨n-i-1,by omega⟩
  rw [hk,show n-(i+1)=k from by omega,qVo _ _ (by simp),qVz]
  simp [qJu]
theorem E4 (g:Nat→Int) (n:Nat):An g n n=(List.range n).map g:=by simp [An]
theorem Qbk {x y:Operand} {kd:IntKind} {p q r:Int} {ats:Array TypeId} {d:Nat} {ty:TypeId} {pos:String} {after:Array Edge} (hx:Yf L x=some (.one (.int kd p))) (hy:Yf L y=some (.one (.int kd q))) (hr:(if q>p then q else p)=r) (hd:Nat.blt d n=true) :
    AP P ops n { dst:=some d,op:=.call { callee:=.builtin .max,args := #[x,y],argTypes:=ats },type:=ty,pos:=pos,after:=after,guard:=none } d (.one (.int kd r)) L B:=by
  intro K Ob w0 w a Bs L' Fs h hL hB
  obtain ⟨v,hv,hr1⟩:=Zq hL hx
  obtain ⟨u,hu',hr2⟩:=Zq hL hy
  obtain rfl:=Xt hr1
  obtain rfl:=Xt hr2
  exact Qis h hv hu' hr hd fun a' h'=>wpList_nil ⟨rfl,_,h',LRep.int _ _⟩
theorem Qz2 {x y:Operand} {kd:IntKind} {p q r:Int} {ats:Array TypeId} {d:Nat} {ty:TypeId} {pos:String} {after:Array Edge} (hx:Yf L x=some (.one (.int kd p))) (hy:Yf L y=some (.one (.int kd q))) (hr:(if q<p then q else p)=r) (hd:Nat.blt d n=true) :
    AP P ops n { dst:=some d,op:=.call { callee:=.builtin .min,args := #[x,y],argTypes:=ats },type:=ty,pos:=pos,after:=after,guard:=none } d (.one (.int kd r)) L B:=by
  intro K Ob w0 w a Bs L' Fs h hL hB
  obtain ⟨v,hv,hr1⟩:=Zq hL hx
  obtain ⟨u,hu',hr2⟩:=Zq hL hy
  obtain rfl:=Xt hr1
  obtain rfl:=Xt hr2
  exact Qi4 h hv hu' hr hd fun a' h'=>wpList_nil ⟨rfl,_,h',LRep.int _ _⟩
theorem Im {w:World} {O:Nat→Prop} {A:Option Addr} {m c lo hi c' sz0:Nat} {l l':List (List LV)} (h:LRep w O (.slice A m c) (.row l)) (h1:lo≤hi) (h2:hi≤l.length) (hc':c'=c∨c'=hi) (hsz:∀ z∈l,z.length=sz0) (hl':(l.drop lo).take (hi-lo)=l') :
    LRep w O (.slice (if c'=lo then A else A.map (·.add (lo*sz0))) (hi-lo) (c'-lo)) (.row l'):=by
  subst hl'
  generalize hv:Value.slice A m c=v at h
  cases h with
  |
   row A' c0 sz b o l f hc hc63 hm47 hs hA hcell hrep =>
   injection hv with e1 e2 e3
   subst e1 e2 e3
   have hlen:((l.drop lo).take (hi-lo)).length=hi-lo:=by simp; omega
   have hget:∀ (i:Nat) (cs:List LV),((l.drop lo).take (hi-lo))[i]? = some cs→l[lo+i]? = some cs:=fun i cs hi'=>by
     rw [Ei] at hi'
     split at hi'
     · rwa [qXe] at hi'
     · cases hi'
   have key:=LRep.row (w:=w) (O:=O) (if c'=lo then A else A.map (·.add (lo*sz0))) (c'-lo) sz b (o+lo*sz) ((l.drop lo).take (hi-lo)) (fun i j=>f (lo+i) j) (by rw [hlen]; rcases hc' with rfl | rfl <;> omega) (by rcases hc' with rfl | rfl <;> omega) (by rw [hlen]; omega)
     (fun cs hm=>hs cs (Eg (N6 hm)))
     (fun h0=>by
       rw [hlen] at h0
       obtain ⟨rfl,h3,h4⟩:=hA (by omega)
       have hx:=Xv (show lo<l.length by omega)
       have e5:sz0=sz:=by rw [←hsz _ (Y6 hx),hs _ (Y6 hx)]
       subst e5
       have:¬(c'=lo):=by rcases hc' with rfl | rfl <;> omega
       rw [if_neg this]
       exact ⟨by simp [Fo],h3,h4⟩)
     (fun i cs hi' j hj=>by
       have:=hcell (lo+i) cs (hget i cs hi') j hj
       rw [show o+lo*sz+i*sz+j=o+(lo+i)*sz+j from by rw [qJv]; omega]
       exact this)
     (fun i cs hi' j x hx=>hrep (lo+i) cs (hget i cs hi') j x hx)
   rw [hlen] at key
   exact key
section
variable {d:Nat} {ty:TypeId} {pos:String} {after:Array Edge}
theorem Dx {w:World} {O:Nat→Prop} {v:Value} {l:List (List LV)} (h:LRep w O v (.row l)):∃ A c,v=.slice A l.length c∧l.length≤c∧LRep w O (.slice A l.length c) (.row l):=by
  have h':=h
  cases h with
  | row A c sz b o l f hc hc63 hm47 hs hA hcell hrep=>exact ⟨A,c,rfl,hc,h'⟩
theorem Fd (i:Nat) {T E sz:Nat} {x y:Operand} {kd:IntKind} {p:Int} {l l':List (List LV)} (hu:∀ w,(underlying T).run P w=.ok (.slice E) w) (hs:∀ w,(Go.sizeOf E).run P w=.ok sz w) (hx:Yf L x=some (.one (.row l))) (hy:Yf L y=some (.one (.int kd p))) (hp:p=(i:Int)) (hi:i≤l.length) (hsz:∀ z∈l,z.length=sz) (hl':l.take i=l') (hd:Nat.blt d n=true) :
    AP P ops n { dst:=some d,op:=.slice T x none (some y) none,type:=ty,pos:=pos,after:=after,guard:=none } d (.one (.row l')) L B:=by
  refine Rv hd fun K Ob w0 w a Bs L' Fs h hL hB=>?_
  subst hp
  obtain ⟨v,hv,hr⟩:=Zq hL hx
  obtain ⟨u,hu',hr2⟩:=Zq hL hy
  obtain rfl:=Xt hr2
  obtain ⟨A,c,rfl,hc,hr'⟩:=Dx hr
  have key:=Im (lo:=0) (hi:=i) (c':=c) hr' (by omega) hi (.inl rfl) hsz (l':=l') (by rw [qXf,qYf]; exact hl')
  refine ⟨_,?_,key⟩
  simp [execOp,h.ev hv,h.ev hu',Instr.sliceAt,Instr.slice,Instr.sliceBounds,hu,hs,Jc _ (show i≤c by omega)]
theorem Dz (i:Nat) {T E sz:Nat} {x y:Operand} {kd:IntKind} {p:Int} {l l':List (List LV)} (hu:∀ w,(underlying T).run P w=.ok (.slice E) w) (hs:∀ w,(Go.sizeOf E).run P w=.ok sz w) (hx:Yf L x=some (.one (.row l))) (hy:Yf L y=some (.one (.int kd p))) (hp:p=(i:Int)) (hi:i≤l.length) (hsz:∀ z∈l,z.length=sz) (hl':l.drop i=l') (hd:Nat.blt d n=true) :
    AP P ops n { dst:=some d,op:=.slice T x (some y) none none,type:=ty,pos:=pos,after:=after,guard:=none } d (.one (.row l')) L B:=by
  refine Rv hd fun K Ob w0 w a Bs L' Fs h hL hB=>?_
  subst hp
  obtain ⟨v,hv,hr⟩:=Zq hL hx
  obtain ⟨u,hu',hr2⟩:=Zq hL hy
  obtain rfl:=Xt hr2
  obtain ⟨A,c,rfl,hc,hr'⟩:=Dx hr
  have key:=Im (lo:=i) (hi:=l.length) (c':=c) hr' hi (Ji _) (.inl rfl) hsz (l':=l') (by rw [Vh (by simp)]; exact hl')
  refine ⟨_,?_,key⟩
  simp [execOp,h.ev hv,h.ev hu',Instr.sliceAt,Instr.slice,Instr.sliceBounds,hu,hs,Jc _ hi]
theorem Gc (i:Nat) {T E sz lo len:Nat} {x y:Operand} {kd:IntKind} {p:Int} {r:Option (Nat×Nat)} (hu:∀ w,(underlying T).run P w=.ok (.slice E) w) (hs:∀ w,(Go.sizeOf E).run P w=.ok sz w) (hx:Yf L x=some (.one (.orow r sz lo len))) (hy:Yf L y=some (.one (.int kd p))) (hp:p=(i:Int)) (hi:i≤len) (hd:Nat.blt d n=true) :
    AP P ops n { dst:=some d,op:=.slice T x none (some y) none,type:=ty,pos:=pos,after:=after,guard:=none } d (.one (.orow r sz lo i)) L B:=by
  refine Rv hd fun K Ob w0 w a Bs L' Fs h hL hB=>?_
  subst hp
  obtain ⟨v,hv,hr⟩:=Zq hL hx
  obtain ⟨u,hu',hr2⟩:=Zq hL hy
  obtain rfl:=Xt hr2
  rcases r with _ | ⟨g,c⟩
  · obtain ⟨rfl,rfl,rfl⟩:=hr
    have h0:i=0:=by omega
    subst h0
    refine ⟨.slice none 0 0,?_,rfl,rfl,rfl⟩
    have:=Jc (P:=P) (kd:=kd) (i:=0) (y:=0) .sliceAcap (Ji _)
    simp at this
    simp [execOp,h.ev hv,h.ev hu',Instr.sliceAt,Instr.slice,Instr.sliceBounds,hu,hs,this]
  · obtain ⟨h8,o,rfl,h9⟩:=hr
    refine ⟨.slice (some ⟨g,o,none⟩) i (c-lo),?_,by omega,o,rfl,h9⟩
    have hne:=Jc (P:=P) (kd:=kd) (i:=i) (y:=c-lo) .sliceAcap (by omega)
    simp [execOp,h.ev hv,h.ev hu',Instr.sliceAt,Instr.slice,Instr.sliceBounds,hu,hs,hne,Fo]
theorem F9 (i:Nat) {T E sz lo len:Nat} {x y:Operand} {kd:IntKind} {p:Int} {r:Option (Nat×Nat)} (hu:∀ w,(underlying T).run P w=.ok (.slice E) w) (hs:∀ w,(Go.sizeOf E).run P w=.ok sz w) (hx:Yf L x=some (.one (.orow r sz lo len))) (hy:Yf L y=some (.one (.int kd p))) (hp:p=(i:Int)) (hi:i≤len) (hd:Nat.blt d n=true) :
    AP P ops n { dst:=some d,op:=.slice T x (some y) none none,type:=ty,pos:=pos,after:=after,guard:=none } d (.one (.orow r sz (lo+i) (len-i))) L B:=by
  refine Rv hd fun K Ob w0 w a Bs L' Fs h hL hB=>?_
  subst hp
  obtain ⟨v,hv,hr⟩:=Zq hL hx
  obtain ⟨u,hu',hr2⟩:=Zq hL hy
  obtain rfl:=Xt hr2
  rcases r with _ | ⟨g,c⟩
  · obtain ⟨rfl,rfl,rfl⟩:=hr
    have h0:i=0:=by omega
    subst h0
    refine ⟨.slice none 0 0,?_,rfl,rfl,rfl⟩
    have:=Jc (P:=P) (kd:=kd) (i:=0) (y:=0) .sliceB (Ji _)
    simp at this
    simp [execOp,h.ev hv,h.ev hu',Instr.sliceAt,Instr.slice,Instr.sliceBounds,hu,hs,this]
  · obtain ⟨h8,o,rfl,h9⟩:=hr
    have hne:=Jc (P:=P) (kd:=kd) (i:=i) (y:=len) .sliceB hi
    refine ⟨.slice (if c-lo=i then some ⟨g,o,none⟩ else some ⟨g,o+i*sz,none⟩) (len-i) (c-lo-i),?_,by omega,?_⟩
    · by_cases he:c-lo=i <;> simp [execOp,h.ev hv,h.ev hu',Instr.sliceAt,Instr.slice,Instr.sliceBounds,hu,hs,hne,Fo,he]
    · by_cases he:c-lo=i
      · rw [if_pos he]
        refine ⟨o,by congr 1; omega,fun hh=>?_⟩
        rcases hh with hh | hh
        · have h0:lo=0:=by omega
          have h1:i=0:=by omega
          subst h0 h1
          have:=h9 (.inl rfl)
          simpa using this
        · omega
      · rw [if_neg he]
        refine ⟨o+i*sz,by congr 1; omega,fun hh=>?_⟩
        have:=h9 (by rcases hh with hh | hh <;> omega)
        rw [this,qJv]
end
end Orr
namespace Orr
theorem Zg {L:Sg} {x:AV} {t:Nat} (h:lk L t=some x):D4 L x [t]:=⟨h,trivial⟩
end Orr
namespace Orr
open Go
variable {P:Program} {ops:Array Oper} {n:Nat} {rest:List Oper} {N:Sg→List OB→Prop} {L:Sg} {B:List OB}
theorem Jp (i:Nat) {g:Nat} {T:TypeId} {xs zs ys:List LV} {B':List OB} (hi:Jg B i=some (.blk g T xs,B')) (hun:Ud xs=some zs) (he:zs=ys) (k:AW P ops n rest N L (.blk g T ys::B')):AW P ops n rest N L B:=by
  intro K Ob w0 w a Q hs hQ
  subst he
  obtain ⟨L',Bo,Bs,h1,h2,⟨cs,rfl,h3⟩,h4⟩:=hs.front hi
  exact k _ _ _ _ _ _ (SA.of h1 h2 ⟨cs,rfl,R1 hun h3⟩ h4) hQ
end Orr

namespace Orr
open Go
variable {P:Program} {ops:Array Oper} {n:Nat} {rest:List Oper} {N:Sg→List OB→Prop} {L:Sg} {B:List OB} {Q:Exit→Sg→List OB→Prop}
variable {d:Nat} {ty:TypeId} {pos:String} {after:Array Edge}
theorem AP.frame {o:Oper} {u:AV} (h:AP P ops n o d u L B):∀ (K Ob:Nat→Prop) (w0 w:World) (a:Act) (Bx Bs:List Y8) (L':List (Nat×Value)) (Fs:List Fact),St K Ob w0 w a n L' Fs (Bx++Bs) →
    (∀ t x,lk L t=some x→∃ v,Z1 L' t=some v∧ARep w (Qy Ob (Bx++Bs)) v x)→BsRep w (Qy Ob (Bx++Bs)) B Bs →
    wpList P ops (fun e a' w'=>e=.normal∧∃ v,St K Ob w0 w' a' n ((d,v)::L') Fs (Bx++Bs)∧ARep w' (Qy Ob (Bx++Bs)) v u) [o] a w:=by
  intro K Ob w0 w a Bx Bs L' Fs hs hL hB
  have e:Qy (Qy Ob Bx) Bs=Qy Ob (Bx++Bs):=by
    funext b
    simp only [Qy,G2,Yz]
    exact propext ⟨fun h=>by rcases h with (h | h) | h <;> simp [h],fun h=>by rcases h with h | h | h <;> simp [h]⟩
  have hnd:=hs.nodup
  rw [G2,qYo] at hnd
  have hst:St (fun b=>b<w.heap.size∧b∉Bs.map (·.1)) (Qy Ob Bx) w w a n L' Fs Bs:=by
    refine ⟨hs.size,hs.defers,hs.slots,Ji _,fun _ _=>rfl,fun g T cs hm=>?_,hnd.2.1,fun f hf=>?_,fun b hb=>hb.1,fun b hb=>?_,fun b hb ho=>?_,rfl,rfl⟩
    · obtain ⟨_,h2,h3⟩:=hs.own g T cs (Yz.2 (.inr hm))
      exact ⟨fun hk=>hk.2 (Wa.2 ⟨_,hm,rfl⟩),h2,h3⟩
    · rw [e]; exact hs.facts f hf
    · refine hs.owns_lt ?_
      simp only [Qy,G2,Yz]
      exact hb.imp id .inl
    · rcases ho with ho | ho
      · exact hs.ownO b (by simp only [G2,Yz]; exact .inr hb) ho
      · exact hnd.2.2 b ho b hb rfl
  have key:=h _ (Qy Ob Bx) w w a Bs L' Fs hst (by rw [e]; exact hL) (by rw [e]; exact hB)
  refine K0 hs.defers (R:=fun a' w'=>∃ v,St _ (Qy Ob Bx) w w' a' n ((d,v)::L') Fs Bs∧ARep w' (Qy (Qy Ob Bx) Bs) v u) (fun a w ⟨v,h,_⟩=>h.defers) key fun a' w' ⟨v,h1,h2⟩=>wpList_nil ⟨rfl,v,?_,by rw [←e]; exact h2⟩
  refine ⟨h1.size,h1.defers,h1.slots,Xa hs.wsize h1.wsize,fun b hb=>?_,fun g T cs hm=>?_,hs.nodup,fun f hf=>by rw [←e]; exact h1.facts f hf,hs.base,hs.obase,hs.ownO,h1.io.1.trans hs.io.1,h1.io.2.trans hs.io.2⟩
  · refine (h1.grow b ⟨qZv (hs.base b hb) hs.wsize,fun hm=>?_⟩).trans (hs.grow b hb)
    obtain ⟨⟨g,T,cs⟩,hg,rfl⟩:=Wa.1 hm
    exact (hs.own g T cs (Yz.2 (.inr hg))).1 hb
  · obtain ⟨h3,h4,h5⟩:=hs.own g T cs hm
    rcases Yz.1 hm with hm | hm
    · refine ⟨h3,qZv h4 h1.wsize,(h1.grow g ⟨h4,fun hb=>?_⟩).trans h5⟩
      exact hnd.2.2 g (Wa.2 ⟨_,hm,rfl⟩) g hb rfl
    · exact ⟨h3,(h1.own g T cs hm).2.1,(h1.own g T cs hm).2.2⟩
def gOf:Value→Nat
  | .pointer (some p)=>p.block
  | _=>0
abbrev Td:=List (Nat×Nat×List Value)
def Sn (As:Td) (p:Nat→Bool) (v:Nat→Value):List Y8:=(As.filter fun x=>p x.1).map fun x=>(gOf (v x.1),Tag.ty x.2.1,x.2.2)
def Yx:Td→Nat→Option (Nat×List Value)
  | [],_=>none
  |
   x::As,i=>match Nat.beq x.1 i with
   | true=>some x.2
   | false=>Yx As i
theorem Hg:∀ {As:Td} {i:Nat} (p:Nat→Bool) (v:Nat→Value) (u:Value),Yx As i=none→Sn As (fun j=>j == i || p j) (fun j=>if j=i then u else v j)=Sn As p v
  | [],_,_,_,_,_=>rfl
  |
   x::As,i,p,v,u,h=>by
   simp only [Yx] at h
   split at h
   · cases h
   · rename_i e
     have ih:=Hg (As:=As) p v u h
     have hne:x.1≠i:=qJl e
     unfold Sn at ih ⊢
     have e1:(x.1 == i || p x.1)=p x.1:=by simp [hne]
     cases hp:p x.1
     · rw [qXn (by simp [hne,hp]),qXn (by simp [hp]),ih]
     · rw [qXm (by simp [hp]),qXm (by simp [hp]),Ee,Ee,ih]
       simp only [hne,if_false]
theorem Qdh:∀ {As:Td} {i T:Nat} {cs:List Value} (p:Nat→Bool) (v:Nat→Value) (g:Nat),(As.map (·.1)).Nodup→Yx As i=some (T,cs)→p i=false →
    (Sn As (fun j=>j == i || p j) (fun j=>if j=i then .pointer (some ⟨g,0,none⟩) else v j)).Perm ((g,Tag.ty T,cs)::Sn As p v)
  | [],_,_,_,_,_,_,_,h,_=>by cases h
  |
   x::As,i,T,cs,p,v,g,hn,h,hp=>by
   rw [Ee,qJr] at hn
   simp only [Yx] at h
   split at h
   · rename_i e
     have e:x.1=i:=Fg e
     injection h with h
     have hnone:Yx As i=none:=by
       have:∀ (As:Td),i∉As.map (·.1)→Yx As i=none:=by
         intro As
         induction As with
         | nil=>intro _; rfl
         |
          cons y As ih =>
          intro hm
          simp only [Ee,Vb,not_or] at hm
          simp only [Yx]
          have:Nat.beq y.1 i=false:=by
            cases hb:Nat.beq y.1 i
            · rfl
            · exact absurd (Fg hb).symm hm.1
          rw [this]; exact ih hm.2
       exact this As (by rw [←e]; exact hn.1)
     have ih:=Hg (As:=As) p v (.pointer (some ⟨g,0,none⟩)) hnone
     unfold Sn at ih ⊢
     rw [qXm (by simp [e]),qXn (by rw [e,hp]; simp),Ee,ih]
     simp only [e,if_true,h,gOf]
     exact .refl _
   · rename_i e
     have hne:x.1≠i:=qJl e
     have ih:=Qdh (As:=As) p v g hn.2 h hp
     unfold Sn at ih ⊢
     cases hpx:p x.1
     · rw [qXn (by simp [hne,hpx]),qXn (by simp [hpx])]; exact ih
     · rw [qXm (by simp [hpx]),qXm (by simp [hpx]),Ee,Ee]
       simp only [hne,if_false]
       exact (ih.cons _).trans (List.Perm.swap ..)
def AL (P:Program) (ops:Array Oper) (n:Nat) (o:Oper) (d T:Nat) (cs:List Value):Prop :=
  ∀ (K Ob:Nat→Prop) (w0 w:World) (a:Act) (Bs:List Y8) (L':List (Nat×Value)) (Fs:List Fact),St K Ob w0 w a n L' Fs Bs →
    wpList P ops (fun e a' w'=>e=.normal∧∃ g,St K Ob w0 w' a' n ((d,.pointer (some ⟨g,0,none⟩))::L') Fs ((g,Tag.ty T,cs)::Bs)) [o] a w
theorem Vl {T:TypeId} {z:Value} (hz:∀ w,(zeroValue T).run P w=.ok z w) (hd:Nat.blt d n=true):AL P ops n { dst:=some d,op:=.alloc T,type:=ty,pos:=pos,after:=after,guard:=none } d T z.cells.toList :=
  fun K Ob w0 w a Bs L' Fs h=>Jn h hz hd fun g w' a' h'=>wpList_nil ⟨rfl,g,h'⟩
def DOp (P:Program) (ops:Array Oper) (n:Nat) (L:Sg) (B:List OB) (As:Td) (i d:Nat) (u:AV) (dep:Sg) (o:Oper):Prop :=
  match Yx As i with
  | some (T,cs)=>AL P ops n o d T cs
  | none=>AP P ops n o d u (dep++L) B
def Qr2 (P:Program) (ops:Array Oper) (n:Nat) (L:Sg) (B:List OB) (As:Td) (D:List Nat) (us:List AV):Nat→List (List (Nat×AV))→List Oper→Prop
  | i,dep::deps,o::os=>DOp P ops n L B As i (D.getD i 0) (us.getD i .un) dep o∧Qr2 P ops n L B As D us (i+1) deps os
  | _,_,_=>True
def dF (As:Td) (i:Nat) (u:AV) (v:Value):Fact:=match Yx As i with
  | some _=>⟨fun _ _=>∃ g,v=.pointer (some ⟨g,0,none⟩),fun _ h=>h⟩
  | none=>Gz u v
def dFs (As:Td):Nat→List AV→List (Value→Fact)
  | _,[]=>[]
  | i,u::us=>dF As i u::dFs As (i+1) us
theorem Qdi (As:Td):∀ {us:List AV} {k i:Nat} {u:AV},us[i]? = some u→(dFs As k us)[i]? = some (dF As (k+i) u)
  | [],_,_,_,h=>by simp at h
  | x::us,k,0,u,h=>by simp at h; subst h; rfl
  |
   x::us,k,i+1,u,h=>by
   have:=Qdi As (us:=us) (k:=k+1) (i:=i) (by simpa using h)
   rw [show k+(i+1)=k+1+i from by omega]
   simpa [dFs] using this
def Qoo (As:Td):List (List LV)→(Nat→Nat)→Option (List OB)
  |
   [],_=>match As with
   | []=>some []
   | _=>none
  |
   zs::r,g=>match As with
   | []=>none
   |
    x::As=>match Qoo As r g with
    | some B=>some (.blk (g x.1) x.2.1 zs::B)
    | none=>none
def Qmh:Td→List (List LV)→Prop
  | [],[]=>True
  | x::As,zs::r=>zl.zls x.2.2=some zs∧Qmh As r
  | _,_=>False
theorem Ic {w:World} {O:Nat→Prop} {g:Nat→Nat}:∀ {As:Td} {zss:List (List LV)} {B1:List OB},Qmh As zss→Qoo As zss g=some B1→∀ {B:List OB} {Bs:List Y8},BsRep w O B Bs→BsRep w O (B1++B) (As.map (fun x=>(g x.1,Tag.ty x.2.1,x.2.2))++Bs)
  | [],[],B1,_,h,B,Bs,hB=>by simp [Qoo] at h; subst h; exact hB
  |
   x::As,zs::r,B1,hz,h,B,Bs,hB=>by
   simp only [Qoo] at h
   split at h
   · rename_i q hq
     injection h with h; subst h
     exact ⟨[(g x.1,Tag.ty x.2.1,x.2.2)],_,rfl,⟨_,rfl,Qek hz.1⟩,Ic hz.2 hq hB⟩
   · cases h
  | [],_::_,_,h,_,_,_,_=>h.elim
  | _::_,[],_,h,_,_,_,_=>h.elim
def S5 (As:Td) (g:Nat→Nat):Nat→List Nat→List AV→Sg→Option Sg
  | _,[],[],L=>some L
  |
   i,d::D,u::us,L=>match S5 As g (i+1) D us L with
   |
    some r=>match Yx As i with
    | some _=>some ((d,.one (.ow (g i) 0))::r)
    | none=>some ((d,u)::r)
   | none=>none
  | _,_,_,_=>none
theorem Dd {w:World} {O:Nat→Prop} {As:Td} {g:Nat→Nat} {v:Nat→Value} {L:Sg} {L2:List (Nat×Value)} (hL:∀ t x,lk L t=some x→∃ y,Z1 L2 t=some y∧ARep w O y x):∀ {D:List Nat} {us:List AV} {i:Nat} {L3:Sg},S5 As g i D us L=some L3 →
    (∀ j,j<D.length→Yx As (i+j)=none→ARep w O (v (i+j)) (us.getD j .un))→(∀ j,j<D.length→(Yx As (i+j)).isSome=true→v (i+j)=.pointer (some ⟨g (i+j),0,none⟩)) →
    ∀ t x,lk L3 t=some x→∃ y,Z1 ((List.range' i D.length).map (fun j=>(D.getD (j-i) 0,v j))++L2) t=some y∧ARep w O y x
  | [],[],i,L3,h,_,_,t,x,hx=>by simp [S5] at h; subst h; simpa using hL t x hx
  |
   d::D,u::us,i,L3,h,h1,h2,t,x,hx=>by
   simp only [S5] at h
   split at h
   · rename_i r hr
     have ih:=Dd hL hr (fun j hj hf=>by
       have:=h1 (j+1) (by simp; omega) (by rw [show i+(j+1)=i+1+j from by omega]; exact hf)
       rw [show i+(j+1)=i+1+j from by omega] at this
       simpa using this) (fun j hj hf=>by
       have:=h2 (j+1) (by simp; omega) (by rw [show i+(j+1)=i+1+j from by omega]; exact hf)
       rwa [show i+(j+1)=i+1+j from by omega] at this)
     have hrange:(List.range' i (d::D).length).map (fun j=>((d::D).getD (j-i) 0,v j))=(d,v i)::(List.range' (i+1) D.length).map (fun j=>(D.getD (j-(i+1)) 0,v j)):=by
       rw [qZy,List.range'_succ,Ee,qYa]
       congr 1
       refine qJt fun j hj=>?_
       have:=List.mem_range'_1.1 hj
       rw [show j-i=(j-(i+1))+1 from by omega]
       simp
     rw [hrange]
     have key:∀ u',(ARep w O (v i) u')→lk ((d,u')::r) t=some x→∃ y,Z1 ((d,v i)::(List.range' (i+1) D.length).map (fun j=>(D.getD (j-(i+1)) 0,v j))++L2) t=some y∧ARep w O y x:=by
       intro u' hu hx
       simp only [lk] at hx
       simp only [Eb,Z1]
       cases e:Nat.beq t d <;> rw [e] at hx
       · exact ih t x hx
       · injection hx with hx; subst hx; exact ⟨_,rfl,hu⟩
     split at h
     · rename_i q hq
       injection h with h; subst h
       have:=h2 0 (by simp) (by rw [Mr,hq]; rfl)
       rw [Mr] at this
       exact key (.one (.ow (g i) 0)) this hx
     · rename_i hq
       injection h with h; subst h
       have:=h1 0 (by simp) (by rw [Mr]; exact hq)
       rw [Mr] at this
       exact key _ (by simpa using this) hx
   · cases h
  | [],_::_,_,_,h,_,_,_,_,_=>by simp [S5] at h
  | _::_,[],_,_,h,_,_,_,_,_=>by simp [S5] at h
theorem Ul {id:Nat} {l:List Oper} (hm:P.follows .mixedOrders=true) (m:Nat) (D:List Nat) (deps:List (List Nat)) (us:List AV) (As:Td) (zss:List (List LV)) (hchk:Kc l m (D.map some) deps=true)
    (hDm:(Nat.beq D.length m && Nat.beq us.length m && deps.all fun js=>js.all fun j=>Nat.blt j m && (Yx As j).isNone)=true) (hAs:(As.all fun x=>Nat.blt x.1 m)=true) (hnd:(As.map (·.1)).Nodup) (hzl:Qmh As zss) (hnone:(D.all fun t=>(lk L t).isNone)=true)
    (hops:Qr2 P l.toArray n L B As D us 0 (depsOf D us deps) (l.take m))
    (k:∀ g:Nat→Nat,∃ L2 B1,S5 As g 0 D us L=some L2∧Qoo As zss g=some B1∧AW P l.toArray n (l.drop m) (fun L B=>Q .normal L B) L2 (B1++B)):AC P n (.region id l.toArray true) Q L B:=by
  rintro K Ob w0 w a ⟨L',Bs,h,hL,hB⟩
  simp only [qXk,Bv] at hDm hnone hAs
  obtain ⟨⟨hD,hU⟩,hdl⟩:=hDm
  have hD:=Fg hD
  have hU:=Fg hU
  have hdl1:∀ js∈deps,∀ j∈js,j<m:=fun js hj j hjj=>by have:=(hdl js hj j hjj).1; rwa [Mc] at this
  have hdl2:∀ js∈deps,∀ j∈js,Yx As j=none:=fun js hj j hjj=>by have:=(hdl js hj j hjj).2; rwa [qXq] at this
  obtain ⟨L3,h1,h2,h3⟩:=only L hL
  have hst:St K Ob w0 w a n L3 [] Bs:={ h with slots:=fun t v hv=>h.slots t v (h2 t v hv) }
  have hst2:=hst.add (f:=SF L L3 B Bs [] []) ⟨h3,hB,trivial⟩
  have hc:=Hr hchk
  have hS:∀ i,(hi:i<m)→(dFs As 0 us).getD i Uq=dF As i (us[i]'(by rw [hU]; exact hi)):=fun i hi=>by
    have:=Qdi As (us:=us) (k:=0) (i:=i) (Xv (by rw [hU]; exact hi))
    rw [Ve,this,Vy]; rfl
  have hus:∀ i,(hi:i<m)→us.getD i .un=us[i]'(by rw [hU]; exact hi):=fun i hi=>by
    rw [Ve,Xv (by rw [hU]; exact hi)]; rfl
  have hget:∀ (os:List Oper) (ds:List (List (Nat×AV))) (k:Nat),Qr2 P l.toArray n L B As D us k ds os→∀ (i:Nat) dep o,ds[i]? = some dep→os[i]? = some o→DOp P l.toArray n L B As (k+i) (D.getD (k+i) 0) (us.getD (k+i) .un) dep o:=by
    intro os
    induction os with
    | nil=>intro ds k _ i dep o _ ho; simp at ho
    |
     cons o os ih =>
     intro ds k hap i dep o' hd ho
     rcases ds with _ | ⟨dp,ds⟩
     · simp at hd
     · cases i with
       | zero=>simp at hd ho; subst hd ho; exact hap.1
       |
        succ i =>
        have:=ih ds (k+1) hap.2 i dep o' (by simpa using hd) (by simpa using ho)
        rw [show k+(i+1)=k+1+i from by omega]
        exact this
  have hdraw1:∀ (i:Nat) (dj:List Nat) (o:Oper),deps[i]? = some dj→l[i]? = some o→i<m→Qeu P l.toArray K Ob w0 n L3 [SF L L3 B Bs [] []] (fun p v=>Sn As p v++Bs) (D.map some) (dFs As 0 us) i dj o:=by
    intro i dj o hd ho hi p hpi _ v Fx a' w' hs
    have hop:=hget (l.take m) _ 0 hops i _ o (Wo hd) (by rw [Ei,if_pos hi]; exact ho)
    rw [Vy] at hop
    have hjm:=hdl1 dj (Y6 hd)
    have hjn:=hdl2 dj (Y6 hd)
    rw [Gq D v dj fun j hj=>by rw [hD]; exact hjm j hj] at hs
    have hfacts:∀ j∈dj,ARep w' (Qy Ob (Sn As p v++Bs)) (v j) (us.getD j .un):=fun j hj=>by
      have:=hs.facts ((dFs As 0 us).getD j Uq (v j)) (Yz.2 (.inl (Wa.2 ⟨j,hj,rfl⟩)))
      rw [hS j (hjm j hj)] at this
      unfold dF at this
      rw [hjn j hj] at this
      rw [hus j (hjm j hj)]
      exact this
    obtain ⟨h6,h7,_⟩:(SF L L3 B Bs [] []).holds w' (Qy Ob (Sn As p v++Bs)):=hs.facts _ (Yz.2 (.inr (by simp)))
    have hdk:=Wi D i (by rw [hD]; exact hi)
    unfold DOp at hop
    cases hf:Yx As i with
    |
     none =>
     rw [hf] at hop
     have hw:=AP.frame hop K Ob w0 w' a' (Sn As p v) Bs _ _ hs (Ug h6 hfacts) h7
     refine K0 hs.defers (fun _ _ ⟨_,hh,_⟩=>hh.defers) hw fun a2 w2 hh=>?_
     obtain ⟨x,h8,h9⟩:=hh
     refine wpList_nil ⟨rfl,x,?_⟩
     simp only [Hg (As:=As) p v x hf]
     rw [if_pos hdk.2,hdk.1,hS i hi]
     rw [hus i hi] at h9
     refine h8.drawEnd (by simp [Z1]) ?_
     unfold dF; rw [hf]; exact h9
    |
     some q =>
     obtain ⟨T,cs⟩:=q
     rw [hf] at hop
     have hw:=hop K Ob w0 w' a' (Sn As p v++Bs) _ _ hs
     refine K0 hs.defers (fun _ _ ⟨_,hh⟩=>hh.defers) hw fun a2 w2 hh=>?_
     obtain ⟨g,h8⟩:=hh
     refine wpList_nil ⟨rfl,.pointer (some ⟨g,0,none⟩),?_⟩
     have hp:=Qdh (As:=As) p v g hnd hf hpi
     rw [if_pos hdk.2,hdk.1,hS i hi]
     have h9:=h8.perm (Bs':=Sn As (fun j=>j == i || p j) (fun j=>if j=i then .pointer (some ⟨g,0,none⟩) else v j)++Bs) (hp.append_right Bs)
     refine h9.drawEnd (by simp [Z1]) ?_
     unfold dF; rw [hf]; exact ⟨g,rfl⟩
  have hdrawops:∀ (js:List (List Nat)) (os:List Oper) (k:Nat),(∀ i dj o,js[i]? = some dj→os[i]? = some o→Qeu P l.toArray K Ob w0 n L3 [SF L L3 B Bs [] []] (fun p v=>Sn As p v++Bs) (D.map some) (dFs As 0 us) (k+i) dj o) →
      DrawOps P l.toArray K Ob w0 n L3 [SF L L3 B Bs [] []] (fun p v=>Sn As p v++Bs) (D.map some) (dFs As 0 us) k js os:=by
    intro js
    induction js with
    | nil=>intro os k _; cases os <;> trivial
    |
     cons dj js ih =>
     intro os k hall
     rcases os with _ | ⟨o,os⟩
     · trivial
     · refine ⟨by have:=hall 0 dj o rfl rfl; rwa [Mr] at this,ih os (k+1) fun i dj' o' hd ho=>?_⟩
       have:=hall (i+1) dj' o' (by simpa using hd) (by simpa using ho)
       rwa [show k+(i+1)=k+1+i from by omega] at this
  refine Qbx hm m (D.map some) deps (dFs As 0 us) (fun p v=>Sn As p v++Bs) hchk hst2 (fun v=>by simp [Sn]) ?_ (hdrawops deps l 0 fun i dj o hd ho=>by
    rw [Vy]
    exact hdraw1 i dj o hd ho (by have:=(Wz.1 hd).1; rw [hc.deplen] at this; exact this)) fun p hp v a' w' hs=>?_
  · rw [Bv]
    intro j hj
    have hjm:j<m:=Ru.1 hj
    rw [(Wi D j (by rw [hD]; exact hjm)).1]
    have hmem:D.getD j 0∈D:=by rw [Ve,Xv (by rw [hD]; exact hjm)]; exact qJd _
    have:=hnone _ hmem
    rw [qXq] at this
    rw [h1 _ this]; simp
  · rw [Gq D v _ fun j hj=>by rw [hD]; exact Ru.1 hj] at hs
    let g:Nat→Nat:=fun j=>gOf (v j)
    have hall:Sn As p v=As.map fun x=>(g x.1,Tag.ty x.2.1,x.2.2):=by
      unfold Sn
      rw [qYv.2 fun x hx=>hp x.1 (by have:=hAs x hx; rwa [Mc] at this)]
    have hf1:∀ j,j<D.length→Yx As (0+j)=none→ARep w' (Qy Ob (Sn As p v++Bs)) (v (0+j)) (us.getD j .un):=fun j hj hf=>by
      rw [Vy] at hf ⊢
      have hjm:j<m:=by omega
      have:=hs.facts ((dFs As 0 us).getD j Uq (v j)) (Yz.2 (.inl (Wa.2 ⟨j,Ru.2 hjm,rfl⟩)))
      rw [hS j hjm] at this
      unfold dF at this
      rw [hf] at this
      rw [hus j hjm]
      exact this
    have hf2:∀ j,j<D.length→(Yx As (0+j)).isSome=true→v (0+j)=.pointer (some ⟨g (0+j),0,none⟩):=fun j hj hf=>by
      rw [Vy] at hf ⊢
      have hjm:j<m:=by omega
      have:=hs.facts ((dFs As 0 us).getD j Uq (v j)) (Yz.2 (.inl (Wa.2 ⟨j,Ru.2 hjm,rfl⟩)))
      rw [hS j hjm] at this
      unfold dF at this
      cases hq:Yx As j with
      | none=>rw [hq] at hf; cases hf
      |
       some q =>
       rw [hq] at this
       obtain ⟨g',hg⟩:=this
       show v j=.pointer (some ⟨gOf (v j),0,none⟩)
       rw [hg]; rfl
    obtain ⟨h6,h7,_⟩:(SF L L3 B Bs [] []).holds w' (Qy Ob (Sn As p v++Bs)):=hs.facts _ (Yz.2 (.inr (by simp)))
    obtain ⟨L2,B1,hk1,hk2,hk3⟩:=k g
    have hlk:=Dd h6 hk1 hf1 hf2
    have hr:List.range' 0 D.length=List.range m:=by rw [List.range_eq_range',hD]
    rw [hr] at hlk
    simp only [qYf] at hlk
    have hB2:=Ic (w:=w') (O:=Qy Ob (Sn As p v++Bs)) hzl hk2 h7
    rw [←hall] at hB2
    exact hk3 K Ob w0 w' a' _ ⟨_,Sn As p v++Bs,hs.noFacts,hlk,hB2⟩ fun a2 w2 h=>h
theorem Ox {T E size len:Nat} {z:Value} {zs r:List LV} {ps:List (Nat×Operand)} {us:List (Nat×AV)} {ls:List (List LV)} (hu:∀ w,(underlying T).run P w=.ok (.slice E) w) (hs:∀ w,(Go.sizeOf E).run P w=.ok size w) (hz:∀ w,(zeroValue E).run P w=.ok z w)
    (hz1:zl z=some zs) (hz2:Nat.beq zs.length size=true) (hsz:Nat.blt 0 size=true) (hl:Nat.ble (len*size) 16777216=true) (hl0:Nat.blt 0 len=true) (hx:Qa7 L ps=some us) (hf:Mu (fun i=>some (i*size,size)) (zrep len zs) us=some r)
    (hc:Ty size len r=some ls) (hfr:No ls=true) (hd:Nat.blt d n=true) (k:∀ r,AW P ops n rest N ((d,.one (.orow r size 0 len))::L) (.row r E size ls::B)) :
    AW P ops n ({ dst:=some d,op:=.buildSlice T len ps.toArray,type:=ty,pos:=pos,after:=after,guard:=none }::rest) N L B:=by
  rintro K Ob w0 w a Q ⟨L',Bs,h,hL,hB⟩ hQ
  have hz2:=Fg hz2
  have hsz:0<size:=by rwa [Mc] at hsz
  have hl:=qXo hl
  have hl0:0<len:=by rwa [Mc] at hl0
  obtain ⟨vs,h1,h2,h3⟩:=Qae hL hx
  have hzr:=Lv (w:=w) (O:=Qy Ob Bs) hz1
  have hzl:=hzr.len
  obtain ⟨cells,h4,h5⟩:=Pg (w:=w) (O:=Qy Ob Bs) hf (Es hzr len) h2 h3
  have h6:=Ce h4
  obtain ⟨vss,rfl,h7,h8,h9⟩:=Cy h5 hc
  have hadd:=h.add (f:=⟨fun w O=>(∀ t x,lk L t=some x→∃ v,Z1 L' t=some v∧ARep w O v x)∧BsRep w O B Bs∧RReps w O vss ls,fun hle h=>⟨Fn hle h.1,h.2.1.keep hle,h.2.2.keep hle⟩⟩) ⟨hL,hB,h7⟩
  refine V9 hadd h1 (fun w=>Vm (size:=size) (zs:=z.cells.toList) hu hs hz (by simp) (by rw [hzl]; exact hz2) hsz hl hl0 h6 w) hd fun g w' a' h'=>?_
  obtain ⟨h10,h11,h12⟩:=h'.fact 0 rfl
  have hll:len≤16777216:=Xa (qYy len hsz) hl
  have h63:(2:Nat)^63=9223372036854775808:=by decide
  refine k (some (g,len)) _ _ _ _ _ _ (SA.of (Bo:=[_]) h'.noFacts (Ga h10 ?_) ?_ h11) hQ
  · exact ⟨by omega,0,rfl,fun _=>by simp⟩
  · exact ⟨hsz,h8,P6 hfr,vss,[],h12,by simp,by rw [qXh,Vp (sz:=size) (h12.all h8),h12.len,h9],by omega,by omega⟩
end Orr
namespace Orr
open Go
variable {P:Program} {n:Nat} {L:Sg} {B:List OB} {Q:Exit→Sg→List OB→Prop} {c:Code}
end Orr
namespace Orr
open Go
variable {P:Program} {ops:Array Oper} {n:Nat} {rest:List Oper} {N:Sg→List OB→Prop} {L:Sg} {B:List OB} {Q:Exit→Sg→List OB→Prop} {c:Code}
theorem SA.slotEq {K Ob:Nat→Prop} {w0 w:World} {a:Act} (h:SA K Ob w0 w a n L B) {t:Nat} {x y:AV} (ht:lk L t=some x) (he:x=y):SA K Ob w0 w a n ((t,y)::L) B:=by
  subst he
  obtain ⟨L',Bs,h1,h2,h3⟩:=h
  refine ⟨L',Bs,h1,fun s u hu=>?_,h3⟩
  simp only [lk] at hu
  cases e:Nat.beq s t <;> rw [e] at hu
  · exact h2 s u hu
  · injection hu with hu; subst hu; rw [Fg e]; exact h2 t _ ht
theorem Jf (t:Nat) {x y:AV} (ht:lk L t=some x) (he:x=y) (k:AW P ops n rest N ((t,y)::L) B):AW P ops n rest N L B:=fun _ _ _ _ _ _ hs hQ=>k _ _ _ _ _ _ (hs.slotEq ht he) hQ
end Orr

namespace Orr
open Go
variable {P:Program} {ops:Array Oper} {n:Nat} {rest:List Oper} {N:Sg→List OB→Prop} {L:Sg} {B:List OB} {d:Nat} {ty:TypeId} {pos:String} {after:Array Edge}
theorem Bm {t E len sz i:Nat} {kd:IntKind} {p:Int} (hu:∀ w,(underlying t).run P w=.ok (.array len E) w) (hs:∀ w,(Go.sizeOf E).run P w=.ok sz w) (hp:p=(i:Int)) (hi:i<len)
    (b o:Nat) (w:World):(Instr.indexAt t (.pointer (some ⟨b,o,none⟩)) (.int kd p)).run P w=.ok (.pointer (some ⟨b,o+i*sz,none⟩)) w:=by
  subst hp
  have h0:(0:Int)≤(i:Int)∧(i:Int)<(len:Int):=⟨by omega,by omega⟩
  simp [Instr.indexAt,asIntOf,hu,hs,Instr.sureAddr,h0,hi,Addr.add]
theorem V2 (i:Nat) {t E len sz g o:Nat} {x y:Operand} {kd:IntKind} {p:Int} (hu:∀ w,(underlying t).run P w=.ok (.array len E) w) (hs:∀ w,(Go.sizeOf E).run P w=.ok sz w)
    (hx:Yf L x=some (.one (.ow g o))) (hy:Yf L y=some (.one (.int kd p))) (hp:p=(i:Int)) (hi:i<len) (hd:Nat.blt d n=true) :
    AP P ops n { dst:=some d,op:=.indexAddr t x y,type:=ty,pos:=pos,after:=after,guard:=none } d (.one (.ow g (o+i*sz))) L B :=
  Rv hd fun K Ob w0 w a Bs L' Fs h hL hB=>by
    obtain ⟨v,hv,hr1⟩:=Zq hL hx
    obtain rfl:v=.pointer (some ⟨g,o,none⟩):=hr1
    obtain ⟨u,hu',hr2⟩:=Zq hL hy
    obtain rfl:=Xt hr2
    refine ⟨.pointer (some ⟨g,o+i*sz,none⟩),?_,rfl⟩
    simp only [execOp,h.ev hv,h.ev hu']
    rw [Sem.run_bind,Bm hu hs hp hi]
    rfl
theorem Zv (i:Nat) {t E len sz:Nat} {l r:List LV} {x y:Operand} {kd:IntKind} {p:Int} (hu:∀ w,(underlying t).run P w=.ok (.array len E) w) (hs:∀ w,(Go.sizeOf E).run P w=.ok sz w)
    (hx:Yf L x=some (.one (.sh l))) (hy:Yf L y=some (.one (.int kd p))) (hp:p=(i:Int)) (hi:i<len) (hr:S7 (i*sz) l=some r) (hd:Nat.blt d n=true) :
    AP P ops n { dst:=some d,op:=.indexAddr t x y,type:=ty,pos:=pos,after:=after,guard:=none } d (.one (.sh r)) L B :=
  Rv hd fun K Ob w0 w a Bs L' Fs h hL hB=>by
    obtain ⟨v,hv,hr1⟩:=Zq hL hx
    obtain ⟨u,hu',hr2⟩:=Zq hL hy
    obtain rfl:=Xt hr2
    obtain ⟨b,o,rfl,h2⟩:=Qme (Qsa hr1) hr
    refine ⟨.pointer (some ⟨b,o+i*sz,none⟩),?_,h2⟩
    simp only [execOp,h.ev hv,h.ev hu']
    rw [Sem.run_bind,Bm hu hs hp hi]
    rfl
theorem Qou {t E len sz i:Nat} {kd:IntKind} {p:Int} (hu:∀ w,(underlying t).run P w=.ok (.array len E) w) (hs:∀ w,(Go.sizeOf E).run P w=.ok sz w) (ht:∀ w,(isAgg E).run P w=.ok false w)
    (hp:p=(i:Int)) (hi:i<len) {vs:List Value} {v:Value} (hv:vs[i*sz]? = some v) (w:World):(Instr.index t (.agg vs.toArray) (.int kd p)).run P w=.ok v w:=by
  subst hp
  have h0:(0:Int)≤(i:Int)∧(i:Int)<(len:Int):=⟨by omega,by omega⟩
  simp [Instr.index,asIntOf,hu,hs,h0,hi,Go.part,ht,hv]
theorem B5 (i:Nat) {t E len sz:Nat} {x y:Operand} {kd:IntKind} {p:Int} {xs:List LV} {z:LV} (hu:∀ w,(underlying t).run P w=.ok (.array len E) w) (hs:∀ w,(Go.sizeOf E).run P w=.ok sz w) (ht:∀ w,(isAgg E).run P w=.ok false w)
    (hx:Yf L x=some (.agg xs)) (hy:Yf L y=some (.one (.int kd p))) (hp:p=(i:Int)) (hi:i<len) (hz:xs[i*sz]? = some z) (hd:Nat.blt d n=true) :
    AP P ops n { dst:=some d,op:=.index t x y,type:=ty,pos:=pos,after:=after,guard:=none } d (.one z) L B :=
  Rv hd fun K Ob w0 w a Bs L' Fs h hL hB=>by
    obtain ⟨v,hv,vs,rfl,hreps⟩:=Zq hL hx
    obtain ⟨u,hu',hr2⟩:=Zq hL hy
    obtain rfl:=Xt hr2
    obtain ⟨v,hv2,hr⟩:=hreps.get hz
    refine ⟨v,?_,hr⟩
    simp only [execOp,h.ev hv,h.ev hu']
    rw [Sem.run_bind,Qou hu hs ht hp hi hv2]
    rfl
def Qxy (l:List Int):List LV:=l.map (LV.int .i64)
theorem Qdw {w:World} {O:Nat→Prop}:∀ {l:List Int} {vs:List Value},XReps w O vs (Qxy l)→vs=l.map (Value.int .i64)
  | [],[],_=>rfl
  | [],_::_,h=>h.elim
  | _::_,[],h=>h.elim
  |
   x::l,v::vs,h=>by
   obtain ⟨h1,h2⟩:=h
   have e:v=.int .i64 x:=Xt (h:=show ARep w O v (.one (.int .i64 x)) from h1)
   rw [e,Qdw h2]; rfl
theorem Qsr {t:TypeId} {a b:List Int} (hg:P.eqGuardType P.depth t=false) (he:∀ w,(Op.equal t (.agg (a.map (Value.int .i64)).toArray) (.agg (b.map (Value.int .i64)).toArray)).run P w=.ok (decide (a=b)) w)
    {ev:Operand→Value} {x y:Operand} {t':TypeId} (hx:ev x=.agg (a.map (Value.int .i64)).toArray) (hy:ev y=.agg (b.map (Value.int .i64)).toArray) (w:World) :
    (execOp ev { dst:=some d,op:=.binOp .eql t x y t',type:=ty,pos:=pos,after:=after,guard:=none }).run P w=.ok (.value (.bool (decide (a=b)))) w
    ∧ (execOp ev { dst:=some d,op:=.binOp .neq t x y t',type:=ty,pos:=pos,after:=after,guard:=none }).run P w=.ok (.value (.bool (!decide (a=b)))) w:=by
  constructor <;> simp [execOp,hx,hy,eqGuard,run_program,hg,Go.binOp,he]
theorem Qvm {x y:Operand} {xs ys:List LV} (a b:List Int) {r:Bool} {t t':TypeId} (hg:P.eqGuardType P.depth t=false)
    (he:∀ w,(Op.equal t (.agg (a.map (Value.int .i64)).toArray) (.agg (b.map (Value.int .i64)).toArray)).run P w=.ok (decide (a=b)) w)
    (hx:Yf L x=some (.agg xs)) (hy:Yf L y=some (.agg ys)) (hxs:xs=Qxy a) (hys:ys=Qxy b) (hr:(!decide (a=b))=r) (hd:Nat.blt d n=true) :
    AP P ops n { dst:=some d,op:=.binOp .neq t x y t',type:=ty,pos:=pos,after:=after,guard:=none } d (.one (.bool r)) L B :=
  Rv hd fun K Ob w0 w aa Bs L' Fs h hL hB=>by
    subst hxs hys hr
    obtain ⟨v,hv,vs,rfl,h1⟩:=Zq hL hx
    obtain ⟨u,hu,us,rfl,h2⟩:=Zq hL hy
    obtain rfl:=Qdw h1
    obtain rfl:=Qdw h2
    exact ⟨.bool (!decide (a=b)),(Qsr hg he (h.ev hv) (h.ev hu) w).2,LRep.bool _⟩
def Ro:LV→Option Bool
  | .nilp=>some true
  | .sh _=>some false
  | .ow _ _=>some false
  | .oel (some _) _ _ _=>some false
  | _=>none
theorem Qd6 {w:World} {O:Nat→Prop} {v:Value} {x:LV} {b:Bool} (h:ARep w O v (.one x)) (hb:Ro x=some b):∃ p:Option Addr,v=.pointer p∧p.isNone=b:=by
  cases x <;> first | (simp [Ro] at hb; done) | skip
  case nilp=>simp [Ro] at hb; subst hb; cases (show LRep w O v .nilp from h); exact ⟨none,rfl,rfl⟩
  case sh l =>
    simp [Ro] at hb; subst hb
    cases (show LRep w O v (.sh l) from h); exact ⟨_,rfl,rfl⟩
  case ow g o=>simp [Ro] at hb; subst hb; exact ⟨_,h,rfl⟩
  case oel r sz i o =>
    rcases r with _ | ⟨g,c⟩
    · simp [Ro] at hb
    · simp [Ro] at hb; subst hb; exact ⟨_,h,rfl⟩
theorem Qbt {t E:TypeId} {p:Option Addr} (hu:∀ w,(underlying t).run P w=.ok (.pointer E) w) {ev:Operand→Value} {x y:Operand} {t':TypeId} (hx:ev x=.pointer p) (hy:ev y=.pointer none) (w:World) :
    (execOp ev { dst:=some d,op:=.binOp .eql t x y t',type:=ty,pos:=pos,after:=after,guard:=none }).run P w=.ok (.value (.bool p.isNone)) w
    ∧ (execOp ev { dst:=some d,op:=.binOp .neq t x y t',type:=ty,pos:=pos,after:=after,guard:=none }).run P w=.ok (.value (.bool (!p.isNone))) w:=by
  have he:(Op.equal t (.pointer p) (.pointer none)).run P w=.ok p.isNone w:=by
    have key:∀ d,(Op.equalIn (d+1) t (.pointer p) (.pointer none)).run P w=.ok p.isNone w:=fun d=>by cases p <;> simp [Op.equalIn,hu]
    exact key 9999
  constructor <;> simp [execOp,hx,hy,eqGuard,Go.binOp,he]
theorem Qtm {x y:Operand} {u:LV} {b r:Bool} {t t' E:TypeId} (hu:∀ w,(underlying t).run P w=.ok (.pointer E) w) (hx:Yf L x=some (.one u)) (hy:Yf L y=some (.one .nilp)) (hb:Ro u=some b) (hr:b=r) (hd:Nat.blt d n=true) :
    AP P ops n { dst:=some d,op:=.binOp .eql t x y t',type:=ty,pos:=pos,after:=after,guard:=none } d (.one (.bool r)) L B :=
  Rv hd fun K Ob w0 w aa Bs L' Fs h hL hB=>by
    subst hr
    obtain ⟨v,hv,h1⟩:=Zq hL hx
    obtain ⟨u',hu',h2⟩:=Zq hL hy
    obtain ⟨p,rfl,rfl⟩:=Qd6 h1 hb
    obtain ⟨q,rfl,hq⟩:=Qd6 h2 rfl
    obtain rfl:q=none:=by cases q <;> simp_all
    exact ⟨.bool p.isNone,(Qbt hu (h.ev hv) (h.ev hu') w).1,LRep.bool _⟩
theorem Qul {x y:Operand} {u:LV} {b r:Bool} {t t' E:TypeId} (hu:∀ w,(underlying t).run P w=.ok (.pointer E) w) (hx:Yf L x=some (.one u)) (hy:Yf L y=some (.one .nilp)) (hb:Ro u=some b) (hr:(!b)=r) (hd:Nat.blt d n=true) :
    AP P ops n { dst:=some d,op:=.binOp .neq t x y t',type:=ty,pos:=pos,after:=after,guard:=none } d (.one (.bool r)) L B :=
  Rv hd fun K Ob w0 w aa Bs L' Fs h hL hB=>by
    subst hr
    obtain ⟨v,hv,h1⟩:=Zq hL hx
    obtain ⟨u',hu',h2⟩:=Zq hL hy
    obtain ⟨p,rfl,rfl⟩:=Qd6 h1 hb
    obtain ⟨q,rfl,hq⟩:=Qd6 h2 rfl
    obtain rfl:q=none:=by cases q <;> simp_all
    exact ⟨.bool (!p.isNone),(Qbt hu (h.ev hv) (h.ev hu') w).2,LRep.bool _⟩
end Orr

namespace Orr
open Go
variable {P:Program} {Q:Exit→Act→World→Prop}
variable {K Ob:Nat→Prop} {w0 w:World} {a:Act} {n:Nat} {L:List (Nat×Value)} {Fs:List Fact} {Bs:List Y8}
def Gp (P:Program) (ops:Array Oper) (K Ob:Nat→Prop) (w0:World) (n:Nat) (L:List (Nat×Value)) (Fs:List Fact) (Inv:(Nat→Bool)→(Nat→Value)→World→List Y8→Prop) (D:List (Option Nat)) (S:List (Value→Fact)) (i:Nat) (dep:List Nat) (o:Oper):Prop :=
  ∀ (p:Nat→Bool) (_:p i=false) (_:∀ j∈dep,p j=true) (v:Nat→Value) (Fx:List Fact) (a:Act) (w:World) (Bs:List Y8),Inv p v w Bs→St K Ob w0 w a n (dL D v dep++L) (dep.map (fun j=>(S.getD j Uq) (v j))++(Fs++Fx)) Bs →
    wpList P ops (fun e a' w'=>e=.normal∧∃ u Bs',Inv (fun j=>j == i || p j) (fun j=>if j=i then u else v j) w' Bs'∧St K Ob w0 w' a' n (if dE D i then [(dd D i,u)] else []) ((S.getD i Uq) u::(Fs++Fx)) Bs') [o] a w
def DrawOpsW (P:Program) (ops:Array Oper) (K Ob:Nat→Prop) (w0:World) (n:Nat) (Lf:Nat→List (Nat×Value)) (Fs:List Fact) (Inv:(Nat→Bool)→(Nat→Value)→World→List Y8→Prop) (D:List (Option Nat)) (S:List (Value→Fact)):Nat→List (List Nat)→List Oper→Prop
  | i,dep::deps,o::os=>Gp P ops K Ob w0 n (Lf i) Fs Inv D S i dep o∧DrawOpsW P ops K Ob w0 n Lf Fs Inv D S (i+1) deps os
  | _,_,_=>True
theorem DrawOpsW.get {ops:Array Oper} {Lf:Nat→List (Nat×Value)} {Inv:(Nat→Bool)→(Nat→Value)→World→List Y8→Prop} {D:List (Option Nat)} {S:List (Value→Fact)}:∀ {k:Nat} {deps:List (List Nat)} {os:List Oper},DrawOpsW P ops K Ob w0 n Lf Fs Inv D S k deps os →
    ∀ (i:Nat) (dep:List Nat) (o:Oper),deps[i]? = some dep→os[i]? = some o→Gp P ops K Ob w0 n (Lf (k+i)) Fs Inv D S (k+i) dep o
  | k,[],os,_,i,dep,o,hd,_=>by simp at hd
  | k,d::deps,[],_,i,dep,o,_,ho=>by simp at ho
  |
   k,d::deps,p::os,h,i,dep,o,hd,ho=>by
   cases i with
   | zero=>simp at hd ho; subst hd; subst ho; exact h.1
   |
    succ i =>
    have:=DrawOpsW.get h.2 i dep o (by simpa using hd) (by simpa using ho)
    rw [show k+(i+1)=k+1+i from by omega]
    exact this
abbrev Pk (P:Program) (ops:Array Oper) (K Ob:Nat→Prop) (w0:World) (n:Nat) (L:List (Nat×Value)) (Fs:List Fact) (Inv:(Nat→Bool)→(Nat→Value)→World→List Y8→Prop) (D:List (Option Nat)) (S:List (Value→Fact)):Nat→List (List Nat)→List Oper→Prop:=DrawOpsW P ops K Ob w0 n (fun _=>L) Fs Inv D S
def Qut (K Ob:Nat→Prop) (w0:World) (n:Nat) (L:List (Nat×Value)) (Fs:List Fact) (Inv:(Nat→Bool)→(Nat→Value)→World→List Y8→Prop) (D:List (Option Nat)) (S:List (Value→Fact)) (ls:List Nat) (a:Act) (w:World):Prop :=
  ∃ (v:Nat→Value) (Bs:List Y8),Inv (fun j=>decide (j∈ls)) v w Bs∧St K Ob w0 w a n (dL D v ls++L) (Fs++ls.map (fun j=>(S.getD j Uq) (v j))) Bs
section
variable {l:List Oper} {m:Nat} {Lf:Nat→List (Nat×Value)} {Inv:(Nat→Bool)→(Nat→Value)→World→List Y8→Prop} {D:List (Option Nat)} {S:List (Value→Fact)} {deps:List (List Nat)}
theorem Qnx (hc:Chk l m D deps) (hL:∀ i,i<m→∀ j,j<m→dE D j=true→i∈Wj l j∨Z1 (Lf i) (dd D j)=none) (hLf:∀ i t v,Z1 (Lf i) t=some v→Z1 L t=some v) (hops:DrawOpsW P l.toArray K Ob w0 n Lf Fs Inv D S 0 deps l)
    {ls:List Nat} (hls:∀ j∈ls,j<m) {i:Nat} (hi:i<m) (hni:i∉ls) (hp:∀ j∈Wj l i,j∈ls) (hcl:∀ i∈ls,∀ j∈Wj l i,j∈ls) {a:Act} {w:World} (h:Qut K Ob w0 n L Fs Inv D S ls a w)
    {N:Act→World→Prop} (hN:∀ a w,Qut K Ob w0 n L Fs Inv D S (i::ls) a w→N a w):wpOp P l.toArray Q i N a w:=by
  obtain ⟨v,Bs,hinv,hst⟩:=h
  obtain ⟨o,ho,hd,hdep⟩:=hc.op i hi
  have hdepsi:deps[i]? = some (deps.getD i []):=by
    have:i<deps.length:=by rw [hc.deplen]; exact hi
    rw [Ve,Xv this]; rfl
  have hinj:∀ ls':List Nat,(∀ j∈ls',j<m)→∀ x∈ls'.filter (dE D),∀ y∈ls'.filter (dE D),dd D x=dd D y→x=y:=fun ls' hl' x hx y hy e =>
    hc.inj x (hl' x (Xi hx).1) y (hl' y (Xi hy).1) (Xi hx).2 (Xi hy).2 e
  have hop:=hops.get i (deps.getD i []) o hdepsi ho
  rw [Vy] at hop
  have hdl:∀ j∈deps.getD i [],j∈ls:=fun j hj=>hp j (hdep j hj).1
  have hstart:St K Ob w0 w a n (dL D v (deps.getD i [])++Lf i) ((deps.getD i []).map (fun j=>(S.getD j Uq) (v j))++(Fs++ls.map (fun j=>(S.getD j Uq) (v j)))) Bs:=by
    refine { hst with slots:=fun t u hu=>?_,facts:=fun f hf=>?_ }
    · rcases Ht (D:=dd D) hu with ⟨j,hj,rfl⟩ | hu'
      · have hj':=Xi hj
        have hjls:=hdl j hj'.1
        have e1:=Wp (D:=dd D) (v:=v) (L:=Lf i) hj (hinj _ (fun x hx=>hls x (hdl x hx)))
        unfold dL at hu
        rw [e1] at hu; injection hu with hu; subst hu
        exact hst.slots _ _ (Wp (D:=dd D) (v:=v) (L:=L) (qJf.2 ⟨hjls,hj'.2⟩) (hinj _ hls))
      · refine hst.slots _ _ (Hv (D:=dd D) (fun x hx e=>?_) (hLf i _ _ hu'))
        rcases hL i hi x (hls x (Xi hx).1) (Xi hx).2 with h | this
        · exact hni (hcl x (Xi hx).1 i h)
        · rw [e,hu'] at this; cases this
    · rcases Yz.1 hf with hf | hf
      · obtain ⟨j,hj,rfl⟩:=Wa.1 hf
        exact hst.facts _ (Yz.2 (.inr (Wa.2 ⟨j,hdl j hj,rfl⟩)))
      · exact hst.facts _ hf
  have hwp:=hop (fun j=>decide (j∈ls)) (by simpa using hni) (fun j hj=>by simpa using hdl j hj) v (ls.map (fun j=>(S.getD j Uq) (v j))) a w Bs hinv hstart
  have hBF:(fun j=>j == i || decide (j∈ls))=fun j=>decide (j∈i::ls):=by
    funext j; simp only [Vb]; by_cases e:j=i <;> simp [e]
  rw [hBF] at hwp
  -- what is known behind the operation
  have key:∀ a' w',(∃ x,a'=a.put o.dst x)→(∃ u Bs',Inv (fun j=>decide (j∈i::ls)) (fun j=>if j=i then u else v j) w' Bs'∧St K Ob w0 w' a' n (if dE D i then [(dd D i,u)] else []) ((S.getD i Uq) u::(Fs++ls.map (fun j=>(S.getD j Uq) (v j)))) Bs')→N a' w':=by
    intro a' w' ⟨x,hx⟩ ⟨u,Bs',hinv',hst'⟩
    refine hN a' w' ⟨fun j=>if j=i then u else v j,Bs',hinv',{ hst' with slots:=fun t y hy=>?_,facts:=fun f hf=>?_ }⟩
    · have hcongr:(ls.filter (dE D)).map (fun j=>(dd D j,if j=i then u else v j))=(ls.filter (dE D)).map (fun j=>(dd D j,v j)):=qJt fun j hj=>by
        have:j≠i:=fun e=>hni (e ▸ (Xi hj).1)
        simp [this]
      have hold:∀ {y},Z1 (dL D v ls++L) t=some y→(dE D i=true→t≠dd D i)→a'.tmps[t]? = some y:=fun {y} hy hne=>by
        have hsame:a'.tmps[t]? = a.tmps[t]? := by
          rw [hx,hd]
          cases e:D.getD i none with
          | none=>rfl
          |
           some d =>
           have h1:dE D i=true:=by unfold dE; rw [e]; rfl
           have h2:dd D i=d:=by unfold dd; rw [e]; rfl
           have:=hne h1
           rw [h2] at this
           simp only [Act.put]
           rw [Array.getElem?_setIfInBounds_ne (fun e=>this e.symm)]
        rw [hsame]
        exact hst.slots t y hy
      by_cases hE:dE D i=true
      · unfold dL at hy
        rw [qXm hE] at hy
        simp only [Ee,Eb,Z1,hcongr] at hy
        cases e:Nat.beq t (dd D i)
        · rw [e] at hy
          exact hold hy fun _=>qJl e
        · rw [e] at hy
          simp only [if_true] at hy
          injection hy with hy; subst hy
          have e':=Fg e
          subst e'
          refine hst'.slots _ _ ?_
          simp [Z1,hE]
      · unfold dL at hy
        rw [qXn hE,hcongr] at hy
        exact hold hy fun h=>absurd h hE
    · rcases Yz.1 hf with hf | hf
      · exact hst'.facts f (W0 _ (Yz.2 (.inl hf)))
      · rcases Wa.1 hf with ⟨j,hj,rfl⟩
        rcases Vb.1 hj with rfl | hj
        · simp only [if_true]
          exact hst'.facts _ (Ub ..)
        · have hne:j≠i:=fun e=>hni (e ▸ hj)
          simp only [hne,if_false]
          exact hst'.facts _ (W0 _ (Yz.2 (.inr (Wa.2 ⟨j,hj,rfl⟩))))
  unfold wpOp
  have hoa:l.toArray[i]? = some o:=by simpa using ho
  simp only [hoa]
  have hno:¬LetsOut (fun (e:Exit) (a':Act) (w':World)=>e=.normal∧∃ u Bs',Inv (fun j=>decide (j∈i::ls)) (fun j=>if j=i then u else v j) w' Bs'∧St K Ob w0 w' a' n (if dE D i then [(dd D i,u)] else []) ((S.getD i Uq) u::(Fs++ls.map (fun j=>(S.getD j Uq) (v j)))) Bs'):=by
    rintro ⟨_,_,h,_⟩; cases h
  by_cases hw:Region.wanted o (yielded l.toArray a.tmps)=true
  · rw [if_pos hw]
    simp only [wpList,hw,if_true] at hwp
    have hwp:=hwp.resolve_right (fun h=>hno h.2)
    refine .inl (Qff hst.defers (fun a' w' hk=>?_) (fun c a w h=>by cases h.1) hno hwp)
    obtain ⟨_,hk⟩:=hk
    exact ⟨by obtain ⟨u,_,_,hu⟩:=hk; exact hu.defers,fun hx=>key a' w' hx hk⟩
  · rw [if_neg hw]
    simp only [wpList,hw] at hwp
    exact key _ _ ⟨_,rfl⟩ hwp.2
theorem Qur (hc:Chk l m D deps) (hL:∀ i,i<m→∀ j,j<m→dE D j=true→i∈Wj l j∨Z1 (Lf i) (dd D j)=none) (hLf:∀ i t v,Z1 (Lf i) t=some v→Z1 L t=some v) (hops:DrawOpsW P l.toArray K Ob w0 n Lf Fs Inv D S 0 deps l)
    (hfin:∀ (p:Nat→Bool),(∀ j,j<m→p j=true)→∀ (v:Nat→Value) a w Bs,Inv p v w Bs→St K Ob w0 w a n (dL D v (List.range m)++L) ((List.range m).map (fun j=>(S.getD j Uq) (v j))++Fs) Bs→wpList P l.toArray Q (l.drop m) a w) :
    ∀ (fuel:Nat) (listed:Array Bool) (ls:List Nat) (a:Act) (w:World),listed.size=l.length→(∀ j,j<l.length→(listed.getD j true=true↔j∈ls))→(∀ j∈ls,j<m)→ls.Nodup→(∀ i∈ls,∀ j∈Wj l i,j∈ls) →
      l.length≤ls.length+fuel→Qut K Ob w0 n L Fs Inv D S ls a w→wpAny P .any l.toArray Q fuel listed a w:=by
  have hall:∀ (ls:List Nat) (a:Act) (w:World),(∀ j∈ls,j<m)→(∀ j,j<m→j∈ls)→Qut K Ob w0 n L Fs Inv D S ls a w→wpList P l.toArray Q (l.drop m) a w:=by
    intro ls a w hls hfull ⟨v,Bs,hinv,h⟩
    have hinj:∀ ls':List Nat,(∀ j∈ls',j<m)→∀ x∈ls'.filter (dE D),∀ y∈ls'.filter (dE D),dd D x=dd D y→x=y:=fun ls' hl' x hx y hy e =>
      hc.inj x (hl' x (Xi hx).1) y (hl' y (Xi hy).1) (Xi hx).2 (Xi hy).2 e
    refine hfin (fun j=>decide (j∈ls)) (fun j hj=>by simpa using hfull j hj) v a w Bs hinv { h with slots:=fun t u hu=>?_,facts:=fun f hf=>?_ }
    · by_cases hex:∃ j∈(List.range m).filter (dE D),dd D j=t
      · obtain ⟨j,hj,rfl⟩:=hex
        have hj':=Xi hj
        have hjm:j<m:=Ru.1 hj'.1
        have e1:=Wp (D:=dd D) (v:=v) (L:=L) hj (hinj _ (fun x hx=>Ru.1 hx))
        unfold dL at hu
        rw [e1] at hu; injection hu with hu; subst hu
        exact h.slots _ _ (Wp (D:=dd D) (v:=v) (L:=L) (qJf.2 ⟨hfull j hjm,hj'.2⟩) (hinj _ hls))
      · rcases Ht (D:=dd D) hu with h4 | hu'
        · exact absurd h4 hex
        · exact h.slots _ _ (Hv (D:=dd D) (fun x hx e=>hex ⟨x,qJf.2 ⟨Ru.2 (hls x (Xi hx).1),(Xi hx).2⟩,e⟩) hu')
    · rcases Yz.1 hf with hf | hf
      · obtain ⟨j,hj,rfl⟩:=Wa.1 hf
        exact h.facts _ (Yz.2 (.inr (Wa.2 ⟨j,hfull j (Ru.1 hj),rfl⟩)))
      · exact h.facts _ (Yz.2 (.inl hf))
  intro fuel
  induction fuel with
  |
   zero =>
   intro listed ls a w hs hlisted hls hn hcl hf h
   have h1:=Mi hn hls
   have h2:=hc.le
   have hfull:=La hn hls (by omega)
   have hm:m=l.length:=by omega
   have hw:=hall ls a w hls hfull h
   rw [Aa (by omega)] at hw
   refine ⟨?_,hw⟩
   apply qVb.2
   intro j hj
   obtain ⟨h0,hjl,_⟩:=Vj hj
   have:=(hlisted j hjl).2 (hfull j (by omega))
   rw [h0] at this; cases this
  |
   succ fuel ih =>
   intro listed ls a w hs hlisted hls hn hcl hf h
   have hunl:∀ j,j<l.length→j∉ls→listed.getD j true=false:=fun j hj hno=>by
     cases e:listed.getD j true
     · rfl
     · exact absurd ((hlisted j hj).1 e) hno
   refine ⟨fun hnil=>?_,fun i hi=>?_⟩
   · -- nothing is ready: all has been done
     have hdone:∀ j,j<l.length→j∈ls:=by
       intro j
       induction j using Nat.strongRecOn with
       |
        _ j ihj =>
        intro hj
        apply Classical.byContradiction
        intro hno
        have:j∈Region.ready .any l.toArray listed:=H5 hj (hunl j hj hno) (fun x hx=>by
          have hxj:=hc.down j hj x hx
          rw [←P8 (by omega)]
          exact (hlisted x (by omega)).2 (ihj x hxj (by omega)))
        rw [hnil] at this; cases this
     have hm:l.length≤m:=by
       rcases Mp m l.length with hlt | hge
       · have:=hls m (hdone m hlt); omega
       · exact hge
     have hw:=hall ls a w hls (fun j hj=>hdone j (by have:=hc.le; omega)) h
     rw [Aa hm] at hw
     exact hw
   · obtain ⟨h0,hil,hp⟩:=Vj hi
     have hni:i∉ls:=fun hin=>by have:=(hlisted i hil).2 hin; rw [h0] at this; cases this
     have hpl:∀ j∈Wj l i,j∈ls:=fun j hj=>by
       have hji:=hc.down i hil j hj
       exact (hlisted j (by omega)).1 (by rw [P8 (by omega)]; exact hp j hj)
     by_cases him:i<m
     · refine Qnx hc hL hLf hops hls him hni hpl hcl h fun a' w' h'=>?_
       refine ih _ (i::ls) a' w' (by simp [hs]) (fun x hx=>?_) (fun j hj=>?_) (qJr.2 ⟨hni,hn⟩) (fun x hx j hj=>?_) (by simp; omega) h'
       · by_cases hxi:i=x
         · subst hxi; simp [hs,hil]
         · rw [getD_set_ne true hxi,hlisted x hx]
           simp only [Vb]
           exact ⟨.inr,fun h=>h.resolve_left (fun e=>hxi e.symm)⟩
       · rcases Vb.1 hj with rfl | hj
         · exact him
         · exact hls j hj
       · rcases Vb.1 hx with rfl | hx
         · exact W0 _ (hpl j hj)
         · exact W0 _ (hcl x hx j hj)
     · have hmi:m≤i:=Nat.le_of_not_lt him
       have hin:∀ j,j<i→j∈ls:=fun j hj=>Gr (p:=fun x=>x∈ls) (fun x hx y hy=>hcl x hx y hy) (i+1) i hpl j (hc.late i hil hmi j hj)
       have him':i=m:=by
         rcases Mp m i with hlt | hge
         · have:=hls m (hin m hlt); omega
         · omega
       subst him'
       have hw:=hall ls a w hls hin h
       have hlate:=Qv4 (P:=P) (Q:=Q) hc (fuel+1) i listed a w hs (fun j hj=>by
         rw [hlisted j hj]
         exact ⟨hls j,hin j⟩) (Ji _) (by
           have:=Mi hn hls
           omega) hw
       exact hlate.2 i hi
theorem Qqm {id:Nat} (hm:P.follows .mixedOrders=true) (m:Nat) (D:List (Option Nat)) (deps:List (List Nat)) (S:List (Value→Fact)) (Inv:(Nat→Bool)→(Nat→Value)→World→List Y8→Prop) (hchk:Kc l m D deps=true) (h:St K Ob w0 w a n L Fs Bs) (hB:∀ w',w'.heap=w.heap→Inv (fun _=>false) (fun _=>undef) w' Bs)
    (hL:∀ i,i<m→∀ j,j<m→dE D j=true→i∈Wj l j∨Z1 (Lf i) (dd D j)=none) (hLf:∀ i t v,Z1 (Lf i) t=some v→Z1 L t=some v) (hops:DrawOpsW P l.toArray K Ob w0 n Lf Fs Inv D S 0 deps l)
    (hfin:∀ (p:Nat→Bool),(∀ j,j<m→p j=true)→∀ (v:Nat→Value) a w Bs,Inv p v w Bs→St K Ob w0 w a n (dL D v (List.range m)++L) ((List.range m).map (fun j=>(S.getD j Uq) (v j))++Fs) Bs→wpList P l.toArray Q (l.drop m) a w) :
    (Code.region id l.toArray true).wp P Q a w:=by
  refine wp_region_any hm ?_
  refine Qur (Hr hchk) hL hLf hops hfin l.toArray.size _ [] a _ (by simp) (fun j hj=>?_) (by simp) qVk (by simp) (by simp) ⟨fun _=>undef,Bs,hB _ rfl,?_⟩
  · have hj':j<(Array.replicate l.toArray.size false).size:=by simpa using hj
    simp [Array.getD,hj]
  · simpa [dL] using h.same (w':={ w with drawn:=w.drawn+1 }) rfl
end
theorem Qeh {l:List Oper} {id:Nat} (hm:P.follows .mixedOrders=true) (m:Nat) (D:List (Option Nat)) (deps:List (List Nat)) (S:List (Value→Fact)) (Inv:(Nat→Bool)→(Nat→Value)→World→List Y8→Prop) (hchk:Kc l m D deps=true) (h:St K Ob w0 w a n L Fs Bs) (hB:∀ w',w'.heap=w.heap→Inv (fun _=>false) (fun _=>undef) w' Bs)
    (hL:(List.range m).all (fun j => !(dE D j) || (Z1 L (dd D j)).isNone)=true) (hops:Pk P l.toArray K Ob w0 n L Fs Inv D S 0 deps l)
    (hfin:∀ (p:Nat→Bool),(∀ j,j<m→p j=true)→∀ (v:Nat→Value) a w Bs,Inv p v w Bs→St K Ob w0 w a n (dL D v (List.range m)++L) ((List.range m).map (fun j=>(S.getD j Uq) (v j))++Fs) Bs→wpList P l.toArray Q (l.drop m) a w) :
    (Code.region id l.toArray true).wp P Q a w :=
  Qqm (Lf:=fun _=>L) hm m D deps S Inv hchk h hB (fun i _ j hj hE=>.inr (by
    have:=Bv.1 hL j (Ru.2 hj)
    simpa [hE] using this)) (fun _ _ _ h=>h) hops hfin
end Orr

namespace Orr
open Go
variable {P:Program} {ops:Array Oper} {n:Nat} {rest:List Oper} {N:Sg→List OB→Prop} {L:Sg} {B:List OB} {d:Nat} {ty:TypeId} {pos:String} {after:Array Edge}
def AM (P:Program) (ops:Array Oper) (n:Nat) (o:Oper) (d:Nat) (L:Sg) (B:List OB) (R:AV→List OB→Prop):Prop :=
  ∀ (K Ob:Nat→Prop) (w0 w:World) (a:Act) (Bs:List Y8) (L':List (Nat×Value)) (Fs:List Fact),St K Ob w0 w a n L' Fs Bs→(∀ t x,lk L t=some x→∃ v,Z1 L' t=some v∧ARep w (Qy Ob Bs) v x)→BsRep w (Qy Ob Bs) B Bs →
    wpList P ops (fun e a' w'=>e=.normal∧∃ v Bs' u B1,R u B1∧St K Ob w0 w' a' n [(d,v)] Fs Bs'∧ARep w' (Qy Ob Bs') v u∧BsRep w' (Qy Ob Bs') B1 Bs') [o] a w
theorem Qia {w:World} {O:Nat→Prop}:∀ {Bin Br:List OB} {Bs:List Y8},BsRep w O (Bin++Br) Bs→∃ Bi Bq,Bs=Bi++Bq∧BsRep w O Bin Bi∧BsRep w O Br Bq
  | [],Br,Bs,h=>⟨[],Bs,rfl,rfl,h⟩
  |
   b::Bin,Br,Bs,h=>by
   obtain ⟨Bo,Bs',rfl,h1,h2⟩:=h
   obtain ⟨Bi,Bq,rfl,h3,h4⟩:=Qia h2
   exact ⟨Bo++Bi,Bq,by simp,⟨Bo,Bi,rfl,h1,h3⟩,h4⟩
theorem Qlr {w:World} {O:Nat→Prop}:∀ {B1 B2:List OB} {b1 b2:List Y8},BsRep w O B1 b1→BsRep w O B2 b2→BsRep w O (B1++B2) (b1++b2)
  | [],B2,b1,b2,h1,h2=>by rw [show b1=[] from h1]; exact h2
  |
   b::B1,B2,b1,b2,h1,h2=>by
   obtain ⟨Bo,Bs',rfl,h3,h4⟩:=h1
   exact ⟨Bo,Bs'++b2,by simp,h3,Qlr h4 h2⟩
theorem Rz {o:Oper} {R:AV→List OB→Prop} (haw:∀ N:Sg→List OB→Prop,(∀ u B1,R u B1→N ((d,u)::L) B1)→AW P ops n [o] N L B):AM P ops n o d L B R:=by
  intro K Ob w0 w a Bs L' Fs h hL hB
  have h0:St (fun b=>b<w.heap.size∧b∉Bs.map (·.1)) Ob w w a n L' [] Bs :=
    { size:=h.size,defers:=h.defers,slots:=h.slots,wsize:=Ji _,grow:=fun _ _=>rfl,own:=fun g T cs hm=>⟨fun hk=>hk.2 (Wa.2 ⟨_,hm,rfl⟩),(h.own g T cs hm).2⟩,nodup:=h.nodup,
      facts:=fun f hf=>by simp at hf,base:=fun b hk=>hk.1,obase:=fun b hb=>qZv (h.obase b hb) h.wsize,ownO:=h.ownO,io:=⟨rfl,rfl⟩ }
  refine haw (fun L2 B2=>∃ u B1,R u B1∧L2=(d,u)::L∧B2=B1) (fun u B1 hR=>⟨u,B1,hR,rfl,rfl⟩) _ Ob w w a _ ⟨L',Bs,h0,hL,hB⟩ ?_
  rintro a' w' ⟨L2,B2,⟨L2',Bs2,h1,h2,h3⟩,u,B1,hR,rfl,rfl⟩
  obtain ⟨v,hv,hr⟩:=h2 d u (by simp [lk])
  have hle:Le w (Qy Ob Bs) w' (Qy Ob Bs2):=by
    refine ⟨h1.wsize,fun b hb hno=>h1.grow b ⟨hb,fun hm=>hno (.inr hm)⟩,fun b hb ho=>?_⟩
    rcases ho with ho | hm
    · exact .inl ho
    · by_cases hb2:b∈Bs.map (·.1)
      · exact .inr hb2
      · obtain ⟨⟨g,T,cs⟩,hg,rfl⟩:=Wa.1 hm
        exact absurd ⟨hb,hb2⟩ (h1.own g T cs hg).1
  have hnk:∀ b,K b→b<w.heap.size∧b∉Bs.map (·.1):=fun b hk=>⟨qZv (h.base b hk) h.wsize,fun hm=>by
    obtain ⟨⟨g,T,cs⟩,hg,rfl⟩:=Wa.1 hm
    exact (h.own g T cs hg).1 hk⟩
  refine ⟨rfl,v,Bs2,u,B2,hR,?_,hr,h3⟩
  exact { size:=h1.size,defers:=h1.defers,slots:=fun t x hx=>by
            simp only [Z1] at hx
            cases e:Nat.beq t d <;> rw [e] at hx
            · cases hx
            · injection hx with hx; subst hx; rw [Fg e]; exact h1.slots d v hv
          wsize:=Xa h.wsize h1.wsize,grow:=fun b hk=>(h1.grow b (hnk b hk)).trans (h.grow b hk),own:=fun g T cs hm=>⟨fun hk=>(h1.own g T cs hm).1 (hnk g hk),(h1.own g T cs hm).2⟩,
          nodup:=h1.nodup,facts:=fun f hf=>f.keep hle (h.facts f hf),base:=h.base,obase:=h.obase,ownO:=h1.ownO,io:=⟨h1.io.1.trans h.io.1,h1.io.2.trans h.io.2⟩ }
def Qn3 (P:Program) (ops:Array Oper) (n:Nat) (L:Sg) (B:List OB) (R:AV→List OB→Prop) (c i d:Nat) (u:AV) (dep:Sg) (o:Oper):Prop :=
  match Nat.beq i c with
  | true=>AM P ops n o d (dep++L) B R
  | false=>AP P ops n o d u (dep++L) B
def Qtz (P:Program) (ops:Array Oper) (n:Nat) (L:Sg) (B:List OB) (c i d:Nat) (u:AV) (dep:Sg) (o:Oper):Prop :=
  match Nat.beq i c with
  | true=>True
  | false=>AP P ops n o d u (dep++L) B
def MOps0 (P:Program) (ops:Array Oper) (n:Nat) (L:Sg) (B:List OB) (R:AV→List OB→Prop) (c:Nat) (D:List Nat) (us:List AV):Nat→List Sg→List Oper→Prop
  | i,dep::deps,o::os=>Qn3 P ops n L B R c i (D.getD i 0) (us.getD i .un) dep o∧MOps0 P ops n L B R c D us (i+1) deps os
  | _,_,_=>True
def MOps1 (P:Program) (ops:Array Oper) (n:Nat) (L:Sg) (B:List OB) (c:Nat) (D:List Nat) (us:List AV):Nat→List Sg→List Oper→Prop
  | i,dep::deps,o::os=>Qtz P ops n L B c i (D.getD i 0) (us.getD i .un) dep o∧MOps1 P ops n L B c D us (i+1) deps os
  | _,_,_=>True
theorem MOps0.get {R:AV→List OB→Prop} {c:Nat} {D:List Nat} {us:List AV}:∀ {os:List Oper} {ds:List Sg} {k:Nat},MOps0 P ops n L B R c D us k ds os→∀ (i:Nat) dep o,ds[i]? = some dep→os[i]? = some o→Qn3 P ops n L B R c (k+i) (D.getD (k+i) 0) (us.getD (k+i) .un) dep o
  | [],_,_,_,i,_,_,_,ho=>by simp at ho
  | _::_,[],_,_,i,_,_,hd,_=>by simp at hd
  | o::os,dp::ds,k,h,0,dep,o',hd,ho=>by simp at hd ho; subst hd; subst ho; exact h.1
  |
   o::os,dp::ds,k,h,i+1,dep,o',hd,ho=>by
   have:=MOps0.get h.2 i dep o' (by simpa using hd) (by simpa using ho)
   rw [show k+(i+1)=k+1+i from by omega]
   exact this
theorem MOps1.get {c:Nat} {D:List Nat} {us:List AV}:∀ {os:List Oper} {ds:List Sg} {k:Nat},MOps1 P ops n L B c D us k ds os→∀ (i:Nat) dep o,ds[i]? = some dep→os[i]? = some o→Qtz P ops n L B c (k+i) (D.getD (k+i) 0) (us.getD (k+i) .un) dep o
  | [],_,_,_,i,_,_,_,ho=>by simp at ho
  | _::_,[],_,_,i,_,_,hd,_=>by simp at hd
  | o::os,dp::ds,k,h,0,dep,o',hd,ho=>by simp at hd ho; subst hd; subst ho; exact h.1
  |
   o::os,dp::ds,k,h,i+1,dep,o',hd,ho=>by
   have:=MOps1.get h.2 i dep o' (by simpa using hd) (by simpa using ho)
   rw [show k+(i+1)=k+1+i from by omega]
   exact this
theorem Ac {w w':World} (h:w'.heap=w.heap) (O:Nat→Prop):Le w O w' O:=⟨Nat.le_of_eq (by rw [h]),fun _ _ _=>by rw [h],fun _ _ ho=>ho⟩
theorem S0 {id:Nat} {l:List Oper} {Q:Exit→Sg→List OB→Prop} (hm:P.follows .mixedOrders=true) (m:Nat) (D:List Nat) (deps:List (List Nat)) (us:List AV) (c:Nat) (R:AV→List OB→Prop) (hchk:Kc l m (D.map some) deps=true)
    (hDm:(Nat.beq D.length m && Nat.beq us.length m && Nat.blt c m && deps.all fun js=>js.all fun j=>Nat.blt j m && !(Nat.beq j c))=true) (hun:us[c]? = some .un) (hnone:(D.all fun t=>(lk L t).isNone)=true)
    (hops0:MOps0 P l.toArray n L B R c D us 0 (depsOf D us deps) (l.take m)) (hops1:∀ u B1,R u B1→MOps1 P l.toArray n L B1 c D us 0 (depsOf D us deps) (l.take m))
    (k:∀ u B1,R u B1→∃ L2,C2 D (us.set c u) L=some L2∧AW P l.toArray n (l.drop m) (fun L B=>Q .normal L B) L2 B1):AC P n (.region id l.toArray true) Q L B:=by
  rintro K Ob w0 w a ⟨L',Bs,h,hL,hB⟩
  simp only [qXk,Bv] at hDm hnone
  obtain ⟨⟨⟨hD,hU⟩,hcm⟩,hdl⟩:=hDm
  have hD:=Fg hD
  have hU:=Fg hU
  have hcm:c<m:=by rwa [Mc] at hcm
  have hdl:∀ js∈deps,∀ j∈js,j<m:=fun js hj j hjj=>by have:=(hdl js hj j hjj).1; rwa [Mc] at this
  obtain ⟨L3,h1,h2,h3⟩:=only L hL
  have hst:St K Ob w0 w a n L3 [] Bs:={ h with slots:=fun t v hv=>h.slots t v (h2 t v hv) }
  have hst2:=hst.add (f:=SF L L3 [] [] [] []) ⟨h3,rfl,trivial⟩
  have hc:=Hr hchk
  let Inv:(Nat→Bool)→(Nat→Value)→World→List Y8→Prop:=fun p v w Bs=>(p c=false∧BsRep w (Qy Ob Bs) B Bs)∨(p c=true∧∃ u B1,R u B1∧ARep w (Qy Ob Bs) (v c) u∧BsRep w (Qy Ob Bs) B1 Bs)
  have hone:∀ (i:Nat) (dj:List Nat) (o:Oper),deps[i]? = some dj→l[i]? = some o→i<m→Gp P l.toArray K Ob w0 n L3 [SF L L3 [] [] [] []] Inv (D.map some) (us.map Gz) i dj o:=by
    intro i dj o hdj ho hi p hpi _ v Fx a' w' Bs hinv hs
    have hjm:=hdl dj (Y6 hdj)
    rw [Gq D v dj fun j hj=>by rw [hD]; exact hjm j hj] at hs
    have hfacts:∀ j∈dj,ARep w' (Qy Ob Bs) (v j) (us.getD j .un):=fun j hj=>by
      have:=hs.facts ((us.map Gz).getD j Uq (v j)) (Yz.2 (.inl (Wa.2 ⟨j,hj,rfl⟩)))
      rw [Ve,Sd,Xv (by rw [hU]; exact hjm j hj)] at this
      rw [Ve,Xv (by rw [hU]; exact hjm j hj)]
      exact this
    obtain ⟨h6,_,_⟩:(SF L L3 [] [] [] []).holds w' (Qy Ob Bs):=hs.facts _ (Yz.2 (.inr (by simp)))
    have hdk:=Wi D i (by rw [hD]; exact hi)
    have e5:(us.map Gz).getD i Uq=Gz (us[i]'(by rw [hU]; exact hi)):=by
      rw [Ve,Sd,Xv (by rw [hU]; exact hi)]; rfl
    have e6:us.getD i .un=us[i]'(by rw [hU]; exact hi):=by
      rw [Ve,Xv (by rw [hU]; exact hi)]; rfl
    have hdep:=Wo (D:=D) (us:=us) hdj
    have hl:(l.take m)[i]? = some o:=by rw [Ei,if_pos hi]; exact ho
    have plain:∀ (BX:List OB) (y:Value) (uy:AV),BsRep w' (Qy Ob Bs) BX Bs→ARep w' (Qy Ob Bs) y uy→AP P l.toArray n o (D.getD i 0) (us.getD i .un) (dj.map (fun j=>(D.getD j 0,us.getD j .un))++L) BX →
        (∀ (w2:World) (x:Value),BsRep w2 (Qy Ob Bs) BX Bs→ARep w2 (Qy Ob Bs) y uy→Inv (fun j=>j == i || p j) (fun j=>if j=i then x else v j) w2 Bs) →
        wpList P l.toArray (fun e a' w'=>e=.normal∧∃ u Bs',Inv (fun j=>j == i || p j) (fun j=>if j=i then u else v j) w' Bs'∧St K Ob w0 w' a' n (if dE (D.map some) i then [(dd (D.map some) i,u)] else []) (((us.map Gz).getD i Uq) u::([SF L L3 [] [] [] []]++Fx)) Bs') [o] a' w':=by
      intro BX y uy hBX hy hap hinv2
      have hs2:=(hs.add (f:=Gz uy y) hy).add (f:=SF [] [] BX Bs [] []) ⟨fun t x (hh:none=some x)=>(nomatch hh),hBX,trivial⟩
      have hw:=hap K Ob w0 w' a' Bs _ _ hs2 (Ug h6 hfacts) hBX
      refine K0 hs.defers (fun _ _ ⟨_,hh,_⟩=>hh.defers) hw fun a2 w2 hh=>?_
      obtain ⟨x,h8,h9⟩:=hh
      obtain ⟨_,h10,_⟩:=h8.fact 0 rfl
      have h11:ARep w2 (Qy Ob Bs) y uy:=h8.fact 1 rfl
      refine wpList_nil ⟨rfl,x,Bs,hinv2 w2 x h10 h11,?_⟩
      rw [if_pos hdk.2,hdk.1,e5]
      rw [e6] at h9
      have h8:St K Ob w0 w2 a2 n _ ((SF [] [] BX Bs [] []::Gz uy y::List.map (fun j=>(List.map Gz us).getD j Uq (v j)) dj)++([SF L L3 [] [] [] []]++Fx)) Bs:=h8
      exact h8.drawEnd (by simp [Z1]) h9
    cases hic:Nat.beq i c with
    |
     true =>
     have hic':=Fg hic
     subst hic'
     have hop:=hops0.get i _ o hdep hl
     rw [Vy] at hop
     unfold Qn3 at hop
     rw [hic] at hop
     have hBX:BsRep w' (Qy Ob Bs) B Bs:=by
       rcases hinv with ⟨_,hh⟩ | ⟨hh,_⟩
       · exact hh
       · rw [hpi] at hh; cases hh
     have hw:=hop K Ob w0 w' a' Bs _ _ hs (Ug h6 hfacts) hBX
     refine K0 hs.defers (fun _ _ ⟨_,_,_,_,_,hh,_⟩=>hh.defers) hw fun a2 w2 hh=>?_
     obtain ⟨x,Bs',u,B1,hR,h8,h9,h10⟩:=hh
     refine wpList_nil ⟨rfl,x,Bs',.inr ⟨by simp,u,B1,hR,by simpa using h9,h10⟩,?_⟩
     rw [if_pos hdk.2,hdk.1,e5]
     have e7:us[i]'(by rw [hU]; exact hi)=.un:=by
       have:=Xv (l:=us) (i:=i) (by rw [hU]; exact hi)
       rw [hun] at this; injection this with this; exact this.symm
     rw [e7]
     exact h8.drawEnd (f:=Gz .un x) (by simp [Z1]) trivial
    |
     false =>
     have hne:c≠i:=fun e=>by subst e; simp at hic
     have hpc:(c == i || p c)=p c:=by simp [hne]
     have hvc:∀ x:Value,(if c=i then x else v c)=v c:=fun x=>if_neg hne
     rcases hinv with ⟨hp,hh⟩ | ⟨hp,u1,B1,hR,hv1,hh⟩
     · have hop:=hops0.get i _ o hdep hl
       rw [Vy] at hop
       unfold Qn3 at hop
       rw [hic] at hop
       exact plain B (.bool true) (.one (.bool true)) hh (LRep.bool _) hop fun w2 x h10 _=>.inl ⟨hpc.trans hp,h10⟩
     · have hop:=(hops1 u1 B1 hR).get i _ o hdep hl
       rw [Vy] at hop
       unfold Qtz at hop
       rw [hic] at hop
       exact plain B1 (v c) u1 hh hv1 hop fun w2 x h10 h11=>.inr ⟨hpc.trans hp,u1,B1,hR,by show ARep _ _ (if c=i then x else v c) u1; rw [hvc x]; exact h11,h10⟩
  have hdrawops:∀ (js:List (List Nat)) (os:List Oper) (k:Nat),(∀ i dj o,js[i]? = some dj→os[i]? = some o→Gp P l.toArray K Ob w0 n L3 [SF L L3 [] [] [] []] Inv (D.map some) (us.map Gz) (k+i) dj o) →
      Pk P l.toArray K Ob w0 n L3 [SF L L3 [] [] [] []] Inv (D.map some) (us.map Gz) k js os:=by
    intro js
    induction js with
    | nil=>intro os k _; cases os <;> trivial
    |
     cons dj js ih =>
     intro os k hall
     rcases os with _ | ⟨o,os⟩
     · trivial
     · refine ⟨by have:=hall 0 dj o rfl rfl; rwa [Mr] at this,ih os (k+1) fun i dj' o' hd ho=>?_⟩
       have:=hall (i+1) dj' o' (by simpa using hd) (by simpa using ho)
       rwa [show k+(i+1)=k+1+i from by omega] at this
  refine Qeh hm m (D.map some) deps (us.map Gz) Inv hchk hst2 (fun w' hw'=>.inl ⟨rfl,hB.keep (Ac hw' _)⟩) ?_ (hdrawops deps l 0 fun i dj o hd ho=>by
    rw [Vy]
    exact hone i dj o hd ho (by have:=(Wz.1 hd).1; rw [hc.deplen] at this; exact this)) fun p hp v a' w' Bs hinv hs=>?_
  · rw [Bv]
    intro j hj
    have hjm:j<m:=Ru.1 hj
    rw [(Wi D j (by rw [hD]; exact hjm)).1]
    have hmem:D.getD j 0∈D:=by rw [Ve,Xv (by rw [hD]; exact hjm)]; exact qJd _
    have:=hnone _ hmem
    rw [qXq] at this
    rw [h1 _ this]; simp
  · rw [Gq D v _ fun j hj=>by rw [hD]; exact Ru.1 hj] at hs
    have hfacts:∀ j∈List.range m,ARep w' (Qy Ob Bs) (v j) (us.getD j .un):=fun j hj=>by
      have hjm:=Ru.1 hj
      have:=hs.facts ((us.map Gz).getD j Uq (v j)) (Yz.2 (.inl (Wa.2 ⟨j,hj,rfl⟩)))
      rw [Ve,Sd,Xv (by rw [hU]; exact hjm)] at this
      rw [Ve,Xv (by rw [hU]; exact hjm)]
      exact this
    obtain ⟨h6,_,_⟩:(SF L L3 [] [] [] []).holds w' (Qy Ob Bs):=hs.facts _ (Yz.2 (.inr (by simp)))
    rcases hinv with ⟨hh,_⟩ | ⟨_,u1,B1,hR,hv1,hB1⟩
    · rw [hp c hcm] at hh; cases hh
    · obtain ⟨L2,hz,k⟩:=k u1 B1 hR
      obtain ⟨_,rfl⟩:=P3 hz
      have hU2:(us.set c u1).length=m:=by rw [H8]; exact hU
      have hzip:D.zip (us.set c u1)=(List.range m).map fun j=>(D.getD j 0,(us.set c u1).getD j .un):=by
        apply qYt
        · simp [hD,hU]
        · intro i h1 h2
          simp at h1 h2
          have e1:D[i]? = some D[i]:=Xv (by omega)
          have e2:(us.set c u1)[i]? = some ((us.set c u1)[i]'(by omega)):=Xv (by omega)
          rw [List.getElem_zip,List.getElem_map,List.getElem_range,Ve,Ve,e1,e2]; rfl
      rw [hzip] at k
      have hfacts2:∀ j∈List.range m,ARep w' (Qy Ob Bs) (v j) ((us.set c u1).getD j .un):=fun j hj=>by
        have hjm:=Ru.1 hj
        by_cases hjc:c=j
        · subst hjc
          rw [Ve,qXi (by omega)]; exact hv1
        · have:=hfacts j hj
          rw [Ve] at this ⊢
          rwa [qXv hjc]
      exact k K Ob w0 w' a' _ ⟨_,Bs,hs.noFacts,Ug h6 hfacts2,hB1⟩ fun a2 w2 h=>h
end Orr

namespace Orr
open Go
variable {P:Program} {ops:Array Oper} {n:Nat} {rest:List Oper} {N:Sg→List OB→Prop} {L:Sg} {B:List OB} {d:Nat} {ty:TypeId} {pos:String} {after:Array Edge}
def Qwi (w:World) (x:Value) (size m:Nat) (news:List Value):Prop :=
  news.length=m*size∧∃ A M c,x=.slice A M c∧(0<m→∃ b o,A=some ⟨b,o,none⟩∧∀ (j:Nat) (v:Value),news[j]? = some v→w.cell? ⟨b,o+j,none⟩=some v)
theorem Eh {size m:Nat} {x:Value} {news:List Value} {w:World} (h:Qwi w x size m news):(Builtin.firstCells size m x).run P w=.ok news.toArray w:=by
  obtain ⟨hl,A,M,c,rfl,hA⟩:=h
  have:=Vn (P:=P) (w:=w) (x:=.slice A m c) ⟨hl,A,c,rfl,hA⟩
  cases A <;> exact this
theorem Qrm {Q:Exit→Act→World→Prop} {K Ob:Nat→Prop} {w0 w:World} {a:Act} {L:List (Nat×Value)} {Fs:List Fact} {Bs:List Y8} {x y:Operand} {g o m c m' k' sz T T' E:Nat} {v:Value} {cs zs:List Value} {ats:Array TypeId} (h:St K Ob w0 w a n L Fs Bs) (i:Nat) (hi:Bs[i]? = some (g,Tag.ty T',cs)) (hx:ev L x=some (.slice (some ⟨g,o,none⟩) m c)) (hy:ev L y=some v)
    (hu:∀ w,(underlying T).run P w=.ok (.slice E) w) (hs:∀ w,(Go.sizeOf E).run P w=.ok sz w) (hat:ats[0]? = some T) (hlen:∀ w,(Builtin.lenOf v).run P w=.ok k' w) (hm':Nat.min k' m=m')
    (hsrc:Qwi w v sz m' zs) (hl:zs=[]∨o+zs.length≤cs.length) (h1:∀ u∈zs,one u=true) (hd:Nat.blt d n=true)
    (k:∀ w' a',St K Ob w0 w' a' n ((d,.int .i64 (m':Int))::L) Fs (Bs.set i (g,T',upd cs o zs))→wpList P ops Q rest a' w') :
    wpList P ops Q ({ dst:=some d,op:=.call { callee:=.builtin .copy,args := #[x,y],argTypes:=ats },type:=ty,pos:=pos,after:=after,guard:=none }::rest) a w:=by
  have hst:∃ w',(storeCells ⟨g,o,none⟩ zs 0).run P w=.ok () w'∧St K Ob w0 w' a n L Fs (Bs.set i (g,T',upd cs o zs)):=by
    rcases hl with rfl | hl
    · have e:upd cs o []=cs:=by cases cs <;> simp [upd]
      have hset:Bs.set i (g,T',cs)=Bs:=by
        obtain ⟨hlt,e⟩:=Wz.1 hi
        rw [←e]; exact List.set_getElem_self hlt
      exact ⟨w,by simp [Go.storeCells],by rw [e,hset]; exact h⟩
    · exact St.storeCells (P:=P) zs cs o 0 w Bs i h hi (by omega) h1
  obtain ⟨w',hr,hw⟩:=hst
  refine Ym (w':=w') (v:=.int .i64 (m':Int)) rfl ?_ (k _ _ (hw.put _ hd))
  have hf:=Eh (P:=P) hsrc
  simp only [execOp,resolve,invoke,builtin,Builtin.copy_,Sem.run_bind,Sem.run_pure,Result.andThen_ok]
  simp [h.ev hx,h.ev hy,hat,hu,hs,hlen,hm',hf,hr,goInt,Sem.run_bind]
theorem Ho:∀ (pre post:List Value) (k:Nat) (ys:List Value),k+ys.length≤pre.length→upd (pre++post) k ys=upd pre k ys++post
  | [],post,k,[],_=>by cases post <;> simp [upd]
  | [],post,k,y::ys,hk=>by simp at hk
  | p::pre,post,k,[],_=>by simp [upd]
  | p::pre,post,0,y::ys,hk=>by simp only [Eb,upd]; rw [Ho pre post 0 ys (by simp at hk ⊢; omega)]
  | p::pre,post,k+1,y::ys,hk=>by simp only [Eb,upd]; rw [Ho pre post k (y::ys) (by simp at hk ⊢; omega)]
theorem Ql7:∀ (xs ys:List Value),xs.length=ys.length→upd xs 0 ys=ys
  | [],[],_=>rfl
  | x::xs,y::ys,h=>by simp only [upd]; rw [Ql7 xs ys (by simpa using h)]
  | [],_::_,h=>by simp at h
  | _::_,[],h=>by simp at h
theorem RReps.drop {w:World} {O:Nat→Prop}:∀ {vss:List (List Value)} {ls:List (List LV)} (k:Nat),RReps w O vss ls→RReps w O (vss.drop k) (ls.drop k):=fun k h=>by
  refine RReps.of (by simp [h.len]) fun j v x hv hx=>?_
  rw [qXe] at hv hx
  exact h.get' hv hx
theorem RReps.take {w:World} {O:Nat→Prop}:∀ {vss:List (List Value)} {ls:List (List LV)} (k:Nat),RReps w O vss ls→RReps w O (vss.take k) (ls.take k):=fun k h=>by
  refine RReps.of (by simp [h.len]) fun j v x hv hx=>?_
  rw [Ei] at hv hx
  split at hv
  · rename_i hlt
    rw [if_pos hlt] at hx
    exact h.get' hv hx
  · cases hv
theorem RReps.app {w:World} {O:Nat→Prop}:∀ {vss uss:List (List Value)} {ls ms:List (List LV)},RReps w O vss ls→RReps w O uss ms→RReps w O (vss++uss) (ls++ms):=fun {vss uss ls ms} h h'=>by
  refine RReps.of (by simp [h.len,h'.len]) fun j v x hv hx=>?_
  have hl:=h.len
  rw [List.getElem?_append] at hv hx
  split at hv
  · rename_i hlt
    rw [if_pos (by omega)] at hx
    exact h.get' hv hx
  · rename_i hlt
    rw [if_neg (by omega)] at hx
    rw [←hl] at hx
    exact h'.get' hv hx
theorem Qss (j:Nat) {T E sz lo1 len1 lo2 len2 m':Nat} {x y:Operand} {r:Option (Nat×Nat)} {ls ls2:List (List LV)} {ats:Array TypeId} {B':List OB} (hu:∀ w,(underlying T).run P w=.ok (.slice E) w) (hs:∀ w,(Go.sizeOf E).run P w=.ok sz w) (hat:ats[0]? = some T)
    (hi:Jg B j=some (.row r E sz ls,B')) (hx:Yf L x=some (.one (.orow r sz lo1 len1))) (hy:Yf L y=some (.one (.orow r sz lo2 len2))) (h1:lo1+len1≤ls.length) (h2:lo2+len2≤ls.length) (h0:0<ls.length) (hm':Nat.min len2 len1=m')
    (hls:ls.take lo1++(ls.drop lo2).take m'++ls.drop (lo1+m')=ls2) (hd:Nat.blt d n=true)
    (k:AW P ops n rest N ((d,.one (.int .i64 (m':Int)))::L) (.row r E sz ls2::B')) :
    AW P ops n ({ dst:=some d,op:=.call { callee:=.builtin .copy,args := #[x,y],argTypes:=ats },type:=ty,pos:=pos,after:=after,guard:=none }::rest) N L B:=by
  intro K Ob w0 w a Q hs0 hQ
  subst hls
  obtain ⟨L',Bo,Bs,h,hL,hob,hB⟩:=hs0.front hi
  obtain ⟨v,hv,hr1⟩:=Zq hL hx
  obtain ⟨v2,hv2,hr2⟩:=Zq hL hy
  rcases r with _ | ⟨g,c⟩
  · obtain ⟨_,e,_⟩:=hob; subst e; simp at h0
  · obtain ⟨ho1,a1,rfl,ha1⟩:=hr1
    obtain ⟨ho2,a2,rfl,ha2⟩:=hr2
    obtain ⟨hsz,hw,hfr,vss,ex,h4,rfl,h5,h6,h7⟩:=hob
    have hall:=h4.all hw
    have hvl:vss.length=ls.length:=h4.len
    have hm1:m'≤len1:=by subst hm'; exact Nat.min_le_right _ _
    have hm2:m'≤len2:=by subst hm'; exact Nat.min_le_left _ _
    let zs:=((vss.drop lo2).take m').flatten
    have hzl:zs.length=m'*sz:=by
      show ((vss.drop lo2).take m').flatten.length=_
      rw [Vp (sz:=sz) fun c hc=>hall c (Eg (N6 hc)),Uk,E5,Nm (by omega)]
    have htk:∀ q,q≤vss.length→(vss.take q).flatten.length=q*sz:=fun q hq=>by
      rw [Vp (sz:=sz) fun c hc=>hall c (N6 hc),Uk,Nm hq]
    have hsp:∀ q,q+m'≤vss.length→vss.flatten=(vss.take q).flatten++(((vss.drop q).take m').flatten++(vss.drop (q+m')).flatten):=fun q hq=>by
      rw [←qJe,←qJe]
      congr 1
      rw [←List.drop_drop,qZk,qZk]
    have hadd:=h.add (f:=⟨fun w O=>(∀ t x,lk L t=some x→∃ v,Z1 L' t=some v∧ARep w O v x)∧BsRep w O B' Bs∧RReps w O vss ls,fun hle h=>⟨Fn hle h.1,h.2.1.keep hle,h.2.2.keep hle⟩⟩) ⟨hL,hB,h4⟩
    have hsrc:Qwi w (.slice (some ⟨g,a2,none⟩) len2 (c-lo2)) sz m' zs:=by
      refine ⟨hzl,_,_,_,rfl,fun hpos=>⟨g,a2,rfl,fun q u hq=>?_⟩⟩
      have ha:a2=lo2*sz:=ha2 (.inr (by omega))
      subst ha
      rw [h.own_cell (i:=0) rfl]
      have hql:=(Wz.1 hq).1
      rw [hsp lo2 (by omega),N1,qXj (by rw [htk lo2 (by omega)]; omega),htk lo2 (by omega),qJp,N1,qXa hql]
      exact hq
    have hone:∀ u∈zs,one u=true:=fun u hu=>by
      obtain ⟨vs,hvs,huv⟩:=List.mem_flatten.1 hu
      have hvs:=Eg (N6 hvs)
      obtain ⟨q,hq⟩:=qZn.1 hvs
      have hql:q<ls.length:=by rw [←hvl]; exact (Wz.1 hq).1
      exact (h4.get' hq (Xv hql)).one u huv
    refine Qrm hadd 0 rfl hv hv2 hu hs hat (fun _=>rfl) hm' hsrc ?_ hone hd fun w' a' h'=>?_
    · rcases H9 m' with h00 | hpos
      · left; exact Md (by rw [hzl,h00]; simp)
      · right
        have ha:a1=lo1*sz:=ha1 (.inr (by omega))
        have:=qZm sz (show lo1+m'≤c by omega)
        rw [qJv] at this
        omega
    · have h':St K Ob w0 w' a' n _ _ ((g,E,upd (vss.flatten++ex) a1 zs)::Bs):=h'
      have h'':St K Ob w0 w' a' n ((d,.int .i64 (m':Int))::L') [] ((g,E,upd (vss.flatten++ex) a1 zs)::Bs):=h'.noFacts
      obtain ⟨h8,h9,h10⟩:=h'.fact 0 rfl
      have e:upd (vss.flatten++ex) a1 zs=(vss.take lo1++(vss.drop lo2).take m'++vss.drop (lo1+m')).flatten++ex:=by
        rcases H9 m' with h00 | hpos
        · have:zs=[]:=Md (by rw [hzl,h00]; simp)
          rw [this,h00]
          have e:upd (vss.flatten++ex) a1 []=vss.flatten++ex:=by cases vss.flatten++ex <;> simp [upd]
          rw [e]; simp
        · have ha:a1=lo1*sz:=ha1 (.inr (by omega))
          subst ha
          rw [hsp lo1 (by omega),N1,←htk lo1 (by omega),show ∀ q,upd q (vss.take lo1).flatten.length zs=upd q ((vss.take lo1).flatten.length+0) zs from fun _=>rfl,Gk,N1,Ho _ _ _ _ (by
            rw [hzl,Vp (sz:=sz) fun c hc=>hall c (Eg (N6 hc)),Uk,E5,Nm (by omega)]; omega),Ql7 _ _ (by
            rw [hzl,Vp (sz:=sz) fun c hc=>hall c (Eg (N6 hc)),Uk,E5,Nm (by omega)])]
          simp [zs,qJe,N1]
      have hlen3:(upd (vss.flatten++ex) a1 zs).length=c*sz:=by rw [I8]; exact h5
      rw [e] at hlen3 h'' h8 h9 h10
      have hmem:∀ cc∈ls.take lo1++(ls.drop lo2).take m'++ls.drop (lo1+m'),cc∈ls:=fun cc hc=>by
        rcases Yz.1 hc with hc | hc
        · rcases Yz.1 hc with hc | hc
          · exact N6 hc
          · exact Eg (N6 hc)
        · exact Eg hc
      refine k _ _ _ _ _ _ (SA.of (Bo:=[_]) h'' (Ga h8 (LRep.int _ _)) ?_ h9) hQ
      exact ⟨hsz,fun cc hc=>hw cc (hmem cc hc),fun cc hc=>hfr cc (hmem cc hc),vss.take lo1++(vss.drop lo2).take m'++vss.drop (lo1+m'),ex,((h10.take _).app ((h10.drop _).take _)).app (h10.drop _),rfl,hlen3,by simp; omega,h7⟩
end Orr
namespace Orr
open Go
variable {P:Program} {n:Nat} {L:Sg} {B:List OB}
end Orr

namespace Orr
open Go
section
variable {P:Program} {ops:Array Oper} {Q:Exit→Act→World→Prop}
variable {K Ob:Nat→Prop} {w0 w:World} {a:Act} {n:Nat} {L:List (Nat×Value)} {Fs:List Fact} {Bs:List Y8} {rest:List Oper}
variable {d:Nat} {ty:TypeId} {pos:String} {after:Array Edge}
theorem A9 {T E:TypeId} {m:Nat} {zs:List Value} {z:Value} {info:TypeInfo} (w:World)
    (hu:∀ w,(underlying T).run P w=.ok (.slice E) w) (hi:∀ w,(typeInfo E).run P w=.ok info w) (hb:Nat.ble info.bytes 256=true) (hs:∀ w,(Go.sizeOf E).run P w=.ok zs.length w)
    (hz:∀ w,(zeroValue E).run P w=.ok z w) (hz1:z.cells=zs.toArray) (hz0:0<zs.length) (hm:m<2^38) :
    (Instr.makeSlice T (.int .i64 0) (.int .i64 (m:Int))).run P w=.ok (.slice (some ⟨w.heap.size,0,none⟩) 0 m) (w.alloc (.cells (Uz m zs).toArray E)):=by
  have h38:(2:Nat)^38=274877906944:=by decide
  have hw:=Ib m (by
   have:(2:Nat)^40=1099511627776:=by decide
   omega)
  have hb':info.bytes≤256:=qXo hb
  have hle:m*info.bytes≤274877906944*256:=qXr (by omega) hb'
  have e1:¬((m:Int)<0):=by omega
  have e:(info.bytes:Int)*(m:Int)=((m*info.bytes:Nat):Int):=by push_cast; exact Int.mul_comm _ _
  have e2:¬((info.bytes:Int)*(m:Int)>2^48):=by
    rw [e]
    have:(2:Int)^48=281474976710656:=by decide
    omega
  have e3:¬(m*info.bytes>roomBytes):=by
    unfold roomBytes
    have:(2:Nat)^47=140737488355328:=by decide
    omega
  have hw0:IntKind.i64.wrap 0=0:=by decide
  unfold Instr.makeSlice
  simp only [hu,hi,hs,asInt,asIntOf,Sem.run_bind,Sem.run_pure,Result.andThen_ok,hw,hw0,Int.toNat_natCast,Int.toNat_zero,e1,e2,decide_false,Bool.or_false,Int.lt_irrefl,gt_iff_lt,qXg,if_false,askRoom,e3]
  rcases H9 m with h0 | h0
  · subst h0
    simp only [qYs,if_true,Sem.run_pure,Result.andThen_ok,newRow,Sem.run_bind,V5,Uz]
    have h0:∀ f:Nat→Value,Array.map f (Array.range 0) = #[]:=fun f=>by apply Array.ext <;> simp
    rw [h0]
  · have hne:¬(m*zs.length=0):=by
      have:=qVt h0 hz0; omega
    simp only [hne,if_false,Sem.run_bind,Sem.run_pure,Result.andThen_ok,hz,newRow,V5,hz1]
    have:=Tz m zs hz0
    simp only [List.size_toArray]
    rw [this]
theorem Qpc {T E:TypeId} {x y:Operand} {m:Nat} {zs:List Value} {z:Value} {info:TypeInfo} (h:St K Ob w0 w a n L Fs Bs) (hx:ev L x=some (.int .i64 0)) (hy:ev L y=some (.int .i64 (m:Int)))
    (hu:∀ w,(underlying T).run P w=.ok (.slice E) w) (hi:∀ w,(typeInfo E).run P w=.ok info w) (hb:Nat.ble info.bytes 256=true) (hs:∀ w,(Go.sizeOf E).run P w=.ok zs.length w)
    (hz:∀ w,(zeroValue E).run P w=.ok z w) (hz1:z.cells=zs.toArray) (hz0:Nat.blt 0 zs.length=true) (hm:m<2^38) (hd:Nat.blt d n=true)
    (k:∀ g w' a',St K Ob w0 w' a' n ((d,.slice (some ⟨g,0,none⟩) 0 m)::L) Fs ((g,E,Uz m zs)::Bs)→wpList P ops Q rest a' w') :
    wpList P ops Q ({ dst:=some d,op:=.makeSlice T x y,type:=ty,pos:=pos,after:=after,guard:=none }::rest) a w :=
  Ym (w':=w.alloc (.cells (Uz m zs).toArray E)) (v:=.slice (some ⟨w.heap.size,0,none⟩) 0 m) rfl
    (by
      simp only [execOp,h.ev hx,h.ev hy,Sem.run_bind]
      rw [A9 w hu hi hb hs hz hz1 (by rwa [Mc] at hz0) hm]
      rfl)
    (k _ _ _ ((h.alloc E (Uz m zs)).put _ hd))
end
section
variable {P:Program} {ops:Array Oper} {n:Nat} {rest:List Oper} {N:Sg→List OB→Prop} {L:Sg} {B:List OB}
variable {d:Nat} {ty:TypeId} {pos:String} {after:Array Edge}
theorem Quq (m:Nat) {T E sz:Nat} {x y:Operand} {p q:Int} {zs:List LV} {z:Value} {info:TypeInfo} (hu:∀ w,(underlying T).run P w=.ok (.slice E) w) (hi:∀ w,(typeInfo E).run P w=.ok info w) (hb:Nat.ble info.bytes 256=true) (hs:∀ w,(Go.sizeOf E).run P w=.ok sz w)
    (hz:∀ w,(zeroValue E).run P w=.ok z w) (hz1:zl z=some zs) (hz2:Nat.beq zs.length sz=true) (hz0:Nat.blt 0 sz=true) (hfr:H3 zs=true) (hx:Yf L x=some (.one (.int .i64 p))) (hy:Yf L y=some (.one (.int .i64 q))) (hp:p=0) (hq:q=(m:Int)) (hm:m<274877906944) (hd:Nat.blt d n=true)
    (k:∀ r,AW P ops n rest N ((d,.one (.orow r sz 0 0))::L) (.row r E sz []::B)) :
    AW P ops n ({ dst:=some d,op:=.makeSlice T x y,type:=ty,pos:=pos,after:=after,guard:=none }::rest) N L B:=by
  rintro K Ob w0 w a Q ⟨L',Bs,h,hL,hB⟩ hQ
  subst hp hq
  have e38:(2:Nat)^38=274877906944:=by decide
  have e63:(2:Nat)^63=9223372036854775808:=by decide
  obtain ⟨v,hv,hr⟩:=Zq hL hx
  obtain rfl:=Xt hr
  obtain ⟨v2,hv2,hr2⟩:=Zq hL hy
  obtain rfl:=Xt hr2
  have hz2:=Fg hz2
  have hzr:=Lv (w:=w) (O:=Qy Ob Bs) hz1
  have hzl:=hzr.len
  have hzs:z.cells.toList.length=sz:=by omega
  have hz0':0<sz:=by rwa [Mc] at hz0
  have h2:=h.add (f:=SF L L' B Bs z.cells.toList zs) ⟨hL,hB,hzr⟩
  refine Qpc (zs:=z.cells.toList) h2 hv hv2 hu hi hb (by rw [hzs]; exact hs) hz (by simp) (by rw [hzs]; exact hz0) (by omega) hd fun g w' a' h'=>?_
  obtain ⟨h3,h4,h5⟩:=h'.fact 0 rfl
  refine k (some (g,m)) _ _ _ _ _ _ (SA.of (Bo:=[_]) h'.noFacts (Ga h3 ?_) ?_ h4) hQ
  · exact ⟨K7 _,0,rfl,fun _=>by simp⟩
  · refine ⟨hz0',by simp,by simp,[],Uz m z.cells.toList,RReps.of rfl fun j v x hv _=>by simp at hv,by simp,?_,K7 _,by omega⟩
    rw [List.flatten_nil,qVy,Qbp,Vp (sz:=sz) (fun c hc=>by rw [qZz hc]; exact hzs)]; simp
end
end Orr

namespace Orr
open Go Go.Proofs
theorem Qp:Go.Proofs.Tryz.prog.follows .mixedOrders=true:=rfl
def Qzj:Array Value := #[.bool false,.slice none 0 0]
theorem Qvy {vs:List (Nat×Value)} {cs:Array Value} (hf:Instr.fill (Qp4 [(0,1),(1,1)]) Qzj vs=some cs) (w:World):(Instr.build 55 vs.toArray).run Tryz.prog w=.ok (.agg cs) w:=Dv (sizes:=[1,1]) Tryz.runUnderlying55 Tryz.zeroValue55 ⟨Tryz.sizeOf4,Tryz.sizeOf53,trivial⟩ (hf:_) w
def Qza:Array Value := #[.slice none 0 0,.slice none 0 0,.bool false,.slice none 0 0,.int .i64 0]
theorem Qy2 {vs:List (Nat×Value)} {cs:Array Value} (hf:Instr.fill (Qp4 [(0,4),(4,1)]) Qza vs=some cs) (w:World):(Instr.build 76 vs.toArray).run Tryz.prog w=.ok (.agg cs) w:=Dv (sizes:=[4,1]) Tryz.runUnderlying76 Tryz.zeroValue76 ⟨Tryz.sizeOf74,Tryz.sizeOf3,trivial⟩ (hf:_) w
theorem Cx (b o:Nat) (w:World):(Instr.fieldAt 108 (.pointer (some ⟨b,o,none⟩)) 0).run Tryz.prog w=.ok (.pointer (some ⟨b,o+0,none⟩)) w:=Ys (T:=104) (off:=0) Tryz.runUnderlying108 rfl Tryz.sizeOf104 (by decide) b o w
theorem Qk1 (b o:Nat) (w:World):(Instr.fieldAt 34 (.pointer (some ⟨b,o,none⟩)) 0).run Tryz.prog w=.ok (.pointer (some ⟨b,o+0,none⟩)) w:=Ys (T:=32) (off:=0) Tryz.runUnderlying34 rfl Tryz.sizeOf32 (by decide) b o w
theorem Jr (b o:Nat) (w:World):(Instr.fieldAt 55 (.pointer (some ⟨b,o,none⟩)) 0).run Tryz.prog w=.ok (.pointer (some ⟨b,o+0,none⟩)) w:=Ys (T:=4) (off:=0) Tryz.runUnderlying55 rfl Tryz.sizeOf4 (by decide) b o w
theorem Ja (b o:Nat) (w:World):(Instr.fieldAt 55 (.pointer (some ⟨b,o,none⟩)) 1).run Tryz.prog w=.ok (.pointer (some ⟨b,o+1,none⟩)) w:=Ys (T:=53) (off:=1) Tryz.runUnderlying55 rfl Tryz.sizeOf53 (by decide) b o w
theorem E1 (b o:Nat) (w:World):(Instr.fieldAt 74 (.pointer (some ⟨b,o,none⟩)) 0).run Tryz.prog w=.ok (.pointer (some ⟨b,o+0,none⟩)) w:=Ys (T:=52) (off:=0) Tryz.runUnderlying74 rfl Tryz.sizeOf52 (by decide) b o w
theorem Ab (b o:Nat) (w:World):(Instr.fieldAt 74 (.pointer (some ⟨b,o,none⟩)) 1).run Tryz.prog w=.ok (.pointer (some ⟨b,o+1,none⟩)) w:=Ys (T:=52) (off:=1) Tryz.runUnderlying74 rfl Tryz.sizeOf52 (by decide) b o w
theorem Eo (b o:Nat) (w:World):(Instr.fieldAt 74 (.pointer (some ⟨b,o,none⟩)) 2).run Tryz.prog w=.ok (.pointer (some ⟨b,o+2,none⟩)) w:=Ys (T:=55) (off:=2) Tryz.runUnderlying74 rfl Tryz.sizeOf55 (by decide) b o w
theorem Qui (b o:Nat) (w:World):(Instr.fieldAt 76 (.pointer (some ⟨b,o,none⟩)) 0).run Tryz.prog w=.ok (.pointer (some ⟨b,o+0,none⟩)) w:=Ys (T:=74) (off:=0) Tryz.runUnderlying76 rfl Tryz.sizeOf74 (by decide) b o w
theorem Bj (b o:Nat) (w:World):(Instr.fieldAt 76 (.pointer (some ⟨b,o,none⟩)) 1).run Tryz.prog w=.ok (.pointer (some ⟨b,o+4,none⟩)) w:=Ys (T:=3) (off:=4) Tryz.runUnderlying76 rfl Tryz.sizeOf3 (by decide) b o w
theorem Er (b o:Nat) (w:World):(Instr.fieldAt 93 (.pointer (some ⟨b,o,none⟩)) 0).run Tryz.prog w=.ok (.pointer (some ⟨b,o+0,none⟩)) w:=Ys (T:=24) (off:=0) Tryz.runUnderlying93 rfl Tryz.sizeOf24 (by decide) b o w
abbrev Jd := @Tryz.runUnderlying53
abbrev Jl := @Tryz.runUnderlying30
abbrev J5 := @Tryz.runUnderlying28
abbrev Vc := @Tryz.runUnderlying24
abbrev Kr := @Tryz.runUnderlying52
abbrev J6 := @Tryz.sizeOf55
abbrev Js := @Tryz.sizeOf3
abbrev Wn := @Tryz.runUnderlying22
abbrev Y7 := @Tryz.sizeOf276
abbrev Ko := @Tryz.zeroValue55
abbrev Uy := @Tryz.runUnderlying276
abbrev Kn := @Tryz.sizeOf100
abbrev Gb := @Tryz.runUnderlying317
abbrev Uo := @Tryz.sizeOf34
abbrev F4 := @Tryz.sizeOf76
abbrev Sm := @Tryz.runUnderlying42
abbrev Sl := @Tryz.zeroValue34
abbrev Rd := @Tryz.isAgg55
abbrev Lt := @Tryz.runUnderlying29
abbrev L1 := @Tryz.runUnderlying38
abbrev Cq := @Tryz.zeroValue32
abbrev Sp := @Tryz.isAgg276
abbrev qWe := @Tryz.runUnderlying48
abbrev N7 := @Tryz.isAgg53
abbrev M4 := @Tryz.isAgg4
abbrev qWh := @Tryz.zeroValue100
abbrev qWi := @Tryz.zeroValue76
abbrev Ez := @Tryz.sizeOf28
abbrev Eq := @Tryz.func309
abbrev Lw := @Tryz.isAgg3
abbrev qWm := @Tryz.runUnderlying3
abbrev qWn := @Tryz.runUnderlying51
abbrev qWo := @Tryz.zeroValue276
abbrev qWp := @Tryz.func189
abbrev qWq := @Tryz.sizeOf47
abbrev qWr := @Tryz.typeInfo55
abbrev qWs := @Tryz.zeroValue3
abbrev qWt := @Tryz.func249
abbrev qWu := @Tryz.func228
abbrev qWv := @Tryz.func104
abbrev qWw := @Tryz.sizeOf166
abbrev qWx := @Tryz.zeroValue74
abbrev qWy := @Tryz.typeInfo3
abbrev qWz := @Tryz.typeInfo34
abbrev qUa := @Tryz.underlying4
abbrev qUb := @Tryz.runUnderlying102
abbrev qUc := @Tryz.zeroValue166
abbrev qUd := @Tryz.typeInfo276
abbrev qUe := @Tryz.zeroValue47
abbrev qUf := @Tryz.sizeOf52
abbrev qUg := @Tryz.isAgg100
abbrev qUh := @Tryz.func251
abbrev qUi := @Tryz.func169
abbrev qUj := @Tryz.func103
abbrev qUk := @Tryz.func107
abbrev qUl := @Tryz.isAgg52
abbrev qUm := @Tryz.func252
abbrev qUn := @Tryz.runUnderlying5
abbrev qUo := @Tryz.isAgg34
abbrev qUp := @Tryz.zeroValue57
abbrev qUq := @Tryz.func178
abbrev qUr := @Tryz.zeroValue196
abbrev qUs := @Tryz.isAgg76
abbrev qUt := @Tryz.func176
abbrev qUu := @Tryz.func265
abbrev qUv := @Tryz.runUnderlying23
abbrev qUw := @Tryz.func179
abbrev qUx := @Tryz.func175
abbrev qUy := @Tryz.zeroValue106
abbrev qUz := @Tryz.sizeOf24
abbrev qFa := @Tryz.sizeOf59
abbrev qFb := @Tryz.zeroValue28
abbrev qFc := @Tryz.zeroValue59
abbrev qFd := @Tryz.isAgg24
abbrev qFe := @Tryz.isAgg28
abbrev qFf := @Tryz.func266
abbrev qFg := @Tryz.func170
abbrev qFh := @Tryz.func140
abbrev qFi := @Tryz.func106
abbrev qFj := @Tryz.sizeOf32
abbrev qFk := @Tryz.sizeOf74
abbrev qFl := @Tryz.sizeOf196
abbrev qFm := @Tryz.func267
abbrev qFn := @Tryz.sizeOf4
abbrev qFo := @Tryz.func191
abbrev qFp := @Tryz.underlying3
abbrev qFq := @Tryz.isAgg32
abbrev qFr := @Tryz.isAgg74
abbrev qFs := @Tryz.func177
abbrev qFt := @Tryz.func215
abbrev qFu := @Tryz.func279
abbrev qFv := @Tryz.sizeOf44
abbrev qFw := @Tryz.underlying74
abbrev qFx := @Tryz.func264
abbrev qFy := @Tryz.isAgg44
abbrev qFz := @Tryz.isAgg59
abbrev qGa := @Tryz.func172
abbrev qGb := @Tryz.func310
abbrev qGc := @Tryz.func155
abbrev qGd := @Tryz.func139
abbrev qGe := @Tryz.runUnderlying362
abbrev qGf := @Tryz.func19
abbrev qGg := @Tryz.func39
abbrev qGh := @Tryz.runUnderlying9
abbrev qGi := @Tryz.results318
abbrev qGj := @Tryz.typeInfo47
abbrev qGk := @Tryz.func194
abbrev qGl := @Tryz.func193
abbrev qGm := @Tryz.func260
abbrev qGn := @Tryz.func186
abbrev qGo := @Tryz.sizeOf104
abbrev qGp := @Tryz.sizeOf106
end Orr

namespace Orr
open Go Go.Proofs
theorem Ep (vs:List Value) (v:Value) (hv:if true=true then v=.agg ((vs.drop 2).take 2).toArray else vs[2]? = some v) (hl:2+2≤vs.length) (w:World):(Instr.field 74 (.agg vs.toArray) 2).run Tryz.prog w=.ok v w:=Qdg (T:=55) Tryz.runUnderlying74 rfl Rd J6 vs v hv hl w
end Orr
