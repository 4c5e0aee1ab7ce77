/- Sy Sk Sc Ti Tt APoly ARatio ACurve ACrowd APred -/
import Derived.Test.YtaffmkgbfgjgeaaGreatPart02
import Derived.Test.YtaffmkgbfgjgeaaGreatPart00
import Derived.Test.YtaffmkgbfgjgeaaGreatProg
import Derived.Test.YtaffmkgbfgjgeaaGreatPart04
set_option linter.all false

namespace Orr
open Go
structure TI (P:Program) where
  t:TypeId
  ag:Bool
  sz:Nat
  un:TypeDesc
  z:Value
  fo:List Nat
  fv:List (Nat×Nat×Bool)
  bl:Option (List Value×(Nat→Option (Nat×Nat)))
  hag:∀ w,(isAgg t).run P w=.ok ag w
  hsz:∀ w,(Go.sizeOf t).run P w=.ok sz w
  hun:P.underlying t=some un
  hz:∀ w,(zeroValue t).run P w=.ok z w
  hfo:∀ f off,fo[f]? = some off→∀ b o w,(Instr.fieldAt t (.pointer (some ⟨b,o,none⟩)) f).run P w=.ok (.pointer (some ⟨b,o+off,none⟩)) w
  hfv:∀ f off m ag,fv[f]? = some (off,m,ag)→∀ (vs:List Value) (v:Value),(if ag=true then v=.agg ((vs.drop off).take m).toArray else vs[off]? = some v)→off+m≤vs.length→∀ w,(Instr.field t (.agg vs.toArray) f).run P w=.ok v w
  hbl:∀ zs pl,bl=some (zs,pl)→∀ {vs:List (Nat×Value)} {cs:Array Value},Instr.fill pl zs.toArray vs=some cs→∀ w,(Instr.build t vs.toArray).run P w=.ok (.agg cs) w
theorem TI.hu {P:Program} (i:TI P):∀ w,(underlying i.t).run P w=.ok i.un w:=by
  intro w
  simp only [underlying,Sem.run_bind,program]
  first
    | (simp [i.hun]; done)
    | (show ((match P.underlying i.t with | some d=>pure d | none=>stuck "no such type" : Sem TypeDesc)).run P w=_; rw [i.hun]; rfl)
inductive TT (P:Program) where
  | nil
  | nd (l:TT P) (i:TI P) (r:TT P)
def TT.find {P:Program}:TT P→Nat→Option (TI P)
  | .nil,_=>none
  |
   .nd l i r,t=>match Nat.beq t i.t with
   | true=>some i
   |
    false=>match Nat.blt t i.t with
    | true=>l.find t
    | false=>r.find t
theorem TT.find_t {P:Program}:∀ {T:TT P} {t:Nat} {i:TI P},T.find t=some i→i.t=t
  | .nil,_,_,h=>by cases h
  |
   .nd l j r,t,i,h=>by
   simp only [TT.find] at h
   split at h
   · rename_i e
     injection h with h; subst h
     exact (Fj e).symm
   · split at h
     · exact TT.find_t h
     · exact TT.find_t h
structure FT (P:Program) where
  ok:Nat→Bool
  h:∀ f,ok f=true→∃ fn,P.funcs[f]? = some fn∧(fn.name == "runtime.NumGoroutine")=false∧fn.body.isNone=false
inductive Eq1 where
  | no
  | eq (a b:Nat)
def Eq1.ok:Eq1→Prop
  | .no=>True
  | .eq a b=>a=b
variable {P:Program} {ops:Array Oper} {n:Nat} {L:Sg} {B:List OB} {d:Nat} {ty:TypeId} {pos:String} {after:Array Edge}
section
variable (T:TT P) (L:Sg) (B:List OB) (hs:List Nat)
def no3 (u:Option AV):Option (AV×List Nat×Eq1):=match u with
  | some u=>some (u,hs,.no)
  | none=>none
def Qi7 (ti:TI P):Option AV→Option (AV×List Nat×Eq1)
  |
   some (.one (.sh l))=>match Mr ti.sz l with
   | some r=>no3 hs (Wx ti.ag r)
   | none=>none
  |
   some (.one (.ow g o))=>match hs with
   | []=>none
   |
    i::hs=>match Jr B i with
    |
     some (.blk g' _ xs,_)=>match Qgp xs o ti.sz with
     |
      some r=>match Wx ti.ag r with
      | some u=>some (u,hs,.eq g' g)
      | none=>none
     | none=>none
    | _=>none
  | _=>none
def Qd1 (off:Nat):Option AV→Option AV
  |
   some (.one (.sh l))=>match Sh off l with
   | some r=>some (.one (.sh r))
   | none=>none
  | some (.one (.ow g o))=>some (.one (.ow g (o+off)))
  | some (.one (.oel r sz i o))=>some (.one (.oel r sz i (o+off)))
  | _=>none
def Qp1 (op:BinOp) (ti:TI P):Option AV→Option AV→Option AV
  |
   some (.one (.int kd p)),some (.one (.int kd' q))=>match decide (kd=kd') with
   |
    true=>match Qjq op p q with
    | some b=>some (.one (.bool b))
    | none=>none
   | false=>none
  |
   some (.one (.bool p)),some (.one (.bool q))=>match ti.un,op with
   | .bool,.eql=>some (.one (.bool (p == q)))
   | .bool,.neq=>some (.one (.bool (!(p == q))))
   | _,_=>none
  |
   some (.one u),some (.one .nilp)=>match ti.un with
   |
    .pointer _=>match H3 u with
    |
     some b=>match op with
     | .eql=>some (.one (.bool b))
     | .neq=>some (.one (.bool (!b)))
     | _=>none
    | none=>none
   | _=>none
  | _,_=>none
def syV:Op→Option (AV×List Nat×Eq1)
  | .move x=>no3 hs (J3 L x)
  | .assign x=>no3 hs (J3 L x)
  |
   .nilCheck x=>match J3 L x with
   |
    some u=>match Qh9 u with
    | true=>some (u,hs,.no)
    | false=>none
   | none=>none
  |
   .extract x i=>match J3 L x with
   | some (.tup l)=>no3 hs l[i]?
   | _=>none
  |
   .fieldAddr S x f=>match T.find S with
   |
    some ti=>match ti.fo[f]? with
    | some off=>no3 hs (Qd1 off (J3 L x))
    | none=>none
   | none=>none
  |
   .load t x=>match T.find t with
   | some ti=>Qi7 B hs ti (J3 L x)
   | none=>none
  |
   .field S x f=>match T.find S with
   |
    some ti=>match ti.fv[f]? with
    |
     some (off,m,ag)=>match J3 L x with
     |
      some (.agg xs)=>match Qgp xs off m with
      | some r=>no3 hs (Wx ag r)
      | none=>none
     | _=>none
    | none=>none
   | none=>none
  |
   .build S ps=>match T.find S with
   |
    some ti=>match ti.bl with
    |
     some (z,pl)=>match zl.zls z with
     |
      some zs=>match O4 L ps.toList with
      |
       some us=>match Mi pl zs us with
       | some r=>some (.agg r,hs,.no)
       | none=>none
      | none=>none
     | none=>none
    | none=>none
   | none=>none
  |
   .buildSlice S len ps=>match T.find S with
   |
    some ti=>match ti.un with
    |
     .slice E=>match T.find E with
     |
      some te=>match zl te.z with
      |
       some zs=>match (Nat.beq zs.length te.sz && Nat.blt 0 te.sz && Nat.ble (len*te.sz) 16777216 && Nat.blt 0 len) with
       |
        true=>match O4 L ps.toList with
        |
         some us=>match Mi (fun i=>some (i*te.sz,te.sz)) (zrep len zs) us with
         |
          some r=>match R1 te.sz len r with
          |
           some ls=>match M7 ls with
           | true=>some (.one (.row ls),hs,.no)
           | false=>none
          | none=>none
         | none=>none
        | none=>none
       | false=>none
      | none=>none
     | none=>none
    | _=>none
   | none=>none
  |
   .box _ x=>match J3 L x with
   |
    some u=>match Gh u with
    |
     some xs=>match G9 xs with
     | true=>some (.one (.sh xs),hs,.no)
     | false=>none
    | none=>none
   | none=>none
  |
   .unOp .not _ x=>match J3 L x with
   | some (.one (.bool b))=>some (.one (.bool (!b)),hs,.no)
   | _=>none
  |
   .binOp op t x y _=>match T.find t with
   | some ti=>no3 hs (Qp1 op ti (J3 L x) (J3 L y))
   | none=>none
  |
   .makeFunc (.func f) pre post=>match Cu L pre.toList with
   |
    some us=>match Cu L post.toList with
    |
     some ys=>match Qf0 us with
     |
      some xs=>match Qf0 ys with
      |
       some zs=>match G9 xs && G9 zs with
       | true=>some (.one (.fn f xs zs),hs,.no)
       | false=>none
      | none=>none
     | none=>none
    | none=>none
   | none=>none
  | _=>none
end
theorem He {hs:List Nat} {o:Option AV} {u:AV} {hs':List Nat} {e:Eq1} (h:no3 hs o=some (u,hs',e)):o=some u∧hs'=hs∧e=.no:=by
  unfold no3 at h
  split at h
  · injection h with h; injection h with h1 h2; injection h2 with h2 h3
    exact ⟨by rw [h1],h2.symm,h3.symm⟩
  · cases h
theorem Qs7 {T:TypeId} {ti:TI P} (ht:ti.t=T) {x:Operand} {hs hs':List Nat} {u:AV} {e:Eq1} (h:Qi7 B hs ti (J3 L x)=some (u,hs',e)) (he:e.ok) (hd:Nat.blt d n=true):AP P ops n { dst:=some d,op:=.load T x,type:=ty,pos:=pos,after:=after,guard:=none } d u L B:=by
  subst ht
  unfold Qi7 at h
  split at h
  · rename_i l hx
    split at h
    · rename_i r hr
      exact Zq ti.hag ti.hsz hx hr (He h).1 hd
    · cases h
  · rename_i g o hx
    split at h
    · cases h
    · rename_i i hs2
      split at h
      · rename_i g' T' xs B' hi
        split at h
        · rename_i r hr
          split at h
          · rename_i v hv
            injection h with h; injection h with h1 h2; injection h2 with h2 h3
            subst h1; subst h3
            have he:g'=g:=he
            subst he
            exact Xb i ti.hag ti.hsz hi hx hr hv hd
          · cases h
        · cases h
      · cases h
  · cases h
theorem Qp2 {S:TypeId} {ti:TI P} (ht:ti.t=S) {x:Operand} {f off:Nat} {u:AV} (ho:ti.fo[f]? = some off) (h:Qd1 off (J3 L x)=some u) (hd:Nat.blt d n=true):AP P ops n { dst:=some d,op:=.fieldAddr S x f,type:=ty,pos:=pos,after:=after,guard:=none } d u L B:=by
  subst ht
  have hr:=ti.hfo f off ho
  unfold Qd1 at h
  split at h
  · rename_i l hx
    split at h
    · rename_i r hd'
      injection h with h; subst h
      exact J0 hr hx hd' hd
    · cases h
  · rename_i g o hx
    injection h with h; subst h
    exact Wq hr hx hd
  · rename_i r sz i o hx
    injection h with h; subst h
    exact Sw hr hx hd
  · cases h
theorem Qvz {op:BinOp} {t t':TypeId} {ti:TI P} (ht:ti.t=t) {x y:Operand} {u:AV} (h:Qp1 op ti (J3 L x) (J3 L y)=some u) (hd:Nat.blt d n=true):AP P ops n { dst:=some d,op:=.binOp op t x y t',type:=ty,pos:=pos,after:=after,guard:=none } d u L B:=by
  subst ht
  unfold Qp1 at h
  split at h
  · rename_i kd p kd' q hx hy
    split at h
    · rename_i hk
      have hk:kd=kd':=of_decide_eq_true hk
      subst hk
      split at h
      · rename_i b hb
        injection h with h; subst h
        exact Qxm hx hy hb hd
      · cases h
    · cases h
  · rename_i p q hx hy
    split at h
    · rename_i hu
      injection h with h; subst h
      exact Qxn (by rw [ti.hun,hu]) hx hy rfl hd
    · rename_i hu
      injection h with h; subst h
      exact Qor (by rw [ti.hun,hu]) hx hy rfl hd
    · cases h
  · rename_i v _ _ hx hy
    split at h
    · rename_i E hu
      have hu':∀ w,(underlying ti.t).run P w=.ok (.pointer E) w:=by rw [←hu]; exact ti.hu
      split at h
      · rename_i b hb
        split at h
        · injection h with h; subst h
          exact Qrv hu' hx hy hb rfl hd
        · injection h with h; subst h
          exact Qrx hu' hx hy hb rfl hd
        · cases h
      · cases h
    · cases h
  · cases h
theorem Qs8 {T:TT P} {hs hs':List Nat} {op:Op} {u:AV} {e:Eq1} (h:syV T L B hs op=some (u,hs',e)) (he:e.ok) (hd:Nat.blt d n=true):AP P ops n { dst:=some d,op:=op,type:=ty,pos:=pos,after:=after,guard:=none } d u L B:=by
  unfold syV at h
  split at h
  · exact Qv (He h).1 hd
  · exact Qf2 (He h).1 hd
  · split at h
    · rename_i v hv
      split at h
      · rename_i hn
        injection h with h; injection h with h1 h2; subst h1
        exact Kj hv hn hd
      · cases h
    · cases h
  · split at h
    · rename_i l hx
      exact Ka hx (He h).1 hd
    · cases h
  · split at h
    · rename_i ti ht
      split at h
      · rename_i off ho
        exact Qp2 (TT.find_t ht) ho (He h).1 hd
      · cases h
    · cases h
  · split at h
    · rename_i ti ht
      exact Qs7 (TT.find_t ht) h he hd
    · cases h
  · rename_i S x f
    split at h
    · rename_i ti ht
      split at h
      · rename_i off m ag hf
        split at h
        · rename_i xs hx
          split at h
          · rename_i r hr
            have:=TT.find_t ht
            subst this
            exact Qrw (ti.hfv f off m ag hf) hx hr (He h).1 hd
          · cases h
        · cases h
      · cases h
    · cases h
  · rename_i S ps
    split at h
    · rename_i ti ht
      split at h
      · rename_i z pl hb
        split at h
        · rename_i zs hz
          split at h
          · rename_i us hx
            split at h
            · rename_i r hr
              injection h with h; injection h with h1 h2; subst h1
              have:=TT.find_t ht
              subst this
              exact F5 (ps:=ps.toList) (ti.hbl z pl hb) (by simpa using hz) hx hr hd
            · cases h
          · cases h
        · cases h
      · cases h
    · cases h
  · rename_i S len ps
    split at h
    · rename_i ti ht
      split at h
      · rename_i E hu
        split at h
        · rename_i te hte
          split at h
          · rename_i zs hz
            split at h
            · rename_i hc
              simp only [qXp] at hc
              obtain ⟨⟨⟨c1,c2⟩,c3⟩,c4⟩:=hc
              split at h
              · rename_i us hx
                split at h
                · rename_i r hr
                  split at h
                  · rename_i ls hls
                    split at h
                    · rename_i hfr
                      injection h with h; injection h with h1 h2; subst h1
                      have e1:=TT.find_t ht
                      have e2:=TT.find_t hte
                      subst e1; subst e2
                      exact Rm (ps:=ps.toList) (by rw [←hu]; exact ti.hu) te.hsz te.hz hz c1 c2 c3 c4 hx hr hls hfr hd
                    · cases h
                  · cases h
                · cases h
              · cases h
            · cases h
          · cases h
        · cases h
      · cases h
    · cases h
  · split at h
    · rename_i v hx
      split at h
      · rename_i xs hl
        split at h
        · rename_i hf
          injection h with h; injection h with h1 h2; subst h1
          exact Qus hx hl hf hd
        · cases h
      · cases h
    · cases h
  · split at h
    · rename_i b hx
      injection h with h; injection h with h1 h2; subst h1
      exact Qxp hx hd
    · cases h
  · split at h
    · rename_i ti ht
      exact Qvz (TT.find_t ht) (He h).1 hd
    · cases h
  · rename_i f pre post
    split at h
    · rename_i us hx
      split at h
      · rename_i ys hy
        split at h
        · rename_i xs hxs
          split at h
          · rename_i zs hzs
            split at h
            · rename_i hf
              simp only [qXp] at hf
              injection h with h; injection h with h1 h2; subst h1
              exact Qib (pre:=pre.toList) (post:=post.toList) hx hy hxs hzs hf.1 hf.2 hd
            · cases h
          · cases h
        · cases h
      · cases h
    · cases h
  · cases h
theorem Qw (T:TT P) {op:Op} {u:AV} {hs':List Nat} (h:syV T L B [] op=some (u,hs',.no)) (hd:Nat.blt d n=true):AP P ops n { dst:=some d,op:=op,type:=ty,pos:=pos,after:=after,guard:=none } d u L B:=Qs8 h trivial hd
theorem Wv (T:TT P) (i:Nat) {op:Op} {u:AV} {hs':List Nat} {g:Nat} (h:syV T L B [i] op=some (u,hs',.eq g g)) (hd:Nat.blt d n=true):AP P ops n { dst:=some d,op:=op,type:=ty,pos:=pos,after:=after,guard:=none } d u L B:=Qs8 h rfl hd
end Orr

namespace Orr
open Go
variable {P:Program} {n:Nat} {Q:Exit→Sg→List OB→Prop} {L:Sg} {B:List OB}
inductive It where
  | code (c:Code)
  | ops (arr:Array Oper) (l:List Oper)
  | dr (arr:Array Oper) (l rest:List Oper)
  | blk (id:Nat)
  | rnd (N:Sg→List OB→Prop)
def rsl (L:Sg):List Operand→Sg
  | []=>[]
  |
   .tmp t::r=>match lk L t with
   | some v=>(t,v)::rsl L r
   | none=>rsl L r
  | _::r=>rsl L r
def gsl (arr:Array Oper) (o:Oper):List Operand:=match o.guard with
  | none=>o.op.operands.toList
  |
   some (j,_)=>match (arr[j]?).bind (·.dst) with
   | some t=>.tmp t::o.op.operands.toList
   | none=>o.op.operands.toList
def rs (arr:Array Oper) (o:Oper) (L:Sg):Sg:=rsl L (gsl arr o)
def DS (P:Program) (arr:Array Oper) (n:Nat) (B:List OB):List Oper→(Sg→Prop)→Sg→Prop
  | [],K,L=>K L
  | o::os,K,L=>∃ d u,o.dst=some d∧AP P arr n o d u (rs arr o L) B∧DS P arr n B os K ((d,u)::L)
abbrev Kp:=Sg→List OB→Prop
def mkQ (Q:Exit→Sg→List OB→Prop) (p:Kp×(Nat→Kp)):Exit→Sg→List OB→Prop
  | .normal,L,B=>p.1 L B
  | .exit id,L,B=>p.2 id L B
  | e,L,B=>Q e L B
def Sub (n:Nat) (L:Sg) (B:List OB) (L2:Sg) (B2:List OB):Prop:=∀ (K Ob:Nat→Prop) (w0 w:World) (a:Act),SA K Ob w0 w a n L B→SA K Ob w0 w a n L2 B2
def Wk (n:Nat) (N:Kp):Kp:=fun L B=>∃ L2 B2,Sub n L B L2 B2∧N L2 B2
def Eu (P:Program) (n:Nat) (Q:Exit→Sg→List OB→Prop):List It→Kp×(Nat→Kp)
  | []=>(Q .normal,fun id=>Q (.exit id))
  | .code c::r=>(fun L B=>AC P n c (mkQ Q (Eu P n Q r)) L B,(Eu P n Q r).2)
  | .ops arr l::r=>(fun L B=>AW P arr n l (Eu P n Q r).1 L B,(Eu P n Q r).2)
  | .dr arr l rest::r=>(fun L B=>DS P arr n B l (fun L2=>AW P arr n rest (Eu P n Q r).1 L2 B) L,(Eu P n Q r).2)
  | .blk i::r=>((Eu P n Q r).1,fun id L B=>if i=id then (Eu P n Q r).1 L B else (Eu P n Q r).2 id L B)
  | .rnd N::r=>(Wk n N,(Eu P n Q r).2)
def AK (P:Program) (n:Nat) (Q:Exit→Sg→List OB→Prop) (it:List It):Kp:=(Eu P n Q it).1
def Ay (id:Nat):List It→Option (List It)
  | []=>none
  |
   .blk i::r=>match Nat.beq i id with
   | true=>some r
   | false=>Ay id r
  | _::r=>Ay id r
theorem Gx {id:Nat}:∀ {it r:List It},Ay id it=some r→(Eu P n Q it).2 id=AK P n Q r
  | [],r,h=>by cases h
  |
   .blk i::q,r,h=>by
   simp only [Ay] at h
   split at h
   · rename_i e
     have e:=Fj e
     injection h with h; subst h
     funext L B
     simp only [Eu]
     rw [if_pos e]; rfl
   · rename_i e
     have e:=qJi e
     rw [←Gx h]
     funext L B
     simp only [Eu]
     rw [if_neg e]
  | .code c::q,r,h=>Gx (it:=q) h
  | .ops _ _::q,r,h=>Gx (it:=q) h
  | .dr _ _ _::q,r,h=>Gx (it:=q) h
  | .rnd _::q,r,h=>Gx (it:=q) h
def Qvy (
 T:TT P) (
  n:Nat) (st:List Nat) (L:Sg) (B:List OB) (hs:List Nat) (o:Oper):Option (Sg×List OB×List Nat×Eq1):=match o.guard with
  | some _=>none
  |
   none=>match o.dst with
   |
    some d=>match (Nat.blt d n && !(st.contains d)) with
    |
     true=>match syV T L B hs o.op with
     | some (u,hs',e)=>some ((d,u)::L,B,hs',e)
     | none=>none
    | false=>none
   |
    none=>match o.op with
    |
     .store t x y=>match T.find t with
     |
      some ti=>match J3 L x with
      |
       some (.one (.ow g off))=>match hs with
       |
        i::hs'=>match Jr B i with
        |
         some (.blk g' T' xs,_)=>match J3 L y with
         |
          some u=>match Gh u with
          |
           some ys=>match Nat.beq ys.length ti.sz with
           |
            true=>match updO xs off ti.sz ys with
            |
             some r=>match Qiv B i (.blk g' T' r) with
             | some B2=>some (L,B2,hs',.eq g' g)
             | none=>none
            | none=>none
           | false=>none
          | none=>none
         | none=>none
        | _=>none
       | []=>none
      | _=>none
     | none=>none
    | _=>none
theorem Qdd {o:Oper} {d:Option Nat} {p:Op} {g:Option (Nat×Bool)} (hd:o.dst=d) (hp:o.op=p) (hg:o.guard=g):o={ dst:=d,op:=p,type:=o.type,pos:=o.pos,after:=o.after,guard:=g }:=by subst hd; subst hp; subst hg; rfl
theorem Qyc {T:TT P} {st:List Nat} {arr:Array Oper} {hs hs':List Nat} {o:Oper} {l:List Oper} {N:Sg→List OB→Prop} {L':Sg} {B':List OB} {e:Eq1} (h:Qvy T n st L B hs o=some (L',B',hs',e)) (he:e.ok) (k:AW P arr n l N L' B'):AW P arr n (o::l) N L B:=by
  unfold Qvy at h
  split at h
  · cases h
  · rename_i hg
    split at h
    · rename_i d hd
      split at h
      · rename_i hc
        simp only [qXp] at hc
        split at h
        · rename_i u hs2 e2 hv
          injection h with h; injection h with h1 h2; injection h2 with h2 h3; injection h3 with h3 h4
          subst h1; subst h2; subst h4
          have:=Qs8 (P:=P) (ops:=arr) (ty:=o.type) (pos:=o.pos) (after:=o.after) hv he hc.1
          rw [Qdd hd rfl hg]
          exact w_ this k
        · cases h
      · cases h
    · rename_i hd
      split at h
      · rename_i t x y hop
        split at h
        · rename_i ti hti
          have ht:=TT.find_t hti
          subst ht
          split at h
          · rename_i g off hx
            split at h
            · rename_i i hs2
              split at h
              · rename_i g' T' xs B2 hi
                split at h
                · rename_i u hy
                  split at h
                  · rename_i ys hl
                    split at h
                    · rename_i hm
                      split at h
                      · rename_i r hr
                        split at h
                        · rename_i B3 hB
                          injection h with h; injection h with h1 h2; injection h2 with h2 h3; injection h3 with h3 h4
                          subst h1; subst h2; subst h4
                          have he:g'=g:=he
                          subst he
                          rw [Qdd hd hop hg]
                          exact Qk7 i ti.hsz hi hx hy hl (Fj hm) hr hB k
                        · cases h
                      · cases h
                    · cases h
                  · cases h
                · cases h
              · cases h
            · cases h
          · cases h
        · cases h
      · cases h
def Eq1.a:Eq1→List Nat→List Nat
  | .no,l=>l
  | .eq a _,l=>a::l
def Eq1.b:Eq1→List Nat→List Nat
  | .no,l=>l
  | .eq _ b,l=>b::l
theorem Eq1.of:∀ {e:Eq1} {as0 bs:List Nat},e.a as0=e.b bs→e.ok∧as0=bs
  | .no,_,_,h=>⟨trivial,h⟩
  | .eq a b,as0,bs,h=>by injection h with h1 h2; exact ⟨h1,h2⟩
def run (T:TT P) (n:Nat) (st:List Nat):Nat→Nat→List It→Sg→List OB→List Nat→List Nat→List Nat→Option (List It×Sg×List OB×List Nat×List Nat)
  | 0,_,it,L,B,_,as0,bs=>some (it,L,B,as0,bs)
  |
   f+1,k,it,L,B,hs,as0,bs=>match it with
   | .code (.seq x y)::r=>run T n st f k (.code x::.code y::r) L B hs as0 bs
   | .code .skip::r=>run T n st f k r L B hs as0 bs
   |
    .code (.block id c)::r=>match st.contains (100000+id) with
    | true=>some (.code (.block id c)::r,L,B,as0,bs)
    | false=>run T n st f k (.code c::.blk id::r) L B hs as0 bs
   |
    .code (.exit id)::r=>match Ay id r with
    | some r'=>run T n st f k r' L B hs as0 bs
    | none=>some (it,L,B,as0,bs)
   | .code (.region id arr false)::r=>run T n st f k (.ops arr arr.toList::r) L B hs as0 bs
   | .blk _::r=>run T n st f k r L B hs as0 bs
   | .ops _ []::r=>run T n st f k r L B hs as0 bs
   | .dr arr [] rest::r=>run T n st f k (.ops arr rest::r) L B hs as0 bs
   |
    .ops arr (o::l)::r=>match k with
    | 0=>some (.ops arr (o::l)::r,L,B,as0,bs)
    |
     k+1=>match Qvy T n st L B hs o with
     | some (L',B',hs',e)=>run T n st f k (.ops arr l::r) L' B' hs' (e.a as0) (e.b bs)
     | none=>some (.ops arr (o::l)::r,L,B,as0,bs)
   |
    .dr arr (o::l) rest::r=>match k with
    | 0=>some (.dr arr (o::l) rest::r,L,B,as0,bs)
    |
     k+1=>match o.guard with
     | some _=>some (.dr arr (o::l) rest::r,L,B,as0,bs)
     |
      none=>match o.dst with
      | none=>some (.dr arr (o::l) rest::r,L,B,as0,bs)
      |
       some d=>match Nat.blt d n with
       | false=>some (.dr arr (o::l) rest::r,L,B,as0,bs)
       |
        true=>match syV T (rs arr o L) B hs o.op with
        | some (u,hs',e)=>run T n st f k (.dr arr l rest::r) ((d,u)::L) B hs' (e.a as0) (e.b bs)
        | none=>some (.dr arr (o::l) rest::r,L,B,as0,bs)
   | it=>some (it,L,B,as0,bs)
theorem Wi {it it':List It} {L':Sg} {B':List OB} {as0 bs as' bs':List Nat} (h:some (it,L,B,as0,bs)=some (it',L',B',as',bs')) (he:as'=bs'):as0=bs∧(AK P n Q it' L' B'→AK P n Q it L B):=by
  injection h with h; injection h with h1 h2; injection h2 with h2 h3; injection h3 with h3 h4; injection h4 with h4 h5
  subst h1; subst h2; subst h3; subst h4; subst h5
  exact ⟨he,id⟩
theorem Gm (
 T:TT P) (
  st:List Nat):∀ (f k:Nat) (it it':List It) (L L':Sg) (B B':List OB) (hs as0 bs as' bs':List Nat),run T n st f k it L B hs as0 bs=some (it',L',B',as',bs')→as'=bs'→as0=bs∧(AK P n Q it' L' B'→AK P n Q it L B)
  | 0,k,it,it',L,L',B,B',hs,as0,bs,as',bs',h,he=>Wi h he
  |
   f+1,k,it,it',L,L',B,B',hs,as0,bs,as',bs',h,he=>by
   unfold run at h
   split at h
   · rename_i x y r
     obtain ⟨h1,h2⟩:=Gm T st f k _ _ _ _ _ _ _ _ _ _ _ h he
     refine ⟨h1,fun hk=>?_⟩
     refine Qua (Pf (h2 hk) fun e L B hq=>?_)
     cases e <;> exact hq
   · obtain ⟨h1,h2⟩:=Gm T st f k _ _ _ _ _ _ _ _ _ _ _ h he
     exact ⟨h1,fun hk=>Qq2 (h2 hk)⟩
   · rename_i id c r
     split at h
     · exact Wi h he
     obtain ⟨h1,h2⟩:=Gm T st f k _ _ _ _ _ _ _ _ _ _ _ h he
     refine ⟨h1,fun hk=>?_⟩
     refine Qnh (Pf (h2 hk) fun e L B hq=>?_)
     cases e with
     |
      exit id' =>
      show if id'=id then _ else _
      have hq:if id=id' then (Eu P n Q r).1 L B else (Eu P n Q r).2 id' L B:=hq
      by_cases e:id=id'
      · rw [if_pos e] at hq; rw [if_pos e.symm]; exact hq
      · rw [if_neg e] at hq; rw [if_neg (Ne.symm e)]; exact hq
     | _=>exact hq
   · rename_i id r
     split at h
     · rename_i r' hr
       obtain ⟨h1,h2⟩:=Gm T st f k _ _ _ _ _ _ _ _ _ _ _ h he
       refine ⟨h1,fun hk=>Qq1 ?_⟩
       show (Eu P n Q r).2 id L B
       rw [Gx hr]; exact h2 hk
     · exact Wi h he
   · rename_i id arr r
     obtain ⟨h1,h2⟩:=Gm T st f k _ _ _ _ _ _ _ _ _ _ _ h he
     refine ⟨h1,fun hk=>?_⟩
     have:=h2 hk
     exact Qt9 (l:=arr.toList) this
   · obtain ⟨h1,h2⟩:=Gm T st f k _ _ _ _ _ _ _ _ _ _ _ h he
     exact ⟨h1,fun hk=>h2 hk⟩
   · obtain ⟨h1,h2⟩:=Gm T st f k _ _ _ _ _ _ _ _ _ _ _ h he
     exact ⟨h1,fun hk=>Qo (h2 hk)⟩
   · obtain ⟨h1,h2⟩:=Gm T st f k _ _ _ _ _ _ _ _ _ _ _ h he
     exact ⟨h1,fun hk=>h2 hk⟩
   · rename_i arr o l r
     split at h
     · exact Wi h he
     · split at h
       · rename_i L2 B2 hs2 e hv
         obtain ⟨h1,h2⟩:=Gm T st f _ _ _ _ _ _ _ _ _ _ _ _ h he
         obtain ⟨h3,h4⟩:=Eq1.of h1
         exact ⟨h4,fun hk=>Qyc hv h3 (h2 hk)⟩
       · exact Wi h he
   · rename_i arr o l rest r
     split at h
     · exact Wi h he
     · split at h
       · exact Wi h he
       · rename_i hg
         split at h
         · exact Wi h he
         · rename_i d hd
           split at h
           · exact Wi h he
           · rename_i hdn
             split at h
             · rename_i u hs2 e hv
               obtain ⟨h1,h2⟩:=Gm T st f _ _ _ _ _ _ _ _ _ _ _ _ h he
               obtain ⟨h3,h4⟩:=Eq1.of h1
               refine ⟨h4,fun hk=>⟨d,u,hd,?_,h2 hk⟩⟩
               have:=Qs8 (P:=P) (ops:=arr) (ty:=o.type) (pos:=o.pos) (after:=o.after) hv h3 hdn
               have e0:=Qdd hd rfl hg
               rw [←e0] at this
               exact this
             · exact Wi h he
   · exact Wi h he
theorem Xu (T:TT P) (m:Nat) (hs:List Nat) {it it':List It} {L':Sg} {B':List OB} {as0:List Nat} (h:run T n [] 100000 m it L B hs [] []=some (it',L',B',as0,as0)) (k:AK P n Q it' L' B'):AK P n Q it L B:=(Gm T [] _ _ _ _ _ _ _ _ _ _ _ _ _ h rfl).2 k
theorem Qr (T:TT P) (m:Nat) {it it':List It} {L':Sg} {B':List OB} {as0:List Nat} (h:run T n [] 100000 m it L B [] [] []=some (it',L',B',as0,as0)) (k:AK P n Q it' L' B'):AK P n Q it L B:=Xu T m [] h k
theorem Qq (T:TT P) {it it':List It} {L':Sg} {B':List OB} {as0:List Nat} (h:run T n [] 100000 0 it L B [] [] []=some (it',L',B',as0,as0)) (k:AK P n Q it' L' B'):AK P n Q it L B:=Xu T 0 [] h k
theorem syp (T:TT P) (m:Nat) (st hs:List Nat) {it it':List It} {L':Sg} {B':List OB} {as0:List Nat} (h:run T n st 100000 m it L B hs [] []=some (it',L',B',as0,as0)) (k:AK P n Q it' L' B'):AK P n Q it L B:=(Gm T st _ _ _ _ _ _ _ _ _ _ _ _ _ h rfl).2 k
end Orr

namespace Orr
open Go
variable {P:Program} {n:Nat} {Q:Exit→Sg→List OB→Prop} {L:Sg} {B:List OB} {r:List It} {arr:Array Oper} {l rest:List Oper}
theorem fn_ {f:FuncId} {fn:Func} {c:Code} {args:List AV} {Bin:List OB} {Post:AV→List OB→Prop} (hf:P.funcs[f]? = some fn) (hb:fn.body=some c) (hn:fn.ntmps=n) (hl:Nat.ble args.length n=true)
    (h:AK P n (RQ P fn n Post) [.code c] (Ez 0 args) Bin):Us P f args Bin Post :=
  Qxd hf hb hn hl (Pf h fun e L B hq=>by cases e <;> exact hq)
theorem Zn (h:AW P arr n l (AK P n Q r) L B):AK P n Q (.ops arr l::r) L B:=h
theorem ko (h:AK P n Q (.ops arr l::r) L B):AW P arr n l (AK P n Q r) L B:=h
theorem kw {o:Oper} {d:Nat} {u:AV} (hp:AP P arr n o d u L B) (k:AK P n Q (.ops arr l::r) ((d,u)::L) B):AK P n Q (.ops arr (o::l)::r) L B:=w_ hp k
theorem kd {o:Oper} {d:Nat} {u:AV} (hp:AP P arr n o d u (rs arr o L) B) (hd:o.dst=some d) (k:AK P n Q (.dr arr l rest::r) ((d,u)::L) B):AK P n Q (.dr arr (o::l) rest::r) L B:=⟨d,u,hd,hp,k⟩
theorem kc {c:Code} (h:AC P n c (mkQ Q (Eu P n Q r)) L B):AK P n Q (.code c::r) L B:=h
theorem kn (h:AK P n Q (.ops arr l::r) L B):AW P arr n l (fun L B=>mkQ Q (Eu P n Q r) .normal L B) L B:=h
theorem kt {c:Operand} {x y:Code} {b:Bool} (hb:b=true) (hc:J3 L c=some (.one (.bool b))) (h:AK P n Q (.code x::r) L B):AK P n Q (.code (.cond c x y)::r) L B:=Qz7 hc hb h
theorem kf {c:Operand} {x y:Code} {b:Bool} (hb:b=false) (hc:J3 L c=some (.one (.bool b))) (h:AK P n Q (.code y::r) L B):AK P n Q (.code (.cond c x y)::r) L B:=Qz6 hc hb h
theorem kif {c:Operand} {x y:Code} {b:Bool} (hc:J3 L c=some (.one (.bool b))) (ht:b=true→AK P n Q (.code x::r) L B) (hf:b=false→AK P n Q (.code y::r) L B):AK P n Q (.code (.cond c x y)::r) L B:=Qb7 hc ht hf
theorem Q8 {N:Sg→List OB→Prop} (h:N L B):AK P n Q (.rnd N::r) L B:=⟨L,B,fun _ _ _ _ _ h=>h,h⟩
theorem Tr (h:Q .ret L B):AK P n Q (.code .ret::r) L B:=Ey h
theorem Qn8 (h:Q .normal L B):AK P n Q [] L B:=h
theorem AC.sub {c:Code} {L2:Sg} {B2:List OB} (h:Sub n L B L2 B2) (k:AC P n c Q L2 B2):AC P n c Q L B:=fun K Ob w0 w a hs=>k K Ob w0 w a (h _ _ _ _ _ hs)
def Hh:List It→Bool
  | .code _::_=>true
  | .ops _ _::_=>true
  | .rnd _::_=>true
  | .blk _::r=>Hh r
  | _=>false
theorem AK.sub {L2:Sg} {B2:List OB} (h:Sub n L B L2 B2):∀ {it:List It},Hh it=true→AK P n Q it L2 B2→AK P n Q it L B
  | .code c::_,_,k=>AC.sub h k
  | .ops arr l::_,_,k=>fun K Ob w0 w a Q h1 h2=>k K Ob w0 w a Q (h _ _ _ _ _ h1) h2
  | .rnd N::_,_,⟨L3,B3,h3,h4⟩=>⟨L3,B3,fun _ _ _ _ _ hs=>h3 _ _ _ _ _ (h _ _ _ _ _ hs),h4⟩
  | .blk _::r,hs,k=>AK.sub (it:=r) h hs k
theorem Zl {c:Code} (I:Nat→Sg→List OB→Prop) {m:Nat} (h0:I m L B) (round:∀ m L B,I m L B→AK P n Q (.code c::.rnd (fun L B=>∃ m',m'<m∧I m' L B)::r) L B):AK P n Q (.code (.loop c)::r) L B :=
  Qjj (fun m=>Wk n (I m)) ⟨L,B,fun _ _ _ _ _ h=>h,h0⟩ fun m L B ⟨L2,B2,h1,h2⟩=>AC.sub h1 (Pf (round m L2 B2 h2) fun e L B hq=>by
    cases e with
    | normal=>obtain ⟨L3,B3,h3,m',h4,h5⟩:=hq; exact ⟨m',h4,L3,B3,h3,h5⟩
    | _=>exact hq)
def RN (P:Program) (n:Nat) (Q:Exit→Sg→List OB→Prop) (c:Code) (r:List It):Nat→Kp
  | 0=>fun _ _=>False
  | k+1=>AK P n Q (.code c::.rnd (RN P n Q c r k)::r)
theorem Gb {c:Code} (k:Nat) (h:RN P n Q c r k L B):AK P n Q (.code (.loop c)::r) L B:=by
  refine Qjj (fun m L B=>∃ L2 B2,Sub n L B L2 B2∧RN P n Q c r m L2 B2) (m:=k) ⟨L,B,fun _ _ _ _ _ h=>h,h⟩ fun m L B ⟨L2,B2,h1,h2⟩=>?_
  cases m with
  | zero=>exact h2.elim
  |
   succ m =>
   refine AC.sub h1 (Pf h2 fun e L B hq=>?_)
   cases e with
   | normal=>obtain ⟨L3,B3,h3,h4⟩:=hq; exact ⟨m,Nat.lt_succ_self m,L3,B3,h3,h4⟩
   | _=>exact hq
theorem J5 {c:Code} {k:Nat} (h:AK P n Q (.code c::.rnd (RN P n Q c r k)::r) L B):RN P n Q c r (k+1) L B:=h
def Imp (p q:Kp×(Nat→Kp)):Prop:=(∀ L B,p.1 L B→q.1 L B)∧∀ i L B,p.2 i L B→q.2 i L B
theorem Qrq {p q:Kp×(Nat→Kp)} (h:Imp p q):∀ e L B,mkQ Q p e L B→mkQ Q q e L B:=fun e L B hq=>by
  cases e with
  | normal=>exact h.1 _ _ hq
  | exit id=>exact h.2 _ _ _ hq
  | _=>exact hq
theorem DS.mono {K K':Sg→Prop} (hk:∀ L,K L→K' L):∀ {os:List Oper} {L:Sg},DS P arr n B os K L→DS P arr n B os K' L
  | [],_,h=>hk _ h
  | _::_,_,⟨d,u,h1,h2,h3⟩=>⟨d,u,h1,h2,DS.mono hk h3⟩
theorem AW.mono' {N N':Sg→List OB→Prop} (hn:∀ L B,N L B→N' L B) (h:AW P arr n l N L B):AW P arr n l N' L B:=fun K Ob w0 w a Q hs hq=>h K Ob w0 w a Q hs fun a' w' ⟨L',B',h1,h2⟩=>hq a' w' ⟨L',B',h1,hn _ _ h2⟩
theorem Pn {I:Kp} {r:List It} (hy:∀ L B,Wk n I L B→AK P n Q r L B):∀ pre:List It,Imp (Eu P n Q (pre++.rnd I::r)) (Eu P n Q (pre++r))
  | []=>⟨hy,fun _ _ _ h=>h⟩
  |
   .code c::q=>by
   have ih:=Pn hy q
   exact ⟨fun L B h=>Pf h (Qrq ih),ih.2⟩
  |
   .ops a l::q=>by
   have ih:=Pn hy q
   exact ⟨fun L B h=>AW.mono' ih.1 h,ih.2⟩
  |
   .dr a l rest::q=>by
   have ih:=Pn hy q
   exact ⟨fun L B h=>DS.mono (fun L2 h=>AW.mono' ih.1 h) h,ih.2⟩
  |
   .blk i::q=>by
   have ih:=Pn hy q
   refine ⟨ih.1,fun id L B h=>?_⟩
   simp only [Lm,Eu] at h ⊢
   split at h
   · rename_i e; rw [if_pos e]; exact ih.1 _ _ h
   · rename_i e; rw [if_neg e]; exact ih.2 _ _ _ h
  |
   .rnd N::q=>by
   have ih:=Pn hy q
   exact ⟨fun L B h=>h,ih.2⟩
theorem Ml (j:Nat) {it:List It} (I:Sg→List OB→Prop) (hx:AK P n Q (it.take j++.rnd I::it.drop j) L B) (hs:Hh (it.drop j)=true) (hy:∀ L B,I L B→AK P n Q (it.drop j) L B):AK P n Q it L B:=by
  have:=(Pn (P:=P) (n:=n) (Q:=Q) (I:=I) (r:=it.drop j) (fun L B ⟨L2,B2,h1,h2⟩=>AK.sub h1 hs (hy _ _ h2)) (it.take j)).1 L B hx
  rw [Iy] at this
  exact this
theorem Qvx {L2:Sg} {B2:List OB} (h:∀ N:Sg→List OB→Prop,N L2 B2→AW P #[] n [] N L B):Sub n L B L2 B2:=fun K Ob w0 w a hs =>
  h (fun L' B'=>L'=L2∧B'=B2) ⟨rfl,rfl⟩ K Ob w0 w a (fun _ a' w'=>SA K Ob w0 w' a' n L2 B2) hs fun a' w' ⟨L',B',h1,h2,h3⟩=>by subst h2; subst h3; exact h1
theorem X5 {it:List It} {L2:Sg} {B2:List OB} (h:∀ N:Sg→List OB→Prop,N L2 B2→AW P #[] n [] N L B) (hs:Hh it=true) (k:AK P n Q it L2 B2):AK P n Q it L B:=AK.sub (Qvx h) hs k
theorem Qj {it:List It} (ts:List Nat) {L2:Sg} (ht:Ir L ts=some L2) (hs:Hh it=true) (k:AK P n Q it L2 B):AK P n Q it L B:=AK.sub (fun _ _ _ _ _ h=>h.pick ht) hs k
theorem Yt {it:List It} (i:Nat) {x:OB} {q:List OB} (hi:Jr B i=some (x,q)) (hs:Hh it=true) (k:AK P n Q it L q):AK P n Q it L B:=AK.sub (fun _ _ _ _ _ h=>h.drop hi) hs k
theorem Yi {it:List It} (i:Nat) {x:OB} {q:List OB} (hi:Jr B i=some (x,q)) (hs:Hh it=true) (k:AK P n Q it L (x::q)):AK P n Q it L B:=AK.sub (fun _ _ _ _ _ h=>h.toFront hi) hs k
def Lo (
 T:TT P) (
  L:Sg) (B:List OB):List ResultVar→List Nat→List Nat→List Nat→Option (List AV×List Nat×List Nat)
  | [],_,as0,bs=>some ([],as0,bs)
  |
   .tmp t::q,hs,as0,bs=>match lk L t with
   |
    some u=>match Oh u with
    |
     some y=>match Lo T L B q hs as0 bs with
     | some (ys,as0,bs)=>some (y::ys,as0,bs)
     | none=>none
    | none=>none
   | none=>none
  |
   .cell t S::q,hs,as0,bs=>match T.find S with
   |
    some ti=>match lk L t with
    |
     some (.one (.ow g 0))=>match hs with
     |
      i::hs=>match Jr B i with
      |
       some (.blk g' _ xs,_)=>match Nat.beq xs.length ti.sz with
       |
        true=>match W3 xs with
        |
         some zs=>match Wx ti.ag zs with
         |
          some u=>match Lo T L B q hs (g'::as0) (g::bs) with
          | some (ys,as0,bs)=>some (u::ys,as0,bs)
          | none=>none
         | none=>none
        | none=>none
       | false=>none
      | _=>none
     | []=>none
    | _=>none
   | none=>none
theorem B6 {T:TT P}:∀ {rs:List ResultVar} {hs as0 bs:List Nat} {us:List AV} {as' bs':List Nat},Lo T L B rs hs as0 bs=some (us,as',bs')→as'=bs'→as0=bs∧RVs P n L B rs us
  |
   [],hs,as0,bs,us,as',bs',h,he=>by
   simp only [Lo] at h
   injection h with h; injection h with h1 h2; injection h2 with h2 h3
   subst h1; subst h2; subst h3
   exact ⟨he,trivial⟩
  |
   .tmp t::q,hs,as0,bs,us,as',bs',h,he=>by
   simp only [Lo] at h
   split at h
   · rename_i u hu
     split at h
     · rename_i y hy
       split at h
       · rename_i ys as2 bs2 hr
         injection h with h; injection h with h1 h2; injection h2 with h2 h3
         subst h1; subst h2; subst h3
         obtain ⟨e,h4⟩:=B6 hr he
         exact ⟨e,Kb hu hy,h4⟩
       · cases h
     · cases h
   · cases h
  |
   .cell t S::q,hs,as0,bs,us,as',bs',h,he=>by
   simp only [Lo] at h
   split at h
   · rename_i ti hti
     have ht:=TT.find_t hti
     subst ht
     split at h
     · rename_i g hx
       split at h
       · rename_i i hs2
         split at h
         · rename_i g' T' xs B' hi
           split at h
           · rename_i hm
             split at h
             · rename_i zs hz
               split at h
               · rename_i u hu
                 split at h
                 · rename_i ys as2 bs2 hr
                   injection h with h; injection h with h1 h2; injection h2 with h2 h3
                   subst h1; subst h2; subst h3
                   obtain ⟨e,h4⟩:=B6 hr he
                   injection e with e1 e2
                   subst e1
                   exact ⟨e2,Qks i ti.hag ti.hsz hi hx hm hz hu,h4⟩
                 · cases h
               · cases h
             · cases h
           · cases h
         · cases h
       · cases h
     · cases h
   · cases h
theorem Qum (T:TT P) (hs:List Nat) {fn:Func} {u:AV} {as0:List Nat} {x:AV} (h:Lo T L B fn.results.toList hs [] []=some ([u],as0,as0)) (he:u=x):RQ P fn n (Is x) .ret L B:=Qiq (B6 h rfl).2 he
theorem Qun (T:TT P) (hs:List Nat) {fn:Func} {u v:AV} {as0:List Nat} {x:AV} (h:Lo T L B fn.results.toList hs [] []=some ([u,v],as0,as0)) (he:AV.tup [u,v]=x):RQ P fn n (Is x) .ret L B:=Qiq (B6 h rfl).2 he
theorem Quo (T:TT P) (hs:List Nat) {fn:Func} {u v y:AV} {as0:List Nat} {x:AV} (h:Lo T L B fn.results.toList hs [] []=some ([u,v,y],as0,as0)) (he:AV.tup [u,v,y]=x):RQ P fn n (Is x) .ret L B:=Qiq (B6 h rfl).2 he
abbrev Run (T:TT P) (n m:Nat) (hs:List Nat) (it:List It) (L:Sg) (B:List OB) (it':List It) (L':Sg) (B':List OB) (as0:List Nat):Prop:=run T n [] 100000 m it L B hs [] []=some (it',L',B',as0,as0)
section
variable {T:TT P} {it':List It} {L':Sg} {B':List OB} {as0:List Nat}
theorem X4 (T:TT P) (m:Nat) (hs:List Nat) {f:FuncId} {fn:Func} {c:Code} {args:List AV} {Bin:List OB} {Post:AV→List OB→Prop} (hf:P.funcs[f]? = some fn) (hn:fn.ntmps=n) (hb:fn.body=some c) (hl:Nat.ble args.length n=true)
    (h:Run T n m hs [.code c] (Ez 0 args) Bin it' L' B' as0) (k:AK P n (RQ P fn n Post) it' L' B'):Us P f args Bin Post:=fn_ hf hb hn hl (Xu T m hs h k)
theorem kl (T:TT P) (m:Nat) (hs:List Nat) {f:FuncId} {fn:Func} {xs:List Operand} {us args:List AV} {ats:Array TypeId} {res:AV} {d:Nat} {ty:TypeId} {pos:String} {after:Array Edge} (hf:P.funcs[f]? = some fn)
    (hnb:(fn.name == "runtime.NumGoroutine" || fn.body.isNone)=false) (hx:Cu L xs=some us) (hun:Pa us=some args) (hc:Za P f args res) (hd:Nat.blt d n=true) (h:Run T n m hs (.ops arr l::r) ((d,res)::L) B it' L' B' as0) (k:AK P n Q it' L' B') :
    AK P n Q (.ops arr ({ dst:=some d,op:=.call { callee:=.value (.func f),args:=xs.toArray,argTypes:=ats },type:=ty,pos:=pos,after:=after,guard:=none }::l)::r) L B:=by
  simp only [Bool.or_eq_false_iff] at hnb
  exact kw (Zu hf hnb.1 hnb.2 hx hun hc hd) (Xu T m hs h k)
theorem Yv (T:TT P) (m:Nat) (hs:List Nat) {f:FuncId} {fn:Func} {xs:List Operand} {us args:List AV} {ats:Array TypeId} {res:AV} {d:Nat} {ty:TypeId} {pos:String} {after:Array Edge} (hf:P.funcs[f]? = some fn)
    (hnb:(fn.name == "runtime.NumGoroutine" || fn.body.isNone)=false) (hx:Cu (rs arr { dst:=some d,op:=.call { callee:=.value (.func f),args:=xs.toArray,argTypes:=ats },type:=ty,pos:=pos,after:=after,guard:=none } L) xs=some us) (hun:Pa us=some args) (hc:Za P f args res) (hd:Nat.blt d n=true)
    (h:Run T n m hs (.dr arr l rest::r) ((d,res)::L) B it' L' B' as0) (k:AK P n Q it' L' B') :
    AK P n Q (.dr arr ({ dst:=some d,op:=.call { callee:=.value (.func f),args:=xs.toArray,argTypes:=ats },type:=ty,pos:=pos,after:=after,guard:=none }::l) rest::r) L B:=by
  simp only [Bool.or_eq_false_iff] at hnb
  exact kd (Zu hf hnb.1 hnb.2 hx hun hc hd) rfl (Xu T m hs h k)
theorem Xh (T:TT P) (m:Nat) (hs:List Nat) {c:Operand} {x y:Code} {b:Bool} (hb:b=true) (hc:J3 L c=some (.one (.bool b))) (h:Run T n m hs (.code x::r) L B it' L' B' as0) (k:AK P n Q it' L' B'):AK P n Q (.code (.cond c x y)::r) L B:=kt hb hc (Xu T m hs h k)
theorem Z8 (T:TT P) (m:Nat) (hs:List Nat) {c:Operand} {x y:Code} {b:Bool} (hb:b=false) (hc:J3 L c=some (.one (.bool b))) (h:Run T n m hs (.code y::r) L B it' L' B' as0) (k:AK P n Q it' L' B'):AK P n Q (.code (.cond c x y)::r) L B:=kf hb hc (Xu T m hs h k)
theorem Qf (T:TT P) (m:Nat) (hs:List Nat) {o:Oper} {d:Nat} {u:AV} (hp:AP P arr n o d u L B) (h:Run T n m hs (.ops arr l::r) ((d,u)::L) B it' L' B' as0) (k:AK P n Q it' L' B'):AK P n Q (.ops arr (o::l)::r) L B:=kw hp (Xu T m hs h k)
theorem Xp (T:TT P) (hs:List Nat) {fn:Func} {u x:AV} (h:Lo T L B fn.results.toList hs [] []=some ([u],as0,as0)) (he:u=x):AK P n (RQ P fn n (Is x)) (.code .ret::r) L B:=Tr (Qum T hs h he)
theorem kr2 (T:TT P) (hs:List Nat) {fn:Func} {u v x:AV} (h:Lo T L B fn.results.toList hs [] []=some ([u,v],as0,as0)) (he:AV.tup [u,v]=x):AK P n (RQ P fn n (Is x)) (.code .ret::r) L B:=Tr (Qun T hs h he)
theorem kr3 (T:TT P) (hs:List Nat) {fn:Func} {u v y x:AV} (h:Lo T L B fn.results.toList hs [] []=some ([u,v,y],as0,as0)) (he:AV.tup [u,v,y]=x):AK P n (RQ P fn n (Is x)) (.code .ret::r) L B:=Tr (Quo T hs h he)
end
def Qfe:List Oper→Option (List Nat)
  | []=>some []
  |
   o::os=>match o.dst with
   |
    some d=>match Qfe os with
    | some r=>some (d::r)
    | none=>none
   | none=>none
def tsl:List Operand→List Nat
  | []=>[]
  | .tmp t::r=>t::tsl r
  | _::r=>tsl r
def Qct (arr:Array Oper) (D:List Nat):Nat→List Oper→List (List Nat)
  | _,[]=>[]
  | i,o::os=>((List.range i).filter fun j=>(tsl (gsl arr o)).contains (D.getD j 0))::Qct arr D (i+1) os
def Qap (D:List Nat):Sg→Option Sg
  | []=>some []
  |
   (t,v)::L=>match D.contains t with
   | true=>Qap D L
   |
    false=>match Qap D L with
    | some r=>some ((t,v)::r)
    | none=>none
theorem Ij {D:List Nat}:∀ {L L2:Sg},Qap D L=some L2→(∀ t x,lk L2 t=some x→lk L t=some x)∧(∀ t∈D,lk L2 t=none)
  | [],L2,h=>by simp only [Qap] at h; injection h with h; subst h; exact ⟨fun t x hx=>hx,fun t _=>rfl⟩
  |
   (t,v)::L,L2,h=>by
   simp only [Qap] at h
   split at h
   · rename_i hc
     obtain ⟨h1,h2⟩:=Ij h
     refine ⟨fun s x hx=>?_,h2⟩
     simp only [lk]
     split
     · rename_i e
       have e:s=t:=Fj e
       subst e
       rw [h2 s (by simpa using hc)] at hx; cases hx
     · exact h1 s x hx
   · rename_i hc
     split at h
     · rename_i r hr
       injection h with h; subst h
       obtain ⟨h1,h2⟩:=Ij hr
       refine ⟨fun s x hx=>?_,fun s hs=>?_⟩
       · simp only [lk] at hx ⊢
         split at hx
         · exact hx
         · exact h1 s x hx
       · simp only [lk]
         split
         · rename_i e
           have e:s=t:=Fj e
           subst e
           simp [hs] at hc
         · exact h2 s hs
     · cases h
theorem Ss {L:Sg}:∀ {xs:List Operand} {t:Nat} {x:AV},lk (rsl L xs) t=some x→t∈tsl xs∧lk L t=some x
  | [],t,x,h=>by simp [rsl,lk] at h
  |
   .tmp s::r,t,x,h=>by
   simp only [rsl] at h
   split at h
   · rename_i v hv
     simp only [lk] at h
     split at h
     · rename_i e
       have e:t=s:=Fj e
       subst e
       injection h with h; subst h
       exact ⟨by simp [tsl],hv⟩
     · exact ⟨by simp [tsl,(Ss h).1],(Ss h).2⟩
   · exact ⟨by simp [tsl,(Ss h).1],(Ss h).2⟩
  | .const _::r,t,x,h=>by exact Ss (xs:=r) h
  | .global _::r,t,x,h=>by exact Ss (xs:=r) h
  | .func _::r,t,x,h=>by exact Ss (xs:=r) h
def Qc5:List Nat→List AV→Sg→Sg
  | d::D,u::us,L=>Qc5 D us ((d,u)::L)
  | _,_,L=>L
theorem DS.all {arr:Array Oper} {K:Sg→Prop}:∀ {os:List Oper} {L:Sg} {D:List Nat},Qfe os=some D→DS P arr n B os K L→∃ us:List AV,us.length=D.length∧K (Qc5 D us L)∧∀ (i:Nat) (o:Oper),os[i]? = some o→AP P arr n o (D.getD i 0) (us.getD i .un) (rs arr o (Qc5 (D.take i) (us.take i) L)) B
  |
   [],L,D,hD,h=>by
   simp only [Qfe] at hD; injection hD with hD; subst hD
   exact ⟨[],rfl,h,fun i o ho=>by simp at ho⟩
  |
   o::os,L,D,hD,h=>by
   simp only [Qfe] at hD
   split at hD
   · rename_i d hd
     split at hD
     · rename_i D2 hD2
       injection hD with hD; subst hD
       obtain ⟨d',u,h1,h2,h3⟩:=h
       rw [hd] at h1; injection h1 with h1; subst h1
       obtain ⟨us,h4,h5,h6⟩:=DS.all hD2 h3
       refine ⟨u::us,by simp [h4],h5,fun i o' ho=>?_⟩
       cases i with
       | zero=>simp at ho; subst ho; simpa [Qc5] using h2
       | succ i=>simpa [Qc5] using h6 i o' (by simpa using ho)
     · cases hD
   · cases hD
theorem Qh4:∀ {D:List Nat} {us:List AV} {L:Sg} {t:Nat} {x:AV},us.length=D.length→lk (Qc5 D us L) t=some x→(∃ j,j<D.length∧D.getD j 0=t∧us.getD j .un=x)∨(t∉D∧lk L t=some x)
  | [],us,L,t,x,hl,h=>.inr ⟨by simp,by cases us <;> simpa [Qc5] using h⟩
  | d::D,[],L,t,x,hl,h=>by simp at hl
  |
   d::D,u::us,L,t,x,hl,h=>by
   simp only [Qc5] at h
   rcases Qh4 (by simpa using hl) h with ⟨j,h1,h2,h3⟩ | ⟨h1,h2⟩
   · exact .inl ⟨j+1,by simp; omega,by simpa using h2,by simpa using h3⟩
   · simp only [lk] at h2
     split at h2
     · rename_i e
       have e:t=d:=Fj e
       injection h2 with h2
       exact .inl ⟨0,by simp,by simp [e],by simpa using h2⟩
     · rename_i e
       have e:t≠d:=qJi e
       exact .inr ⟨by simp [e,h1],h2⟩
theorem Qe8 {arr:Array Oper} {D:List Nat}:∀ {os:List Oper} {k i:Nat} {o:Oper},os[i]? = some o→(Qct arr D k os)[i]? = some ((List.range (k+i)).filter fun j=>(tsl (gsl arr o)).contains (D.getD j 0))
  | [],k,i,o,h=>by simp at h
  | o::os,k,0,o',h=>by simp at h; subst h; simp [Qct]
  |
   o::os,k,i+1,o',h=>by
   have:=Qe8 (arr:=arr) (D:=D) (k:=k+1) (i:=i) (o:=o') (os:=os) (by simpa using h)
   rw [show k+1+i=k+(i+1) from by omega] at this
   simpa [Qct] using this
theorem Qe9 {arr:Array Oper} {D:List Nat}:∀ {os:List Oper} {k:Nat},(Qct arr D k os).length=os.length
  | [],k=>rfl
  | o::os,k=>by simp [Qct,Qe9]
theorem Qh3:∀ {X Y:Sg} {t:Nat},lk (X++Y) t=match lk X t with | some v=>some v | none=>lk Y t
  | [],Y,t=>rfl
  |
   (s,v)::X,Y,t=>by
   simp only [Lm,lk]
   split
   · rfl
   · exact Qh3
theorem Qoh {X:Sg} {t:Nat} (h:t∉X.map (·.1)):lk X t=none:=by
  induction X with
  | nil=>rfl
  |
   cons p X ih =>
   obtain ⟨s,v⟩:=p
   simp only [Ln,Vw,not_or] at h
   simp only [lk]
   split
   · rename_i e; exact (h.1 (Fj e)).elim
   · exact ih h.2
theorem Qog {D:List Nat} {us:List AV} (hnd:∀ i,i<D.length→∀ j,j<D.length→D.getD i 0=D.getD j 0→i=j):∀ {js:List Nat} {j:Nat},j∈js→(∀ i∈js,i<D.length)→lk (js.map fun j=>(D.getD j 0,us.getD j .un)) (D.getD j 0)=some (us.getD j .un)
  | [],j,h,_=>by cases h
  |
   i::js,j,h,hb=>by
   simp only [Ln,lk]
   split
   · rename_i e
     have e:=hnd j (hb j h) i (hb i (by simp)) (Fj e)
     subst e; rfl
   · rename_i e
     rcases Vw.1 h with e' | h
     · subst e'; simp at e
     · exact Qog hnd h fun i hi=>hb i (Ge _ hi)
theorem SA.weak {K Ob:Nat→Prop} {w0 w:World} {a:Act} {L2:Sg} (hL:∀ t x,lk L2 t=some x→lk L t=some x) (h:SA K Ob w0 w a n L B):SA K Ob w0 w a n L2 B:=by
  obtain ⟨L',Bs,h1,h2,h3⟩:=h
  exact ⟨L',Bs,h1,fun t x hx=>h2 t x (hL t x hx),h3⟩
theorem AP.weak {ops:Array Oper} {o:Oper} {d:Nat} {u:AV} {L2:Sg} (hL:∀ t x,lk L2 t=some x→lk L t=some x) (h:AP P ops n o d u L2 B):AP P ops n o d u L B:=fun K Ob w0 w a Bs L' Fs hs h1 h2=>h K Ob w0 w a Bs L' Fs hs (fun t x hx=>h1 t x (hL t x hx)) h2
theorem AW.weak {ops:Array Oper} {N:Sg→List OB→Prop} {L2:Sg} (hL:∀ t x,lk L2 t=some x→lk L t=some x) (h:AW P ops n l N L2 B):AW P ops n l N L B:=fun K Ob w0 w a Q hs hq=>h K Ob w0 w a Q (hs.weak hL) hq
theorem Qtd {arr:Array Oper} {D:List Nat} {us:List AV} {L0:Sg}:∀ {os:List Oper} {k:Nat},(∀ (i:Nat) (o:Oper),os[i]? = some o→AP P arr n o (D.getD (k+i) 0) (us.getD (k+i) .un) (((List.range (k+i)).filter fun j=>(tsl (gsl arr o)).contains (D.getD j 0)).map (fun j=>(D.getD j 0,us.getD j .un))++L0) B)→APs P arr n L0 B D us k (depsOf D us (Qct arr D k os)) os
  | [],k,_=>trivial
  |
   o::os,k,h=>by
   have hg:∀ js:List Nat,depsOf.go D us js=js.map fun j=>(D.getD j 0,us.getD j .un):=by
     intro js
     induction js with
     | nil=>rfl
     | cons j js ih=>simp [depsOf.go,ih]
   refine ⟨?_,?_⟩
   · have:=h 0 o rfl
     rw [Mp] at this
     rw [hg]
     exact this
   · refine Qtd fun i o' ho=>?_
     have:=h (i+1) o' (by simpa using ho)
     rw [show k+(i+1)=k+1+i from by omega] at this
     exact this
theorem Qhd {os:List Oper} {m:Nat} {D:List Nat} {deps:List (List Nat)} (h:K7 os m (D.map some) deps=true) (hm:D.length=m):∀ i,i<D.length→∀ j,j<D.length→D.getD i 0=D.getD j 0→i=j:=by
  intro i hi j hj e
  have h1:=Ud D i hi
  have h2:=Ud D j hj
  exact (Hz h).inj i (by omega) j (by omega) h1.2 h2.2 (by rw [h1.1,h2.1,e])
theorem Qy (m:Nat) {id:Nat} {D:List Nat} {L2:Sg} (hm:P.follows .mixedOrders=true) (hD:Qfe (l.take m)=some D) (hL:Qap D L=some L2) (hchk:K7 l m (D.map some) (Qct l.toArray D 0 (l.take m))=true)
    (k:AK P n Q (.dr l.toArray (l.take m) (l.drop m)::r) L2 B):AK P n Q (.code (.region id l.toArray true)::r) L B:=by
  have hml:m≤l.length:=(Hz hchk).le
  obtain ⟨hl1,hl2⟩:=Ij hL
  have k:DS P l.toArray n B (l.take m) (fun L2=>AW P l.toArray n (l.drop m) (Eu P n Q r).1 L2 B) L2:=k
  obtain ⟨us,h1,h2,h3⟩:=DS.all hD k
  have hlen:∀ {os:List Oper} {D:List Nat},Qfe os=some D→D.length=os.length:=by
    intro os
    induction os with
    | nil=>intro D h; simp only [Qfe] at h; injection h with h; subst h; rfl
    |
     cons o os ih =>
     intro D h
     simp only [Qfe] at h
     split at h
     · split at h
       · rename_i D2 h2
         injection h with h; subst h; simp [ih h2]
       · cases h
     · cases h
  have hDm:D.length=m:=by rw [hlen hD,Kd]; omega
  have hc:=Qhd hchk hDm
  refine AC.sub (L2:=L2) (B2:=B) (fun _ _ _ _ _ h=>h.weak hl1) ?_
  refine Qq0 (L2:=D.zip us++L2) hm m D (Qct l.toArray D 0 (l.take m)) us hchk ?_ ?_ ?_ ?_ ?_
  · simp only [qXp,C4]
    refine ⟨⟨by simp [hDm],by simp [h1,hDm]⟩,fun js hjs j hj=>?_⟩
    obtain ⟨i,hi⟩:=qZr.1 hjs
    have hil:i<(l.take m).length:=by
      have:=(Uy.1 hi).1
      rwa [Qe9] at this
    rw [Qe8 (Xx hil)] at hi
    injection hi with hi; subst hi
    have:=(qJk.1 hj).1
    rw [Tu] at this
    rw [Kd] at hil
    rw [Mo]; omega
  · simp only [C4]
    intro t ht
    rw [hl2 t ht]; rfl
  · refine Qtd fun i o ho=>?_
    have hap:=h3 i o ho
    rw [Vl]
    refine hap.weak fun t x hx=>?_
    obtain ⟨ht,hx⟩:=Ss hx
    have him:i<m:=by
      have:=(Uy.1 ho).1
      rw [Kd] at this; omega
    rw [Qh3]
    rcases Qh4 (by simp [h1]) hx with ⟨j,hj1,hj2,hj3⟩ | ⟨hj1,hj2⟩
    · rw [Kd] at hj1
      have hji:j<i:=by omega
      have e1:(D.take i).getD j 0=D.getD j 0:=by simp [V6,Ei,hji]
      have e2:(us.take i).getD j .un=us.getD j .un:=by simp [V6,Ei,hji]
      rw [e1] at hj2; rw [e2] at hj3
      have:=Qog (D:=D) (us:=us) hc (js:=(List.range i).filter fun j=>(tsl (gsl l.toArray o)).contains (D.getD j 0)) (j:=j) (qJk.2 ⟨Tu.2 hji,by rw [hj2]; simpa using ht⟩) (fun q hq=>by have:=Tu.1 (qJk.1 hq).1; omega)
      rw [←hj2,this,hj3]
    · have hnone:lk (((List.range i).filter fun j=>(tsl (gsl l.toArray o)).contains (D.getD j 0)).map fun j=>(D.getD j 0,us.getD j .un)) t=none:=by
        refine Qoh fun hm'=>?_
        simp only [List.map_map,Ww,Function.comp] at hm'
        obtain ⟨j,hj,e⟩:=hm'
        have hji:=Tu.1 (qJk.1 hj).1
        refine hj1 ?_
        rw [←e]
        have hjl:j<(D.take i).length:=by rw [Kd]; omega
        have e1:D.getD j 0=(D.take i)[j]:=by simp [V6,Xx (show j<D.length by omega)]
        rw [e1]; exact qJa hjl
      rw [hnone]; exact hj2
  · have:∀ (D:List Nat) (us:List AV) (L:Sg),us.length=D.length→Lr D us L=some (D.zip us++L):=by
      intro D
      induction D with
      | nil=>intro us L h; cases us with | nil=>rfl | cons _ _=>simp at h
      |
       cons d D ih =>
       intro us L h
       cases us with
       | nil=>simp at h
       | cons u us=>simp [Lr,ih us L (by simpa using h)]
    exact this D us L2 h1
  · refine AW.weak (L2:=Qc5 D us L2) (fun t x hx=>?_) h2
    rw [Qh3]
    rcases Qh4 h1 hx with ⟨j,hj1,hj2,hj3⟩ | ⟨hj1,hj2⟩
    · have:=Qog (D:=D) (us:=us) hc (js:=List.range D.length) (j:=j) (by simpa using hj1) (by simp)
      have e:(List.range D.length).map (fun j=>(D.getD j 0,us.getD j .un))=D.zip us:=by
        apply qVm
        · simp [h1]
        · intro i hi1 hi2
          simp only [Zr,List.length_range] at hi1
          simp [V6,Xx hi1,Xx (show i<us.length by omega)]
      rw [e,hj2,hj3] at this
      rw [this]
    · have hnone:lk (D.zip us) t=none:=by
        refine Qoh fun hm'=>hj1 ?_
        rw [List.map_fst_zip (by omega)] at hm'
        exact hm'
      rw [hnone]; exact hj2
end Orr

namespace Orr
open Go
variable {P:Program}
def Aggs (P:Program):List Field→List Bool→Prop
  | [],[]=>True
  | f::fs,k::ks=>(∀ w,(isAgg f.type).run P w=.ok k w)∧Aggs P fs ks
  | _,_=>False
theorem FieldSizes.get:∀ {fs:List Field} {ks:List Nat},FieldSizes P fs ks→∀ {i:Nat} {f:Field},fs[i]? = some f→∃ k,ks[i]? = some k∧∀ w,(Go.sizeOf f.type).run P w=.ok k w
  | [],[],_,i,f,h=>by simp at h
  | g::fs,k::ks,h,0,f,hf=>by simp at hf; subst hf; exact ⟨k,rfl,h.1⟩
  | g::fs,k::ks,h,i+1,f,hf=>by simpa using h.2.get (i:=i) (by simpa using hf)
  | [],_::_,h,_,_,_=>h.elim
  | _::_,[],h,_,_,_=>h.elim
theorem Aggs.get:∀ {fs:List Field} {ks:List Bool},Aggs P fs ks→∀ {i:Nat} {f:Field},fs[i]? = some f→∃ k,ks[i]? = some k∧∀ w,(isAgg f.type).run P w=.ok k w
  | [],[],_,i,f,h=>by simp at h
  | g::fs,k::ks,h,0,f,hf=>by simp at hf; subst hf; exact ⟨k,rfl,h.1⟩
  | g::fs,k::ks,h,i+1,f,hf=>by simpa using h.2.get (i:=i) (by simpa using hf)
  | [],_::_,h,_,_,_=>h.elim
  | _::_,[],h,_,_,_=>h.elim
theorem Qjw {t:TypeId} {un:TypeDesc} (h:P.underlying t=some un):∀ w,(underlying t).run P w=.ok un w:=by
  intro w
  simp only [underlying,Sem.run_bind,program]
  first
    | (simp [h]; done)
    | (show ((match P.underlying t with | some d=>pure d | none=>stuck "no such type" : Sem TypeDesc)).run P w=_; rw [h]; rfl)
def P7 (t:TypeId) {ag:Bool} {sz:Nat} {un:TypeDesc} {z:Value} (hag:∀ w,(isAgg t).run P w=.ok ag w) (hsz:∀ w,(Go.sizeOf t).run P w=.ok sz w) (hun:P.underlying t=some un) (hz:∀ w,(zeroValue t).run P w=.ok z w):TI P :=
  { t,ag,sz,un,z,fo:=[],fv:=[],bl:=none,hag,hsz,hun,hz,hfo:=fun _ _ h=>by simp at h,hfv:=fun _ _ _ _ h=>by simp at h,hbl:=fun _ _ h=>by cases h }
def tiA (t:TypeId) {sz m E k:Nat} {ag:Bool} {zs:Array Value} (hag:∀ w,(isAgg t).run P w=.ok ag w) (hsz:∀ w,(Go.sizeOf t).run P w=.ok sz w) (hun:P.underlying t=some (.array m E)) (hz:∀ w,(zeroValue t).run P w=.ok (.agg zs) w) (he:∀ w,(Go.sizeOf E).run P w=.ok k w):TI P :=
  { t,ag,sz,un:=.array m E,z:=.agg zs,fo:=[],fv:=[],bl:=some (zs.toList,fun i=>some (i*k,k)),hag,hsz,hun,hz,hfo:=fun _ _ h=>by simp at h,hfv:=fun _ _ _ _ h=>by simp at h
    hbl:=fun zs' pl h=>by
      injection h with h; injection h with h1 h2
      subst h1; subst h2
      intro vs cs hf w
      exact Mw (z:=.agg zs) (Qjw hun) hz he (by simpa [Value.cells] using hf) w }
def Qf4:List Field→List Nat→List Bool→List (Nat×Nat×Bool)
  | f::fs,k::ks,a::as0=>(f.offset,k,a)::Qf4 fs ks as0
  | _,_,_=>[]
theorem Qf5:∀ {fs:List Field} {ks:List Nat} {as0:List Bool} {i:Nat} {x:Nat×Nat×Bool},(Qf4 fs ks as0)[i]? = some x→∃ f,fs[i]? = some f∧ks[i]? = some x.2.1∧as0[i]? = some x.2.2∧x.1=f.offset
  | [],_,_,i,x,h=>by simp [Qf4] at h
  | _::_,[],_,i,x,h=>by simp [Qf4] at h
  | _::_,_::_,[],i,x,h=>by simp [Qf4] at h
  | f::fs,k::ks,a::as0,0,x,h=>by simp [Qf4] at h; subst h; exact ⟨f,rfl,rfl,rfl,rfl⟩
  | f::fs,k::ks,a::as0,i+1,x,h=>by simpa using Qf5 (fs:=fs) (i:=i) (by simpa [Qf4] using h)
def Dd (t:TypeId) {sz:Nat} {fs:Array Field} {zs:Array Value} {g:Bool} {ks:List Nat} {ag:List Bool} (hag:∀ w,(isAgg t).run P w=.ok g w) (hsz:∀ w,(Go.sizeOf t).run P w=.ok sz w) (hun:P.underlying t=some (.struct fs)) (hz:∀ w,(zeroValue t).run P w=.ok (.agg zs) w)
    (hs:FieldSizes P fs.toList ks) (ha:Aggs P fs.toList ag) (h0:(ks.all fun k=>Nat.blt 0 k)=true):TI P :=
  { t,ag:=g,sz,un:=.struct fs,z:=.agg zs,fo:=fs.toList.map (·.offset),fv:=Qf4 fs.toList ks ag,bl:=some (zs.toList,((Ro fs.toList ks)[·]?)),hag,hsz,hun,hz
    hfo:=fun f off h b o w=>by
      rw [S1] at h
      cases hf:fs.toList[f]? with
      | none=>rw [hf] at h; cases h
      |
       some fl =>
       rw [hf] at h
       simp only [qVy,Option.some.injEq] at h
       obtain ⟨k,hk,hr⟩:=hs.get hf
       have hk0:k≠0:=by
         have:=C4.1 h0 k (Vo hk)
         rw [Mo] at this; omega
       refine Yd (T:=fl.type) (k:=k) (Qjw hun) ?_ hr hk0 b o w
       rw [←Array.getElem?_toList,hf,←h]; rfl
    hfv:=fun f off m ag_ h vs v hv hl w=>by
      obtain ⟨fl,hf,h1,h2,h3⟩:=Qf5 h
      obtain ⟨k,hk,hr⟩:=hs.get hf
      obtain ⟨a,ha',hr'⟩:=ha.get hf
      rw [hk] at h1; injection h1 with h1
      rw [ha'] at h2; injection h2 with h2
      have h1:k=m:=h1
      have h2:a=ag_:=h2
      have h3:off=fl.offset:=h3
      subst h1; subst h2; subst h3
      exact Qlu (T:=fl.type) (Qjw hun) (by rw [←Array.getElem?_toList,hf]; rfl) hr' hr vs v hv hl w
    hbl:=fun zs' pl h=>by
      injection h with h; injection h with h1 h2
      subst h1; subst h2
      intro vs cs hf w
      exact Cl (z:=.agg zs) (Qjw hun) hz hs (by simpa [Value.cells] using hf) w }
end Orr

namespace Orr
open Go Go.Proofs
def ti3:TI Tryz.prog:=P7 3 S0 Xw qFu qWr
def ti4:TI Tryz.prog:=P7 4 Mn qFs qUe Tryz.zeroValue4
def Q0h:TI Tryz.prog:=P7 22 Tryz.isAgg22 Tryz.sizeOf22 Tryz.underlying22 Tryz.zeroValue22
def Q0i:TI Tryz.prog:=P7 23 Tryz.isAgg23 Tryz.sizeOf23 Tryz.underlying23 Tryz.zeroValue23
def Q0j:TI Tryz.prog:=P7 24 Tryz.isAgg24 Tryz.sizeOf24 Tryz.underlying24 Tryz.zeroValue24
def Q0k:TI Tryz.prog:=P7 28 qFi Ef Tryz.underlying28 qFd
def Q0l:TI Tryz.prog:=P7 29 Tryz.isAgg29 Tryz.sizeOf29 Tryz.underlying29 Tryz.zeroValue29
def Q0m:TI Tryz.prog:=P7 30 Tryz.isAgg30 Tryz.sizeOf30 Tryz.underlying30 Tryz.zeroValue30
def Q0n:TI Tryz.prog:=Dd (ks:=[1,1]) (ag:=[false,false]) 32 qFr qFj Tryz.underlying32 B5 ⟨Tryz.sizeOf30,qFs,trivial⟩ ⟨Tryz.isAgg30,Mn,trivial⟩ rfl
def Q0o:TI Tryz.prog:=Dd (ks:=[2,2]) (ag:=[true,true]) 34 qUt Ua Tryz.underlying34 Tz ⟨qFj,qFj,trivial⟩ ⟨qFr,qFr,trivial⟩ rfl
def Q0p:TI Tryz.prog:=Dd (ks:=[1,1,4,4]) (ag:=[false,false,true,true]) 36 qGe qFw Tryz.underlying36 Tryz.zeroValue36 ⟨Ef,Tryz.sizeOf29,Ua,Ua,trivial⟩ ⟨qFi,Tryz.isAgg29,qUt,qUt,trivial⟩ rfl
def Q0q:TI Tryz.prog:=P7 38 Tryz.isAgg38 Tryz.sizeOf38 Tryz.underlying38 Tryz.zeroValue38
def Q0r:TI Tryz.prog:=tiA 42 Tryz.isAgg42 Tryz.sizeOf42 Tryz.underlying42 Tryz.zeroValue42 Xw
def Q0s:TI Tryz.prog:=Dd (ks:=[1,4]) (ag:=[false,true]) 44 qGf qFx Tryz.underlying44 Tryz.zeroValue44 ⟨Xw,Tryz.sizeOf42,trivial⟩ ⟨S0,Tryz.isAgg42,trivial⟩ rfl
def Q0t:TI Tryz.prog:=P7 45 Tryz.isAgg45 Tryz.sizeOf45 Tryz.underlying45 Tryz.zeroValue45
def Q0u:TI Tryz.prog:=Dd (ks:=[5,1,1,1,1]) (ag:=[true,false,false,false,false]) 47 Tryz.isAgg47 qWo Tryz.underlying47 qUf ⟨qFx,Ef,Xw,Tryz.sizeOf45,qFs,trivial⟩ ⟨qGf,qFi,S0,Tryz.isAgg45,Mn,trivial⟩ rfl
def Q0v:TI Tryz.prog:=P7 48 Tryz.isAgg48 Tryz.sizeOf48 Tryz.underlying48 Tryz.zeroValue48
def Q0w:TI Tryz.prog:=P7 51 Tryz.isAgg51 Tryz.sizeOf51 Tryz.underlying51 Tryz.zeroValue51
def Q0x:TI Tryz.prog:=P7 52 qUn qUb Tryz.underlying52 Tryz.zeroValue52
def Q0y:TI Tryz.prog:=P7 53 Nn Tryz.sizeOf53 Tryz.underlying53 Tryz.zeroValue53
def Q0z:TI Tryz.prog:=Dd (ks:=[1,1]) (ag:=[false,false]) 55 H9 Yf Tryz.underlying55 Ko ⟨qFs,Tryz.sizeOf53,trivial⟩ ⟨Mn,Nn,trivial⟩ rfl
def Q00:TI Tryz.prog:=Dd (ks:=[2,2]) (ag:=[true,true]) 57 Tryz.isAgg57 Tryz.sizeOf57 Tryz.underlying57 qUu ⟨Yf,Yf,trivial⟩ ⟨H9,H9,trivial⟩ rfl
def Q01:TI Tryz.prog:=Dd (ks:=[1,4,4]) (ag:=[false,true,true]) 59 qWx qWp Tryz.underlying59 qFe ⟨qUb,Tryz.sizeOf57,Tryz.sizeOf57,trivial⟩ ⟨qUn,Tryz.isAgg57,Tryz.isAgg57,trivial⟩ rfl
def Q02:TI Tryz.prog:=P7 63 Tryz.isAgg63 Tryz.sizeOf63 Tryz.underlying63 Tryz.zeroValue63
def Q03:TI Tryz.prog:=Dd (ks:=[1,1,1,1,1]) (ag:=[false,false,false,false,false]) 65 Tryz.isAgg65 Tryz.sizeOf65 Tryz.underlying65 Tryz.zeroValue65 ⟨Tryz.sizeOf23,Tryz.sizeOf23,Tryz.sizeOf23,Tryz.sizeOf23,Tryz.sizeOf63,trivial⟩ ⟨Tryz.isAgg23,Tryz.isAgg23,Tryz.isAgg23,Tryz.isAgg23,Tryz.isAgg63,trivial⟩ rfl
def Q04:TI Tryz.prog:=Dd (ks:=[1,1,2]) (ag:=[false,false,true]) 74 Tryz.isAgg74 Tryz.sizeOf74 qFz qWw ⟨qUb,qUb,Yf,trivial⟩ ⟨qUn,qUn,H9,trivial⟩ rfl
def Q05:TI Tryz.prog:=Dd (ks:=[4,1]) (ag:=[true,false]) 76 qUo Wb Tryz.underlying76 qWu ⟨Tryz.sizeOf74,Xw,trivial⟩ ⟨Tryz.isAgg74,S0,trivial⟩ rfl
def Q06:TI Tryz.prog:=tiA 79 Tryz.isAgg79 Tryz.sizeOf79 Tryz.underlying79 Tryz.zeroValue79 Xw
def Q07:TI Tryz.prog:=P7 84 Tryz.isAgg84 Tryz.sizeOf84 Tryz.underlying84 Tryz.zeroValue84
def Q08:TI Tryz.prog:=Dd (ks:=[10,1,1,1]) (ag:=[true,false,false,false]) 91 Tryz.isAgg91 Tryz.sizeOf91 Tryz.underlying91 Tryz.zeroValue91 ⟨qFw,Tryz.sizeOf38,Xw,Tryz.sizeOf45,trivial⟩ ⟨qGe,Tryz.isAgg38,S0,Tryz.isAgg45,trivial⟩ rfl
def Q09:TI Tryz.prog:=Dd (ks:=[1,4,13]) (ag:=[false,true,true]) 93 Tryz.isAgg93 Tryz.sizeOf93 Tryz.underlying93 Tryz.zeroValue93 ⟨Tryz.sizeOf24,Ua,Tryz.sizeOf91,trivial⟩ ⟨Tryz.isAgg24,qUt,Tryz.isAgg91,trivial⟩ rfl
def Q1a:TI Tryz.prog:=Dd (ks:=[1,1,4]) (ag:=[false,false,true]) 98 Tryz.isAgg98 Tryz.sizeOf98 Tryz.underlying98 Tryz.zeroValue98 ⟨Ef,Ef,Tryz.sizeOf74,trivial⟩ ⟨qFi,qFi,Tryz.isAgg74,trivial⟩ rfl
def Qyd:TI Tryz.prog:=Dd (ks:=[6,1]) (ag:=[true,false]) 100 qUa Uf Tryz.underlying100 qWh ⟨Tryz.sizeOf98,Xw,trivial⟩ ⟨Tryz.isAgg98,S0,trivial⟩ rfl
def Qye:TI Tryz.prog:=P7 102 Tryz.isAgg102 Tryz.sizeOf102 Tryz.underlying102 Tryz.zeroValue102
def Qyf:TI Tryz.prog:=Dd (ks:=[1,9,1,1]) (ag:=[false,true,false,false]) 104 Tryz.isAgg104 qGt Tryz.underlying104 Tryz.zeroValue104 ⟨qFs,qWp,Tryz.sizeOf102,Xw,trivial⟩ ⟨Mn,qWx,Tryz.isAgg102,S0,trivial⟩ rfl
def Qyg:TI Tryz.prog:=Dd (ks:=[1]) (ag:=[false]) 106 qFv qFk Tryz.underlying106 qFc ⟨Tryz.sizeOf22,trivial⟩ ⟨Tryz.isAgg22,trivial⟩ rfl
def Qyh:TI Tryz.prog:=Dd (ks:=[12,1,1]) (ag:=[true,true,false]) 108 Tryz.isAgg108 Tryz.sizeOf108 Tryz.underlying108 Tryz.zeroValue108 ⟨qGt,qFk,Tryz.sizeOf22,trivial⟩ ⟨Tryz.isAgg104,qFv,Tryz.isAgg22,trivial⟩ rfl
def Qyi:TI Tryz.prog:=P7 110 Tryz.isAgg110 Tryz.sizeOf110 Tryz.underlying110 Tryz.zeroValue110
def Qyj:TI Tryz.prog:=P7 114 Tryz.isAgg114 Tryz.sizeOf114 Tryz.underlying114 Tryz.zeroValue114
def Qyk:TI Tryz.prog:=Dd (ks:=[1,4,13]) (ag:=[false,true,true]) 119 Tryz.isAgg119 Tryz.sizeOf119 Tryz.underlying119 Tryz.zeroValue119 ⟨Tryz.sizeOf24,Ua,Tryz.sizeOf91,trivial⟩ ⟨Tryz.isAgg24,qUt,Tryz.isAgg91,trivial⟩ rfl
def Qyl:TI Tryz.prog:=P7 120 qGj qGi Tryz.underlying120 Tryz.zeroValue120
def Qym:TI Tryz.prog:=Dd (ks:=[12,1,1,1]) (ag:=[true,true,false,false]) 122 Tryz.isAgg122 Tryz.sizeOf122 Tryz.underlying122 Tryz.zeroValue122 ⟨qGt,qFk,Tryz.sizeOf22,qGi,trivial⟩ ⟨Tryz.isAgg104,qFv,Tryz.isAgg22,qGj,trivial⟩ rfl
def Qyn:TI Tryz.prog:=tiA 123 Tryz.isAgg123 qWm Tryz.underlying123 Tryz.zeroValue123 Xw
def Qyo:TI Tryz.prog:=P7 125 Tryz.isAgg125 Tryz.sizeOf125 Tryz.underlying125 Tryz.zeroValue125
def Qyp:TI Tryz.prog:=P7 133 Tryz.isAgg133 Tryz.sizeOf133 Tryz.underlying133 Tryz.zeroValue133
def Qyq:TI Tryz.prog:=Dd (ks:=[1,4,13]) (ag:=[false,true,true]) 138 Tryz.isAgg138 Tryz.sizeOf138 Tryz.underlying138 Tryz.zeroValue138 ⟨Tryz.sizeOf24,Ua,Tryz.sizeOf91,trivial⟩ ⟨Tryz.isAgg24,qUt,Tryz.isAgg91,trivial⟩ rfl
def Qyr:TI Tryz.prog:=P7 143 Tryz.isAgg143 Tryz.sizeOf143 Tryz.underlying143 Tryz.zeroValue143
def Qys:TI Tryz.prog:=P7 144 Tryz.isAgg144 Tryz.sizeOf144 Tryz.underlying144 Tryz.zeroValue144
def Qyt:TI Tryz.prog:=Dd (ks:=[1,4,13]) (ag:=[false,true,true]) 148 Tryz.isAgg148 Tryz.sizeOf148 Tryz.underlying148 Tryz.zeroValue148 ⟨Tryz.sizeOf24,Ua,Tryz.sizeOf91,trivial⟩ ⟨Tryz.isAgg24,qUt,Tryz.isAgg91,trivial⟩ rfl
def Qyu:TI Tryz.prog:=Dd (ks:=[5,1,1]) (ag:=[true,false,false]) 166 Tryz.isAgg166 qWy Tryz.underlying166 qUp ⟨qFx,qUb,Xw,trivial⟩ ⟨qGf,qUn,S0,trivial⟩ rfl
def Qyv:TI Tryz.prog:=P7 172 Tryz.isAgg172 Tryz.sizeOf172 Tryz.underlying172 Tryz.zeroValue172
def Qyw:TI Tryz.prog:=Dd (ks:=[7,1,1,9]) (ag:=[true,false,false,true]) 196 Tryz.isAgg196 qFl Tryz.underlying196 qUw ⟨qWy,qFs,qFs,qWp,trivial⟩ ⟨Tryz.isAgg166,Mn,Mn,qWx,trivial⟩ rfl
def Qyx:TI Tryz.prog:=tiA 198 Tryz.isAgg198 qUy Tryz.underlying198 qUq Wb
def Qyy:TI Tryz.prog:=Dd (ks:=[12,1,1]) (ag:=[true,true,false]) 210 Tryz.isAgg210 Tryz.sizeOf210 Tryz.underlying210 Tryz.zeroValue210 ⟨qGt,qFk,Tryz.sizeOf63,trivial⟩ ⟨Tryz.isAgg104,qFv,Tryz.isAgg63,trivial⟩ rfl
def Qyz:TI Tryz.prog:=P7 211 Tryz.isAgg211 Tryz.sizeOf211 Tryz.underlying211 Tryz.zeroValue211
def Qy0:TI Tryz.prog:=P7 212 Tryz.isAgg212 Tryz.sizeOf212 Tryz.underlying212 Tryz.zeroValue212
def Qy1:TI Tryz.prog:=Dd (ks:=[12,1,1]) (ag:=[true,true,false]) 215 Tryz.isAgg215 Tryz.sizeOf215 Tryz.underlying215 Tryz.zeroValue215 ⟨qGt,qFk,Tryz.sizeOf22,trivial⟩ ⟨Tryz.isAgg104,qFv,Tryz.isAgg22,trivial⟩ rfl
def Qy2:TI Tryz.prog:=tiA 230 Tryz.isAgg230 qUi Tryz.underlying230 qUh Uf
def Qy3:TI Tryz.prog:=tiA 269 Tryz.isAgg269 Tryz.sizeOf269 Tryz.underlying269 Tryz.zeroValue269 qWm
def Qy4:TI Tryz.prog:=P7 276 Sz Y4 Tryz.underlying276 qWl
def Qy5:TI Tryz.prog:=P7 287 Tryz.isAgg287 Tryz.sizeOf287 Tryz.underlying287 Tryz.zeroValue287
def Qy6:TI Tryz.prog:=P7 317 Tryz.isAgg317 Tryz.sizeOf317 Tryz.underlying317 Tryz.zeroValue317
def Qy7:TI Tryz.prog:=P7 320 Tryz.isAgg320 Tryz.sizeOf320 Tryz.underlying320 Tryz.zeroValue320
def Qy8:TI Tryz.prog:=P7 342 Tryz.isAgg342 Tryz.sizeOf342 Tryz.underlying342 Tryz.zeroValue342
def Qy9:TI Tryz.prog:=Dd (ks:=[1]) (ag:=[false]) 347 Tryz.isAgg347 Tryz.sizeOf347 Tryz.underlying347 Tryz.zeroValue347 ⟨Tryz.sizeOf287,trivial⟩ ⟨Tryz.isAgg287,trivial⟩ rfl
def Qza:TI Tryz.prog:=P7 362 Tryz.isAgg362 Tryz.sizeOf362 Tryz.underlying362 Tryz.zeroValue362
def tt:TT Tryz.prog:=(.nd (.nd (.nd (.nd (.nd (.nd (.nd .nil ti3 .nil) ti4 .nil) Q0h (.nd .nil Q0i .nil)) Q0j (.nd (.nd .nil Q0k .nil) Q0l (.nd .nil Q0m .nil))) Q0n (.nd (.nd (.nd .nil Q0o .nil) Q0p (.nd .nil Q0q .nil)) Q0r (.nd (.nd .nil Q0s .nil) Q0t (.nd .nil Q0u .nil)))) Q0v (.nd (.nd (.nd (.nd (.nd .nil Q0w .nil) Q0x .nil) Q0y (.nd .nil Q0z .nil)) Q00 (.nd (.nd .nil Q01 .nil) Q02 (.nd .nil Q03 .nil))) Q04 (.nd (.nd (.nd .nil Q05 .nil) Q06 (.nd .nil Q07 .nil)) Q08 (.nd (.nd .nil Q09 .nil) Q1a (.nd .nil Qyd .nil))))) Qye (.nd (.nd (.nd (.nd (.nd (.nd .nil Qyf .nil) Qyg .nil) Qyh (.nd .nil Qyi .nil)) Qyj (.nd (.nd .nil Qyk .nil) Qyl (.nd .nil Qym .nil))) Qyn (.nd (.nd (.nd .nil Qyo .nil) Qyp (.nd .nil Qyq .nil)) Qyr (.nd (.nd .nil Qys .nil) Qyt (.nd .nil Qyu .nil)))) Qyv (.nd (.nd (.nd (.nd .nil Qyw .nil) Qyx (.nd .nil Qyy .nil)) Qyz (.nd (.nd .nil Qy0 .nil) Qy1 (.nd .nil Qy2 .nil))) Qy3 (.nd (.nd (.nd .nil Qy4 .nil) Qy5 (.nd .nil Qy6 .nil)) Qy7 (.nd (.nd .nil Qy8 .nil) Qy9 (.nd .nil Qza .nil))))))
end Orr

namespace Orr
open Go Go.Proofs
theorem Quc {b:Bool} {l:List Nat}:Za Tryz.prog 252 [.agg [.bool b,Xv l]] (.one (.bool (decide (l.length=0)))):=by
 refine X4 tt 4 [] qUm Tryz.ntmps252 rfl rfl rfl ?_
 refine Qf tt 2 [] (Qh (m:=l.length) Jc rfl (by simp [Vq,Xv]) rfl) rfl ?_
 exact Xp tt [] rfl (by simp)
theorem Uc (z:Int):Za Tryz.prog 252 [.agg (W9 z)] (.one (.bool (decide (z=0)))):=by
 have h:=Quc (b:=decide (z<0)) (l:=V4 z.natAbs)
 rwa [show decide ((V4 z.natAbs).length=0)=decide (z=0) from by rw [decide_eq_decide]; exact Ql0] at h
theorem Qag {p:List Int} {k:Nat}:Za Tryz.prog 257 [.one (pl p),.one (.int .i64 ((k:Int)))] (.agg [sg (p.getD k 0),mg (p.getD k 0)]):=by
 refine X4 tt 0 [] Tryz.func257 Tryz.ntmps257 rfl rfl rfl ?_
 refine Zn (Qn Ko rfl rfl fun g1=>ko ?_)
 refine Qr tt 2 rfl ?_
 refine Qf tt 1 [] (Qh (m:=p.length) Wr rfl (Y6 _) rfl) rfl ?_
 refine kif rfl (fun hb_if1=>?_) (fun hb_if1=>?_)
 ·try simp only [decide_eq_true_eq,decide_eq_false_iff_not,Vc,Vb] at hb_if1
  have hb:k<p.length:=by omega
  refine Qr tt 2 rfl ?_
  obtain ⟨x_ix1,hx_ix1⟩:∃ x,(p)[k]? = some x:=⟨_,Xx (by omega)⟩
  refine Qq tt rfl ?_
  refine Qf tt 2 [0] (Qi (k) Wr Yf rfl rfl (rfl) (Qg hx_ix1) rfl rfl) rfl ?_
  exact Xp tt [0] rfl (by rw [V6,hx_ix1]; rfl)
 try simp only [decide_eq_true_eq,decide_eq_false_iff_not,Vc,Vb] at hb_if1
 have hb:p.length≤k:=by omega
 refine Xu tt 2 [0] rfl ?_
 exact Xp tt [0] rfl (by rw [V6,Eh hb,Option.getD_none]; exact congrArg AV.agg ofI_zero.symm)
theorem Mz {p:List Int} (hl:p.length<140737488355328:=by omega):Za Tryz.prog 192 [.one (pl p)] (.one (pl (trim p))):=by
 refine X4 tt 2 [] Tryz.func192 Tryz.ntmps192 rfl rfl rfl ?_
 refine Qf tt 1 [] (Qh (m:=p.length) Wr rfl (Y6 _) rfl) rfl ?_
 refine Qj [0,3] rfl rfl ?_
 refine Zl (fun m L B=>∃ n,n≤p.length∧(∀ j x,n≤j→p[j]? = some x→x=0)∧m=n∧L=[(0,.one (pl p)),(3,.one (.int .i64 ((n:Int))))]∧B=[]) (m:=_) ⟨p.length,X2 _,fun j x hj hx=>absurd (Uy.1 hx).1 (by omega),rfl,rfl,rfl⟩ ?_
 rintro m L B ⟨n,hp0,hp1,hm,rfl,rfl⟩
 refine Qq tt rfl ?_
 by_cases hn0:0<n
 ·obtain ⟨y,hy⟩:∃ y,p[n-1]? = some y:=⟨_,Xx (by omega)⟩
  by_cases hy0:y=0
  refine Qq tt rfl ?_
  ·skip
   refine Qr tt 3 rfl ?_
   refine Qf tt 0 [] ((Qc rfl rfl (decide_eq_true (by omega)) (Qw tt rfl rfl))) rfl ?_
   refine Qf tt 0 [] ((Qc rfl rfl (decide_eq_true (by omega)) (Qw tt rfl rfl))) rfl ?_
   refine Qf tt 0 [] ((Qc rfl rfl (decide_eq_true (by omega)) (Z9 (r:=((n-1:Nat):Int)) rfl rfl (Qm (by omega) (by omega)) rfl))) rfl ?_
   refine Qf tt 0 [] ((Qc rfl rfl (decide_eq_true (by omega)) (Qi (n-1) Wr Yf rfl rfl (rfl) (Qg hy) rfl rfl))) rfl ?_
   refine Qf tt 0 [] ((Qc rfl rfl (decide_eq_true (by omega)) (Qw tt rfl rfl))) rfl ?_
   refine Qf tt 0 [] ((Qc rfl rfl (decide_eq_true (by omega)) (Zu qUm rfl rfl rfl rfl ((Uc _) ) rfl))) rfl ?_
   refine Qf tt 0 [] (Zs rfl (decide_eq_true (by omega)) rfl rfl) rfl ?_
   refine Xh tt 1 [] (decide_eq_true hy0) rfl rfl ?_
   refine Qf tt 1 [] (Z9 (r:=((n-1:Nat):Int)) rfl rfl (Qm (by omega) (by omega)) rfl) rfl ?_
   refine Qj [0,3] rfl rfl ?_
   refine Q8 ?_
   refine ⟨_,?_,n-1,by omega,fun j x hj hx=>by
     rcases Mq j n with h1 | h1
     ·have:j=n-1:=by omega
      subst this; rw [hy] at hx; injection hx with hx; rw [←hx]; exact hy0
     ·exact hp1 j x h1 hx,rfl,rfl,rfl⟩
   omega
  skip
  refine Qr tt 3 rfl ?_
  refine Qf tt 0 [] ((Qc rfl rfl (decide_eq_true (by omega)) (Qw tt rfl rfl))) rfl ?_
  refine Qf tt 0 [] ((Qc rfl rfl (decide_eq_true (by omega)) (Qw tt rfl rfl))) rfl ?_
  refine Qf tt 0 [] ((Qc rfl rfl (decide_eq_true (by omega)) (Z9 (r:=((n-1:Nat):Int)) rfl rfl (Qm (by omega) (by omega)) rfl))) rfl ?_
  refine Qf tt 0 [] ((Qc rfl rfl (decide_eq_true (by omega)) (Qi (n-1) Wr Yf rfl rfl (rfl) (Qg hy) rfl rfl))) rfl ?_
  refine Qf tt 0 [] ((Qc rfl rfl (decide_eq_true (by omega)) (Qw tt rfl rfl))) rfl ?_
  refine Qf tt 0 [] ((Qc rfl rfl (decide_eq_true (by omega)) (Zu qUm rfl rfl rfl rfl ((Uc _) ) rfl))) rfl ?_
  refine Qf tt 0 [] (Zs rfl (decide_eq_true (by omega)) rfl rfl) rfl ?_
  refine Z8 tt 2 [] (decide_eq_false hy0) rfl rfl ?_
  have hcut:=Qgt (l:=p) (m:=n) hp0 hp1 (fun _=>⟨y,hy,hy0⟩)
  refine Qf tt 1 [] (Yc n Wr Yf rfl rfl rfl (by simp; omega) (Jj p (sz:=2) (fun _=>rfl)) (l':=(trim p).map W9) (by rw [hcut,Ix]) rfl) rfl ?_
  exact Xp tt [] rfl (rfl)
 skip
 refine Qr tt 3 rfl ?_
 refine Qf tt 0 [] (Qk rfl rfl (decide_eq_false (by omega)) rfl) rfl ?_
 refine Qf tt 0 [] (Qk rfl rfl (decide_eq_false (by omega)) rfl) rfl ?_
 refine Qf tt 0 [] (Qk rfl rfl (decide_eq_false (by omega)) rfl) rfl ?_
 refine Qf tt 0 [] (Qk rfl rfl (decide_eq_false (by omega)) rfl) rfl ?_
 refine Qf tt 0 [] (Qk rfl rfl (decide_eq_false (by omega)) rfl) rfl ?_
 refine Qf tt 0 [] (Qk rfl rfl (decide_eq_false (by omega)) rfl) rfl ?_
 refine Qf tt 0 [] (Zw rfl (decide_eq_false (by omega)) rfl rfl) rfl ?_
 refine Z8 tt 2 [] (rfl) rfl rfl ?_
 have hcut:=Qgt (l:=p) (m:=n) hp0 hp1 (fun h=>absurd h hn0)
 refine Qf tt 1 [] (Yc n Wr Yf rfl rfl rfl (by simp; omega) (Jj p (sz:=2) (fun _=>rfl)) (l':=(trim p).map W9) (by rw [hcut,Ix]) rfl) rfl ?_
 exact Xp tt [] rfl (rfl)
theorem Qez {p q:List Int} {k:Nat} (hp:Bd 4294967295 p) (hq:Bd 4294967295 q):Za Tryz.prog 255 [.one (.int .i64 ((k:Int))),.one (.sh [pl p]),.one (.sh [pl q])] (.agg [sg (p.getD k 0-q.getD k 0),mg (p.getD k 0-q.getD k 0)]):=by
 refine X4 tt 0 [] Tryz.func255 Tryz.ntmps255 rfl rfl rfl ?_
 refine Zn (Qn Ko rfl rfl fun g1=>ko ?_)
 refine Qq tt rfl ?_
 refine Qy 5 Qp rfl rfl rfl ?_
 refine Qr tt 2 rfl ?_
 refine Yv tt 2 [] Tryz.func257 rfl rfl rfl (Qag ) rfl rfl ?_
 refine Qq tt rfl ?_
 refine kl tt 0 [] Tryz.func257 rfl rfl rfl (Qag ) rfl rfl ?_
 refine kl tt 1 [0] Tryz.func256 rfl rfl rfl (Qe7 (Zm _) (Zm _) (Zy hp k) (Zy hq k)) rfl rfl ?_
 exact Xp tt [0] rfl (rfl)
theorem Oy {p:List Int} {c:Int} {k:Nat} (hk:k<p.length) (hp:Bd 4294967295 p) (hc:Xj c≤4294967295):Za Tryz.prog 258 [.one (.int .i64 ((k:Int))),.one (.sh [pl p]),.one (.sh [sg c,mg c])] (.agg [sg (p.getD k 0*c),mg (p.getD k 0*c)]):=by
 refine X4 tt 0 [] Tryz.func258 Tryz.ntmps258 rfl rfl rfl ?_
 refine Zn (Qn Ko rfl rfl fun g1=>ko ?_)
 refine Qq tt rfl ?_
 refine Qy 5 Qp rfl rfl rfl ?_
 obtain ⟨x_ix1,hx_ix1⟩:∃ x,(p)[k]? = some x:=⟨_,Xx (by omega)⟩
 refine Qr tt 2 rfl ?_
 refine kd (Qi (k) Wr Yf rfl rfl (rfl) (Qg hx_ix1) rfl rfl) rfl ?_
 refine Qr tt 2 rfl ?_
 refine Qq tt rfl ?_
 refine kl tt 1 [0] qFg rfl rfl rfl (Kf (Zm _) (Zm _) (Qha hp hx_ix1) (hc)) rfl rfl ?_
 exact Xp tt [0] rfl (by rw [V6,hx_ix1]; rfl)
set_option maxRecDepth 20000 in
theorem E7 {p:List Int} {k:Nat} (hk:k+1<p.length) (hl:p.length<274877906944) (hp:Bd 4294967295 p):Za Tryz.prog 296 [.one (.int .i64 ((k:Int))),.one (.sh [pl p])] (.agg [sg (p.getD (k+1) 0*((k+1:Nat):Int)),mg (p.getD (k+1) 0*((k+1:Nat):Int))]):=by
 refine X4 tt 0 [] Tryz.func296 Tryz.ntmps296 rfl rfl rfl ?_
 refine Zn (Qn Ko rfl rfl fun g1=>ko ?_)
 refine Qq tt rfl ?_
 refine Qy 8 Qp rfl rfl rfl ?_
 refine Qr tt 2 rfl ?_
 refine kd (Zb (r:=((k+1:Nat):Int)) rfl rfl (Qm (by omega) (by omega)) rfl) rfl ?_
 obtain ⟨x_ix1,hx_ix1⟩:∃ x,(p)[k+1]? = some x:=⟨_,Xx (by omega)⟩
 refine Qq tt rfl ?_
 refine kd (Qi (k+1) Wr Yf rfl rfl (rfl) (Qg hx_ix1) rfl rfl) rfl ?_
 refine Qr tt 2 rfl ?_
 refine kd (Zb (r:=((k+1:Nat):Int)) rfl rfl (Qm (by omega) (by omega)) rfl) rfl ?_
 refine Qq tt rfl ?_
 refine Yv tt 0 [] qFn rfl rfl rfl (Uj (by omega)) rfl rfl ?_
 refine kl tt 1 [0] qFg rfl rfl rfl (Kf (Zm _) (Zm _) (Qha hp hx_ix1) (Qlx (by omega))) rfl rfl ?_
 exact Xp tt [0] rfl (by rw [V6,hx_ix1]; rfl)
theorem Sa {n fid:Nat} {pre post:List LV} {fn:Func} {g:Nat→Int} (hfn:Tryz.prog.funcs[fid]? = some fn) (hnm:(fn.name == "runtime.NumGoroutine")=false) (hbd:fn.body.isNone=false) (hn:n<274877906944)
  (hf:∀ k:Nat,k<n→Za Tryz.prog fid (pre.map .one++[.one (.int .i64 (k:Int))]++post.map .one) (.agg (W9 (g k)))):Za Tryz.prog 254 [.one (.int .i64 ((n:Int))),.one (.fn fid pre post)] (.one (pl (W6 n g))):=by
 refine X4 tt 2 [] Tryz.func254 Tryz.ntmps254 rfl rfl rfl ?_
 refine Zn (G4 (n) Wr qWq rfl Yf Ko rfl rfl rfl rfl rfl rfl (rfl) (rfl) (hn) rfl fun r1=>ko ?_)
 refine X5 (fun _ k_=>G6 (ls':=(Em g n 0).map W9) 0 rfl rfl (by rw [←Cf]; exact Es _) (Qo k_)) rfl ?_
 refine Qr tt 2 rfl ?_
 refine Qf tt 1 [] (Qh (m:=n) Wr rfl (rfl) rfl) rfl ?_
 refine Qj [1,5,10,11] rfl rfl ?_
 refine Zl (fun m L B=>∃ i,i≤n∧m=n-i∧L=[(1,.one (.fn fid pre post)),(5,.one (.orow r1 2 0 n)),(10,.one (.int .i64 (((n:Nat):Int)))),(11,.one (.int .i64 ((i:Int))))]∧B=[.row r1 55 2 ((Em g n i).map W9)]) (m:=_) ⟨0,K6 _,rfl,rfl,rfl⟩ ?_
 rintro m L B ⟨i,hp0,hm,rfl,rfl⟩
 refine Qq tt rfl ?_
 by_cases hlt:i<n
 ·skip
  refine Qr tt 1 rfl ?_
  refine Xh tt 6 [] (decide_eq_true (by omega)) rfl rfl ?_
  refine Qf tt 0 [] (In rfl hfn hnm hbd rfl rfl (hf i hlt) rfl) rfl ?_
  refine kw (Zi (i) Wr Yf rfl rfl (rfl) (by omega) rfl) ?_
  refine Zn (Jp (ls2:=(Em g n (i+1)).map W9) 0 Yf rfl rfl rfl rfl rfl rfl (by rw [Vl]; exact Qg (Eo g hlt)) rfl (by rw [Vl]; exact (Uh W9 _ i (g i)).trans (by rw [Ep g hlt])) (ko ?_))
  refine Qq tt rfl ?_
  refine Qf tt 1 [] (Zb (r:=((i+1:Nat):Int)) rfl rfl (Qm (by omega) (by omega)) rfl) rfl ?_
  refine Qj [1,5,10,11] rfl rfl ?_
  refine Q8 ?_
  refine ⟨_,?_,i+1,by omega,rfl,rfl,rfl⟩
  omega
 skip
 refine Qr tt 1 rfl ?_
 refine Z8 tt 1 [] (decide_eq_false (by omega)) rfl rfl ?_
 refine X5 (fun _ k_=>Xe 0 [21] rfl (Zc rfl) (by rw [Zr,Ui g (by omega)]) (by rw [Zr,Ui g (by omega)]; omega) rfl (Qo k_)) rfl ?_
 refine Qq tt rfl ?_
 refine kl tt 1 [] Tryz.func192 rfl rfl rfl (Mz (by rw [Ui g (by omega)]; omega)) rfl rfl ?_
 exact Xp tt [] rfl (by rw [show i=n from by omega,En]; rfl)
theorem E8 {p q:List Int} (hlp:p.length<274877906944) (hlq:q.length<274877906944) (hp:Bd 4294967295 p) (hq:Bd 4294967295 q):Za Tryz.prog 171 [.one (pl p),.one (pl q)] (.one (pl (Lk p q))):=by
 refine X4 tt 4 [] Tryz.func171 Tryz.ntmps171 rfl rfl rfl ?_
 refine Qf tt 1 [] (Qh (m:=p.length) Wr rfl (Y6 _) rfl) rfl ?_
 refine Qf tt 0 [] (Qh (m:=q.length) Wr rfl (Y6 _) rfl) rfl ?_
 refine Qf tt 1 [] (Io (r:=((max p.length q.length:Nat):Int)) rfl rfl (by split <;> omega) rfl) rfl ?_
 refine kl tt 1 [] Tryz.func254 rfl rfl rfl (Sa (g:=fun k=>p.getD k 0-q.getD k 0) Tryz.func255 rfl rfl (by omega) (fun k hk=>Qez hp hq)) rfl rfl ?_
 exact Xp tt [] rfl (rfl)
theorem Gs {p:List Int} {c:Int} (hlp:p.length<274877906944) (hp:Bd 4294967295 p) (hc:Xj c≤4294967295):Za Tryz.prog 172 [.one (pl p),.agg [sg c,mg c]] (.one (pl (J8 p c))):=by
 refine X4 tt 4 [] Tryz.func172 Tryz.ntmps172 rfl rfl rfl ?_
 refine Qf tt 1 [] (Qh (m:=p.length) Wr rfl (Y6 _) rfl) rfl ?_
 refine kl tt 1 [] Tryz.func254 rfl rfl rfl (Sa (g:=fun k=>p.getD k 0*c) Tryz.func258 rfl rfl (by omega) (fun k hk=>Oy hk hp hc)) rfl rfl ?_
 exact Xp tt [] rfl (rfl)
theorem Ox {p:List Int} (hlp:p.length<274877906944) (hp:Bd 4294967295 p):Za Tryz.prog 238 [.one (pl p)] (.one (pl (Wz p))):=by
 refine X4 tt 3 [] Tryz.func238 Tryz.ntmps238 rfl rfl rfl ?_
 refine Qf tt 0 [] (Qh (m:=p.length) Wr rfl (Y6 _) rfl) rfl ?_
 refine Qf tt 0 [] (Z9 (r:=((((p.length:Nat):Int))-1)) rfl rfl (Qm rfl (by omega)) rfl) rfl ?_
 refine Qf tt 1 [] (Io (r:=((p.length-1:Nat):Int)) rfl rfl (by split <;> omega) rfl) rfl ?_
 refine kl tt 1 [] Tryz.func254 rfl rfl rfl (Sa (g:=fun k=>p.getD (k+1) 0*((k+1:Nat):Int)) Tryz.func296 rfl rfl (by omega) (fun k hk=>E7 (by omega) hlp hp)) rfl rfl ?_
 exact Xp tt [] rfl (rfl)
theorem Vt {ls:List (List LV)} {p:List Int} (hi:IsInts ls p) (hl:p.length<274877906944) (hs:Bd 4294967295 p):Za Tryz.prog 189 [.one (.row ls)] (.one (pl (trim p))):=by
 refine X4 tt 2 [] qUd Tryz.ntmps189 rfl rfl rfl ?_
 refine kw (Qh (m:=p.length) Wr rfl (by simp only [Vq]; rw [hi.len]) rfl) ?_
 refine Zn (G4 (p.length) Wr qWq rfl Yf Ko rfl rfl rfl rfl rfl rfl (rfl) (rfl) (hl) rfl fun r1=>ko ?_)
 refine X5 (fun _ k_=>G6 (ls':=(Em (fun k=>p.getD k 0) p.length 0).map W9) 0 rfl rfl (by rw [←Cf]; exact Es _) (Qo k_)) rfl ?_
 refine Qr tt 2 rfl ?_
 refine Qf tt 1 [] (Qh (m:=p.length) Wr rfl (by simp only [Vq]; rw [hi.len]) rfl) rfl ?_
 refine Qj [9,10,3,11] rfl rfl ?_
 refine Zl (fun m L B=>∃ i,i≤p.length∧m=p.length-i∧L=[(9,.one (.row ls)),(10,.one (.int .i64 (((p.length:Nat):Int)))),(3,.one (.orow r1 2 0 p.length)),(11,.one (.int .i64 ((i:Int))))]∧B=[.row r1 55 2 ((Em (fun k=>p.getD k 0) p.length i).map W9)]) (m:=_) ⟨0,K6 _,rfl,rfl,rfl⟩ ?_
 rintro m L B ⟨i,hp0,hm,rfl,rfl⟩
 refine Qq tt rfl ?_
 by_cases hlt:i<p.length
 ·obtain ⟨xa,xb,hx,bb,ll,rfl,rfl,hll,hzz⟩:=hi.get (getD_some hlt)
  refine Qr tt 1 rfl ?_
  refine Xh tt 1 [] (decide_eq_true (by omega)) rfl rfl ?_
  refine Qf tt 1 [] (Qi (i) Wr Yf rfl rfl (rfl) (hx) rfl rfl) rfl ?_
  refine Zn (Qn Ko rfl rfl fun g2=>ko ?_)
  refine Xu tt 5 [0,0] rfl ?_
  refine kl tt 0 [] qUl rfl rfl rfl (Jf ⟨_,_,rfl,rfl,hll,hzz⟩ (Zy hs i)) rfl rfl ?_
  refine kw (Zi (i) Wr Yf rfl rfl (rfl) (by omega) rfl) ?_
  refine Zn (Jp (ls2:=(Em (fun k=>p.getD k 0) p.length (i+1)).map W9) 1 Yf rfl rfl rfl rfl rfl rfl (by rw [Vl]; exact Qg (Eo _ hlt)) rfl (by rw [Vl]; exact (Uh W9 _ i (p.getD i 0)).trans (by rw [←Ep _ hlt])) (ko ?_))
  refine Qq tt rfl ?_
  refine Qf tt 1 [] (Zb (r:=((i+1:Nat):Int)) rfl rfl (Qm (by omega) (by omega)) rfl) rfl ?_
  refine Qj [9,10,3,11] rfl rfl ?_
  refine Yt 1 rfl rfl ?_
  refine Q8 ?_
  refine ⟨_,?_,i+1,by omega,rfl,rfl,rfl⟩
  omega
 skip
 refine Qr tt 1 rfl ?_
 refine Z8 tt 1 [] (decide_eq_false (by omega)) rfl rfl ?_
 refine X5 (fun _ k_=>Xe 0 [22] rfl (Zc rfl) (by rw [Zr,Ui _ (by omega)]) (by rw [Zr,Ui _ (by omega)]; omega) rfl (Qo k_)) rfl ?_
 refine Qq tt rfl ?_
 refine kl tt 1 [] Tryz.func192 rfl rfl rfl (Mz (by rw [Ui _ (by omega)]; omega)) rfl rfl ?_
 exact Xp tt [] rfl (by rw [show i=p.length from by omega,En,Gd])
theorem Nw {p:List Int} (hl:p.length<274877906944) (hs:Bd 4294967295 p):Za Tryz.prog 189 [.one (pl p)] (.one (pl (trim p))):=Vt (Y2 p) hl hs
theorem Wl {p:List Int} (ht:Yw p) (hl:p.length<274877906944) (hs:Bd 4294967295 p):Za Tryz.prog 189 [.one (pl p)] (.one (pl p)):=by
 have h:=Nw hl hs
 rwa [show trim p=p from ht] at h
theorem Qaf {p:List Int} (hl:p.length<274877906944) (hr:∀ z∈p,-9223372036854775808≤z∧z≤9223372036854775807):Za Tryz.prog 113 [.one (ids p)] (.one (pl (trim p))):=by
 refine X4 tt 2 [] Tryz.func113 Tryz.ntmps113 rfl rfl rfl ?_
 refine kw (Qh (m:=p.length) qUv rfl (Qgd _) rfl) ?_
 refine Zn (G4 (p.length) Wr qWq rfl Yf Ko rfl rfl rfl rfl rfl rfl (rfl) (rfl) (hl) rfl fun r1=>ko ?_)
 refine X5 (fun _ k_=>G6 (ls':=(Em (fun k=>p.getD k 0) p.length 0).map W9) 0 rfl rfl (by rw [←Cf]; exact Es _) (Qo k_)) rfl ?_
 refine Qr tt 2 rfl ?_
 refine Qf tt 1 [] (Qh (m:=p.length) qUv rfl (Qgd _) rfl) rfl ?_
 refine Qj [9,10,3,11] rfl rfl ?_
 refine Zl (fun m L B=>∃ i,i≤p.length∧m=p.length-i∧L=[(9,.one (ids p)),(10,.one (.int .i64 (((p.length:Nat):Int)))),(3,.one (.orow r1 2 0 p.length)),(11,.one (.int .i64 ((i:Int))))]∧B=[.row r1 55 2 ((Em (fun k=>p.getD k 0) p.length i).map W9)]) (m:=_) ⟨0,K6 _,rfl,rfl,rfl⟩ ?_
 rintro m L B ⟨i,hp0,hm,rfl,rfl⟩
 refine Qq tt rfl ?_
 by_cases hlt:i<p.length
 ·skip
  refine Qr tt 1 rfl ?_
  refine Xh tt 1 [] (decide_eq_true (by omega)) rfl rfl ?_
  refine Qf tt 6 [] (Qi (i) qUv Xw rfl rfl (rfl) (Qg (getD_some hlt)) rfl rfl) rfl ?_
  refine kl tt 0 [] qFn rfl rfl rfl (Uj (hr _ (Vo (getD_some hlt)))) rfl rfl ?_
  refine kw (Zi (i) Wr Yf rfl rfl (rfl) (by omega) rfl) ?_
  refine Zn (Jp (ls2:=(Em (fun k=>p.getD k 0) p.length (i+1)).map W9) 0 Yf rfl rfl rfl rfl rfl rfl (by rw [Vl]; exact Qg (Eo _ hlt)) rfl (by rw [Vl]; exact (Uh W9 _ i (p.getD i 0)).trans (by rw [←Ep _ hlt])) (ko ?_))
  refine Qq tt rfl ?_
  refine Qf tt 1 [] (Zb (r:=((i+1:Nat):Int)) rfl rfl (Qm (by omega) (by omega)) rfl) rfl ?_
  refine Qj [9,10,3,11] rfl rfl ?_
  refine Q8 ?_
  refine ⟨_,?_,i+1,by omega,rfl,rfl,rfl⟩
  omega
 skip
 refine Qr tt 1 rfl ?_
 refine Z8 tt 1 [] (decide_eq_false (by omega)) rfl rfl ?_
 refine X5 (fun _ k_=>Xe 0 [22] rfl (Zc rfl) (by rw [Zr,Ui _ (by omega)]) (by rw [Zr,Ui _ (by omega)]; omega) rfl (Qo k_)) rfl ?_
 refine Qq tt rfl ?_
 refine kl tt 1 [] Tryz.func192 rfl rfl rfl (Mz (by rw [Ui _ (by omega)]; omega)) rfl rfl ?_
 exact Xp tt [] rfl (by rw [show i=p.length from by omega,En,Gd])
set_option maxRecDepth 20000 in
theorem Qcl {p:List Int} {n d:Int} {s t:Nat} (hl:p.length<274877906944) (hp:Bd s p) (hn:Xj n≤t) (hd:Xj d≤t) (hst:s+p.length*(t+1)+2*t+10≤4294967295):Za Tryz.prog 298 [.one (pl p),.agg [sg n,mg n],.agg [sg d,mg d]] (.agg [sg (Qr1 p n d),mg (Qr1 p n d)]):=by
 refine X4 tt 2 [] Tryz.func298 Tryz.ntmps298 rfl rfl rfl ?_
 refine Zn (Qn Ko rfl rfl fun g1=>ko ?_)
 refine Qq tt rfl ?_
 refine Zn (Qn Ko rfl rfl fun g2=>ko ?_)
 refine Qq tt rfl ?_
 refine kw (Zu qFn rfl rfl rfl rfl (Uj (by omega)) rfl) ?_
 refine Zn (Qn Ko rfl rfl fun g3=>ko ?_)
 refine Xu tt 1 [0] rfl ?_
 refine X5 (fun _ k_=>Vn (ys:=W9 0) 1 rfl rfl ofI_zero.symm (Qo k_)) rfl ?_
 refine Qr tt 1 rfl ?_
 refine Qf tt 0 [] (Qh (m:=p.length) Wr rfl (Y6 _) rfl) rfl ?_
 refine Qf tt 1 [] (Z9 (r:=((p.length:Int)-1-((0:Nat):Int))) rfl rfl (Qm (by omega) (by omega)) rfl) rfl ?_
 refine Qj [0,4,5,6,7,8,9] rfl rfl ?_
 refine Yi 2 rfl rfl ?_
 refine Yi 1 rfl rfl ?_
 refine Yi 2 rfl rfl ?_
 refine Zl (fun m L B=>∃ j,j≤p.length∧m=p.length-j∧L=[(0,.one (pl p)),(4,.one (.sh [sg n,mg n])),(5,.one (.sh [sg d,mg d])),(6,.one (.ow g1 0)),(7,.one (.ow g2 0)),(8,.one (.ow g3 0)),(9,.one (.int .i64 (((p.length:Int)-1-(j:Int)))))]∧B=[.blk g3 55 [sg ((Kv p n d j).2),mg ((Kv p n d j).2)],.blk g2 55 [sg ((Kv p n d j).1),mg ((Kv p n d j).1)],.blk g1 55 [.bool false,.nils]]) (m:=_) ⟨0,K6 _,rfl,rfl,rfl⟩ ?_
 rintro m L B ⟨j,hp0,hm,rfl,rfl⟩
 refine Qq tt rfl ?_
 by_cases hlt:j<p.length
 ·have hv:=Eq (k:=j) hp hn hd
  have hjl:j*(t+1)≤p.length*(t+1):=O8 _ (by omega)
  have hjl2:j*t≤j*(t+1):=qXa _ (by omega)
  have hc:=Zy hp (p.length-1-j)
  have hm1:Xj ((Kv p n d j).1*n)≤4294967295:=Xd (Xl _ _) (by omega)
  have hm2:Xj (p.getD (p.length-1-j) 0*(Kv p n d j).2)≤4294967295:=Xd (Xl _ _) (by omega)
  refine Qr tt 2 rfl ?_
  refine Xh tt 0 [] (decide_eq_true (by omega)) rfl rfl ?_
  refine Qy 8 Qp rfl rfl rfl ?_
  refine Xu tt 2 [1] rfl ?_
  refine Yv tt 2 [] qFg rfl rfl rfl (Kf (Zm _) (Zm _) (by omega) (by omega)) rfl rfl ?_
  refine kd (Qi (p.length-1-j) Wr Yf rfl rfl (by omega) (Qg (getD_some (by omega))) rfl rfl) rfl ?_
  refine Xu tt 2 [0] rfl ?_
  refine Qq tt rfl ?_
  refine kl tt 0 [] qFg rfl rfl rfl (Kf (Zm _) (Zm _) (by omega) (by omega)) rfl rfl ?_
  refine kl tt 3 [1,0] Tryz.func295 rfl rfl rfl (Qe6 (Zm _) (Zm _) (hm1) (hm2)) rfl rfl ?_
  refine kl tt 2 [0] qFg rfl rfl rfl (Kf (Zm _) (Zm _) (by omega) (by omega)) rfl rfl ?_
  refine Qf tt 1 [] (Z9 (r:=((p.length:Int)-1-((j+1:Nat):Int))) rfl rfl (Qm (by omega) (by omega)) rfl) rfl ?_
  refine Qj [0,4,5,6,7,8,9] rfl rfl ?_
  refine Q8 ?_
  refine ⟨_,?_,j+1,by omega,rfl,rfl,rfl⟩
  omega
 skip
 refine Qr tt 2 rfl ?_
 refine Z8 tt 2 [1,2] (decide_eq_false (by omega)) rfl rfl ?_
 exact Xp tt [2] rfl (by rw [show j=p.length from by omega]; rfl)
end Orr

namespace Orr
open Go Go.Proofs
theorem Sb {n d:Int} (h0:d≠0) (hn:Xj n≤4294967295) (hd:Xj d≤4294967295):Za Tryz.prog 313 [.agg [sg n,mg n],.agg [sg d,mg d]] (.agg [sg (((Rat.divInt n d)).num),mg (((Rat.divInt n d)).num),sg ((((Rat.divInt n d)).den:Int)),mg ((((Rat.divInt n d)).den:Int))]):=by
 refine X4 tt 0 [] Tryz.func313 Tryz.ntmps313 rfl rfl rfl ?_
 have hg0:=Qfj (n:=n) h0
 have hgs:=Qj0 (n:=n) h0 hd
 have hm1:=A5 n d
 have hm2:=A9 n d
 rcases qYe h0 with hneg | hpos
 ·skip
  refine Qq tt rfl ?_
  refine Zn (Yy rfl rfl rfl fun g1=>ko ?_)
  refine Zn (Yy rfl rfl rfl fun g2=>ko ?_)
  refine Zn (Qn qUu rfl rfl fun g3=>ko ?_)
  refine Xu tt 3 [2,1] rfl ?_
  refine kw (Zu qGc rfl rfl rfl rfl (Ut (Y2 [n,d]) (by intro z hz; simp only [Vw,No,or_false] at hz; rcases hz with rfl | rfl <;> assumption)) rfl) ?_
  refine Zn (Qn Ko rfl rfl fun g4=>ko ?_)
  refine Xu tt 3 [0,2] rfl ?_
  refine Xh tt 0 [] (decide_eq_true hneg) rfl rfl ?_
  refine Qy 3 Qp rfl rfl rfl ?_
  refine Xu tt 1 [3] rfl ?_
  refine Yv tt 1 [2] qGq rfl rfl rfl (Ga (Zm _) (hn)) rfl rfl ?_
  refine Qq tt rfl ?_
  refine kl tt 4 [3,2,3,0] qGq rfl rfl rfl (Ga (Zm _) (hd)) rfl rfl ?_
  refine kl tt 6 [3,2,0] qFb rfl rfl rfl (Ym (Zm _) (Zm _) (by rw [Xg]; exact hn) (hgs) (by omega) (Qj8 hm1)) rfl rfl ?_
  refine kl tt 8 [2,3,2,1] qFb rfl rfl rfl (Ym (Zm _) (Zm _) (by rw [Xg]; exact hd) (hgs) (by omega) (Qj8 hm2)) rfl rfl ?_
  exact Xp tt [1] rfl (Qt5 (Qj2 hneg).1 (Qj2 hneg).2)
 skip
 refine Qq tt rfl ?_
 refine Zn (Yy rfl rfl rfl fun g5=>ko ?_)
 refine Zn (Yy rfl rfl rfl fun g6=>ko ?_)
 refine Zn (Qn qUu rfl rfl fun g7=>ko ?_)
 refine Xu tt 3 [2,1] rfl ?_
 refine kw (Zu qGc rfl rfl rfl rfl (Ut (Y2 [n,d]) (by intro z hz; simp only [Vw,No,or_false] at hz; rcases hz with rfl | rfl <;> assumption)) rfl) ?_
 refine Zn (Qn Ko rfl rfl fun g8=>ko ?_)
 refine Xu tt 3 [0,2] rfl ?_
 refine Z8 tt 2 [3,0] (decide_eq_false (by omega)) rfl rfl ?_
 refine kl tt 6 [3,2,0] qFb rfl rfl rfl (Ym (Zm _) (Zm _) (hn) (hgs) (by omega) (hm1)) rfl rfl ?_
 refine kl tt 8 [2,3,2,1] qFb rfl rfl rfl (Ym (Zm _) (Zm _) (hd) (hgs) (by omega) (hm2)) rfl rfl ?_
 exact Xp tt [1] rfl (Qt5 (Eb hpos).1 (Eb hpos).2)
theorem N0 {b1 b2:Bool} {l1 l2:List Nat} {n d:Int} (h1:Yx (.bool b1) (Xv l1) n) (h2:Yx (.bool b2) (Xv l2) d) (hn:Xj n≤4294967295) (hd:Xj d≤4294967295):Za Tryz.prog 268 [.agg [.bool b1,Xv l1,.bool b2,Xv l2]] (.agg [sg (((Qz n d)).num),mg (((Qz n d)).num),sg ((((Qz n d)).den:Int)),mg ((((Qz n d)).den:Int))]):=by
 refine X4 tt 0 [] Tryz.func268 Tryz.ntmps268 rfl rfl rfl ?_
 by_cases h0:d=0
 ·skip
  refine Qr tt 1 rfl ?_
  refine Zn (Qn qUu rfl rfl fun g1=>ko ?_)
  refine Qr tt 2 rfl ?_
  refine kw (Zu qUl rfl rfl rfl rfl (Jf h2 (hd)) rfl) ?_
  refine Zn (Qn Ko rfl rfl fun g2=>ko ?_)
  refine Xu tt 2 [0,0] rfl ?_
  refine kl tt 0 [] qUm rfl rfl rfl ((Uc _) ) rfl rfl ?_
  refine Xh tt 0 [] (decide_eq_true h0) rfl rfl ?_
  refine kl tt 1 [0] qFn rfl rfl rfl (Uj (by omega)) rfl rfl ?_
  refine Qy 4 Qp rfl rfl rfl ?_
  refine Qr tt 2 rfl ?_
  refine Yv tt 1 [0] qUl rfl rfl rfl (Jf h1 (hn)) rfl rfl ?_
  refine Qq tt rfl ?_
  refine kl tt 1 [1] Tryz.func313 rfl rfl rfl (Sb (by decide) (hn) (by decide)) rfl rfl ?_
  exact Xp tt [1] rfl (by unfold Qz; rw [if_pos h0])
 skip
 refine Qr tt 1 rfl ?_
 refine Zn (Qn qUu rfl rfl fun g3=>ko ?_)
 refine Qr tt 2 rfl ?_
 refine kw (Zu qUl rfl rfl rfl rfl (Jf h2 (hd)) rfl) ?_
 refine Zn (Qn Ko rfl rfl fun g4=>ko ?_)
 refine Xu tt 2 [0,0] rfl ?_
 refine kl tt 0 [] qUm rfl rfl rfl ((Uc _) ) rfl rfl ?_
 refine Z8 tt 0 [] (decide_eq_false h0) rfl rfl ?_
 refine Qy 4 Qp rfl rfl rfl ?_
 refine Qr tt 2 rfl ?_
 refine Yv tt 1 [0] qUl rfl rfl rfl (Jf h1 (hn)) rfl rfl ?_
 refine Qq tt rfl ?_
 refine kl tt 1 [1] Tryz.func313 rfl rfl rfl (Sb (h0) (hn) (hd)) rfl rfl ?_
 exact Xp tt [1] rfl (by unfold Qz; rw [if_neg h0])
theorem Mc {q:Rat} (hq:Qs 4294967295 q):Za Tryz.prog 268 [.agg (rl q)] (.agg (rl q)):=by
 have h:=N0 (Zm q.num) (Zm (q.den:Int)) hq.1 hq.2
 rwa [Ej] at h
set_option maxRecDepth 20000 in
theorem Oz {a b:Rat} (ha:Qs 2147483647 a) (hb:Qs 2147483647 b):Za Tryz.prog 314 [.agg [sg a.num,mg a.num,sg ((a.den:Int)),mg ((a.den:Int))],.agg [sg b.num,mg b.num,sg ((b.den:Int)),mg ((b.den:Int))]] (.tup [.agg [sg (a.num*(b.den:Int)),mg (a.num*(b.den:Int))],.agg [sg (b.num*(a.den:Int)),mg (b.num*(a.den:Int))],.agg [sg ((a.den:Int)*(b.den:Int)),mg ((a.den:Int)*(b.den:Int))]]):=by
 refine X4 tt 0 [] Tryz.func314 Tryz.ntmps314 rfl rfl rfl ?_
 refine Zn (Yy rfl rfl rfl fun g1=>ko ?_)
 refine Zn (Yy rfl rfl rfl fun g2=>ko ?_)
 refine Zn (Qn Ko rfl rfl fun g3=>ko ?_)
 refine Zn (Qn Ko rfl rfl fun g4=>ko ?_)
 refine Zn (Qn Ko rfl rfl fun g5=>ko ?_)
 refine Qq tt rfl ?_
 refine Qy 3 Qp rfl rfl rfl ?_
 refine Xu tt 1 [4] rfl ?_
 refine Yv tt 1 [3] Tryz.func268 rfl rfl rfl (Mc (ha.mono (by omega))) rfl rfl ?_
 refine Qq tt rfl ?_
 refine kl tt 2 [4,3] Tryz.func268 rfl rfl rfl (Mc (hb.mono (by omega))) rfl rfl ?_
 refine Qy 14 Qp rfl rfl rfl ?_
 refine Xu tt 4 [4,3] rfl ?_
 refine Yv tt 4 [3,4] qFg rfl rfl rfl (Kf (Zm _) (Zm _) (Xd ha.1 (by omega)) (Xd hb.2 (by omega))) rfl rfl ?_
 refine Yv tt 4 [4,3] qFg rfl rfl rfl (Kf (Zm _) (Zm _) (Xd hb.1 (by omega)) (Xd ha.2 (by omega))) rfl rfl ?_
 refine Qq tt rfl ?_
 refine kl tt 3 [2,1,0] qFg rfl rfl rfl (Kf (Zm _) (Zm _) (Xd ha.2 (by omega)) (Xd hb.2 (by omega))) rfl rfl ?_
 exact kr3 tt [2,1,0] rfl (rfl)
theorem Qe0 {a b:Rat} (ha:Qs 2147483647 a) (hb:Qs 2147483647 b):Za Tryz.prog 269 [.agg [sg a.num,mg a.num,sg ((a.den:Int)),mg ((a.den:Int))],.agg [sg b.num,mg b.num,sg ((b.den:Int)),mg ((b.den:Int))]] (.one (.int .i64 (Qq6 a b))):=by
 refine X4 tt 5 [] Tryz.func269 Tryz.ntmps269 rfl rfl rfl ?_
 refine kl tt 4 [] Tryz.func314 rfl rfl rfl (Oz (ha) (hb)) rfl rfl ?_
 refine Zn (Qn Ko rfl rfl fun g1=>ko ?_)
 refine Zn (Qn Ko rfl rfl fun g2=>ko ?_)
 refine Zn (Qn Ko rfl rfl fun g3=>ko ?_)
 refine Xu tt 5 [2,1,0,2,1] rfl ?_
 refine kl tt 1 [] Tryz.func291 rfl rfl rfl (Dt (Zm _) (Zm _) (Xd (Xl _ _) (by have:=ha.1; have:=hb.2; omega)) (Xd (Xl _ _) (by have:=hb.1; have:=ha.2; omega))) rfl rfl ?_
 exact Xp tt [] rfl (rfl)
theorem Dn {b1 b2:Bool} {l1 l2:List Nat} {n d:Int} (h1:Yx (.bool b1) (Xv l1) n) (h2:Yx (.bool b2) (Xv l2) d) (hn:Xj n≤4294967295) (hd:Xj d≤4294967295):Za Tryz.prog 193 [.agg [.bool b1,Xv l1,.bool b2,Xv l2],.one (.row ([]))] (.agg [sg (((Qz n d)).num),mg (((Qz n d)).num),sg ((((Qz n d)).den:Int)),mg ((((Qz n d)).den:Int))]):=by
 refine X4 tt 1 [] qGp Tryz.ntmps193 rfl rfl rfl ?_
 refine Zn (Qn qUu rfl rfl fun g1=>ko ?_)
 refine Qr tt 1 rfl ?_
 refine kw (Zu Tryz.func268 rfl rfl rfl rfl (N0 h1 h2 hn hd) rfl) ?_
 refine Zn (Qn qUu rfl rfl fun g2=>ko ?_)
 refine Xu tt 2 [0] rfl ?_
 refine Qf tt 1 [] (Qh (m:=0) Tryz.runUnderlying320 rfl rfl rfl) rfl ?_
 refine Qj [4,5,11,12] rfl rfl ?_
 refine Zl (fun m L B=>m=0∧L=[(4,.one (.ow g1 0)),(5,.one (.ow g2 0)),(11,.one (.int .i64 (((0:Nat):Int)))),(12,.one (.int .i64 0))]∧B=[.blk g2 57 [sg (((Qz n d)).num),mg (((Qz n d)).num),sg ((((Qz n d)).den:Int)),mg ((((Qz n d)).den:Int))],.blk g1 57 [.bool false,.nils,.bool false,.nils]]) (m:=_) ⟨rfl,rfl,rfl⟩ ?_
 rintro m L B ⟨hm,rfl,rfl⟩
 refine Qq tt rfl ?_
 skip
 skip
 refine Qr tt 1 rfl ?_
 refine Z8 tt 2 [0,1] (rfl) rfl rfl ?_
 exact Xp tt [1] rfl (rfl)
theorem Gt {q:Rat} (hq:Qs 4294967295 q):Za Tryz.prog 193 [.agg (rl q),.one (.row [])] (.agg (rl q)):=by
 have h:=Dn (Zm q.num) (Zm (q.den:Int)) hq.1 hq.2
 rwa [Ej] at h
theorem Qck {q:Rat} (hq:Qs 4294967295 q):Za Tryz.prog 297 [.agg [sg q.num,mg q.num,sg ((q.den:Int)),mg ((q.den:Int))]] (.agg [sg q.num,mg q.num,sg ((q.den:Int)),mg ((q.den:Int))]):=by
 refine X4 tt 1 [] Tryz.func297 Tryz.ntmps297 rfl rfl rfl ?_
 refine Zn (Qn qUu rfl rfl fun g1=>ko ?_)
 refine Qr tt 1 rfl ?_
 refine kl tt 1 [0] qGp rfl rfl rfl (Gt (hq)) rfl rfl ?_
 exact Xp tt [0] rfl (rfl)
set_option maxRecDepth 20000 in
theorem Qey {p:List Int} {q:Rat} {s t:Nat} (tp:Yw p) (hl:p.length<274877906944) (hp:Bd s p) (hq:Qs t q) (hst:s+p.length*(t+1)+2*t+10≤4294967295):Za Tryz.prog 241 [.one (pl p),.agg [sg q.num,mg q.num,sg ((q.den:Int)),mg ((q.den:Int))]] (.one (.int .i64 (Ff p q))):=by
 refine X4 tt 0 [] Tryz.func241 Tryz.ntmps241 rfl rfl rfl ?_
 refine Zn (Yy rfl rfl rfl fun g1=>ko ?_)
 refine Xu tt 2 [0] rfl ?_
 refine kl tt 1 [0] Tryz.func297 rfl rfl rfl (Qck (hq.mono (by omega))) rfl rfl ?_
 refine Qy 8 Qp rfl rfl rfl ?_
 refine Qr tt 1 rfl ?_
 refine Yv tt 4 [0,0] qUd rfl rfl rfl (Wl tp hl (Q7 hp (by omega))) rfl rfl ?_
 refine Yv tt 1 [] Tryz.func298 rfl rfl rfl (Qcl (hl) (hp) (hq.1) (hq.2) (hst)) rfl rfl ?_
 refine Qq tt rfl ?_
 refine kl tt 1 [] Tryz.func291 rfl rfl rfl (Dt (Zm _) Tb (Xd (Eq hp hq.1 hq.2).1 (by omega)) (by decide)) rfl rfl ?_
 exact Xp tt [] rfl (rfl)
end Orr

namespace Orr
open Go Go.Proofs
theorem Qc7 (p:List Int) (g:Int):(List.range p.length).map (fun k=>p.getD k 0 / g)=p.map (· / g):=by
 conv=>rhs; rw [←Gd p]
 simp
theorem Vs {p:List Int} {g:Int} (hl:p.length<274877906944) (hp:Bd 4294967295 p) (hg:Xj g≤4294967295) (h0:g≠0) (hd:∀ z∈p,z % g=0):Za Tryz.prog 266 [.one (pl p),.agg [sg g,mg g]] (.one (pl (trim (p.map (· / g))))):=by
 refine X4 tt 3 [] qFh Tryz.ntmps266 rfl rfl rfl ?_
 refine kw (Qh (m:=p.length) Wr rfl (Y6 _) rfl) ?_
 refine Zn (G4 (p.length) Wr qWq rfl Yf Ko rfl rfl rfl rfl rfl rfl (rfl) (rfl) (hl) rfl fun r1=>ko ?_)
 refine X5 (fun _ k_=>G6 (ls':=(Em (fun k=>p.getD k 0 / g) p.length 0).map W9) 0 rfl rfl (by rw [←Cf]; exact Es _) (Qo k_)) rfl ?_
 refine Qr tt 2 rfl ?_
 refine Qf tt 1 [] (Qh (m:=p.length) Wr rfl (Y6 _) rfl) rfl ?_
 refine Qj [3,5,11,12,13] rfl rfl ?_
 refine Zl (fun m L B=>∃ i,i≤p.length∧m=p.length-i∧L=[(3,.one (.sh [sg g,mg g])),(5,.one (.orow r1 2 0 p.length)),(11,.one (pl p)),(12,.one (.int .i64 (((p.length:Nat):Int)))),(13,.one (.int .i64 ((i:Int))))]∧B=[.row r1 55 2 ((Em (fun k=>p.getD k 0 / g) p.length i).map W9)]) (m:=_) ⟨0,K6 _,rfl,rfl,rfl⟩ ?_
 rintro m L B ⟨i,hp0,hm,rfl,rfl⟩
 refine Qq tt rfl ?_
 by_cases hlt:i<p.length
 ·skip
  refine Qr tt 1 rfl ?_
  refine Xh tt 1 [] (decide_eq_true (by omega)) rfl rfl ?_
  refine Qf tt 1 [] (Qi (i) Wr Yf rfl rfl (rfl) (Qg (getD_some hlt)) rfl rfl) rfl ?_
  refine Zn (Qn Ko rfl rfl fun g2=>ko ?_)
  refine Xu tt 6 [0,0] rfl ?_
  refine kl tt 3 [] qFb rfl rfl rfl (Ym (Zm _) (Zm _) (Zy hp i) (hg) (h0) (hd _ (Vo (getD_some hlt)))) rfl rfl ?_
  refine kw (Zi (i) Wr Yf rfl rfl (rfl) (by omega) rfl) ?_
  refine Zn (Jp (ls2:=(Em (fun k=>p.getD k 0 / g) p.length (i+1)).map W9) 1 Yf rfl rfl rfl rfl rfl rfl (by rw [Vl]; exact Qg (Eo _ hlt)) rfl (by rw [Vl]; exact (Uh W9 _ i (p.getD i 0 / g)).trans (by rw [←Ep _ hlt])) (ko ?_))
  refine Qq tt rfl ?_
  refine Qf tt 1 [] (Zb (r:=((i+1:Nat):Int)) rfl rfl (Qm (by omega) (by omega)) rfl) rfl ?_
  refine Qj [3,5,11,12,13] rfl rfl ?_
  refine Yt 1 rfl rfl ?_
  refine Q8 ?_
  refine ⟨_,?_,i+1,by omega,rfl,rfl,rfl⟩
  omega
 skip
 refine Qr tt 1 rfl ?_
 refine Z8 tt 1 [] (decide_eq_false (by omega)) rfl rfl ?_
 have htab:(Em (fun k=>p.getD k 0 / g) p.length i)=p.map (· / g):=by rw [show i=p.length from by omega,En,Qc7]
 refine X5 (fun _ k_=>Xe 0 [28] rfl (Zc rfl) (by rw [Zr,Ui _ (by omega)]) (by rw [Zr,Ui _ (by omega)]; omega) rfl (Qo k_)) rfl ?_
 refine Qq tt rfl ?_
 refine kl tt 1 [] qUd rfl rfl rfl (Nw (by rw [Ui _ (by omega)]; exact hl) (by rw [htab]; exact Qg9 hp g)) rfl rfl ?_
 exact Xp tt [] rfl (by rw [htab])
set_option maxRecDepth 20000 in
theorem Nv {lx ly:List (List LV)} {px py:List Int} {b:Bool} {l:List Nat} {d:Int} (hx:IsInts lx px) (hy:IsInts ly py) (hd:Yx (.bool b) (Xv l) d) (hk:Cs 4294967294 1073741824 (Crv.mk px py d)):Za Tryz.prog 190 [.agg [.row lx,.row ly,.bool b,Xv l]] (.agg [pl (((Crv.norm (Crv.mk px py d))).x),pl (((Crv.norm (Crv.mk px py d))).y),sg (((Crv.norm (Crv.mk px py d))).d),mg (((Crv.norm (Crv.mk px py d))).d)]):=by
 refine X4 tt 0 [] Tryz.func190 Tryz.ntmps190 rfl rfl rfl ?_
 have hlx:=hk.lx
 have hly:=hk.ly
 simp only at hlx hly
 have htx:=Kt px
 have hty:=Kt py
 have hd1:Xj (Crv.mk px py d).d'≤4294967295:=Xd (Qc4 hk.d (by omega)) (by omega)
 have hg1:=Crv.isz_g (Crv.mk px py d) hd1
 have hgs:Xj ((Y5 ((Crv.mk px py d).d'::(trim px++trim py)):Nat):Int)≤4294967295:=by
  have:=hg1
  unfold Crv.g at this
  split at this
  ·rwa [Xg] at this
  ·exact this
 by_cases h0:d=0
 ·skip
  refine Qq tt rfl ?_
  rcases qYe (Crv.d'_ne (Crv.mk px py d)) with hneg | hpos
  ·skip
   refine Qr tt 1 rfl ?_
   refine Zn (Qn qWw rfl rfl fun g1=>ko ?_)
   refine Qq tt rfl ?_
   refine kc (U3 Qp 10 [7,8,9,10,11,12,13,14,15,5] [[],[0],[1],[],[3],[4],[],[6],[7],[]] [.one (.sh [.row lx,.row ly,.bool b,Xv l]),.one (.row lx),.one (pl (trim px)),.one (.sh [.row ly,.bool b,Xv l]),.one (.row ly),.one (pl (trim py)),.one (.sh [.bool b,Xv l]),.agg [.bool b,Xv l],.agg [sg d,mg d],.un] [(9,55,[.bool false,.slice none 0 0])] [[.bool false,.nils]] rfl rfl rfl (by decide) ⟨rfl,trivial⟩ rfl ⟨J0 Lz rfl rfl rfl,Zq qUn qUb rfl rfl rfl rfl,Zu qUd rfl rfl rfl rfl (Vt hx (by omega) (Q7 hk.x (by omega))) rfl,J0 L4 rfl rfl rfl,Zq qUn qUb rfl rfl rfl rfl,Zu qUd rfl rfl rfl rfl (Vt hy (by omega) (Q7 hk.y (by omega))) rfl,J0 L5 rfl rfl rfl,Zq H9 Yf rfl rfl rfl rfl,Zu qUl rfl rfl rfl rfl (Jf hd (Xd hk.d (by omega))) rfl,Vr Ko rfl,trivial⟩ fun g2=>⟨_,_,rfl,rfl,kn ?_⟩)
   refine Xu tt 4 [0,0] rfl ?_
   refine kl tt 0 [] qUm rfl rfl rfl ((Uc _) ) rfl rfl ?_
   refine Xh tt 0 [] (decide_eq_true h0) rfl rfl ?_
   refine kl tt 1 [0] qFn rfl rfl rfl (Uj (by omega)) rfl rfl ?_
   refine X5 (fun _ k_=>Vn (ys:=W9 ((Crv.mk px py d).d')) 0 rfl rfl (by unfold Crv.d'; rw [if_pos h0]) (Qo k_)) rfl ?_
   refine Xu tt 1 [0] rfl ?_
   refine Zn (Ex qWk Yf Ko rfl rfl rfl rfl rfl rfl rfl rfl rfl rfl fun r3=>ko ?_)
   refine Qr tt 1 rfl ?_
   refine Zn (Zg (ls2:=((Crv.mk px py d).d'::trim px).map W9) (m2:=1+(trim px).length) 0 qWk Wr qWq rfl rfl Yf Ko rfl rfl rfl rfl rfl rfl rfl (X2 _) (Jj _ (fun _=>rfl)) (Wu _ (fun _=>rfl)) (by rw [Zr]; omega) (rfl) (by rw [Zr]) fun r4=>ko ?_)
   refine Qr tt 1 rfl ?_
   refine Zn (Zg (ls2:=((Crv.mk px py d).d'::(trim px++trim py)).map W9) (m2:=1+(trim px).length+(trim py).length) 0 qWk Wr qWq rfl rfl Yf Ko rfl rfl rfl rfl rfl rfl rfl (by simp; omega) (Jj _ (fun _=>rfl)) (Wu _ (fun _=>rfl)) (by rw [Zr]; omega) (by rw [Y0 (by simp; omega)]; simp) (by rw [Zr]) fun r5=>ko ?_)
   refine X5 (fun _ k_=>Xe 0 [24] rfl (Zc rfl) (by simp; omega) (by simp; omega) rfl (Qo k_)) rfl ?_
   refine Qq tt rfl ?_
   refine kw (Zu qGc rfl rfl rfl rfl (Ut (Y2 ((Crv.mk px py d).d'::(trim px++trim py))) (by
     intro z hz
     rcases Vw.1 hz with rfl | hz
     ·exact hd1
     ·rcases Y7.1 hz with hz | hz
      ·exact Xd (Jm hk.x z hz) (by omega)
      ·exact Xd (Jm hk.y z hz) (by omega))) rfl) ?_
   refine Zn (Qn Ko rfl rfl fun g6=>ko ?_)
   refine Xu tt 3 [0,1] rfl ?_
   refine Xh tt 1 [0] (decide_eq_true hneg) rfl rfl ?_
   refine kl tt 1 [0] qGq rfl rfl rfl (Ga (Zm _) (hgs)) rfl rfl ?_
   refine X5 (fun _ k_=>Vn (ys:=W9 ((Crv.mk px py d).g)) 0 rfl rfl (by unfold Crv.g; rw [if_pos hneg]) (Qo k_)) rfl ?_
   refine Xu tt 2 [1,0] rfl ?_
   refine kl tt 4 [1] qFb rfl rfl rfl (Ym (Zm _) (Zm _) (hd1) (hg1) (Crv.g_ne _) (Crv.g_dvd _ _ (Fm ..))) rfl rfl ?_
   refine Qy 7 Qp rfl rfl rfl ?_
   refine Xu tt 2 [0] rfl ?_
   refine Yv tt 2 [0] qFh rfl rfl rfl (Vs (by omega) (Q7 (Jm hk.x) (by omega)) (hg1) (Crv.g_ne _) (fun z hz=>Crv.g_dvd (Crv.mk px py d) z (by simp [hz]))) rfl rfl ?_
   refine Yv tt 1 [1] qFh rfl rfl rfl (Vs (by omega) (Q7 (Jm hk.y) (by omega)) (hg1) (Crv.g_ne _) (fun z hz=>Crv.g_dvd (Crv.mk px py d) z (by simp [hz]))) rfl rfl ?_
   refine Xu tt 2 [2] rfl ?_
   exact Xp tt [2] rfl (rfl)
  skip
  refine Qr tt 1 rfl ?_
  refine Zn (Qn qWw rfl rfl fun g7=>ko ?_)
  refine Qq tt rfl ?_
  refine kc (U3 Qp 10 [7,8,9,10,11,12,13,14,15,5] [[],[0],[1],[],[3],[4],[],[6],[7],[]] [.one (.sh [.row lx,.row ly,.bool b,Xv l]),.one (.row lx),.one (pl (trim px)),.one (.sh [.row ly,.bool b,Xv l]),.one (.row ly),.one (pl (trim py)),.one (.sh [.bool b,Xv l]),.agg [.bool b,Xv l],.agg [sg d,mg d],.un] [(9,55,[.bool false,.slice none 0 0])] [[.bool false,.nils]] rfl rfl rfl (by decide) ⟨rfl,trivial⟩ rfl ⟨J0 Lz rfl rfl rfl,Zq qUn qUb rfl rfl rfl rfl,Zu qUd rfl rfl rfl rfl (Vt hx (by omega) (Q7 hk.x (by omega))) rfl,J0 L4 rfl rfl rfl,Zq qUn qUb rfl rfl rfl rfl,Zu qUd rfl rfl rfl rfl (Vt hy (by omega) (Q7 hk.y (by omega))) rfl,J0 L5 rfl rfl rfl,Zq H9 Yf rfl rfl rfl rfl,Zu qUl rfl rfl rfl rfl (Jf hd (Xd hk.d (by omega))) rfl,Vr Ko rfl,trivial⟩ fun g8=>⟨_,_,rfl,rfl,kn ?_⟩)
  refine Xu tt 4 [0,0] rfl ?_
  refine kl tt 0 [] qUm rfl rfl rfl ((Uc _) ) rfl rfl ?_
  refine Xh tt 0 [] (decide_eq_true h0) rfl rfl ?_
  refine kl tt 1 [0] qFn rfl rfl rfl (Uj (by omega)) rfl rfl ?_
  refine X5 (fun _ k_=>Vn (ys:=W9 ((Crv.mk px py d).d')) 0 rfl rfl (by unfold Crv.d'; rw [if_pos h0]) (Qo k_)) rfl ?_
  refine Xu tt 1 [0] rfl ?_
  refine Zn (Ex qWk Yf Ko rfl rfl rfl rfl rfl rfl rfl rfl rfl rfl fun r9=>ko ?_)
  refine Qr tt 1 rfl ?_
  refine Zn (Zg (ls2:=((Crv.mk px py d).d'::trim px).map W9) (m2:=1+(trim px).length) 0 qWk Wr qWq rfl rfl Yf Ko rfl rfl rfl rfl rfl rfl rfl (X2 _) (Jj _ (fun _=>rfl)) (Wu _ (fun _=>rfl)) (by rw [Zr]; omega) (rfl) (by rw [Zr]) fun r10=>ko ?_)
  refine Qr tt 1 rfl ?_
  refine Zn (Zg (ls2:=((Crv.mk px py d).d'::(trim px++trim py)).map W9) (m2:=1+(trim px).length+(trim py).length) 0 qWk Wr qWq rfl rfl Yf Ko rfl rfl rfl rfl rfl rfl rfl (by simp; omega) (Jj _ (fun _=>rfl)) (Wu _ (fun _=>rfl)) (by rw [Zr]; omega) (by rw [Y0 (by simp; omega)]; simp) (by rw [Zr]) fun r11=>ko ?_)
  refine X5 (fun _ k_=>Xe 0 [24] rfl (Zc rfl) (by simp; omega) (by simp; omega) rfl (Qo k_)) rfl ?_
  refine Qq tt rfl ?_
  refine kw (Zu qGc rfl rfl rfl rfl (Ut (Y2 ((Crv.mk px py d).d'::(trim px++trim py))) (by
    intro z hz
    rcases Vw.1 hz with rfl | hz
    ·exact hd1
    ·rcases Y7.1 hz with hz | hz
     ·exact Xd (Jm hk.x z hz) (by omega)
     ·exact Xd (Jm hk.y z hz) (by omega))) rfl) ?_
  refine Zn (Qn Ko rfl rfl fun g12=>ko ?_)
  refine Xu tt 1 [0] rfl ?_
  refine X5 (fun _ k_=>Vn (ys:=W9 ((Crv.mk px py d).g)) 0 rfl rfl (by unfold Crv.g; rw [if_neg (by omega)]) (Qo k_)) rfl ?_
  refine Xu tt 2 [1] rfl ?_
  refine Z8 tt 2 [1,0] (decide_eq_false (by omega)) rfl rfl ?_
  refine kl tt 4 [1] qFb rfl rfl rfl (Ym (Zm _) (Zm _) (hd1) (hg1) (Crv.g_ne _) (Crv.g_dvd _ _ (Fm ..))) rfl rfl ?_
  refine Qy 7 Qp rfl rfl rfl ?_
  refine Xu tt 2 [0] rfl ?_
  refine Yv tt 2 [0] qFh rfl rfl rfl (Vs (by omega) (Q7 (Jm hk.x) (by omega)) (hg1) (Crv.g_ne _) (fun z hz=>Crv.g_dvd (Crv.mk px py d) z (by simp [hz]))) rfl rfl ?_
  refine Yv tt 1 [1] qFh rfl rfl rfl (Vs (by omega) (Q7 (Jm hk.y) (by omega)) (hg1) (Crv.g_ne _) (fun z hz=>Crv.g_dvd (Crv.mk px py d) z (by simp [hz]))) rfl rfl ?_
  refine Xu tt 2 [2] rfl ?_
  exact Xp tt [2] rfl (rfl)
 have h0':¬((Crv.mk px py d).d'=0):=Crv.d'_ne _
 refine Qq tt rfl ?_
 rcases qYe (Crv.d'_ne (Crv.mk px py d)) with hneg | hpos
 ·skip
  refine Qr tt 1 rfl ?_
  refine Zn (Qn qWw rfl rfl fun g13=>ko ?_)
  refine Qq tt rfl ?_
  refine kc (U3 Qp 10 [7,8,9,10,11,12,13,14,15,5] [[],[0],[1],[],[3],[4],[],[6],[7],[]] [.one (.sh [.row lx,.row ly,.bool b,Xv l]),.one (.row lx),.one (pl (trim px)),.one (.sh [.row ly,.bool b,Xv l]),.one (.row ly),.one (pl (trim py)),.one (.sh [.bool b,Xv l]),.agg [.bool b,Xv l],.agg [sg d,mg d],.un] [(9,55,[.bool false,.slice none 0 0])] [[.bool false,.nils]] rfl rfl rfl (by decide) ⟨rfl,trivial⟩ rfl ⟨J0 Lz rfl rfl rfl,Zq qUn qUb rfl rfl rfl rfl,Zu qUd rfl rfl rfl rfl (Vt hx (by omega) (Q7 hk.x (by omega))) rfl,J0 L4 rfl rfl rfl,Zq qUn qUb rfl rfl rfl rfl,Zu qUd rfl rfl rfl rfl (Vt hy (by omega) (Q7 hk.y (by omega))) rfl,J0 L5 rfl rfl rfl,Zq H9 Yf rfl rfl rfl rfl,Zu qUl rfl rfl rfl rfl (Jf hd (Xd hk.d (by omega))) rfl,Vr Ko rfl,trivial⟩ fun g14=>⟨_,_,rfl,rfl,kn ?_⟩)
  refine Xu tt 3 [0] rfl ?_
  refine X5 (fun _ k_=>Vn (ys:=W9 ((Crv.mk px py d).d')) 0 rfl rfl (by unfold Crv.d'; rw [if_neg h0]) (Qo k_)) rfl ?_
  refine Xu tt 1 [0] rfl ?_
  refine kl tt 0 [] qUm rfl rfl rfl (Uc _) rfl rfl ?_
  refine Z8 tt 1 [0] (decide_eq_false h0') rfl rfl ?_
  refine Zn (Ex qWk Yf Ko rfl rfl rfl rfl rfl rfl rfl rfl rfl rfl fun r15=>ko ?_)
  refine Qr tt 1 rfl ?_
  refine Zn (Zg (ls2:=((Crv.mk px py d).d'::trim px).map W9) (m2:=1+(trim px).length) 0 qWk Wr qWq rfl rfl Yf Ko rfl rfl rfl rfl rfl rfl rfl (X2 _) (Jj _ (fun _=>rfl)) (Wu _ (fun _=>rfl)) (by rw [Zr]; omega) (rfl) (by rw [Zr]) fun r16=>ko ?_)
  refine Qr tt 1 rfl ?_
  refine Zn (Zg (ls2:=((Crv.mk px py d).d'::(trim px++trim py)).map W9) (m2:=1+(trim px).length+(trim py).length) 0 qWk Wr qWq rfl rfl Yf Ko rfl rfl rfl rfl rfl rfl rfl (by simp; omega) (Jj _ (fun _=>rfl)) (Wu _ (fun _=>rfl)) (by rw [Zr]; omega) (by rw [Y0 (by simp; omega)]; simp) (by rw [Zr]) fun r17=>ko ?_)
  refine X5 (fun _ k_=>Xe 0 [24] rfl (Zc rfl) (by simp; omega) (by simp; omega) rfl (Qo k_)) rfl ?_
  refine Qq tt rfl ?_
  refine kw (Zu qGc rfl rfl rfl rfl (Ut (Y2 ((Crv.mk px py d).d'::(trim px++trim py))) (by
    intro z hz
    rcases Vw.1 hz with rfl | hz
    ·exact hd1
    ·rcases Y7.1 hz with hz | hz
     ·exact Xd (Jm hk.x z hz) (by omega)
     ·exact Xd (Jm hk.y z hz) (by omega))) rfl) ?_
  refine Zn (Qn Ko rfl rfl fun g18=>ko ?_)
  refine Xu tt 3 [0,1] rfl ?_
  refine Xh tt 1 [0] (decide_eq_true hneg) rfl rfl ?_
  refine kl tt 1 [0] qGq rfl rfl rfl (Ga (Zm _) (hgs)) rfl rfl ?_
  refine X5 (fun _ k_=>Vn (ys:=W9 ((Crv.mk px py d).g)) 0 rfl rfl (by unfold Crv.g; rw [if_pos hneg]) (Qo k_)) rfl ?_
  refine Xu tt 2 [1,0] rfl ?_
  refine kl tt 4 [1] qFb rfl rfl rfl (Ym (Zm _) (Zm _) (hd1) (hg1) (Crv.g_ne _) (Crv.g_dvd _ _ (Fm ..))) rfl rfl ?_
  refine Qy 7 Qp rfl rfl rfl ?_
  refine Xu tt 2 [0] rfl ?_
  refine Yv tt 2 [0] qFh rfl rfl rfl (Vs (by omega) (Q7 (Jm hk.x) (by omega)) (hg1) (Crv.g_ne _) (fun z hz=>Crv.g_dvd (Crv.mk px py d) z (by simp [hz]))) rfl rfl ?_
  refine Yv tt 1 [1] qFh rfl rfl rfl (Vs (by omega) (Q7 (Jm hk.y) (by omega)) (hg1) (Crv.g_ne _) (fun z hz=>Crv.g_dvd (Crv.mk px py d) z (by simp [hz]))) rfl rfl ?_
  refine Xu tt 2 [2] rfl ?_
  exact Xp tt [2] rfl (rfl)
 skip
 refine Qr tt 1 rfl ?_
 refine Zn (Qn qWw rfl rfl fun g19=>ko ?_)
 refine Qq tt rfl ?_
 refine kc (U3 Qp 10 [7,8,9,10,11,12,13,14,15,5] [[],[0],[1],[],[3],[4],[],[6],[7],[]] [.one (.sh [.row lx,.row ly,.bool b,Xv l]),.one (.row lx),.one (pl (trim px)),.one (.sh [.row ly,.bool b,Xv l]),.one (.row ly),.one (pl (trim py)),.one (.sh [.bool b,Xv l]),.agg [.bool b,Xv l],.agg [sg d,mg d],.un] [(9,55,[.bool false,.slice none 0 0])] [[.bool false,.nils]] rfl rfl rfl (by decide) ⟨rfl,trivial⟩ rfl ⟨J0 Lz rfl rfl rfl,Zq qUn qUb rfl rfl rfl rfl,Zu qUd rfl rfl rfl rfl (Vt hx (by omega) (Q7 hk.x (by omega))) rfl,J0 L4 rfl rfl rfl,Zq qUn qUb rfl rfl rfl rfl,Zu qUd rfl rfl rfl rfl (Vt hy (by omega) (Q7 hk.y (by omega))) rfl,J0 L5 rfl rfl rfl,Zq H9 Yf rfl rfl rfl rfl,Zu qUl rfl rfl rfl rfl (Jf hd (Xd hk.d (by omega))) rfl,Vr Ko rfl,trivial⟩ fun g20=>⟨_,_,rfl,rfl,kn ?_⟩)
 refine Xu tt 3 [0] rfl ?_
 refine X5 (fun _ k_=>Vn (ys:=W9 ((Crv.mk px py d).d')) 0 rfl rfl (by unfold Crv.d'; rw [if_neg h0]) (Qo k_)) rfl ?_
 refine Xu tt 1 [0] rfl ?_
 refine kl tt 0 [] qUm rfl rfl rfl (Uc _) rfl rfl ?_
 refine Z8 tt 1 [0] (decide_eq_false h0') rfl rfl ?_
 refine Zn (Ex qWk Yf Ko rfl rfl rfl rfl rfl rfl rfl rfl rfl rfl fun r21=>ko ?_)
 refine Qr tt 1 rfl ?_
 refine Zn (Zg (ls2:=((Crv.mk px py d).d'::trim px).map W9) (m2:=1+(trim px).length) 0 qWk Wr qWq rfl rfl Yf Ko rfl rfl rfl rfl rfl rfl rfl (X2 _) (Jj _ (fun _=>rfl)) (Wu _ (fun _=>rfl)) (by rw [Zr]; omega) (rfl) (by rw [Zr]) fun r22=>ko ?_)
 refine Qr tt 1 rfl ?_
 refine Zn (Zg (ls2:=((Crv.mk px py d).d'::(trim px++trim py)).map W9) (m2:=1+(trim px).length+(trim py).length) 0 qWk Wr qWq rfl rfl Yf Ko rfl rfl rfl rfl rfl rfl rfl (by simp; omega) (Jj _ (fun _=>rfl)) (Wu _ (fun _=>rfl)) (by rw [Zr]; omega) (by rw [Y0 (by simp; omega)]; simp) (by rw [Zr]) fun r23=>ko ?_)
 refine X5 (fun _ k_=>Xe 0 [24] rfl (Zc rfl) (by simp; omega) (by simp; omega) rfl (Qo k_)) rfl ?_
 refine Qq tt rfl ?_
 refine kw (Zu qGc rfl rfl rfl rfl (Ut (Y2 ((Crv.mk px py d).d'::(trim px++trim py))) (by
   intro z hz
   rcases Vw.1 hz with rfl | hz
   ·exact hd1
   ·rcases Y7.1 hz with hz | hz
    ·exact Xd (Jm hk.x z hz) (by omega)
    ·exact Xd (Jm hk.y z hz) (by omega))) rfl) ?_
 refine Zn (Qn Ko rfl rfl fun g24=>ko ?_)
 refine Xu tt 1 [0] rfl ?_
 refine X5 (fun _ k_=>Vn (ys:=W9 ((Crv.mk px py d).g)) 0 rfl rfl (by unfold Crv.g; rw [if_neg (by omega)]) (Qo k_)) rfl ?_
 refine Xu tt 2 [1] rfl ?_
 refine Z8 tt 2 [1,0] (decide_eq_false (by omega)) rfl rfl ?_
 refine kl tt 4 [1] qFb rfl rfl rfl (Ym (Zm _) (Zm _) (hd1) (hg1) (Crv.g_ne _) (Crv.g_dvd _ _ (Fm ..))) rfl rfl ?_
 refine Qy 7 Qp rfl rfl rfl ?_
 refine Xu tt 2 [0] rfl ?_
 refine Yv tt 2 [0] qFh rfl rfl rfl (Vs (by omega) (Q7 (Jm hk.x) (by omega)) (hg1) (Crv.g_ne _) (fun z hz=>Crv.g_dvd (Crv.mk px py d) z (by simp [hz]))) rfl rfl ?_
 refine Yv tt 1 [1] qFh rfl rfl rfl (Vs (by omega) (Q7 (Jm hk.y) (by omega)) (hg1) (Crv.g_ne _) (fun z hz=>Crv.g_dvd (Crv.mk px py d) z (by simp [hz]))) rfl rfl ?_
 refine Xu tt 2 [2] rfl ?_
 exact Xp tt [2] rfl (rfl)
def Tw (x y:Int):Crv:=Crv.norm ⟨trim [x],trim [y],0⟩
theorem R2 {lx ly:List (List LV)} {px py:List Int} {b:Bool} {l:List Nat} {d:Int} (hx:IsInts lx px) (hy:IsInts ly py) (hd:Yx (.bool b) (Xv l) d) (hk:Cs 4294967294 1073741824 (Crv.mk px py d)) (h0:d≠0):Za Tryz.prog 253 [.one (.row lx),.one (.row ly),.agg [.bool b,Xv l]] (.tup [.agg [pl (((Crv.norm (Crv.mk px py d))).x),pl (((Crv.norm (Crv.mk px py d))).y),sg (((Crv.norm (Crv.mk px py d))).d),mg (((Crv.norm (Crv.mk px py d))).d)],.one (.int .i64 0)]):=by
 refine X4 tt 1 [] Tryz.func253 Tryz.ntmps253 rfl rfl rfl ?_
 refine Zn (Qn qWw rfl rfl fun g1=>ko ?_)
 refine Qr tt 2 rfl ?_
 refine kl tt 0 [] qUl rfl rfl rfl (Jf hd (Xd hk.d (by omega))) rfl rfl ?_
 refine kl tt 0 [] qUm rfl rfl rfl ((Uc _) ) rfl rfl ?_
 refine Z8 tt 4 [] (decide_eq_false h0) rfl rfl ?_
 refine kl tt 2 [0] Tryz.func190 rfl rfl rfl (Nv hx hy hd (hk)) rfl rfl ?_
 exact kr2 tt [0] rfl (rfl)
theorem Qhg {lx ly:List (List LV)} {px py:List Int} (hx:IsInts lx px) (hy:IsInts ly py) (hk:Cs 4294967294 1073741824 (Crv.mk px py 0)):Za Tryz.prog 112 [.one (.row lx),.one (.row ly)] (.agg [pl (((Crv.norm (Crv.mk px py 0))).x),pl (((Crv.norm (Crv.mk px py 0))).y),sg (((Crv.norm (Crv.mk px py 0))).d),mg (((Crv.norm (Crv.mk px py 0))).d)]):=by
 refine X4 tt 0 [] Tryz.func112 Tryz.ntmps112 rfl rfl rfl ?_
 refine Zn (Qn qWw rfl rfl fun g1=>ko ?_)
 refine Qr tt 3 rfl ?_
 refine kl tt 1 [0] Tryz.func190 rfl rfl rfl (Nv hx hy (show Yx (.bool false) (Xv []) 0 from Tb) (hk)) rfl rfl ?_
 exact Xp tt [0] rfl (rfl)
theorem Qer {x y:Int} (hx:-9223372036854775808≤x∧x≤9223372036854775807) (hy:-9223372036854775808≤y∧y≤9223372036854775807):Cs 64 1 ⟨trim [x],trim [y],0⟩:=by
 have key:∀ z:Int,-9223372036854775808≤z∧z≤9223372036854775807→Xj z≤64:=fun z hz=>by
  rw [Gg]
  have:(2:Nat)^64=18446744073709551616:=by decide
  omega
 refine ⟨Jm fun z hz=>?_,Jm fun z hz=>?_,K6 _,Kt [x],Kt [y]⟩
 ·rw [qZt] at hz; rw [hz]; exact key x hx
 rw [qZt] at hz; rw [hz]; exact key y hy
theorem Ot {x y:Int} (hx:-9223372036854775808≤x∧x≤9223372036854775807) (hy:-9223372036854775808≤y∧y≤9223372036854775807):Za Tryz.prog 45 [.one (.int .i64 x),.one (.int .i64 y)] (.agg [pl (((Tw x y)).x),pl (((Tw x y)).y),sg (((Tw x y)).d),mg (((Tw x y)).d)]):=by
 refine X4 tt 0 [] Tryz.func45 Tryz.ntmps45 rfl rfl rfl ?_
 refine Zn (Qn qWw rfl rfl fun g1=>ko ?_)
 refine Qr tt 2 rfl ?_
 refine kl tt 2 [] Tryz.func113 rfl rfl rfl (Qaf (p:=[x]) (show 1<274877906944 by decide) (by intro z hz; rw [qZt] at hz; rw [hz]; exact hx)) rfl rfl ?_
 refine kl tt 0 [] Tryz.func113 rfl rfl rfl (Qaf (p:=[y]) (show 1<274877906944 by decide) (by intro z hz; rw [qZt] at hz; rw [hz]; exact hy)) rfl rfl ?_
 refine kl tt 1 [0] Tryz.func112 rfl rfl rfl (Qhg (Y2 _) (Y2 _) ((Qer hx hy).mono (by omega) (by omega))) rfl rfl ?_
 exact Xp tt [0] rfl (rfl)
theorem Qru (px py:List Int):Crv.norm ⟨px,py,1⟩=Crv.norm ⟨px,py,0⟩:=rfl
theorem Or {lx ly:List (List LV)} {px py:List Int} {b:Bool} {l:List Nat} {d:Int} (hx:IsInts lx px) (hy:IsInts ly py) (hd:Yx (.bool b) (Xv l) d) (hk:Cs 4294967294 1073741824 (Crv.mk px py d)) {id:Int}:Za Tryz.prog 204 [.agg [.row lx,.row ly,.bool b,Xv l,.int .i64 id]] (.agg [pl (((Crv.norm (Crv.mk px py d))).x),pl (((Crv.norm (Crv.mk px py d))).y),sg (((Crv.norm (Crv.mk px py d))).d),mg (((Crv.norm (Crv.mk px py d))).d),.int .i64 id]):=by
 refine X4 tt 0 [] Tryz.func204 Tryz.ntmps204 rfl rfl rfl ?_
 by_cases h0:d=0
 ·skip
  refine Qq tt rfl ?_
  refine Zn (Yy rfl rfl rfl fun g1=>ko ?_)
  refine Zn (Qn qWu rfl rfl fun g2=>ko ?_)
  refine Xu tt 3 [1] rfl ?_
  refine Zn (Qn Ko rfl rfl fun g3=>ko ?_)
  refine Xu tt 2 [0,0] rfl ?_
  refine kl tt 0 [] qUl rfl rfl rfl (Jf hd (Xd hk.d (by omega))) rfl rfl ?_
  refine kl tt 0 [] qUm rfl rfl rfl ((Uc _) ) rfl rfl ?_
  refine Xh tt 0 [] (decide_eq_true h0) rfl rfl ?_
  refine kl tt 8 [0,2,2,0] qFn rfl rfl rfl (Uj (by omega)) rfl rfl ?_
  refine kl tt 7 [2,2,1] Tryz.func253 rfl rfl rfl (R2 hx hy (Zm _) (⟨hk.x,hk.y,by show Xj 1≤_; decide,hk.lx,hk.ly⟩) (by decide)) rfl rfl ?_
  exact Xp tt [1] rfl (by rw [h0,Qru])
 skip
 refine Qq tt rfl ?_
 refine Zn (Yy rfl rfl rfl fun g4=>ko ?_)
 refine Zn (Qn qWu rfl rfl fun g5=>ko ?_)
 refine Xu tt 3 [1] rfl ?_
 refine Zn (Qn Ko rfl rfl fun g6=>ko ?_)
 refine Xu tt 2 [0,0] rfl ?_
 refine kl tt 0 [] qUl rfl rfl rfl (Jf hd (Xd hk.d (by omega))) rfl rfl ?_
 refine kl tt 0 [] qUm rfl rfl rfl ((Uc _) ) rfl rfl ?_
 refine Z8 tt 7 [2,2,0] (decide_eq_false h0) rfl rfl ?_
 refine kl tt 7 [2,2,1] Tryz.func253 rfl rfl rfl (R2 hx hy hd (hk) (h0)) rfl rfl ?_
 exact Xp tt [1] rfl (rfl)
end Orr

namespace Orr
open Go Go.Proofs
set_option maxRecDepth 20000 in
theorem My {l:List Pt} {id:Int} (hl:l.length<1073741824):Za Tryz.prog 203 [.agg [V5 l],.one (.int .i64 id)] (.tup [.one (.int .i64 (((pos l id:Nat):Int))),.one (.bool (has l id))]):=by
 refine X4 tt 4 [] Tryz.func203 Tryz.ntmps203 rfl rfl rfl ?_
 refine Qj [1,2,6] rfl rfl ?_
 refine Zl (fun m L B=>∃ k,k≤l.length∧(∀ j p,j<k→l[j]? = some p→p.id<id)∧m=l.length-k∧L=[(1,.one (.int .i64 id)),(2,.one (.sh [V5 l])),(6,.one (.int .i64 ((k:Int))))]∧B=[]) (m:=_) ⟨0,K6 _,fun j p hj=>absurd hj (qVx _),rfl,rfl,rfl⟩ ?_
 rintro m L B ⟨k,hp0,hp1,hm,rfl,rfl⟩
 refine Qq tt rfl ?_
 by_cases hlt:k<l.length
 ·obtain ⟨p,hp⟩:∃ p,l[k]? = some p:=⟨_,Xx hlt⟩
  by_cases hid:p.id<id
  refine Qq tt rfl ?_
  ·skip
   refine Qr tt 3 rfl ?_
   refine Qf tt 2 [] (Qh (m:=l.length) V0 rfl (Vx _) rfl) rfl ?_
   refine Qf tt 0 [] ((Qc rfl rfl (decide_eq_true (by omega)) (Qw tt rfl rfl))) rfl ?_
   refine Qf tt 0 [] ((Qc rfl rfl (decide_eq_true (by omega)) (Qw tt rfl rfl))) rfl ?_
   refine Qf tt 0 [] ((Qc rfl rfl (decide_eq_true (by omega)) (Qw tt rfl rfl))) rfl ?_
   refine Qf tt 0 [] ((Qc rfl rfl (decide_eq_true (by omega)) (Qi (k) V0 Wb rfl rfl (rfl) (Qg hp) rfl rfl))) rfl ?_
   refine Qf tt 0 [] ((Qc rfl rfl (decide_eq_true (by omega)) (Qw tt rfl rfl))) rfl ?_
   refine Qf tt 0 [] ((Qc rfl rfl (decide_eq_true (by omega)) (Qw tt rfl rfl))) rfl ?_
   refine Qf tt 0 [] ((Qc rfl rfl (decide_eq_true (by omega)) (Qw tt rfl rfl))) rfl ?_
   refine Qf tt 0 [] ((Qc rfl rfl (decide_eq_true (by omega)) (Qw tt rfl rfl))) rfl ?_
   refine Qf tt 0 [] (Zs rfl (decide_eq_true (by omega)) rfl rfl) rfl ?_
   refine Xh tt 1 [] (decide_eq_true hid) rfl rfl ?_
   refine Qf tt 1 [] (Zb (r:=((k+1:Nat):Int)) rfl rfl (Qm (by omega) (by omega)) rfl) rfl ?_
   refine Qj [1,2,6] rfl rfl ?_
   refine Q8 ?_
   refine ⟨_,?_,k+1,by omega,fun j q hj hq=>by
     rcases Mq j k with h1 | h1
     ·exact hp1 j q h1 hq
     ·rw [show j=k from by omega,hp] at hq; injection hq with hq; rw [←hq]; exact hid,rfl,rfl,rfl⟩
   omega
  skip
  refine Qr tt 3 rfl ?_
  refine Qf tt 2 [] (Qh (m:=l.length) V0 rfl (Vx _) rfl) rfl ?_
  refine Qf tt 0 [] ((Qc rfl rfl (decide_eq_true (by omega)) (Qw tt rfl rfl))) rfl ?_
  refine Qf tt 0 [] ((Qc rfl rfl (decide_eq_true (by omega)) (Qw tt rfl rfl))) rfl ?_
  refine Qf tt 0 [] ((Qc rfl rfl (decide_eq_true (by omega)) (Qw tt rfl rfl))) rfl ?_
  refine Qf tt 0 [] ((Qc rfl rfl (decide_eq_true (by omega)) (Qi (k) V0 Wb rfl rfl (rfl) (Qg hp) rfl rfl))) rfl ?_
  refine Qf tt 0 [] ((Qc rfl rfl (decide_eq_true (by omega)) (Qw tt rfl rfl))) rfl ?_
  refine Qf tt 0 [] ((Qc rfl rfl (decide_eq_true (by omega)) (Qw tt rfl rfl))) rfl ?_
  refine Qf tt 0 [] ((Qc rfl rfl (decide_eq_true (by omega)) (Qw tt rfl rfl))) rfl ?_
  refine Qf tt 0 [] ((Qc rfl rfl (decide_eq_true (by omega)) (Qw tt rfl rfl))) rfl ?_
  refine Qf tt 0 [] (Zs rfl (decide_eq_true (by omega)) rfl rfl) rfl ?_
  refine Z8 tt 0 [] (decide_eq_false hid) rfl rfl ?_
  refine Qy 17 Qp rfl rfl rfl ?_
  refine Qr tt 4 rfl ?_
  refine kd (Qh (m:=l.length) V0 rfl (Vx _) rfl) rfl ?_
  refine Qr tt 2 rfl ?_
  refine kd ((Qc rfl rfl (decide_eq_true (by omega)) (Qw tt rfl rfl))) rfl ?_
  refine Qq tt rfl ?_
  refine kd ((Qc rfl rfl (decide_eq_true (by omega)) (Qw tt rfl rfl))) rfl ?_
  refine Qq tt rfl ?_
  refine kd ((Qc rfl rfl (decide_eq_true (by omega)) (Qw tt rfl rfl))) rfl ?_
  refine Qq tt rfl ?_
  refine kd ((Qc rfl rfl (decide_eq_true (by omega)) (Qi (k) V0 Wb rfl rfl (rfl) (Qg hp) rfl rfl))) rfl ?_
  refine Qq tt rfl ?_
  refine kd ((Qc rfl rfl (decide_eq_true (by omega)) (Qw tt rfl rfl))) rfl ?_
  refine Qq tt rfl ?_
  refine kd ((Qc rfl rfl (decide_eq_true (by omega)) (Qw tt rfl rfl))) rfl ?_
  refine Qq tt rfl ?_
  refine kd ((Qc rfl rfl (decide_eq_true (by omega)) (Qw tt rfl rfl))) rfl ?_
  refine Qq tt rfl ?_
  refine kd ((Qc rfl rfl (decide_eq_true (by omega)) (Qw tt rfl rfl))) rfl ?_
  refine Qq tt rfl ?_
  refine kd (Zs rfl (decide_eq_true (by omega)) rfl rfl) rfl ?_
  refine Qr tt 1 rfl ?_
  refine Qr tt 1 rfl ?_
  have hpos:=Qif hp1 (.inr ⟨p,hp,hid⟩)
  have hhas:has l id=decide (p.id=id):=by unfold has; rw [hpos,hp]
  exact kr2 tt [] rfl (by rw [hpos,hhas])
 skip
 refine Qr tt 3 rfl ?_
 refine Qf tt 2 [] (Qh (m:=l.length) V0 rfl (Vx _) rfl) rfl ?_
 refine Qf tt 0 [] (Qk rfl rfl (decide_eq_false (by omega)) rfl) rfl ?_
 refine Qf tt 0 [] (Qk rfl rfl (decide_eq_false (by omega)) rfl) rfl ?_
 refine Qf tt 0 [] (Qk rfl rfl (decide_eq_false (by omega)) rfl) rfl ?_
 refine Qf tt 0 [] (Qk rfl rfl (decide_eq_false (by omega)) rfl) rfl ?_
 refine Qf tt 0 [] (Qk rfl rfl (decide_eq_false (by omega)) rfl) rfl ?_
 refine Qf tt 0 [] (Qk rfl rfl (decide_eq_false (by omega)) rfl) rfl ?_
 refine Qf tt 0 [] (Qk rfl rfl (decide_eq_false (by omega)) rfl) rfl ?_
 refine Qf tt 0 [] (Qk rfl rfl (decide_eq_false (by omega)) rfl) rfl ?_
 refine Qf tt 0 [] (Zw rfl (decide_eq_false (by omega)) rfl rfl) rfl ?_
 refine Z8 tt 0 [] (rfl) rfl rfl ?_
 refine Qy 17 Qp rfl rfl rfl ?_
 refine Qr tt 4 rfl ?_
 refine kd (Qh (m:=l.length) V0 rfl (Vx _) rfl) rfl ?_
 refine Qr tt 2 rfl ?_
 refine kd (Qk rfl rfl (decide_eq_false (by omega)) rfl) rfl ?_
 refine Qq tt rfl ?_
 refine kd (Qk rfl rfl (decide_eq_false (by omega)) rfl) rfl ?_
 refine Qq tt rfl ?_
 refine kd (Qk rfl rfl (decide_eq_false (by omega)) rfl) rfl ?_
 refine Qq tt rfl ?_
 refine kd (Qk rfl rfl (decide_eq_false (by omega)) rfl) rfl ?_
 refine Qq tt rfl ?_
 refine kd (Qk rfl rfl (decide_eq_false (by omega)) rfl) rfl ?_
 refine Qq tt rfl ?_
 refine kd (Qk rfl rfl (decide_eq_false (by omega)) rfl) rfl ?_
 refine Qq tt rfl ?_
 refine kd (Qk rfl rfl (decide_eq_false (by omega)) rfl) rfl ?_
 refine Qq tt rfl ?_
 refine kd (Qk rfl rfl (decide_eq_false (by omega)) rfl) rfl ?_
 refine Qq tt rfl ?_
 refine kd (Zw rfl (decide_eq_false (by omega)) rfl rfl) rfl ?_
 refine Qr tt 1 rfl ?_
 refine Qr tt 1 rfl ?_
 have hk:k=l.length:=by omega
 have hpos:=Qif hp1 (.inl hk)
 have hhas:has l id=false:=by unfold has; rw [hpos,Eh (by omega)]
 exact kr2 tt [] rfl (by rw [hpos,hhas])
theorem Nu {l:List Pt}:Za Tryz.prog 197 [.agg [V5 l]] (.one (V5 l)):=by
 refine X4 tt 5 [] Tryz.func197 Tryz.ntmps197 rfl rfl rfl ?_
 exact Xp tt [] rfl (rfl)
theorem Dk {lx ly:List (List LV)} {px py:List Int} {b:Bool} {ll:List Nat} {d id:Int} {l:List Pt} (hx:IsInts lx px) (hy:IsInts ly py) (hd:Yx (.bool b) (Xv ll) d) (hk:Cs 4294967294 1073741824 (Crv.mk px py d)) (hl:l.length≤1000000):Za Tryz.prog 119 [.agg [V5 l],.agg [.row lx,.row ly,.bool b,Xv ll,.int .i64 id]] (.tup [.agg [V5 ((if Tf l (Pt.mk (Crv.norm (Crv.mk px py d)) id)=0 then put l (Pt.mk (Crv.norm (Crv.mk px py d)) id) else l))],.one (.int .i64 (Tf l (Pt.mk (Crv.norm (Crv.mk px py d)) id)))]):=by
 refine X4 tt 0 [] Tryz.func119 Tryz.ntmps119 rfl rfl rfl ?_
 have hpl:=Qdg l id
 have htl:(l.take (pos l id)).length=pos l id:=by rw [Kd]; omega
 have hdl:(l.drop (pos l id)).length=l.length-pos l id:=Na ..
 by_cases h1:has l id=true
 ·skip
  refine Qr tt 2 rfl ?_
  refine Zn (Qn qFc rfl rfl fun g1=>ko ?_)
  refine Qr tt 4 rfl ?_
  refine kl tt 7 [] Tryz.func203 rfl rfl rfl (My (by omega)) rfl rfl ?_
  refine Xh tt 3 [0] (h1) rfl rfl ?_
  have he:Tf l (Pt.mk (Crv.norm (Crv.mk px py d)) id)=6:=by unfold Tf; rw [if_pos h1]
  exact kr2 tt [0] rfl (by rw [he]; rfl)
 replace h1:has l id=false:=by simpa using h1
 by_cases h2:6≤l.length
 refine Qq tt rfl ?_
 ·skip
  refine Qr tt 2 rfl ?_
  refine Zn (Qn qFc rfl rfl fun g2=>ko ?_)
  refine Qr tt 4 rfl ?_
  refine kl tt 7 [] Tryz.func203 rfl rfl rfl (My (by omega)) rfl rfl ?_
  refine Z8 tt 2 [] (h1) rfl rfl ?_
  refine Qf tt 2 [] (Qh (m:=l.length) V0 rfl (Vx _) rfl) rfl ?_
  refine Xh tt 3 [0] (decide_eq_true (by omega)) rfl rfl ?_
  have he:Tf l (Pt.mk (Crv.norm (Crv.mk px py d)) id)=9:=by unfold Tf; rw [if_neg (by rw [h1]; decide),if_pos h2]
  exact kr2 tt [0] rfl (by rw [he]; rfl)
 skip
 refine Qr tt 2 rfl ?_
 refine Zn (Qn qFc rfl rfl fun g3=>ko ?_)
 refine Qr tt 4 rfl ?_
 refine kl tt 7 [] Tryz.func203 rfl rfl rfl (My (by omega)) rfl rfl ?_
 refine Z8 tt 2 [] (h1) rfl rfl ?_
 refine Qf tt 2 [] (Qh (m:=l.length) V0 rfl (Vx _) rfl) rfl ?_
 refine Z8 tt 3 [] (decide_eq_false (by omega)) rfl rfl ?_
 refine kw (Yc (pos l id) V0 Wb rfl rfl rfl (by rw [Zr]; exact Qdg l id) (Jj l (fun _=>rfl)) (l':=(l.take (pos l id)).map Wp) (by rw [Ix]) rfl) ?_
 refine Zn (Rc (ls2:=(l.take (pos l id)).map Wp) (m2:=(l.take (pos l id)).length) V0 V0 Tryz.typeInfo76 rfl rfl Wb qWu rfl rfl rfl rfl rfl rfl rfl (Jj _ (fun _=>rfl)) (Wu _ (fun _=>rfl)) (by rw [Zr]; omega) (rfl) (Zr _) fun r4=>ko ?_)
 refine Qr tt 3 rfl ?_
 refine kl tt 1 [] Tryz.func204 rfl rfl rfl (Or hx hy hd (hk)) rfl rfl ?_
 refine Zn (Zg (ls2:=(l.take (pos l id)++[(Pt.mk (Crv.norm (Crv.mk px py d)) id)]).map Wp) (m2:=(l.take (pos l id)).length+1) 0 V0 V0 Tryz.typeInfo76 rfl rfl Wb qWu rfl rfl rfl rfl rfl rfl rfl (by rw [Zr]; omega) (Js rfl) (Jx rfl) (by show _+1<_; omega) (by rw [Y0 (by rw [Zr]; omega),F6]; rfl) (rfl) fun r5=>ko ?_)
 refine Qr tt 5 rfl ?_
 refine kw (Uv (pos l id) V0 Wb rfl rfl rfl (by rw [Zr]; exact Qdg l id) (Jj l (fun _=>rfl)) (l':=(l.drop (pos l id)).map Wp) (by rw [qJm]) rfl) ?_
 refine Zn (Zg (ls2:=(put l (Pt.mk (Crv.norm (Crv.mk px py d)) id)).map Wp) (m2:=(l.take (pos l id)).length+1+(l.drop (pos l id)).length) 0 V0 V0 Tryz.typeInfo76 rfl rfl Wb qWu rfl rfl rfl rfl rfl rfl rfl (by rw [Zr,Fl]; exact X2 _) (Jj _ (fun _=>rfl)) (Wu _ (fun _=>rfl)) (by rw [Zr]; omega) (by rw [Y0 (by rw [Zr,Fl]; exact X2 _),←F6,P6]; rfl) (by rw [Zr]) fun r6=>ko ?_)
 refine X5 (fun _ k_=>Xe 0 [40] rfl (Zc rfl) (by rw [Zr,Ed]; omega) (by rw [Zr,Ed]; omega) rfl (Qo k_)) rfl ?_
 refine Xu tt 3 [0] rfl ?_
 have he:Tf l (Pt.mk (Crv.norm (Crv.mk px py d)) id)=0:=by unfold Tf; rw [if_neg (by rw [h1]; decide),if_neg h2]
 exact kr2 tt [0] rfl (by rw [he]; rfl)
theorem Qfx:∀ (qs:List Pt),(Jk [] qs).1.length≤qs.length:=by
 have key:∀ (qs acc:List Pt),(Jk acc qs).1.length≤acc.length+qs.length:=by
  intro qs
  induction qs with
  | nil=>intro acc; simp [Jk]
  | cons q qs ih =>
   intro acc
   simp only [Jk]
   split
   ·have:=ih (put acc q); rw [Ed] at this; simp only [qXe]; omega
   ·simp
 intro qs
 have:=key qs []
 simpa using this
theorem Qew {zs:List (List LV)} {qs:List Pt} (hz:IsPts 4294967294 1073741824 zs qs) (hl:qs.length≤6):Za Tryz.prog 114 [.one (.row zs)] (.tup [.agg [V5 ((Jk [] qs).1)],.one (.int .i64 ((Jk [] qs).2))]):=by
 refine X4 tt 0 [] Tryz.func114 Tryz.ntmps114 rfl rfl rfl ?_
 refine Zn (Qn qFc rfl rfl fun g1=>ko ?_)
 refine Qr tt 2 rfl ?_
 refine Qf tt 1 [] (Qh (m:=qs.length) V0 rfl (by simp only [Vq]; rw [hz.len]) rfl) rfl ?_
 refine Z8 tt 0 [] (decide_eq_false (by omega)) rfl rfl ?_
 refine Zn (Qn qFc rfl rfl fun g2=>ko ?_)
 refine Qr tt 1 rfl ?_
 refine Qf tt 1 [] (Qh (m:=qs.length) V0 rfl (by simp only [Vq]; rw [hz.len]) rfl) rfl ?_
 refine X5 (fun _ k_=>Vn (ys:=[V5 ((Jk [] (qs.take 0)).1)]) 0 rfl rfl rfl (Qo k_)) rfl ?_
 refine Qj [2,3,4,12,13,14] rfl rfl ?_
 refine Zl (fun m L B=>∃ i,i≤qs.length∧(Jk [] (qs.take i)).2=0∧m=qs.length-i∧L=[(2,.one (.ow g1 0)),(3,.one (.int .i64 0)),(4,.one (.ow g2 0)),(12,.one (.row zs)),(13,.one (.int .i64 (((qs.length:Nat):Int)))),(14,.one (.int .i64 ((i:Int))))]∧B=[.blk g2 106 [V5 ((Jk [] (qs.take i)).1)],.blk g1 106 [.nils]]) (m:=_) ⟨0,K6 _,rfl,rfl,rfl,rfl⟩ ?_
 rintro m L B ⟨i,hp0,hp1,hm,rfl,rfl⟩
 refine Qq tt rfl ?_
 by_cases hlt:i<qs.length
 ·have hqi:qs[i]? = some qs[i]:=Xx hlt
  obtain ⟨z,hz,lx,ly,b,ll,px,py,d,rfl,hx,hy,hd,hk,hc⟩:=hz.get hqi
  have hq:(Pt.mk (Crv.norm (Crv.mk px py d)) qs[i].id)=qs[i]:=by rw [←hc]
  have hst:=Ql6 [] qs hqi (by rw [←hp1])
  have hnl:=Qfx (qs.take i)
  rw [Kd,Nb hp0] at hnl
  by_cases he:Tf (Jk [] (qs.take i)).1 (Pt.mk (Crv.norm (Crv.mk px py d)) qs[i].id)=0
  refine Qq tt rfl ?_
  ·have hstep:(Jk [] (qs.take (i+1))).1=put (Jk [] (qs.take i)).1 (Pt.mk (Crv.norm (Crv.mk px py d)) qs[i].id):=by rw [hst,←hq,if_pos he]
   have hst2:(Jk [] (qs.take (i+1))).2=0:=by rw [hst,←hq,if_pos he]
   refine Qr tt 1 rfl ?_
   refine Xh tt 0 [] (decide_eq_true (by omega)) rfl rfl ?_
   refine Qf tt 1 [] (Qi (i) V0 Wb rfl rfl (rfl) (hz) rfl rfl) rfl ?_
   refine Zn (Qn qWu rfl rfl fun g3=>ko ?_)
   refine Xu tt 4 [0,1,0] rfl ?_
   refine kl tt 7 [1] Tryz.func119 rfl rfl rfl (Dk hx hy hd (hk) (by omega)) rfl rfl ?_
   refine Z8 tt 0 [] (decide_eq_false (fun h=>h he)) rfl rfl ?_
   refine Qf tt 1 [] (Zb (r:=((i+1:Nat):Int)) rfl rfl (Qm (by omega) (by omega)) rfl) rfl ?_
   refine X5 (fun _ k_=>Vn (ys:=[V5 ((Jk [] (qs.take (i+1))).1)]) 1 rfl rfl (by rw [if_pos he,hstep]) (Qo k_)) rfl ?_
   refine Qj [2,3,4,12,13,14] rfl rfl ?_
   refine Yt 1 rfl rfl ?_
   refine Q8 ?_
   refine ⟨_,?_,i+1,by omega,hst2,rfl,rfl,rfl⟩
   omega
  have herr:Jk [] qs=([],Tf (Jk [] (qs.take i)).1 (Pt.mk (Crv.norm (Crv.mk px py d)) qs[i].id)):=Qoo [] qs he (by rw [hst,←hq,if_neg he])
  refine Qr tt 1 rfl ?_
  refine Xh tt 0 [] (decide_eq_true (by omega)) rfl rfl ?_
  refine Qf tt 1 [] (Qi (i) V0 Wb rfl rfl (rfl) (hz) rfl rfl) rfl ?_
  refine Zn (Qn qWu rfl rfl fun g4=>ko ?_)
  refine Xu tt 4 [0,1,0] rfl ?_
  refine kl tt 7 [1] Tryz.func119 rfl rfl rfl (Dk hx hy hd (hk) (by omega)) rfl rfl ?_
  refine Xh tt 4 [2] (decide_eq_true he) rfl rfl ?_
  exact kr2 tt [2] rfl (by rw [herr]; rfl)
 skip
 refine Qr tt 1 rfl ?_
 refine Z8 tt 3 [0,1] (decide_eq_false (by omega)) rfl rfl ?_
 have hi:qs.take i=qs:=Y0 (by omega)
 rw [hi] at hp1
 exact kr2 tt [1] rfl (by rw [hi,hp1])
end Orr

namespace Orr
open Go Go.Proofs
theorem Qk2 (q:Rat):Yw [-q.num,(q.den:Int)]:=by
 unfold Yw
 simp [trim,q.den_nz]
theorem Qw8 {q:Rat} {s:Nat} (h:Qs s q):Bd s [-q.num,(q.den:Int)]:=by
 intro z hz
 simp only [Vw,No,or_false] at hz
 rcases hz with rfl | rfl
 ·rw [Xg]; exact h.1
 exact h.2
set_option maxRecDepth 20000 in
theorem Qnq {b1 b2:Bool} {l1 l2:List Nat} {n d:Int} (h1:Yx (.bool b1) (Xv l1) n) (h2:Yx (.bool b2) (Xv l2) d) (hn:Xj n≤4294967295) (hd:Xj d≤4294967295) (hq:Qs 4294967295 (Qz n d)):Za Tryz.prog 115 [.agg [.bool b1,Xv l1,.bool b2,Xv l2]] (.agg [pl ([-((Qz n d)).num,(((Qz n d)).den:Int)]),sg ((((Qz n d))).num),mg ((((Qz n d))).num),sg (((((Qz n d))).den:Int)),mg (((((Qz n d))).den:Int)),sg ((((Qz n d))).num),mg ((((Qz n d))).num),sg (((((Qz n d))).den:Int)),mg (((((Qz n d))).den:Int))]):=by
 refine X4 tt 0 [] Tryz.func115 Tryz.ntmps115 rfl rfl rfl ?_
 refine Zn (Yy rfl rfl rfl fun g1=>ko ?_)
 refine Zn (Qn qFe rfl rfl fun g2=>ko ?_)
 refine Xu tt 1 [1] rfl ?_
 refine kl tt 1 [1] qGp rfl rfl rfl (Dn h1 h2 hn hd) rfl rfl ?_
 refine Qy 9 Qp rfl rfl rfl ?_
 refine Xu tt 2 [1] rfl ?_
 refine Yv tt 5 [1,1,1] qGq rfl rfl rfl (Ga (Zm _) (hq.1)) rfl rfl ?_
 refine Yv tt 2 [0] qGp rfl rfl rfl (Gt hq) rfl rfl ?_
 exact Xp tt [0] rfl (rfl)
set_option maxRecDepth 20000 in
theorem T8 {q:Rat} (hq:Qs 4294967295 q):Za Tryz.prog 239 [.agg [pl ([-q.num,(q.den:Int)]),sg q.num,mg q.num,sg ((q.den:Int)),mg ((q.den:Int)),sg q.num,mg q.num,sg ((q.den:Int)),mg ((q.den:Int))]] (.agg [pl ([-q.num,(q.den:Int)]),sg q.num,mg q.num,sg ((q.den:Int)),mg ((q.den:Int)),sg q.num,mg q.num,sg ((q.den:Int)),mg ((q.den:Int))]):=by
 refine X4 tt 1 [] Tryz.func239 Tryz.ntmps239 rfl rfl rfl ?_
 refine Zn (Qn qFe rfl rfl fun g1=>ko ?_)
 refine Qq tt rfl ?_
 refine Qy 8 Qp rfl rfl rfl ?_
 refine Qr tt 2 rfl ?_
 refine Yv tt 2 [] qUd rfl rfl rfl (Wl (Qk2 q) (show 2<274877906944 by decide) (Qw8 hq)) rfl rfl ?_
 refine Yv tt 2 [] qGp rfl rfl rfl (Gt (hq)) rfl rfl ?_
 refine Qq tt rfl ?_
 refine kl tt 2 [0] qGp rfl rfl rfl (Gt (hq)) rfl rfl ?_
 exact Xp tt [0] rfl (rfl)
theorem Qcf {q:Rat} (hq:Qs 4294967295 q):Za Tryz.prog 315 [.agg [pl ([-q.num,(q.den:Int)]),sg q.num,mg q.num,sg ((q.den:Int)),mg ((q.den:Int)),sg q.num,mg q.num,sg ((q.den:Int)),mg ((q.den:Int))]] (.agg [pl ([-q.num,(q.den:Int)]),sg q.num,mg q.num,sg ((q.den:Int)),mg ((q.den:Int)),sg q.num,mg q.num,sg ((q.den:Int)),mg ((q.den:Int))]):=by
 refine X4 tt 1 [] Tryz.func315 Tryz.ntmps315 rfl rfl rfl ?_
 refine Zn (Qn qFe rfl rfl fun g1=>ko ?_)
 refine Qr tt 1 rfl ?_
 refine kl tt 1 [0] Tryz.func239 rfl rfl rfl (T8 (hq)) rfl rfl ?_
 exact Xp tt [0] rfl (rfl)
theorem Qcg {q:Rat} (hq:Qs 2147483647 q):Za Tryz.prog 240 [.agg [pl ([-q.num,(q.den:Int)]),sg q.num,mg q.num,sg ((q.den:Int)),mg ((q.den:Int)),sg q.num,mg q.num,sg ((q.den:Int)),mg ((q.den:Int))]] (.one (.bool true)):=by
 refine X4 tt 6 [] Tryz.func240 Tryz.ntmps240 rfl rfl rfl ?_
 refine kl tt 2 [] Tryz.func269 rfl rfl rfl (Qe0 (hq) (hq)) rfl rfl ?_
 exact Xp tt [] rfl (by rw [Qae]; rfl)
theorem Qev {p:List Int} {q:Rat} (tp:Yw p) (hl:p.length≤64) (hp:Bd 16780000 p) (hq:Qb q):Za Tryz.prog 168 [.one (pl p),.agg [pl ([-q.num,(q.den:Int)]),sg q.num,mg q.num,sg ((q.den:Int)),mg ((q.den:Int)),sg q.num,mg q.num,sg ((q.den:Int)),mg ((q.den:Int))]] (.one (.int .i64 (Ff p q))):=by
 refine X4 tt 0 [] Tryz.func168 Tryz.ntmps168 rfl rfl rfl ?_
 have hmm:p.length*(16777216+1)≤64*(16777216+1):=O8 _ hl
 rcases Hl p.length with h0 | h0
 ·skip
  refine Qq tt rfl ?_
  refine Zn (Yy rfl rfl rfl fun g1=>ko ?_)
  refine Qr tt 1 rfl ?_
  refine Qy 3 Qp rfl rfl rfl ?_
  refine Qr tt 1 rfl ?_
  refine Yv tt 1 [0] qUd rfl rfl rfl (Wl (tp) (by omega) (Q7 hp (by omega))) rfl rfl ?_
  refine Qq tt rfl ?_
  refine kl tt 3 [0] Tryz.func239 rfl rfl rfl (T8 (hq.mono (by omega))) rfl rfl ?_
  refine Qf tt 1 [] (Qh (m:=p.length) Wr rfl (Y6 _) rfl) rfl ?_
  refine Xh tt 1 [] (decide_eq_true (by omega)) rfl rfl ?_
  exact Xp tt [] rfl (by rw [P5 h0]; rfl)
 skip
 refine Qq tt rfl ?_
 refine Zn (Yy rfl rfl rfl fun g2=>ko ?_)
 refine Qr tt 1 rfl ?_
 refine Qy 3 Qp rfl rfl rfl ?_
 refine Qr tt 1 rfl ?_
 refine Yv tt 1 [0] qUd rfl rfl rfl (Wl (tp) (by omega) (Q7 hp (by omega))) rfl rfl ?_
 refine Qq tt rfl ?_
 refine kl tt 3 [0] Tryz.func239 rfl rfl rfl (T8 (hq.mono (by omega))) rfl rfl ?_
 refine Qf tt 1 [] (Qh (m:=p.length) Wr rfl (Y6 _) rfl) rfl ?_
 refine Z8 tt 1 [0] (decide_eq_false (by omega)) rfl rfl ?_
 refine kl tt 0 [] Tryz.func240 rfl rfl rfl (Qcg (hq.mono (by omega))) rfl rfl ?_
 refine Xh tt 3 [0] (rfl) rfl rfl ?_
 refine kl tt 1 [] Tryz.func241 rfl rfl rfl (Qey (tp) (by omega) (hp) (hq) (by omega)) rfl rfl ?_
 exact Xp tt [] rfl (rfl)
theorem Qhh {p:List Int} {q:Rat} (tp:Yw p) (hl:p.length≤64) (hp:Bd 16780000 p) (hq:Qb q):Za Tryz.prog 167 [.one (pl p),.one (.sh [pl ([-q.num,(q.den:Int)]),sg q.num,mg q.num,sg ((q.den:Int)),mg ((q.den:Int)),sg q.num,mg q.num,sg ((q.den:Int)),mg ((q.den:Int))])] (.one (.int .i64 (Ff p q))):=by
 refine X4 tt 3 [] Tryz.func167 Tryz.ntmps167 rfl rfl rfl ?_
 refine kl tt 1 [] Tryz.func168 rfl rfl rfl (Qev (tp) (hl) (hp) (hq)) rfl rfl ?_
 exact Xp tt [] rfl (rfl)
theorem Qci {p:List Int} {fid:Nat} {pre post:List LV} {fn:Func} {sgn:List Int→Int} (hp:Pb p) (hfn:Tryz.prog.funcs[fid]? = some fn) (hnm:(fn.name == "runtime.NumGoroutine")=false) (hbd:fn.body.isNone=false)
  (hf:∀ p:List Int,Yw p→p.length≤64→Bd 16780000 p→Za Tryz.prog fid (pre.map .one++[.one (pl p)]++post.map .one) (.one (.int .i64 (sgn p)))):Za Tryz.prog 166 [.one (pl p),.one (.fn fid pre post)] (.one (.int .i64 (V8 sgn p.length p))):=by
 refine X4 tt 2 [] Tryz.func166 Tryz.ntmps166 rfl rfl rfl ?_
 refine kl tt 1 [] qUd rfl rfl rfl (Wl (hp.t) (qZu hp.l (by decide)) (Q7 hp.b (by omega))) rfl rfl ?_
 refine Qj [0,1] rfl rfl ?_
 refine Zl (fun m L B=>∃ p' k,Yw p'∧p'.length+k≤64∧Bd (16777216+7*k) p'∧V8 sgn p'.length p'=V8 sgn p.length p∧m=p'.length∧L=[(0,.one (pl p')),(1,.one (.fn fid pre post))]∧B=[]) (m:=_) ⟨p,0,hp.t,hp.l,hp.b,rfl,rfl,rfl,rfl⟩ ?_
 rintro m L B ⟨p',k,hp0,hp1,hp2,hp3,hm,rfl,rfl⟩
 refine Qq tt rfl ?_
 by_cases h0:0<p'.length
 ·by_cases hs:sgn p'=0
  refine Qq tt rfl ?_
  ·skip
   refine Qr tt 1 rfl ?_
   refine Qf tt 1 [] (Qh (m:=p'.length) Wr rfl (Y6 _) rfl) rfl ?_
   refine Xh tt 2 [] (decide_eq_true (by omega)) rfl rfl ?_
   refine Qf tt 3 [] (In rfl hfn hnm hbd rfl rfl (hf p' hp0 (by omega) (Q7 hp2 (by omega))) rfl) rfl ?_
   refine Z8 tt 1 [] (decide_eq_false (fun h=>h hs)) rfl rfl ?_
   refine kl tt 1 [] Tryz.func238 rfl rfl rfl (Ox (by omega) (Q7 hp2 (by omega))) rfl rfl ?_
   refine Qj [0,1] rfl rfl ?_
   refine Q8 ?_
   refine ⟨_,?_,Wz p',k+1,Ky _ _,by have:=W8 p'; omega,Q7 (Qcb (t:=7) hp2 (by show p'.length≤128; omega)) (by omega),by rw [←hp3,Dw sgn h0 hs],rfl,rfl,rfl⟩
   have:=W8 p'; omega
  skip
  refine Qr tt 1 rfl ?_
  refine Qf tt 1 [] (Qh (m:=p'.length) Wr rfl (Y6 _) rfl) rfl ?_
  refine Xh tt 2 [] (decide_eq_true (by omega)) rfl rfl ?_
  refine Qf tt 3 [] (In rfl hfn hnm hbd rfl rfl (hf p' hp0 (by omega) (Q7 hp2 (by omega))) rfl) rfl ?_
  refine Xh tt 2 [] (decide_eq_true hs) rfl rfl ?_
  exact Xp tt [] rfl (by rw [←hp3,Dv sgn h0 hs])
 skip
 refine Qr tt 1 rfl ?_
 refine Qf tt 1 [] (Qh (m:=p'.length) Wr rfl (Y6 _) rfl) rfl ?_
 refine Z8 tt 1 [] (decide_eq_false (by omega)) rfl rfl ?_
 exact Xp tt [] rfl (by rw [←hp3,Dx sgn (by omega)])
theorem E4 {p:List Int} {q:Rat} (hp:Pb p) (hq:Qb q):Za Tryz.prog 99 [.one (pl p),.agg [pl ([-q.num,(q.den:Int)]),sg q.num,mg q.num,sg ((q.den:Int)),mg ((q.den:Int)),sg q.num,mg q.num,sg ((q.den:Int)),mg ((q.den:Int))]] (.one (.int .i64 (Fb p q))):=by
 refine X4 tt 4 [] Tryz.func99 Tryz.ntmps99 rfl rfl rfl ?_
 refine kl tt 1 [] Tryz.func166 rfl rfl rfl (Qci (sgn:=fun p=>Ff p q) hp Tryz.func167 rfl rfl (fun p h1 h2 h3=>Qhh h1 h2 h3 hq)) rfl rfl ?_
 exact Xp tt [] rfl (rfl)
theorem Hp {k:Crv} (hn:Nml k) (hk:Cs 4294967294 1073741824 k):Za Tryz.prog 170 [.agg [pl k.x,pl k.y,sg k.d,mg k.d]] (.agg [pl k.x,pl k.y,sg k.d,mg k.d]):=by
 refine X4 tt 0 [] Tryz.func170 Tryz.ntmps170 rfl rfl rfl ?_
 have h0:¬(k.d=0):=by have:=hn.2.2.1; omega
 skip
 refine Qr tt 1 rfl ?_
 refine Zn (Qn qWw rfl rfl fun g1=>ko ?_)
 refine Qr tt 2 rfl ?_
 refine Zn (Qn Ko rfl rfl fun g2=>ko ?_)
 refine Xu tt 2 [0,0] rfl ?_
 refine kl tt 0 [] qUl rfl rfl rfl (Jf (Zm _) (Xd hk.d (by omega))) rfl rfl ?_
 refine kl tt 0 [] qUm rfl rfl rfl ((Uc _) ) rfl rfl ?_
 refine Z8 tt 5 [0] (decide_eq_false h0) rfl rfl ?_
 refine kl tt 3 [] Tryz.func253 rfl rfl rfl (R2 (Y2 k.x) (Y2 k.y) (Zm k.d) hk h0) rfl rfl ?_
 refine Zn (Qn qWw rfl rfl fun g3=>ko ?_)
 refine Xu tt 4 [0,0,2] rfl ?_
 exact Xp tt [2] rfl (by rw [show Crv.mk k.x k.y k.d=k from rfl,Crv.norm_of hn])
set_option maxRecDepth 20000 in
theorem Nz {a b:Crv} (ha:Nml a) (hb:Nml b) (ca:Cb a) (cb:Cb b):Za Tryz.prog 159 [.agg [pl a.x,pl a.y,sg a.d,mg a.d],.agg [pl b.x,pl b.y,sg b.d,mg b.d]] (.one (pl (Yk a b))):=by
 refine X4 tt 0 [] Tryz.func159 Tryz.ntmps159 rfl rfl rfl ?_
 refine Zn (Yy rfl rfl rfl fun g1=>ko ?_)
 refine Zn (Yy rfl rfl rfl fun g2=>ko ?_)
 refine Qr tt 1 rfl ?_
 refine Qy 3 Qp rfl rfl rfl ?_
 refine Xu tt 1 [1] rfl ?_
 refine Yv tt 1 [0] Tryz.func170 rfl rfl rfl (Hp (ha) (ca.mono (by omega) (by omega))) rfl rfl ?_
 refine Qq tt rfl ?_
 refine kl tt 2 [1,0] Tryz.func170 rfl rfl rfl (Hp (hb) (cb.mono (by omega) (by omega))) rfl rfl ?_
 refine Qy 9 Qp rfl rfl rfl ?_
 refine Xu tt 4 [0,1] rfl ?_
 refine Yv tt 4 [1,0] Tryz.func172 rfl rfl rfl (Gs (qZu cb.lx (by decide)) (Q7 cb.x (by omega)) (Xd ca.d (by omega))) rfl rfl ?_
 refine Qq tt rfl ?_
 refine kl tt 0 [] Tryz.func172 rfl rfl rfl (Gs (qZu ca.lx (by decide)) (Q7 ca.x (by omega)) (Xd cb.d (by omega))) rfl rfl ?_
 refine kl tt 1 [] Tryz.func171 rfl rfl rfl (E8 (qZu (Xd (X1 _ _) cb.lx) (by decide)) (qZu (Xd (X1 _ _) ca.lx) (by decide)) (Q7 (Jz cb.x ca.d) (by decide)) (Q7 (Jz ca.x cb.d) (by decide))) rfl rfl ?_
 exact Xp tt [] rfl (rfl)
set_option maxRecDepth 20000 in
theorem Nx {a b:Crv} (ha:Nml a) (hb:Nml b) (ca:Cb a) (cb:Cb b):Za Tryz.prog 160 [.agg [pl a.x,pl a.y,sg a.d,mg a.d],.agg [pl b.x,pl b.y,sg b.d,mg b.d]] (.one (pl (J2 a b))):=by
 refine X4 tt 0 [] Tryz.func160 Tryz.ntmps160 rfl rfl rfl ?_
 refine Zn (Yy rfl rfl rfl fun g1=>ko ?_)
 refine Zn (Yy rfl rfl rfl fun g2=>ko ?_)
 refine Qr tt 1 rfl ?_
 refine Qy 3 Qp rfl rfl rfl ?_
 refine Xu tt 1 [1] rfl ?_
 refine Yv tt 1 [0] Tryz.func170 rfl rfl rfl (Hp (ha) (ca.mono (by omega) (by omega))) rfl rfl ?_
 refine Qq tt rfl ?_
 refine kl tt 2 [1,0] Tryz.func170 rfl rfl rfl (Hp (hb) (cb.mono (by omega) (by omega))) rfl rfl ?_
 refine Qy 9 Qp rfl rfl rfl ?_
 refine Xu tt 4 [0,1] rfl ?_
 refine Yv tt 4 [1,0] Tryz.func172 rfl rfl rfl (Gs (qZu cb.ly (by decide)) (Q7 cb.y (by omega)) (Xd ca.d (by omega))) rfl rfl ?_
 refine Qq tt rfl ?_
 refine kl tt 0 [] Tryz.func172 rfl rfl rfl (Gs (qZu ca.ly (by decide)) (Q7 ca.y (by omega)) (Xd cb.d (by omega))) rfl rfl ?_
 refine kl tt 1 [] Tryz.func171 rfl rfl rfl (E8 (qZu (Xd (X1 _ _) cb.ly) (by decide)) (qZu (Xd (X1 _ _) ca.ly) (by decide)) (Q7 (Jz cb.y ca.d) (by decide)) (Q7 (Jz ca.y cb.d) (by decide))) rfl rfl ?_
 exact Xp tt [] rfl (rfl)
theorem Qcm {q:Rat} {a b:Pt} {ps:List (List Int)} (hps:∀ p∈ps,Pb p) (hq:Qb q) (hl:ps.length<1000):Za Tryz.prog 158 [.agg [pl ([-q.num,(q.den:Int)]),sg q.num,mg q.num,sg ((q.den:Int)),mg ((q.den:Int)),sg q.num,mg q.num,sg ((q.den:Int)),mg ((q.den:Int))],.agg [pl a.c.x,pl a.c.y,sg a.c.d,mg a.c.d,.int .i64 a.id],.agg [pl b.c.x,pl b.c.y,sg b.c.d,mg b.c.d,.int .i64 b.id],.one (pls ps)] (.one (.bool (Gj q a b ps))):=by
 refine X4 tt 5 [] Tryz.func158 Tryz.ntmps158 rfl rfl rfl ?_
 refine Qf tt 1 [] (Qh (m:=ps.length) Tryz.runUnderlying287 rfl (Qpe _) rfl) rfl ?_
 refine Qj [4,5,6,11,12,13] rfl rfl ?_
 refine Zl (fun m L B=>∃ i,i≤ps.length∧(∀ j p,j<i→ps[j]? = some p→p.length=0)∧m=ps.length-i∧L=[(4,.one (.sh [pl ([-q.num,(q.den:Int)]),sg q.num,mg q.num,sg ((q.den:Int)),mg ((q.den:Int)),sg q.num,mg q.num,sg ((q.den:Int)),mg ((q.den:Int))])),(5,.one (.sh [pl a.c.x,pl a.c.y,sg a.c.d,mg a.c.d,.int .i64 a.id])),(6,.one (.sh [pl b.c.x,pl b.c.y,sg b.c.d,mg b.c.d,.int .i64 b.id])),(11,.one (pls ps)),(12,.one (.int .i64 (((ps.length:Nat):Int)))),(13,.one (.int .i64 ((i:Int))))]∧B=[]) (m:=_) ⟨0,K6 _,fun j p hj=>absurd hj (qVx _),rfl,rfl,rfl⟩ ?_
 rintro m L B ⟨i,hp0,hp1,hm,rfl,rfl⟩
 refine Qq tt rfl ?_
 have hdr:=D3 q a b hp1
 by_cases hlt:i<ps.length
 ·obtain ⟨p,hp⟩:∃ p,ps[i]? = some p:=⟨_,Xx hlt⟩
  have hpb:=hps p (Vo hp)
  by_cases h0:0<p.length
  refine Qq tt rfl ?_
  ·skip
   refine Qr tt 1 rfl ?_
   refine Xh tt 0 [] (decide_eq_true (by omega)) rfl rfl ?_
   refine Qf tt 3 [] (Qi (i) Tryz.runUnderlying287 qUb rfl rfl (rfl) (Qg hp) rfl rfl) rfl ?_
   refine Qf tt 1 [] (Qh (m:=p.length) Wr rfl (Y6 _) rfl) rfl ?_
   refine Xh tt 2 [] (decide_eq_true (by omega)) rfl rfl ?_
   refine kl tt 2 [] Tryz.func99 rfl rfl rfl (E4 (hpb) (hq)) rfl rfl ?_
   exact Xp tt [] rfl (by rw [hdr,Ql9 q a b hp h0])
  skip
  refine Qr tt 1 rfl ?_
  refine Xh tt 0 [] (decide_eq_true (by omega)) rfl rfl ?_
  refine Qf tt 3 [] (Qi (i) Tryz.runUnderlying287 qUb rfl rfl (rfl) (Qg hp) rfl rfl) rfl ?_
  refine Qf tt 1 [] (Qh (m:=p.length) Wr rfl (Y6 _) rfl) rfl ?_
  refine Z8 tt 0 [] (decide_eq_false (by omega)) rfl rfl ?_
  refine Qf tt 1 [] (Zb (r:=((i+1:Nat):Int)) rfl rfl (Qm (by omega) (by omega)) rfl) rfl ?_
  refine Qj [4,5,6,11,12,13] rfl rfl ?_
  refine Q8 ?_
  refine ⟨_,?_,i+1,by omega,fun j r hj hr=>by
    rcases Mq j i with h1 | h1
    ·exact hp1 j r h1 hr
    ·rw [show j=i from by omega,hp] at hr; injection hr with hr; rw [←hr]; omega,rfl,rfl,rfl⟩
  omega
 skip
 refine Qr tt 1 rfl ?_
 refine Z8 tt 6 [] (decide_eq_false (by omega)) rfl rfl ?_
 exact Xp tt [] rfl (by rw [hdr,Ll (by omega)]; rfl)
set_option maxRecDepth 20000 in
theorem Ny {a b:Pt} {q:Rat} (ha:Nml a.c) (hb:Nml b.c) (ca:Cb a.c) (cb:Cb b.c) (hq:Qb q):Za Tryz.prog 98 [.agg [pl a.c.x,pl a.c.y,sg a.c.d,mg a.c.d,.int .i64 a.id],.agg [pl b.c.x,pl b.c.y,sg b.c.d,mg b.c.d,.int .i64 b.id],.agg [pl ([-q.num,(q.den:Int)]),sg q.num,mg q.num,sg ((q.den:Int)),mg ((q.den:Int)),sg q.num,mg q.num,sg ((q.den:Int)),mg ((q.den:Int))]] (.one (.bool (Dh q a b))):=by
 refine X4 tt 4 [] Tryz.func98 Tryz.ntmps98 rfl rfl rfl ?_
 refine Qy 14 Qp rfl rfl rfl ?_
 refine Qr tt 7 rfl ?_
 refine Yv tt 4 [] Tryz.func160 rfl rfl rfl (Nx (hb) (ha) (cb) (ca)) rfl rfl ?_
 refine Yv tt 1 [] Tryz.func159 rfl rfl rfl (Nz (hb) (ha) (cb) (ca)) rfl rfl ?_
 refine Qq tt rfl ?_
 refine kl tt 1 [] Tryz.func158 rfl rfl rfl (Qcm (ps:=[(J2 b.c a.c),(Yk b.c a.c)]) (by intro p hp; simp only [Vw,No,or_false] at hp; rcases hp with rfl | rfl; exact (Ip cb ca).1; exact (Iq cb ca).1) (hq) (show 2<1000 by decide)) rfl rfl ?_
 exact Xp tt [] rfl (rfl)
end Orr
