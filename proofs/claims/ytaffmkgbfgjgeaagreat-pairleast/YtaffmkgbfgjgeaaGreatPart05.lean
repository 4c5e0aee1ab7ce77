/- Sy Sk Sc Ti Tt APoly ARatio ACurve ACrowd APred -/
import Derived.Test.YtaffmkgbfgjgeaaGreatPart02
import Derived.Test.YtaffmkgbfgjgeaaGreatPart00
import Derived.Test.YtaffmkgbfgjgeaaGreatProg
import Derived.Test.YtaffmkgbfgjgeaaGreatPart04
set_option linter.all false

namespace Orr
open Go
structure TI (P:Program) where
  t:TypeId
  ag:Bool
  sz:Nat
  un:TypeDesc
  z:Value
  fo:List Nat
  fv:List (Nat×Nat×Bool)
  bl:Option (List Value×(Nat→Option (Nat×Nat)))
  hag:∀ w,(isAgg t).run P w=.ok ag w
  hsz:∀ w,(Go.sizeOf t).run P w=.ok sz w
  hun:P.underlying t=some un
  hz:∀ w,(zeroValue t).run P w=.ok z w
  hfo:∀ f off,fo[f]? = some off→∀ b o w,(Instr.fieldAt t (.pointer (some ⟨b,o,none⟩)) f).run P w=.ok (.pointer (some ⟨b,o+off,none⟩)) w
  hfv:∀ f off m ag,fv[f]? = some (off,m,ag)→∀ (vs:List Value) (v:Value),(if ag=true then v=.agg ((vs.drop off).take m).toArray else vs[off]? = some v)→off+m≤vs.length→∀ w,(Instr.field t (.agg vs.toArray) f).run P w=.ok v w
  hbl:∀ zs pl,bl=some (zs,pl)→∀ {vs:List (Nat×Value)} {cs:Array Value},Instr.fill pl zs.toArray vs=some cs→∀ w,(Instr.build t vs.toArray).run P w=.ok (.agg cs) w
theorem TI.hu {P:Program} (i:TI P):∀ w,(underlying i.t).run P w=.ok i.un w:=by
  intro w
  simp only [underlying,Sem.run_bind,program]
  first
    | (simp [i.hun]; done)
    | (show ((match P.underlying i.t with | some d=>pure d | none=>stuck "no such type" : Sem TypeDesc)).run P w=_; rw [i.hun]; rfl)
inductive TT (P:Program) where
  | nil
  | nd (l:TT P) (i:TI P) (r:TT P)
def TT.find {P:Program}:TT P→Nat→Option (TI P)
  | .nil,_=>none
  |
   .nd l i r,t=>match Nat.beq t i.t with
   | true=>some i
   |
    false=>match Nat.blt t i.t with
    | true=>l.find t
    | false=>r.find t
theorem TT.find_t {P:Program}:∀ {T:TT P} {t:Nat} {i:TI P},T.find t=some i→i.t=t
  | .nil,_,_,h=>by cases h
  |
   .nd l j r,t,i,h=>by
   simp only [TT.find] at h
   split at h
   · rename_i e
     injection h with h; subst h
     exact (Fg e).symm
   · split at h
     · exact TT.find_t h
     · exact TT.find_t h
structure FT (P:Program) where
  ok:Nat→Bool
  h:∀ f,ok f=true→∃ fn,P.funcs[f]? = some fn∧(fn.name == "runtime.NumGoroutine")=false∧fn.body.isNone=false
inductive Eq1 where
  | no
  | eq (a b:Nat)
def Eq1.ok:Eq1→Prop
  | .no=>True
  | .eq a b=>a=b
variable {P:Program} {ops:Array Oper} {n:Nat} {L:Sg} {B:List OB} {d:Nat} {ty:TypeId} {pos:String} {after:Array Edge}
section
variable (T:TT P) (L:Sg) (B:List OB) (hs:List Nat)
def no3 (u:Option AV):Option (AV×List Nat×Eq1):=match u with
  | some u=>some (u,hs,.no)
  | none=>none
def Qkh (ti:TI P):Option AV→Option (AV×List Nat×Eq1)
  |
   some (.one (.sh l))=>match M1 ti.sz l with
   | some r=>no3 hs (Uf ti.ag r)
   | none=>none
  |
   some (.one (.ow g o))=>match hs with
   | []=>none
   |
    i::hs=>match Jg B i with
    |
     some (.blk g' _ xs,_)=>match Qf6 xs o ti.sz with
     |
      some r=>match Uf ti.ag r with
      | some u=>some (u,hs,.eq g' g)
      | none=>none
     | none=>none
    | _=>none
  | _=>none
def Qd4 (off:Nat):Option AV→Option AV
  |
   some (.one (.sh l))=>match S7 off l with
   | some r=>some (.one (.sh r))
   | none=>none
  | some (.one (.ow g o))=>some (.one (.ow g (o+off)))
  | some (.one (.oel r sz i o))=>some (.one (.oel r sz i (o+off)))
  | _=>none
def Qqh (op:BinOp) (ti:TI P):Option AV→Option AV→Option AV
  |
   some (.one (.int kd p)),some (.one (.int kd' q))=>match decide (kd=kd') with
   |
    true=>match Qmn op p q with
    | some b=>some (.one (.bool b))
    | none=>none
   | false=>none
  |
   some (.one (.bool p)),some (.one (.bool q))=>match ti.un,op with
   | .bool,.eql=>some (.one (.bool (p == q)))
   | .bool,.neq=>some (.one (.bool (!(p == q))))
   | _,_=>none
  |
   some (.one u),some (.one .nilp)=>match ti.un with
   |
    .pointer _=>match Ro u with
    |
     some b=>match op with
     | .eql=>some (.one (.bool b))
     | .neq=>some (.one (.bool (!b)))
     | _=>none
    | none=>none
   | _=>none
  | _,_=>none
def syV:Op→Option (AV×List Nat×Eq1)
  | .move x=>no3 hs (Yf L x)
  | .assign x=>no3 hs (Yf L x)
  |
   .nilCheck x=>match Yf L x with
   |
    some u=>match Qj7 u with
    | true=>some (u,hs,.no)
    | false=>none
   | none=>none
  |
   .extract x i=>match Yf L x with
   | some (.tup l)=>no3 hs l[i]?
   | _=>none
  |
   .fieldAddr S x f=>match T.find S with
   |
    some ti=>match ti.fo[f]? with
    | some off=>no3 hs (Qd4 off (Yf L x))
    | none=>none
   | none=>none
  |
   .load t x=>match T.find t with
   | some ti=>Qkh B hs ti (Yf L x)
   | none=>none
  |
   .field S x f=>match T.find S with
   |
    some ti=>match ti.fv[f]? with
    |
     some (off,m,ag)=>match Yf L x with
     |
      some (.agg xs)=>match Qf6 xs off m with
      | some r=>no3 hs (Uf ag r)
      | none=>none
     | _=>none
    | none=>none
   | none=>none
  |
   .build S ps=>match T.find S with
   |
    some ti=>match ti.bl with
    |
     some (z,pl)=>match zl.zls z with
     |
      some zs=>match Qa7 L ps.toList with
      |
       some us=>match Mu pl zs us with
       | some r=>some (.agg r,hs,.no)
       | none=>none
      | none=>none
     | none=>none
    | none=>none
   | none=>none
  |
   .buildSlice S len ps=>match T.find S with
   |
    some ti=>match ti.un with
    |
     .slice E=>match T.find E with
     |
      some te=>match zl te.z with
      |
       some zs=>match (Nat.beq zs.length te.sz && Nat.blt 0 te.sz && Nat.ble (len*te.sz) 16777216 && Nat.blt 0 len) with
       |
        true=>match Qa7 L ps.toList with
        |
         some us=>match Mu (fun i=>some (i*te.sz,te.sz)) (zrep len zs) us with
         |
          some r=>match Ty te.sz len r with
          |
           some ls=>match No ls with
           | true=>some (.one (.row ls),hs,.no)
           | false=>none
          | none=>none
         | none=>none
        | none=>none
       | false=>none
      | none=>none
     | none=>none
    | _=>none
   | none=>none
  |
   .box _ x=>match Yf L x with
   |
    some u=>match G4 u with
    |
     some xs=>match H3 xs with
     | true=>some (.one (.sh xs),hs,.no)
     | false=>none
    | none=>none
   | none=>none
  |
   .unOp .not _ x=>match Yf L x with
   | some (.one (.bool b))=>some (.one (.bool (!b)),hs,.no)
   | _=>none
  |
   .binOp op t x y _=>match T.find t with
   | some ti=>no3 hs (Qqh op ti (Yf L x) (Yf L y))
   | none=>none
  |
   .makeFunc (.func f) pre post=>match Mo L pre.toList with
   |
    some us=>match Mo L post.toList with
    |
     some ys=>match Qax us with
     |
      some xs=>match Qax ys with
      |
       some zs=>match H3 xs && H3 zs with
       | true=>some (.one (.fn f xs zs),hs,.no)
       | false=>none
      | none=>none
     | none=>none
    | none=>none
   | none=>none
  | _=>none
end
theorem Hq {hs:List Nat} {o:Option AV} {u:AV} {hs':List Nat} {e:Eq1} (h:no3 hs o=some (u,hs',e)):o=some u∧hs'=hs∧e=.no:=by
  unfold no3 at h
  split at h
  · injection h with h; injection h with h1 h2; injection h2 with h2 h3
    exact ⟨by rw [h1],h2.symm,h3.symm⟩
  · cases h
theorem Qtf {T:TypeId} {ti:TI P} (ht:ti.t=T) {x:Operand} {hs hs':List Nat} {u:AV} {e:Eq1} (h:Qkh B hs ti (Yf L x)=some (u,hs',e)) (he:e.ok) (hd:Nat.blt d n=true):AP P ops n { dst:=some d,op:=.load T x,type:=ty,pos:=pos,after:=after,guard:=none } d u L B:=by
  subst ht
  unfold Qkh at h
  split at h
  · rename_i l hx
    split at h
    · rename_i r hr
      exact Zz ti.hag ti.hsz hx hr (Hq h).1 hd
    · cases h
  · rename_i g o hx
    split at h
    · cases h
    · rename_i i hs2
      split at h
      · rename_i g' T' xs B' hi
        split at h
        · rename_i r hr
          split at h
          · rename_i v hv
            injection h with h; injection h with h1 h2; injection h2 with h2 h3
            subst h1; subst h3
            have he:g'=g:=he
            subst he
            exact Jm i ti.hag ti.hsz hi hx hr hv hd
          · cases h
        · cases h
      · cases h
  · cases h
theorem Qq5 {S:TypeId} {ti:TI P} (ht:ti.t=S) {x:Operand} {f off:Nat} {u:AV} (ho:ti.fo[f]? = some off) (h:Qd4 off (Yf L x)=some u) (hd:Nat.blt d n=true):AP P ops n { dst:=some d,op:=.fieldAddr S x f,type:=ty,pos:=pos,after:=after,guard:=none } d u L B:=by
  subst ht
  have hr:=ti.hfo f off ho
  unfold Qd4 at h
  split at h
  · rename_i l hx
    split at h
    · rename_i r hd'
      injection h with h; subst h
      exact J2 hr hx hd' hd
    · cases h
  · rename_i g o hx
    injection h with h; subst h
    exact W8 hr hx hd
  · rename_i r sz i o hx
    injection h with h; subst h
    exact Sv hr hx hd
  · cases h
theorem Qw7 {op:BinOp} {t t':TypeId} {ti:TI P} (ht:ti.t=t) {x y:Operand} {u:AV} (h:Qqh op ti (Yf L x) (Yf L y)=some u) (hd:Nat.blt d n=true):AP P ops n { dst:=some d,op:=.binOp op t x y t',type:=ty,pos:=pos,after:=after,guard:=none } d u L B:=by
  subst ht
  unfold Qqh at h
  split at h
  · rename_i kd p kd' q hx hy
    split at h
    · rename_i hk
      have hk:kd=kd':=of_decide_eq_true hk
      subst hk
      split at h
      · rename_i b hb
        injection h with h; subst h
        exact Qzl hx hy hb hd
      · cases h
    · cases h
  · rename_i p q hx hy
    split at h
    · rename_i hu
      injection h with h; subst h
      exact Q05 (by rw [ti.hun,hu]) hx hy rfl hd
    · rename_i hu
      injection h with h; subst h
      exact Qr3 (by rw [ti.hun,hu]) hx hy rfl hd
    · cases h
  · rename_i v _ _ hx hy
    split at h
    · rename_i E hu
      have hu':∀ w,(underlying ti.t).run P w=.ok (.pointer E) w:=by rw [←hu]; exact ti.hu
      split at h
      · rename_i b hb
        split at h
        · injection h with h; subst h
          exact Qtm hu' hx hy hb rfl hd
        · injection h with h; subst h
          exact Qul hu' hx hy hb rfl hd
        · cases h
      · cases h
    · cases h
  · cases h
theorem Quj {T:TT P} {hs hs':List Nat} {op:Op} {u:AV} {e:Eq1} (h:syV T L B hs op=some (u,hs',e)) (he:e.ok) (hd:Nat.blt d n=true):AP P ops n { dst:=some d,op:=op,type:=ty,pos:=pos,after:=after,guard:=none } d u L B:=by
  unfold syV at h
  split at h
  · exact Zd (Hq h).1 hd
  · exact Qgs (Hq h).1 hd
  · split at h
    · rename_i v hv
      split at h
      · rename_i hn
        injection h with h; injection h with h1 h2; subst h1
        exact Kv hv hn hd
      · cases h
    · cases h
  · split at h
    · rename_i l hx
      exact Qob hx (Hq h).1 hd
    · cases h
  · split at h
    · rename_i ti ht
      split at h
      · rename_i off ho
        exact Qq5 (TT.find_t ht) ho (Hq h).1 hd
      · cases h
    · cases h
  · split at h
    · rename_i ti ht
      exact Qtf (TT.find_t ht) h he hd
    · cases h
  · rename_i S x f
    split at h
    · rename_i ti ht
      split at h
      · rename_i off m ag hf
        split at h
        · rename_i xs hx
          split at h
          · rename_i r hr
            have:=TT.find_t ht
            subst this
            exact Bu (ti.hfv f off m ag hf) hx hr (Hq h).1 hd
          · cases h
        · cases h
      · cases h
    · cases h
  · rename_i S ps
    split at h
    · rename_i ti ht
      split at h
      · rename_i z pl hb
        split at h
        · rename_i zs hz
          split at h
          · rename_i us hx
            split at h
            · rename_i r hr
              injection h with h; injection h with h1 h2; subst h1
              have:=TT.find_t ht
              subst this
              exact Qlz (ps:=ps.toList) (ti.hbl z pl hb) (by simpa using hz) hx hr hd
            · cases h
          · cases h
        · cases h
      · cases h
    · cases h
  · rename_i S len ps
    split at h
    · rename_i ti ht
      split at h
      · rename_i E hu
        split at h
        · rename_i te hte
          split at h
          · rename_i zs hz
            split at h
            · rename_i hc
              simp only [qXk] at hc
              obtain ⟨⟨⟨c1,c2⟩,c3⟩,c4⟩:=hc
              split at h
              · rename_i us hx
                split at h
                · rename_i r hr
                  split at h
                  · rename_i ls hls
                    split at h
                    · rename_i hfr
                      injection h with h; injection h with h1 h2; subst h1
                      have e1:=TT.find_t ht
                      have e2:=TT.find_t hte
                      subst e1; subst e2
                      exact Qhx (ps:=ps.toList) (by rw [←hu]; exact ti.hu) te.hsz te.hz hz c1 c2 c3 c4 hx hr hls hfr hd
                    · cases h
                  · cases h
                · cases h
              · cases h
            · cases h
          · cases h
        · cases h
      · cases h
    · cases h
  · split at h
    · rename_i v hx
      split at h
      · rename_i xs hl
        split at h
        · rename_i hf
          injection h with h; injection h with h1 h2; subst h1
          exact Qwh hx hl hf hd
        · cases h
      · cases h
    · cases h
  · split at h
    · rename_i b hx
      injection h with h; injection h with h1 h2; subst h1
      exact Qzi hx hd
    · cases h
  · split at h
    · rename_i ti ht
      exact Qw7 (TT.find_t ht) (Hq h).1 hd
    · cases h
  · rename_i f pre post
    split at h
    · rename_i us hx
      split at h
      · rename_i ys hy
        split at h
        · rename_i xs hxs
          split at h
          · rename_i zs hzs
            split at h
            · rename_i hf
              simp only [qXk] at hf
              injection h with h; injection h with h1 h2; subst h1
              exact Qjk (pre:=pre.toList) (post:=post.toList) hx hy hxs hzs hf.1 hf.2 hd
            · cases h
          · cases h
        · cases h
      · cases h
    · cases h
  · cases h
theorem Qv (T:TT P) {op:Op} {u:AV} {hs':List Nat} (h:syV T L B [] op=some (u,hs',.no)) (hd:Nat.blt d n=true):AP P ops n { dst:=some d,op:=op,type:=ty,pos:=pos,after:=after,guard:=none } d u L B:=Quj h trivial hd
theorem F0 (T:TT P) (i:Nat) {op:Op} {u:AV} {hs':List Nat} {g:Nat} (h:syV T L B [i] op=some (u,hs',.eq g g)) (hd:Nat.blt d n=true):AP P ops n { dst:=some d,op:=op,type:=ty,pos:=pos,after:=after,guard:=none } d u L B:=Quj h rfl hd
end Orr

namespace Orr
open Go
variable {P:Program} {n:Nat} {Q:Exit→Sg→List OB→Prop} {L:Sg} {B:List OB}
inductive It where
  | code (c:Code)
  | ops (arr:Array Oper) (l:List Oper)
  | dr (arr:Array Oper) (l rest:List Oper)
  | blk (id:Nat)
  | rnd (N:Sg→List OB→Prop)
def rsl (L:Sg):List Operand→Sg
  | []=>[]
  |
   .tmp t::r=>match lk L t with
   | some v=>(t,v)::rsl L r
   | none=>rsl L r
  | _::r=>rsl L r
def gsl (arr:Array Oper) (o:Oper):List Operand:=match o.guard with
  | none=>o.op.operands.toList
  |
   some (j,_)=>match (arr[j]?).bind (·.dst) with
   | some t=>.tmp t::o.op.operands.toList
   | none=>o.op.operands.toList
def rs (arr:Array Oper) (o:Oper) (L:Sg):Sg:=rsl L (gsl arr o)
def DS (P:Program) (arr:Array Oper) (n:Nat) (B:List OB):List Oper→(Sg→Prop)→Sg→Prop
  | [],K,L=>K L
  | o::os,K,L=>∃ d u,o.dst=some d∧AP P arr n o d u (rs arr o L) B∧DS P arr n B os K ((d,u)::L)
abbrev Kp:=Sg→List OB→Prop
def mkQ (Q:Exit→Sg→List OB→Prop) (p:Kp×(Nat→Kp)):Exit→Sg→List OB→Prop
  | .normal,L,B=>p.1 L B
  | .exit id,L,B=>p.2 id L B
  | e,L,B=>Q e L B
def Sub (n:Nat) (L:Sg) (B:List OB) (L2:Sg) (B2:List OB):Prop:=∀ (K Ob:Nat→Prop) (w0 w:World) (a:Act),SA K Ob w0 w a n L B→SA K Ob w0 w a n L2 B2
def Wk (n:Nat) (N:Kp):Kp:=fun L B=>∃ L2 B2,Sub n L B L2 B2∧N L2 B2
def AKp (P:Program) (n:Nat) (Q:Exit→Sg→List OB→Prop):List It→Kp×(Nat→Kp)
  | []=>(Q .normal,fun id=>Q (.exit id))
  | .code c::r=>(fun L B=>AC P n c (mkQ Q (AKp P n Q r)) L B,(AKp P n Q r).2)
  | .ops arr l::r=>(fun L B=>AW P arr n l (AKp P n Q r).1 L B,(AKp P n Q r).2)
  | .dr arr l rest::r=>(fun L B=>DS P arr n B l (fun L2=>AW P arr n rest (AKp P n Q r).1 L2 B) L,(AKp P n Q r).2)
  | .blk i::r=>((AKp P n Q r).1,fun id L B=>if i=id then (AKp P n Q r).1 L B else (AKp P n Q r).2 id L B)
  | .rnd N::r=>(Wk n N,(AKp P n Q r).2)
def AK (P:Program) (n:Nat) (Q:Exit→Sg→List OB→Prop) (it:List It):Kp:=(AKp P n Q it).1
def Ay (id:Nat):List It→Option (List It)
  | []=>none
  |
   .blk i::r=>match Nat.beq i id with
   | true=>some r
   | false=>Ay id r
  | _::r=>Ay id r
theorem Hh {id:Nat}:∀ {it r:List It},Ay id it=some r→(AKp P n Q it).2 id=AK P n Q r
  | [],r,h=>by cases h
  |
   .blk i::q,r,h=>by
   simp only [Ay] at h
   split at h
   · rename_i e
     have e:=Fg e
     injection h with h; subst h
     funext L B
     simp only [AKp]
     rw [if_pos e]; rfl
   · rename_i e
     have e:=qJl e
     rw [←Hh h]
     funext L B
     simp only [AKp]
     rw [if_neg e]
  | .code c::q,r,h=>Hh (it:=q) h
  | .ops _ _::q,r,h=>Hh (it:=q) h
  | .dr _ _ _::q,r,h=>Hh (it:=q) h
  | .rnd _::q,r,h=>Hh (it:=q) h
def Qxf (
 T:TT P) (
  n:Nat) (st:List Nat) (L:Sg) (B:List OB) (hs:List Nat) (o:Oper):Option (Sg×List OB×List Nat×Eq1):=match o.guard with
  | some _=>none
  |
   none=>match o.dst with
   |
    some d=>match (Nat.blt d n && !(st.contains d)) with
    |
     true=>match syV T L B hs o.op with
     | some (u,hs',e)=>some ((d,u)::L,B,hs',e)
     | none=>none
    | false=>none
   |
    none=>match o.op with
    |
     .store t x y=>match T.find t with
     |
      some ti=>match Yf L x with
      |
       some (.one (.ow g off))=>match hs with
       |
        i::hs'=>match Jg B i with
        |
         some (.blk g' T' xs,_)=>match Yf L y with
         |
          some u=>match G4 u with
          |
           some ys=>match Nat.beq ys.length ti.sz with
           |
            true=>match updO xs off ti.sz ys with
            |
             some r=>match Qi3 B i (.blk g' T' r) with
             | some B2=>some (L,B2,hs',.eq g' g)
             | none=>none
            | none=>none
           | false=>none
          | none=>none
         | none=>none
        | _=>none
       | []=>none
      | _=>none
     | none=>none
    | _=>none
theorem Qew {o:Oper} {d:Option Nat} {p:Op} {g:Option (Nat×Bool)} (hd:o.dst=d) (hp:o.op=p) (hg:o.guard=g):o={ dst:=d,op:=p,type:=o.type,pos:=o.pos,after:=o.after,guard:=g }:=by subst hd; subst hp; subst hg; rfl
theorem Qzd {T:TT P} {st:List Nat} {arr:Array Oper} {hs hs':List Nat} {o:Oper} {l:List Oper} {N:Sg→List OB→Prop} {L':Sg} {B':List OB} {e:Eq1} (h:Qxf T n st L B hs o=some (L',B',hs',e)) (he:e.ok) (k:AW P arr n l N L' B'):AW P arr n (o::l) N L B:=by
  unfold Qxf at h
  split at h
  · cases h
  · rename_i hg
    split at h
    · rename_i d hd
      split at h
      · rename_i hc
        simp only [qXk] at hc
        split at h
        · rename_i u hs2 e2 hv
          injection h with h; injection h with h1 h2; injection h2 with h2 h3; injection h3 with h3 h4
          subst h1; subst h2; subst h4
          have:=Quj (P:=P) (ops:=arr) (ty:=o.type) (pos:=o.pos) (after:=o.after) hv he hc.1
          rw [Qew hd rfl hg]
          exact w_ this k
        · cases h
      · cases h
    · rename_i hd
      split at h
      · rename_i t x y hop
        split at h
        · rename_i ti hti
          have ht:=TT.find_t hti
          subst ht
          split at h
          · rename_i g off hx
            split at h
            · rename_i i hs2
              split at h
              · rename_i g' T' xs B2 hi
                split at h
                · rename_i u hy
                  split at h
                  · rename_i ys hl
                    split at h
                    · rename_i hm
                      split at h
                      · rename_i r hr
                        split at h
                        · rename_i B3 hB
                          injection h with h; injection h with h1 h2; injection h2 with h2 h3; injection h3 with h3 h4
                          subst h1; subst h2; subst h4
                          have he:g'=g:=he
                          subst he
                          rw [Qew hd hop hg]
                          exact P0 i ti.hsz hi hx hy hl (Fg hm) hr hB k
                        · cases h
                      · cases h
                    · cases h
                  · cases h
                · cases h
              · cases h
            · cases h
          · cases h
        · cases h
      · cases h
def Eq1.a:Eq1→List Nat→List Nat
  | .no,l=>l
  | .eq a _,l=>a::l
def Eq1.b:Eq1→List Nat→List Nat
  | .no,l=>l
  | .eq _ b,l=>b::l
theorem Eq1.of:∀ {e:Eq1} {as0 bs:List Nat},e.a as0=e.b bs→e.ok∧as0=bs
  | .no,_,_,h=>⟨trivial,h⟩
  | .eq a b,as0,bs,h=>by injection h with h1 h2; exact ⟨h1,h2⟩
def run (T:TT P) (n:Nat) (st:List Nat):Nat→Nat→List It→Sg→List OB→List Nat→List Nat→List Nat→Option (List It×Sg×List OB×List Nat×List Nat)
  | 0,_,it,L,B,_,as0,bs=>some (it,L,B,as0,bs)
  |
   f+1,k,it,L,B,hs,as0,bs=>match it with
   | .code (.seq x y)::r=>run T n st f k (.code x::.code y::r) L B hs as0 bs
   | .code .skip::r=>run T n st f k r L B hs as0 bs
   |
    .code (.block id c)::r=>match st.contains (100000+id) with
    | true=>some (.code (.block id c)::r,L,B,as0,bs)
    | false=>run T n st f k (.code c::.blk id::r) L B hs as0 bs
   |
    .code (.exit id)::r=>match Ay id r with
    | some r'=>run T n st f k r' L B hs as0 bs
    | none=>some (it,L,B,as0,bs)
   | .code (.region id arr false)::r=>run T n st f k (.ops arr arr.toList::r) L B hs as0 bs
   | .blk _::r=>run T n st f k r L B hs as0 bs
   | .ops _ []::r=>run T n st f k r L B hs as0 bs
   | .dr arr [] rest::r=>run T n st f k (.ops arr rest::r) L B hs as0 bs
   |
    .ops arr (o::l)::r=>match k with
    | 0=>some (.ops arr (o::l)::r,L,B,as0,bs)
    |
     k+1=>match Qxf T n st L B hs o with
     | some (L',B',hs',e)=>run T n st f k (.ops arr l::r) L' B' hs' (e.a as0) (e.b bs)
     | none=>some (.ops arr (o::l)::r,L,B,as0,bs)
   |
    .dr arr (o::l) rest::r=>match k with
    | 0=>some (.dr arr (o::l) rest::r,L,B,as0,bs)
    |
     k+1=>match o.guard with
     | some _=>some (.dr arr (o::l) rest::r,L,B,as0,bs)
     |
      none=>match o.dst with
      | none=>some (.dr arr (o::l) rest::r,L,B,as0,bs)
      |
       some d=>match Nat.blt d n with
       | false=>some (.dr arr (o::l) rest::r,L,B,as0,bs)
       |
        true=>match syV T (rs arr o L) B hs o.op with
        | some (u,hs',e)=>run T n st f k (.dr arr l rest::r) ((d,u)::L) B hs' (e.a as0) (e.b bs)
        | none=>some (.dr arr (o::l) rest::r,L,B,as0,bs)
   | it=>some (it,L,B,as0,bs)
theorem Wx {it it':List It} {L':Sg} {B':List OB} {as0 bs as' bs':List Nat} (h:some (it,L,B,as0,bs)=some (it',L',B',as',bs')) (he:as'=bs'):as0=bs∧(AK P n Q it' L' B'→AK P n Q it L B):=by
  injection h with h; injection h with h1 h2; injection h2 with h2 h3; injection h3 with h3 h4; injection h4 with h4 h5
  subst h1; subst h2; subst h3; subst h4; subst h5
  exact ⟨he,id⟩
theorem G8 (
 T:TT P) (
  st:List Nat):∀ (f k:Nat) (it it':List It) (L L':Sg) (B B':List OB) (hs as0 bs as' bs':List Nat),run T n st f k it L B hs as0 bs=some (it',L',B',as',bs')→as'=bs'→as0=bs∧(AK P n Q it' L' B'→AK P n Q it L B)
  | 0,k,it,it',L,L',B,B',hs,as0,bs,as',bs',h,he=>Wx h he
  |
   f+1,k,it,it',L,L',B,B',hs,as0,bs,as',bs',h,he=>by
   unfold run at h
   split at h
   · rename_i x y r
     obtain ⟨h1,h2⟩:=G8 T st f k _ _ _ _ _ _ _ _ _ _ _ h he
     refine ⟨h1,fun hk=>?_⟩
     refine Qw3 (Mg (h2 hk) fun e L B hq=>?_)
     cases e <;> exact hq
   · obtain ⟨h1,h2⟩:=G8 T st f k _ _ _ _ _ _ _ _ _ _ _ h he
     exact ⟨h1,fun hk=>Qum (h2 hk)⟩
   · rename_i id c r
     split at h
     · exact Wx h he
     obtain ⟨h1,h2⟩:=G8 T st f k _ _ _ _ _ _ _ _ _ _ _ h he
     refine ⟨h1,fun hk=>?_⟩
     refine Qr7 (Mg (h2 hk) fun e L B hq=>?_)
     cases e with
     |
      exit id' =>
      show if id'=id then _ else _
      have hq:if id=id' then (AKp P n Q r).1 L B else (AKp P n Q r).2 id' L B:=hq
      by_cases e:id=id'
      · rw [if_pos e] at hq; rw [if_pos e.symm]; exact hq
      · rw [if_neg e] at hq; rw [if_neg (Ne.symm e)]; exact hq
     | _=>exact hq
   · rename_i id r
     split at h
     · rename_i r' hr
       obtain ⟨h1,h2⟩:=G8 T st f k _ _ _ _ _ _ _ _ _ _ _ h he
       refine ⟨h1,fun hk=>Qu2 ?_⟩
       show (AKp P n Q r).2 id L B
       rw [Hh hr]; exact h2 hk
     · exact Wx h he
   · rename_i id arr r
     obtain ⟨h1,h2⟩:=G8 T st f k _ _ _ _ _ _ _ _ _ _ _ h he
     refine ⟨h1,fun hk=>?_⟩
     have:=h2 hk
     exact Qwg (l:=arr.toList) this
   · obtain ⟨h1,h2⟩:=G8 T st f k _ _ _ _ _ _ _ _ _ _ _ h he
     exact ⟨h1,fun hk=>h2 hk⟩
   · obtain ⟨h1,h2⟩:=G8 T st f k _ _ _ _ _ _ _ _ _ _ _ h he
     exact ⟨h1,fun hk=>Qo (h2 hk)⟩
   · obtain ⟨h1,h2⟩:=G8 T st f k _ _ _ _ _ _ _ _ _ _ _ h he
     exact ⟨h1,fun hk=>h2 hk⟩
   · rename_i arr o l r
     split at h
     · exact Wx h he
     · split at h
       · rename_i L2 B2 hs2 e hv
         obtain ⟨h1,h2⟩:=G8 T st f _ _ _ _ _ _ _ _ _ _ _ _ h he
         obtain ⟨h3,h4⟩:=Eq1.of h1
         exact ⟨h4,fun hk=>Qzd hv h3 (h2 hk)⟩
       · exact Wx h he
   · rename_i arr o l rest r
     split at h
     · exact Wx h he
     · split at h
       · exact Wx h he
       · rename_i hg
         split at h
         · exact Wx h he
         · rename_i d hd
           split at h
           · exact Wx h he
           · rename_i hdn
             split at h
             · rename_i u hs2 e hv
               obtain ⟨h1,h2⟩:=G8 T st f _ _ _ _ _ _ _ _ _ _ _ _ h he
               obtain ⟨h3,h4⟩:=Eq1.of h1
               refine ⟨h4,fun hk=>⟨d,u,hd,?_,h2 hk⟩⟩
               have:=Quj (P:=P) (ops:=arr) (ty:=o.type) (pos:=o.pos) (after:=o.after) hv h3 hdn
               have e0:=Qew hd rfl hg
               rw [←e0] at this
               exact this
             · exact Wx h he
   · exact Wx h he
theorem Xd (T:TT P) (m:Nat) (hs:List Nat) {it it':List It} {L':Sg} {B':List OB} {as0:List Nat} (h:run T n [] 100000 m it L B hs [] []=some (it',L',B',as0,as0)) (k:AK P n Q it' L' B'):AK P n Q it L B:=(G8 T [] _ _ _ _ _ _ _ _ _ _ _ _ _ h rfl).2 k
theorem Qr (T:TT P) (m:Nat) {it it':List It} {L':Sg} {B':List OB} {as0:List Nat} (h:run T n [] 100000 m it L B [] [] []=some (it',L',B',as0,as0)) (k:AK P n Q it' L' B'):AK P n Q it L B:=Xd T m [] h k
theorem Qw (T:TT P) {it it':List It} {L':Sg} {B':List OB} {as0:List Nat} (h:run T n [] 100000 0 it L B [] [] []=some (it',L',B',as0,as0)) (k:AK P n Q it' L' B'):AK P n Q it L B:=Xd T 0 [] h k
theorem syp (T:TT P) (m:Nat) (st hs:List Nat) {it it':List It} {L':Sg} {B':List OB} {as0:List Nat} (h:run T n st 100000 m it L B hs [] []=some (it',L',B',as0,as0)) (k:AK P n Q it' L' B'):AK P n Q it L B:=(G8 T st _ _ _ _ _ _ _ _ _ _ _ _ _ h rfl).2 k
end Orr

namespace Orr
open Go
variable {P:Program} {n:Nat} {Q:Exit→Sg→List OB→Prop} {L:Sg} {B:List OB} {r:List It} {arr:Array Oper} {l rest:List Oper}
theorem fn_ {f:FuncId} {fn:Func} {c:Code} {args:List AV} {Bin:List OB} {Post:AV→List OB→Prop} (hf:P.funcs[f]? = some fn) (hb:fn.body=some c) (hn:fn.ntmps=n) (hl:Nat.ble args.length n=true)
    (h:AK P n (RQ P fn n Post) [.code c] (Oy 0 args) Bin):Wt P f args Bin Post :=
  Q1e hf hb hn hl (Mg h fun e L B hq=>by cases e <;> exact hq)
theorem Zn (h:AW P arr n l (AK P n Q r) L B):AK P n Q (.ops arr l::r) L B:=h
theorem ko (h:AK P n Q (.ops arr l::r) L B):AW P arr n l (AK P n Q r) L B:=h
theorem kw {o:Oper} {d:Nat} {u:AV} (hp:AP P arr n o d u L B) (k:AK P n Q (.ops arr l::r) ((d,u)::L) B):AK P n Q (.ops arr (o::l)::r) L B:=w_ hp k
theorem kd {o:Oper} {d:Nat} {u:AV} (hp:AP P arr n o d u (rs arr o L) B) (hd:o.dst=some d) (k:AK P n Q (.dr arr l rest::r) ((d,u)::L) B):AK P n Q (.dr arr (o::l) rest::r) L B:=⟨d,u,hd,hp,k⟩
theorem kc {c:Code} (h:AC P n c (mkQ Q (AKp P n Q r)) L B):AK P n Q (.code c::r) L B:=h
theorem kn (h:AK P n Q (.ops arr l::r) L B):AW P arr n l (fun L B=>mkQ Q (AKp P n Q r) .normal L B) L B:=h
theorem kt {c:Operand} {x y:Code} {b:Bool} (hb:b=true) (hc:Yf L c=some (.one (.bool b))) (h:AK P n Q (.code x::r) L B):AK P n Q (.code (.cond c x y)::r) L B:=Q2c hc hb h
theorem kf {c:Operand} {x y:Code} {b:Bool} (hb:b=false) (hc:Yf L c=some (.one (.bool b))) (h:AK P n Q (.code y::r) L B):AK P n Q (.code (.cond c x y)::r) L B:=Q19 hc hb h
theorem kif {c:Operand} {x y:Code} {b:Bool} (hc:Yf L c=some (.one (.bool b))) (ht:b=true→AK P n Q (.code x::r) L B) (hf:b=false→AK P n Q (.code y::r) L B):AK P n Q (.code (.cond c x y)::r) L B:=Qe8 hc ht hf
theorem Q7 {N:Sg→List OB→Prop} (h:N L B):AK P n Q (.rnd N::r) L B:=⟨L,B,fun _ _ _ _ _ h=>h,h⟩
theorem Re (h:Q .ret L B):AK P n Q (.code .ret::r) L B:=Qp9 h
theorem L9 (h:Q .normal L B):AK P n Q [] L B:=h
theorem AC.sub {c:Code} {L2:Sg} {B2:List OB} (h:Sub n L B L2 B2) (k:AC P n c Q L2 B2):AC P n c Q L B:=fun K Ob w0 w a hs=>k K Ob w0 w a (h _ _ _ _ _ hs)
def H2:List It→Bool
  | .code _::_=>true
  | .ops _ _::_=>true
  | .rnd _::_=>true
  | .blk _::r=>H2 r
  | _=>false
theorem AK.sub {L2:Sg} {B2:List OB} (h:Sub n L B L2 B2):∀ {it:List It},H2 it=true→AK P n Q it L2 B2→AK P n Q it L B
  | .code c::_,_,k=>AC.sub h k
  | .ops arr l::_,_,k=>fun K Ob w0 w a Q h1 h2=>k K Ob w0 w a Q (h _ _ _ _ _ h1) h2
  | .rnd N::_,_,⟨L3,B3,h3,h4⟩=>⟨L3,B3,fun _ _ _ _ _ hs=>h3 _ _ _ _ _ (h _ _ _ _ _ hs),h4⟩
  | .blk _::r,hs,k=>AK.sub (it:=r) h hs k
theorem Zj {c:Code} (I:Nat→Sg→List OB→Prop) {m:Nat} (h0:I m L B) (round:∀ m L B,I m L B→AK P n Q (.code c::.rnd (fun L B=>∃ m',m'<m∧I m' L B)::r) L B):AK P n Q (.code (.loop c)::r) L B :=
  Qlh (fun m=>Wk n (I m)) ⟨L,B,fun _ _ _ _ _ h=>h,h0⟩ fun m L B ⟨L2,B2,h1,h2⟩=>AC.sub h1 (Mg (round m L2 B2 h2) fun e L B hq=>by
    cases e with
    | normal=>obtain ⟨L3,B3,h3,m',h4,h5⟩:=hq; exact ⟨m',h4,L3,B3,h3,h5⟩
    | _=>exact hq)
def RN (P:Program) (n:Nat) (Q:Exit→Sg→List OB→Prop) (c:Code) (r:List It):Nat→Kp
  | 0=>fun _ _=>False
  | k+1=>AK P n Q (.code c::.rnd (RN P n Q c r k)::r)
theorem H1 {c:Code} (k:Nat) (h:RN P n Q c r k L B):AK P n Q (.code (.loop c)::r) L B:=by
  refine Qlh (fun m L B=>∃ L2 B2,Sub n L B L2 B2∧RN P n Q c r m L2 B2) (m:=k) ⟨L,B,fun _ _ _ _ _ h=>h,h⟩ fun m L B ⟨L2,B2,h1,h2⟩=>?_
  cases m with
  | zero=>exact h2.elim
  |
   succ m =>
   refine AC.sub h1 (Mg h2 fun e L B hq=>?_)
   cases e with
   | normal=>obtain ⟨L3,B3,h3,h4⟩:=hq; exact ⟨m,Nat.lt_succ_self m,L3,B3,h3,h4⟩
   | _=>exact hq
theorem J7 {c:Code} {k:Nat} (h:AK P n Q (.code c::.rnd (RN P n Q c r k)::r) L B):RN P n Q c r (k+1) L B:=h
def Imp (p q:Kp×(Nat→Kp)):Prop:=(∀ L B,p.1 L B→q.1 L B)∧∀ i L B,p.2 i L B→q.2 i L B
theorem Qs2 {p q:Kp×(Nat→Kp)} (h:Imp p q):∀ e L B,mkQ Q p e L B→mkQ Q q e L B:=fun e L B hq=>by
  cases e with
  | normal=>exact h.1 _ _ hq
  | exit id=>exact h.2 _ _ _ hq
  | _=>exact hq
theorem DS.mono {K K':Sg→Prop} (hk:∀ L,K L→K' L):∀ {os:List Oper} {L:Sg},DS P arr n B os K L→DS P arr n B os K' L
  | [],_,h=>hk _ h
  | _::_,_,⟨d,u,h1,h2,h3⟩=>⟨d,u,h1,h2,DS.mono hk h3⟩
theorem AW.mono' {N N':Sg→List OB→Prop} (hn:∀ L B,N L B→N' L B) (h:AW P arr n l N L B):AW P arr n l N' L B:=fun K Ob w0 w a Q hs hq=>h K Ob w0 w a Q hs fun a' w' ⟨L',B',h1,h2⟩=>hq a' w' ⟨L',B',h1,hn _ _ h2⟩
theorem Me {I:Kp} {r:List It} (hy:∀ L B,Wk n I L B→AK P n Q r L B):∀ pre:List It,Imp (AKp P n Q (pre++.rnd I::r)) (AKp P n Q (pre++r))
  | []=>⟨hy,fun _ _ _ h=>h⟩
  |
   .code c::q=>by
   have ih:=Me hy q
   exact ⟨fun L B h=>Mg h (Qs2 ih),ih.2⟩
  |
   .ops a l::q=>by
   have ih:=Me hy q
   exact ⟨fun L B h=>AW.mono' ih.1 h,ih.2⟩
  |
   .dr a l rest::q=>by
   have ih:=Me hy q
   exact ⟨fun L B h=>DS.mono (fun L2 h=>AW.mono' ih.1 h) h,ih.2⟩
  |
   .blk i::q=>by
   have ih:=Me hy q
   refine ⟨ih.1,fun id L B h=>?_⟩
   simp only [Eb,AKp] at h ⊢
   split at h
   · rename_i e; rw [if_pos e]; exact ih.1 _ _ h
   · rename_i e; rw [if_neg e]; exact ih.2 _ _ _ h
  |
   .rnd N::q=>by
   have ih:=Me hy q
   exact ⟨fun L B h=>h,ih.2⟩
theorem Cu (j:Nat) {it:List It} (I:Sg→List OB→Prop) (hx:AK P n Q (it.take j++.rnd I::it.drop j) L B) (hs:H2 (it.drop j)=true) (hy:∀ L B,I L B→AK P n Q (it.drop j) L B):AK P n Q it L B:=by
  have:=(Me (P:=P) (n:=n) (Q:=Q) (I:=I) (r:=it.drop j) (fun L B ⟨L2,B2,h1,h2⟩=>AK.sub h1 hs (hy _ _ h2)) (it.take j)).1 L B hx
  rw [qZk] at this
  exact this
theorem Qxz {L2:Sg} {B2:List OB} (h:∀ N:Sg→List OB→Prop,N L2 B2→AW P #[] n [] N L B):Sub n L B L2 B2:=fun K Ob w0 w a hs =>
  h (fun L' B'=>L'=L2∧B'=B2) ⟨rfl,rfl⟩ K Ob w0 w a (fun _ a' w'=>SA K Ob w0 w' a' n L2 B2) hs fun a' w' ⟨L',B',h1,h2,h3⟩=>by subst h2; subst h3; exact h1
theorem X5 {it:List It} {L2:Sg} {B2:List OB} (h:∀ N:Sg→List OB→Prop,N L2 B2→AW P #[] n [] N L B) (hs:H2 it=true) (k:AK P n Q it L2 B2):AK P n Q it L B:=AK.sub (Qxz h) hs k
theorem Qk {it:List It} (ts:List Nat) {L2:Sg} (ht:Ih L ts=some L2) (hs:H2 it=true) (k:AK P n Q it L2 B):AK P n Q it L B:=AK.sub (fun _ _ _ _ _ h=>h.pick ht) hs k
theorem Y2 {it:List It} (i:Nat) {x:OB} {q:List OB} (hi:Jg B i=some (x,q)) (hs:H2 it=true) (k:AK P n Q it L q):AK P n Q it L B:=AK.sub (fun _ _ _ _ _ h=>h.drop hi) hs k
theorem Zx {it:List It} (i:Nat) {x:OB} {q:List OB} (hi:Jg B i=some (x,q)) (hs:H2 it=true) (k:AK P n Q it L (x::q)):AK P n Q it L B:=AK.sub (fun _ _ _ _ _ h=>h.toFront hi) hs k
def Ed (
 T:TT P) (
  L:Sg) (B:List OB):List ResultVar→List Nat→List Nat→List Nat→Option (List AV×List Nat×List Nat)
  | [],_,as0,bs=>some ([],as0,bs)
  |
   .tmp t::q,hs,as0,bs=>match lk L t with
   |
    some u=>match I6 u with
    |
     some y=>match Ed T L B q hs as0 bs with
     | some (ys,as0,bs)=>some (y::ys,as0,bs)
     | none=>none
    | none=>none
   | none=>none
  |
   .cell t S::q,hs,as0,bs=>match T.find S with
   |
    some ti=>match lk L t with
    |
     some (.one (.ow g 0))=>match hs with
     |
      i::hs=>match Jg B i with
      |
       some (.blk g' _ xs,_)=>match Nat.beq xs.length ti.sz with
       |
        true=>match Ud xs with
        |
         some zs=>match Uf ti.ag zs with
         |
          some u=>match Ed T L B q hs (g'::as0) (g::bs) with
          | some (ys,as0,bs)=>some (u::ys,as0,bs)
          | none=>none
         | none=>none
        | none=>none
       | false=>none
      | _=>none
     | []=>none
    | _=>none
   | none=>none
theorem Ca {T:TT P}:∀ {rs:List ResultVar} {hs as0 bs:List Nat} {us:List AV} {as' bs':List Nat},Ed T L B rs hs as0 bs=some (us,as',bs')→as'=bs'→as0=bs∧RVs P n L B rs us
  |
   [],hs,as0,bs,us,as',bs',h,he=>by
   simp only [Ed] at h
   injection h with h; injection h with h1 h2; injection h2 with h2 h3
   subst h1; subst h2; subst h3
   exact ⟨he,trivial⟩
  |
   .tmp t::q,hs,as0,bs,us,as',bs',h,he=>by
   simp only [Ed] at h
   split at h
   · rename_i u hu
     split at h
     · rename_i y hy
       split at h
       · rename_i ys as2 bs2 hr
         injection h with h; injection h with h1 h2; injection h2 with h2 h3
         subst h1; subst h2; subst h3
         obtain ⟨e,h4⟩:=Ca hr he
         exact ⟨e,V6 hu hy,h4⟩
       · cases h
     · cases h
   · cases h
  |
   .cell t S::q,hs,as0,bs,us,as',bs',h,he=>by
   simp only [Ed] at h
   split at h
   · rename_i ti hti
     have ht:=TT.find_t hti
     subst ht
     split at h
     · rename_i g hx
       split at h
       · rename_i i hs2
         split at h
         · rename_i g' T' xs B' hi
           split at h
           · rename_i hm
             split at h
             · rename_i zs hz
               split at h
               · rename_i u hu
                 split at h
                 · rename_i ys as2 bs2 hr
                   injection h with h; injection h with h1 h2; injection h2 with h2 h3
                   subst h1; subst h2; subst h3
                   obtain ⟨e,h4⟩:=Ca hr he
                   injection e with e1 e2
                   subst e1
                   exact ⟨e2,Qli i ti.hag ti.hsz hi hx hm hz hu,h4⟩
                 · cases h
               · cases h
             · cases h
           · cases h
         · cases h
       · cases h
     · cases h
   · cases h
theorem Qxs (T:TT P) (hs:List Nat) {fn:Func} {u:AV} {as0:List Nat} {x:AV} (h:Ed T L B fn.results.toList hs [] []=some ([u],as0,as0)) (he:u=x):RQ P fn n (Is x) .ret L B:=Qjf (Ca h rfl).2 he
theorem Qww (T:TT P) (hs:List Nat) {fn:Func} {u v:AV} {as0:List Nat} {x:AV} (h:Ed T L B fn.results.toList hs [] []=some ([u,v],as0,as0)) (he:AV.tup [u,v]=x):RQ P fn n (Is x) .ret L B:=Qjf (Ca h rfl).2 he
theorem Qxq (T:TT P) (hs:List Nat) {fn:Func} {u v y:AV} {as0:List Nat} {x:AV} (h:Ed T L B fn.results.toList hs [] []=some ([u,v,y],as0,as0)) (he:AV.tup [u,v,y]=x):RQ P fn n (Is x) .ret L B:=Qjf (Ca h rfl).2 he
abbrev Run (T:TT P) (n m:Nat) (hs:List Nat) (it:List It) (L:Sg) (B:List OB) (it':List It) (L':Sg) (B':List OB) (as0:List Nat):Prop:=run T n [] 100000 m it L B hs [] []=some (it',L',B',as0,as0)
section
variable {T:TT P} {it':List It} {L':Sg} {B':List OB} {as0:List Nat}
theorem X2 (T:TT P) (m:Nat) (hs:List Nat) {f:FuncId} {fn:Func} {c:Code} {args:List AV} {Bin:List OB} {Post:AV→List OB→Prop} (hf:P.funcs[f]? = some fn) (hn:fn.ntmps=n) (hb:fn.body=some c) (hl:Nat.ble args.length n=true)
    (h:Run T n m hs [.code c] (Oy 0 args) Bin it' L' B' as0) (k:AK P n (RQ P fn n Post) it' L' B'):Wt P f args Bin Post:=fn_ hf hb hn hl (Xd T m hs h k)
theorem kl (T:TT P) (m:Nat) (hs:List Nat) {f:FuncId} {fn:Func} {xs:List Operand} {us args:List AV} {ats:Array TypeId} {res:AV} {d:Nat} {ty:TypeId} {pos:String} {after:Array Edge} (hf:P.funcs[f]? = some fn)
    (hnb:(fn.name == "runtime.NumGoroutine" || fn.body.isNone)=false) (hx:Mo L xs=some us) (hun:Sh us=some args) (hc:Q8 P f args res) (hd:Nat.blt d n=true) (h:Run T n m hs (.ops arr l::r) ((d,res)::L) B it' L' B' as0) (k:AK P n Q it' L' B') :
    AK P n Q (.ops arr ({ dst:=some d,op:=.call { callee:=.value (.func f),args:=xs.toArray,argTypes:=ats },type:=ty,pos:=pos,after:=after,guard:=none }::l)::r) L B:=by
  simp only [Bool.or_eq_false_iff] at hnb
  exact kw (Zs hf hnb.1 hnb.2 hx hun hc hd) (Xd T m hs h k)
theorem Ye (T:TT P) (m:Nat) (hs:List Nat) {f:FuncId} {fn:Func} {xs:List Operand} {us args:List AV} {ats:Array TypeId} {res:AV} {d:Nat} {ty:TypeId} {pos:String} {after:Array Edge} (hf:P.funcs[f]? = some fn)
    (hnb:(fn.name == "runtime.NumGoroutine" || fn.body.isNone)=false) (hx:Mo (rs arr { dst:=some d,op:=.call { callee:=.value (.func f),args:=xs.toArray,argTypes:=ats },type:=ty,pos:=pos,after:=after,guard:=none } L) xs=some us) (hun:Sh us=some args) (hc:Q8 P f args res) (hd:Nat.blt d n=true)
    (h:Run T n m hs (.dr arr l rest::r) ((d,res)::L) B it' L' B' as0) (k:AK P n Q it' L' B') :
    AK P n Q (.dr arr ({ dst:=some d,op:=.call { callee:=.value (.func f),args:=xs.toArray,argTypes:=ats },type:=ty,pos:=pos,after:=after,guard:=none }::l) rest::r) L B:=by
  simp only [Bool.or_eq_false_iff] at hnb
  exact kd (Zs hf hnb.1 hnb.2 hx hun hc hd) rfl (Xd T m hs h k)
theorem Xf (T:TT P) (m:Nat) (hs:List Nat) {c:Operand} {x y:Code} {b:Bool} (hb:b=true) (hc:Yf L c=some (.one (.bool b))) (h:Run T n m hs (.code x::r) L B it' L' B' as0) (k:AK P n Q it' L' B'):AK P n Q (.code (.cond c x y)::r) L B:=kt hb hc (Xd T m hs h k)
theorem Xb (T:TT P) (m:Nat) (hs:List Nat) {c:Operand} {x y:Code} {b:Bool} (hb:b=false) (hc:Yf L c=some (.one (.bool b))) (h:Run T n m hs (.code y::r) L B it' L' B' as0) (k:AK P n Q it' L' B'):AK P n Q (.code (.cond c x y)::r) L B:=kf hb hc (Xd T m hs h k)
theorem Qf (T:TT P) (m:Nat) (hs:List Nat) {o:Oper} {d:Nat} {u:AV} (hp:AP P arr n o d u L B) (h:Run T n m hs (.ops arr l::r) ((d,u)::L) B it' L' B' as0) (k:AK P n Q it' L' B'):AK P n Q (.ops arr (o::l)::r) L B:=kw hp (Xd T m hs h k)
theorem Xq (T:TT P) (hs:List Nat) {fn:Func} {u x:AV} (h:Ed T L B fn.results.toList hs [] []=some ([u],as0,as0)) (he:u=x):AK P n (RQ P fn n (Is x)) (.code .ret::r) L B:=Re (Qxs T hs h he)
theorem kr2 (T:TT P) (hs:List Nat) {fn:Func} {u v x:AV} (h:Ed T L B fn.results.toList hs [] []=some ([u,v],as0,as0)) (he:AV.tup [u,v]=x):AK P n (RQ P fn n (Is x)) (.code .ret::r) L B:=Re (Qww T hs h he)
theorem kr3 (T:TT P) (hs:List Nat) {fn:Func} {u v y x:AV} (h:Ed T L B fn.results.toList hs [] []=some ([u,v,y],as0,as0)) (he:AV.tup [u,v,y]=x):AK P n (RQ P fn n (Is x)) (.code .ret::r) L B:=Re (Qxq T hs h he)
end
def Qgn:List Oper→Option (List Nat)
  | []=>some []
  |
   o::os=>match o.dst with
   |
    some d=>match Qgn os with
    | some r=>some (d::r)
    | none=>none
   | none=>none
def tsl:List Operand→List Nat
  | []=>[]
  | .tmp t::r=>t::tsl r
  | _::r=>tsl r
def Qei (arr:Array Oper) (D:List Nat):Nat→List Oper→List (List Nat)
  | _,[]=>[]
  | i,o::os=>((List.range i).filter fun j=>(tsl (gsl arr o)).contains (D.getD j 0))::Qei arr D (i+1) os
def Qcy (D:List Nat):Sg→Option Sg
  | []=>some []
  |
   (t,v)::L=>match D.contains t with
   | true=>Qcy D L
   |
    false=>match Qcy D L with
    | some r=>some ((t,v)::r)
    | none=>none
theorem Aw {D:List Nat}:∀ {L L2:Sg},Qcy D L=some L2→(∀ t x,lk L2 t=some x→lk L t=some x)∧(∀ t∈D,lk L2 t=none)
  | [],L2,h=>by simp only [Qcy] at h; injection h with h; subst h; exact ⟨fun t x hx=>hx,fun t _=>rfl⟩
  |
   (t,v)::L,L2,h=>by
   simp only [Qcy] at h
   split at h
   · rename_i hc
     obtain ⟨h1,h2⟩:=Aw h
     refine ⟨fun s x hx=>?_,h2⟩
     simp only [lk]
     split
     · rename_i e
       have e:s=t:=Fg e
       subst e
       rw [h2 s (by simpa using hc)] at hx; cases hx
     · exact h1 s x hx
   · rename_i hc
     split at h
     · rename_i r hr
       injection h with h; subst h
       obtain ⟨h1,h2⟩:=Aw hr
       refine ⟨fun s x hx=>?_,fun s hs=>?_⟩
       · simp only [lk] at hx ⊢
         split at hx
         · exact hx
         · exact h1 s x hx
       · simp only [lk]
         split
         · rename_i e
           have e:s=t:=Fg e
           subst e
           simp [hs] at hc
         · exact h2 s hs
     · cases h
theorem Ps {L:Sg}:∀ {xs:List Operand} {t:Nat} {x:AV},lk (rsl L xs) t=some x→t∈tsl xs∧lk L t=some x
  | [],t,x,h=>by simp [rsl,lk] at h
  |
   .tmp s::r,t,x,h=>by
   simp only [rsl] at h
   split at h
   · rename_i v hv
     simp only [lk] at h
     split at h
     · rename_i e
       have e:t=s:=Fg e
       subst e
       injection h with h; subst h
       exact ⟨by simp [tsl],hv⟩
     · exact ⟨by simp [tsl,(Ps h).1],(Ps h).2⟩
   · exact ⟨by simp [tsl,(Ps h).1],(Ps h).2⟩
  | .const _::r,t,x,h=>by exact Ps (xs:=r) h
  | .global _::r,t,x,h=>by exact Ps (xs:=r) h
  | .func _::r,t,x,h=>by exact Ps (xs:=r) h
def Qdq:List Nat→List AV→Sg→Sg
  | d::D,u::us,L=>Qdq D us ((d,u)::L)
  | _,_,L=>L
theorem DS.all {arr:Array Oper} {K:Sg→Prop}:∀ {os:List Oper} {L:Sg} {D:List Nat},Qgn os=some D→DS P arr n B os K L→∃ us:List AV,us.length=D.length∧K (Qdq D us L)∧∀ (i:Nat) (o:Oper),os[i]? = some o→AP P arr n o (D.getD i 0) (us.getD i .un) (rs arr o (Qdq (D.take i) (us.take i) L)) B
  |
   [],L,D,hD,h=>by
   simp only [Qgn] at hD; injection hD with hD; subst hD
   exact ⟨[],rfl,h,fun i o ho=>by simp at ho⟩
  |
   o::os,L,D,hD,h=>by
   simp only [Qgn] at hD
   split at hD
   · rename_i d hd
     split at hD
     · rename_i D2 hD2
       injection hD with hD; subst hD
       obtain ⟨d',u,h1,h2,h3⟩:=h
       rw [hd] at h1; injection h1 with h1; subst h1
       obtain ⟨us,h4,h5,h6⟩:=DS.all hD2 h3
       refine ⟨u::us,by simp [h4],h5,fun i o' ho=>?_⟩
       cases i with
       | zero=>simp at ho; subst ho; simpa [Qdq] using h2
       | succ i=>simpa [Qdq] using h6 i o' (by simpa using ho)
     · cases hD
   · cases hD
theorem Qkt:∀ {D:List Nat} {us:List AV} {L:Sg} {t:Nat} {x:AV},us.length=D.length→lk (Qdq D us L) t=some x→(∃ j,j<D.length∧D.getD j 0=t∧us.getD j .un=x)∨(t∉D∧lk L t=some x)
  | [],us,L,t,x,hl,h=>.inr ⟨by simp,by cases us <;> simpa [Qdq] using h⟩
  | d::D,[],L,t,x,hl,h=>by simp at hl
  |
   d::D,u::us,L,t,x,hl,h=>by
   simp only [Qdq] at h
   rcases Qkt (by simpa using hl) h with ⟨j,h1,h2,h3⟩ | ⟨h1,h2⟩
   · exact .inl ⟨j+1,by simp; omega,by simpa using h2,by simpa using h3⟩
   · simp only [lk] at h2
     split at h2
     · rename_i e
       have e:t=d:=Fg e
       injection h2 with h2
       exact .inl ⟨0,by simp,by simp [e],by simpa using h2⟩
     · rename_i e
       have e:t≠d:=qJl e
       exact .inr ⟨by simp [e,h1],h2⟩
theorem Qii {arr:Array Oper} {D:List Nat}:∀ {os:List Oper} {k i:Nat} {o:Oper},os[i]? = some o→(Qei arr D k os)[i]? = some ((List.range (k+i)).filter fun j=>(tsl (gsl arr o)).contains (D.getD j 0))
  | [],k,i,o,h=>by simp at h
  | o::os,k,0,o',h=>by simp at h; subst h; simp [Qei]
  |
   o::os,k,i+1,o',h=>by
   have:=Qii (arr:=arr) (D:=D) (k:=k+1) (i:=i) (o:=o') (os:=os) (by simpa using h)
   rw [show k+1+i=k+(i+1) from by omega] at this
   simpa [Qei] using this
theorem Qg0 {arr:Array Oper} {D:List Nat}:∀ {os:List Oper} {k:Nat},(Qei arr D k os).length=os.length
  | [],k=>rfl
  | o::os,k=>by simp [Qei,Qg0]
theorem Qji:∀ {X Y:Sg} {t:Nat},lk (X++Y) t=match lk X t with | some v=>some v | none=>lk Y t
  | [],Y,t=>rfl
  |
   (s,v)::X,Y,t=>by
   simp only [Eb,lk]
   split
   · rfl
   · exact Qji
theorem Qrh {X:Sg} {t:Nat} (h:t∉X.map (·.1)):lk X t=none:=by
  induction X with
  | nil=>rfl
  |
   cons p X ih =>
   obtain ⟨s,v⟩:=p
   simp only [Ee,Vb,not_or] at h
   simp only [lk]
   split
   · rename_i e; exact (h.1 (Fg e)).elim
   · exact ih h.2
theorem Qpt {D:List Nat} {us:List AV} (hnd:∀ i,i<D.length→∀ j,j<D.length→D.getD i 0=D.getD j 0→i=j):∀ {js:List Nat} {j:Nat},j∈js→(∀ i∈js,i<D.length)→lk (js.map fun j=>(D.getD j 0,us.getD j .un)) (D.getD j 0)=some (us.getD j .un)
  | [],j,h,_=>by cases h
  |
   i::js,j,h,hb=>by
   simp only [Ee,lk]
   split
   · rename_i e
     have e:=hnd j (hb j h) i (hb i (by simp)) (Fg e)
     subst e; rfl
   · rename_i e
     rcases Vb.1 h with e' | h
     · subst e'; simp at e
     · exact Qpt hnd h fun i hi=>hb i (W0 _ hi)
theorem SA.weak {K Ob:Nat→Prop} {w0 w:World} {a:Act} {L2:Sg} (hL:∀ t x,lk L2 t=some x→lk L t=some x) (h:SA K Ob w0 w a n L B):SA K Ob w0 w a n L2 B:=by
  obtain ⟨L',Bs,h1,h2,h3⟩:=h
  exact ⟨L',Bs,h1,fun t x hx=>h2 t x (hL t x hx),h3⟩
theorem AP.weak {ops:Array Oper} {o:Oper} {d:Nat} {u:AV} {L2:Sg} (hL:∀ t x,lk L2 t=some x→lk L t=some x) (h:AP P ops n o d u L2 B):AP P ops n o d u L B:=fun K Ob w0 w a Bs L' Fs hs h1 h2=>h K Ob w0 w a Bs L' Fs hs (fun t x hx=>h1 t x (hL t x hx)) h2
theorem AW.weak {ops:Array Oper} {N:Sg→List OB→Prop} {L2:Sg} (hL:∀ t x,lk L2 t=some x→lk L t=some x) (h:AW P ops n l N L2 B):AW P ops n l N L B:=fun K Ob w0 w a Q hs hq=>h K Ob w0 w a Q (hs.weak hL) hq
theorem Qvo {arr:Array Oper} {D:List Nat} {us:List AV} {L0:Sg}:∀ {os:List Oper} {k:Nat},(∀ (i:Nat) (o:Oper),os[i]? = some o→AP P arr n o (D.getD (k+i) 0) (us.getD (k+i) .un) (((List.range (k+i)).filter fun j=>(tsl (gsl arr o)).contains (D.getD j 0)).map (fun j=>(D.getD j 0,us.getD j .un))++L0) B)→APs P arr n L0 B D us k (depsOf D us (Qei arr D k os)) os
  | [],k,_=>trivial
  |
   o::os,k,h=>by
   have hg:∀ js:List Nat,depsOf.go D us js=js.map fun j=>(D.getD j 0,us.getD j .un):=by
     intro js
     induction js with
     | nil=>rfl
     | cons j js ih=>simp [depsOf.go,ih]
   refine ⟨?_,?_⟩
   · have:=h 0 o rfl
     rw [Mr] at this
     rw [hg]
     exact this
   · refine Qvo fun i o' ho=>?_
     have:=h (i+1) o' (by simpa using ho)
     rw [show k+(i+1)=k+1+i from by omega] at this
     exact this
theorem Qku {os:List Oper} {m:Nat} {D:List Nat} {deps:List (List Nat)} (h:Kc os m (D.map some) deps=true) (hm:D.length=m):∀ i,i<D.length→∀ j,j<D.length→D.getD i 0=D.getD j 0→i=j:=by
  intro i hi j hj e
  have h1:=Wi D i hi
  have h2:=Wi D j hj
  exact (Hr h).inj i (by omega) j (by omega) h1.2 h2.2 (by rw [h1.1,h2.1,e])
theorem Qx (m:Nat) {id:Nat} {D:List Nat} {L2:Sg} (hm:P.follows .mixedOrders=true) (hD:Qgn (l.take m)=some D) (hL:Qcy D L=some L2) (hchk:Kc l m (D.map some) (Qei l.toArray D 0 (l.take m))=true)
    (k:AK P n Q (.dr l.toArray (l.take m) (l.drop m)::r) L2 B):AK P n Q (.code (.region id l.toArray true)::r) L B:=by
  have hml:m≤l.length:=(Hr hchk).le
  obtain ⟨hl1,hl2⟩:=Aw hL
  have k:DS P l.toArray n B (l.take m) (fun L2=>AW P l.toArray n (l.drop m) (AKp P n Q r).1 L2 B) L2:=k
  obtain ⟨us,h1,h2,h3⟩:=DS.all hD k
  have hlen:∀ {os:List Oper} {D:List Nat},Qgn os=some D→D.length=os.length:=by
    intro os
    induction os with
    | nil=>intro D h; simp only [Qgn] at h; injection h with h; subst h; rfl
    |
     cons o os ih =>
     intro D h
     simp only [Qgn] at h
     split at h
     · split at h
       · rename_i D2 h2
         injection h with h; subst h; simp [ih h2]
       · cases h
     · cases h
  have hDm:D.length=m:=by rw [hlen hD,Uk]; omega
  have hc:=Qku hchk hDm
  refine AC.sub (L2:=L2) (B2:=B) (fun _ _ _ _ _ h=>h.weak hl1) ?_
  refine Qu9 (L2:=D.zip us++L2) hm m D (Qei l.toArray D 0 (l.take m)) us hchk ?_ ?_ ?_ ?_ ?_
  · simp only [qXk,Bv]
    refine ⟨⟨by simp [hDm],by simp [h1,hDm]⟩,fun js hjs j hj=>?_⟩
    obtain ⟨i,hi⟩:=qZn.1 hjs
    have hil:i<(l.take m).length:=by
      have:=(Wz.1 hi).1
      rwa [Qg0] at this
    rw [Qii (Xv hil)] at hi
    injection hi with hi; subst hi
    have:=(qJf.1 hj).1
    rw [Ru] at this
    rw [Uk] at hil
    rw [Mc]; omega
  · simp only [Bv]
    intro t ht
    rw [hl2 t ht]; rfl
  · refine Qvo fun i o ho=>?_
    have hap:=h3 i o ho
    rw [Vy]
    refine hap.weak fun t x hx=>?_
    obtain ⟨ht,hx⟩:=Ps hx
    have him:i<m:=by
      have:=(Wz.1 ho).1
      rw [Uk] at this; omega
    rw [Qji]
    rcases Qkt (by simp [h1]) hx with ⟨j,hj1,hj2,hj3⟩ | ⟨hj1,hj2⟩
    · rw [Uk] at hj1
      have hji:j<i:=by omega
      have e1:(D.take i).getD j 0=D.getD j 0:=by simp [Ve,Ei,hji]
      have e2:(us.take i).getD j .un=us.getD j .un:=by simp [Ve,Ei,hji]
      rw [e1] at hj2; rw [e2] at hj3
      have:=Qpt (D:=D) (us:=us) hc (js:=(List.range i).filter fun j=>(tsl (gsl l.toArray o)).contains (D.getD j 0)) (j:=j) (qJf.2 ⟨Ru.2 hji,by rw [hj2]; simpa using ht⟩) (fun q hq=>by have:=Ru.1 (qJf.1 hq).1; omega)
      rw [←hj2,this,hj3]
    · have hnone:lk (((List.range i).filter fun j=>(tsl (gsl l.toArray o)).contains (D.getD j 0)).map fun j=>(D.getD j 0,us.getD j .un)) t=none:=by
        refine Qrh fun hm'=>?_
        simp only [List.map_map,Wa,Function.comp] at hm'
        obtain ⟨j,hj,e⟩:=hm'
        have hji:=Ru.1 (qJf.1 hj).1
        refine hj1 ?_
        rw [←e]
        have hjl:j<(D.take i).length:=by rw [Uk]; omega
        have e1:D.getD j 0=(D.take i)[j]:=by simp [Ve,Xv (show j<D.length by omega)]
        rw [e1]; exact qJd hjl
      rw [hnone]; exact hj2
  · have:∀ (D:List Nat) (us:List AV) (L:Sg),us.length=D.length→C2 D us L=some (D.zip us++L):=by
      intro D
      induction D with
      | nil=>intro us L h; cases us with | nil=>rfl | cons _ _=>simp at h
      |
       cons d D ih =>
       intro us L h
       cases us with
       | nil=>simp at h
       | cons u us=>simp [C2,ih us L (by simpa using h)]
    exact this D us L2 h1
  · refine AW.weak (L2:=Qdq D us L2) (fun t x hx=>?_) h2
    rw [Qji]
    rcases Qkt h1 hx with ⟨j,hj1,hj2,hj3⟩ | ⟨hj1,hj2⟩
    · have:=Qpt (D:=D) (us:=us) hc (js:=List.range D.length) (j:=j) (by simpa using hj1) (by simp)
      have e:(List.range D.length).map (fun j=>(D.getD j 0,us.getD j .un))=D.zip us:=by
        apply qYt
        · simp [h1]
        · intro i hi1 hi2
          simp only [Zw,List.length_range] at hi1
          simp [Ve,Xv hi1,Xv (show i<us.length by omega)]
      rw [e,hj2,hj3] at this
      rw [this]
    · have hnone:lk (D.zip us) t=none:=by
        refine Qrh fun hm'=>hj1 ?_
        rw [List.map_fst_zip (by omega)] at hm'
        exact hm'
      rw [hnone]; exact hj2
end Orr

namespace Orr
open Go
variable {P:Program}
def Aggs (P:Program):List Field→List Bool→Prop
  | [],[]=>True
  | f::fs,k::ks=>(∀ w,(isAgg f.type).run P w=.ok k w)∧Aggs P fs ks
  | _,_=>False
theorem FieldSizes.get:∀ {fs:List Field} {ks:List Nat},FieldSizes P fs ks→∀ {i:Nat} {f:Field},fs[i]? = some f→∃ k,ks[i]? = some k∧∀ w,(Go.sizeOf f.type).run P w=.ok k w
  | [],[],_,i,f,h=>by simp at h
  | g::fs,k::ks,h,0,f,hf=>by simp at hf; subst hf; exact ⟨k,rfl,h.1⟩
  | g::fs,k::ks,h,i+1,f,hf=>by simpa using h.2.get (i:=i) (by simpa using hf)
  | [],_::_,h,_,_,_=>h.elim
  | _::_,[],h,_,_,_=>h.elim
theorem Aggs.get:∀ {fs:List Field} {ks:List Bool},Aggs P fs ks→∀ {i:Nat} {f:Field},fs[i]? = some f→∃ k,ks[i]? = some k∧∀ w,(isAgg f.type).run P w=.ok k w
  | [],[],_,i,f,h=>by simp at h
  | g::fs,k::ks,h,0,f,hf=>by simp at hf; subst hf; exact ⟨k,rfl,h.1⟩
  | g::fs,k::ks,h,i+1,f,hf=>by simpa using h.2.get (i:=i) (by simpa using hf)
  | [],_::_,h,_,_,_=>h.elim
  | _::_,[],h,_,_,_=>h.elim
theorem Qlt {t:TypeId} {un:TypeDesc} (h:P.underlying t=some un):∀ w,(underlying t).run P w=.ok un w:=by
  intro w
  simp only [underlying,Sem.run_bind,program]
  first
    | (simp [h]; done)
    | (show ((match P.underlying t with | some d=>pure d | none=>stuck "no such type" : Sem TypeDesc)).run P w=_; rw [h]; rfl)
def Mq (t:TypeId) {ag:Bool} {sz:Nat} {un:TypeDesc} {z:Value} (hag:∀ w,(isAgg t).run P w=.ok ag w) (hsz:∀ w,(Go.sizeOf t).run P w=.ok sz w) (hun:P.underlying t=some un) (hz:∀ w,(zeroValue t).run P w=.ok z w):TI P :=
  { t,ag,sz,un,z,fo:=[],fv:=[],bl:=none,hag,hsz,hun,hz,hfo:=fun _ _ h=>by simp at h,hfv:=fun _ _ _ _ h=>by simp at h,hbl:=fun _ _ h=>by cases h }
def tiA (t:TypeId) {sz m E k:Nat} {ag:Bool} {zs:Array Value} (hag:∀ w,(isAgg t).run P w=.ok ag w) (hsz:∀ w,(Go.sizeOf t).run P w=.ok sz w) (hun:P.underlying t=some (.array m E)) (hz:∀ w,(zeroValue t).run P w=.ok (.agg zs) w) (he:∀ w,(Go.sizeOf E).run P w=.ok k w):TI P :=
  { t,ag,sz,un:=.array m E,z:=.agg zs,fo:=[],fv:=[],bl:=some (zs.toList,fun i=>some (i*k,k)),hag,hsz,hun,hz,hfo:=fun _ _ h=>by simp at h,hfv:=fun _ _ _ _ h=>by simp at h
    hbl:=fun zs' pl h=>by
      injection h with h; injection h with h1 h2
      subst h1; subst h2
      intro vs cs hf w
      exact Qj3 (z:=.agg zs) (Qlt hun) hz he (by simpa [Value.cells] using hf) w }
def Qic:List Field→List Nat→List Bool→List (Nat×Nat×Bool)
  | f::fs,k::ks,a::as0=>(f.offset,k,a)::Qic fs ks as0
  | _,_,_=>[]
theorem Qgd:∀ {fs:List Field} {ks:List Nat} {as0:List Bool} {i:Nat} {x:Nat×Nat×Bool},(Qic fs ks as0)[i]? = some x→∃ f,fs[i]? = some f∧ks[i]? = some x.2.1∧as0[i]? = some x.2.2∧x.1=f.offset
  | [],_,_,i,x,h=>by simp [Qic] at h
  | _::_,[],_,i,x,h=>by simp [Qic] at h
  | _::_,_::_,[],i,x,h=>by simp [Qic] at h
  | f::fs,k::ks,a::as0,0,x,h=>by simp [Qic] at h; subst h; exact ⟨f,rfl,rfl,rfl,rfl⟩
  | f::fs,k::ks,a::as0,i+1,x,h=>by simpa using Qgd (fs:=fs) (i:=i) (by simpa [Qic] using h)
def Dq (t:TypeId) {sz:Nat} {fs:Array Field} {zs:Array Value} {g:Bool} {ks:List Nat} {ag:List Bool} (hag:∀ w,(isAgg t).run P w=.ok g w) (hsz:∀ w,(Go.sizeOf t).run P w=.ok sz w) (hun:P.underlying t=some (.struct fs)) (hz:∀ w,(zeroValue t).run P w=.ok (.agg zs) w)
    (hs:FieldSizes P fs.toList ks) (ha:Aggs P fs.toList ag) (h0:(ks.all fun k=>Nat.blt 0 k)=true):TI P :=
  { t,ag:=g,sz,un:=.struct fs,z:=.agg zs,fo:=fs.toList.map (·.offset),fv:=Qic fs.toList ks ag,bl:=some (zs.toList,((Rx fs.toList ks)[·]?)),hag,hsz,hun,hz
    hfo:=fun f off h b o w=>by
      rw [Sd] at h
      cases hf:fs.toList[f]? with
      | none=>rw [hf] at h; cases h
      |
       some fl =>
       rw [hf] at h
       simp only [qVx,Option.some.injEq] at h
       obtain ⟨k,hk,hr⟩:=hs.get hf
       have hk0:k≠0:=by
         have:=Bv.1 h0 k (Y6 hk)
         rw [Mc] at this; omega
       refine Ys (T:=fl.type) (k:=k) (Qlt hun) ?_ hr hk0 b o w
       rw [←Array.getElem?_toList,hf,←h]; rfl
    hfv:=fun f off m ag_ h vs v hv hl w=>by
      obtain ⟨fl,hf,h1,h2,h3⟩:=Qgd h
      obtain ⟨k,hk,hr⟩:=hs.get hf
      obtain ⟨a,ha',hr'⟩:=ha.get hf
      rw [hk] at h1; injection h1 with h1
      rw [ha'] at h2; injection h2 with h2
      have h1:k=m:=h1
      have h2:a=ag_:=h2
      have h3:off=fl.offset:=h3
      subst h1; subst h2; subst h3
      exact Qdg (T:=fl.type) (Qlt hun) (by rw [←Array.getElem?_toList,hf]; rfl) hr' hr vs v hv hl w
    hbl:=fun zs' pl h=>by
      injection h with h; injection h with h1 h2
      subst h1; subst h2
      intro vs cs hf w
      exact Dv (z:=.agg zs) (Qlt hun) hz hs (by simpa [Value.cells] using hf) w }
end Orr

namespace Orr
open Go Go.Proofs
def ti3:TI Tryz.prog:=Mq 3 Lw Js qFp qWs
def ti4:TI Tryz.prog:=Mq 4 M4 qFn qUa Tryz.zeroValue4
def Q14:TI Tryz.prog:=Mq 22 Tryz.isAgg22 Tryz.sizeOf22 Tryz.underlying22 Tryz.zeroValue22
def Q2g:TI Tryz.prog:=Mq 23 Tryz.isAgg23 Tryz.sizeOf23 Tryz.underlying23 Tryz.zeroValue23
def Q2p:TI Tryz.prog:=Mq 24 qFd qUz Tryz.underlying24 Tryz.zeroValue24
def Q22:TI Tryz.prog:=Mq 28 qFe Ez Tryz.underlying28 qFb
def Q2u:TI Tryz.prog:=Mq 29 Tryz.isAgg29 Tryz.sizeOf29 Tryz.underlying29 Tryz.zeroValue29
def Q2v:TI Tryz.prog:=Mq 30 Tryz.isAgg30 Tryz.sizeOf30 Tryz.underlying30 Tryz.zeroValue30
def Q27:TI Tryz.prog:=Dq (ks:=[1,1]) (ag:=[false,false]) 32 qFq qFj Tryz.underlying32 Cq ⟨Tryz.sizeOf30,qFn,trivial⟩ ⟨Tryz.isAgg30,M4,trivial⟩ rfl
def Q15:TI Tryz.prog:=Dq (ks:=[2,2]) (ag:=[true,true]) 34 qUo Uo Tryz.underlying34 Sl ⟨qFj,qFj,trivial⟩ ⟨qFq,qFq,trivial⟩ rfl
def Q2s:TI Tryz.prog:=Dq (ks:=[1,1,4,4]) (ag:=[false,false,true,true]) 36 Tryz.isAgg36 Tryz.sizeOf36 Tryz.underlying36 Tryz.zeroValue36 ⟨Ez,Tryz.sizeOf29,Uo,Uo,trivial⟩ ⟨qFe,Tryz.isAgg29,qUo,qUo,trivial⟩ rfl
def Q2n:TI Tryz.prog:=Mq 38 Tryz.isAgg38 Tryz.sizeOf38 Tryz.underlying38 Tryz.zeroValue38
def Q17:TI Tryz.prog:=tiA 42 Tryz.isAgg42 Tryz.sizeOf42 Tryz.underlying42 Tryz.zeroValue42 Js
def Q2h:TI Tryz.prog:=Dq (ks:=[1,4]) (ag:=[false,true]) 44 qFy qFv Tryz.underlying44 Tryz.zeroValue44 ⟨Js,Tryz.sizeOf42,trivial⟩ ⟨Lw,Tryz.isAgg42,trivial⟩ rfl
def Q20:TI Tryz.prog:=Mq 45 Tryz.isAgg45 Tryz.sizeOf45 Tryz.underlying45 Tryz.zeroValue45
def Q2j:TI Tryz.prog:=Dq (ks:=[5,1,1,1,1]) (ag:=[true,false,false,false,false]) 47 Tryz.isAgg47 qWq Tryz.underlying47 qUe ⟨qFv,Ez,Js,Tryz.sizeOf45,qFn,trivial⟩ ⟨qFy,qFe,Lw,Tryz.isAgg45,M4,trivial⟩ rfl
def Q23:TI Tryz.prog:=Mq 48 Tryz.isAgg48 Tryz.sizeOf48 Tryz.underlying48 Tryz.zeroValue48
def Q2r:TI Tryz.prog:=Mq 51 Tryz.isAgg51 Tryz.sizeOf51 Tryz.underlying51 Tryz.zeroValue51
def Q13:TI Tryz.prog:=Mq 52 qUl qUf Tryz.underlying52 Tryz.zeroValue52
def Q2k:TI Tryz.prog:=Mq 53 N7 Tryz.sizeOf53 Tryz.underlying53 Tryz.zeroValue53
def Q24:TI Tryz.prog:=Dq (ks:=[1,1]) (ag:=[false,false]) 55 Rd J6 Tryz.underlying55 Ko ⟨qFn,Tryz.sizeOf53,trivial⟩ ⟨M4,N7,trivial⟩ rfl
def Q12:TI Tryz.prog:=Dq (ks:=[2,2]) (ag:=[true,true]) 57 Tryz.isAgg57 Tryz.sizeOf57 Tryz.underlying57 qUp ⟨J6,J6,trivial⟩ ⟨Rd,Rd,trivial⟩ rfl
def Q2e:TI Tryz.prog:=Dq (ks:=[1,4,4]) (ag:=[false,true,true]) 59 qFz qFa Tryz.underlying59 qFc ⟨qUf,Tryz.sizeOf57,Tryz.sizeOf57,trivial⟩ ⟨qUl,Tryz.isAgg57,Tryz.isAgg57,trivial⟩ rfl
def Q2w:TI Tryz.prog:=Mq 63 Tryz.isAgg63 Tryz.sizeOf63 Tryz.underlying63 Tryz.zeroValue63
def Q16:TI Tryz.prog:=Dq (ks:=[1,1,1,1,1]) (ag:=[false,false,false,false,false]) 65 Tryz.isAgg65 Tryz.sizeOf65 Tryz.underlying65 Tryz.zeroValue65 ⟨Tryz.sizeOf23,Tryz.sizeOf23,Tryz.sizeOf23,Tryz.sizeOf23,Tryz.sizeOf63,trivial⟩ ⟨Tryz.isAgg23,Tryz.isAgg23,Tryz.isAgg23,Tryz.isAgg23,Tryz.isAgg63,trivial⟩ rfl
def Q2x:TI Tryz.prog:=Dq (ks:=[1,1,2]) (ag:=[false,false,true]) 74 qFr qFk qFw qWx ⟨qUf,qUf,J6,trivial⟩ ⟨qUl,qUl,Rd,trivial⟩ rfl
def Q25:TI Tryz.prog:=Dq (ks:=[4,1]) (ag:=[true,false]) 76 qUs F4 Tryz.underlying76 qWi ⟨qFk,Js,trivial⟩ ⟨qFr,Lw,trivial⟩ rfl
def Q21:TI Tryz.prog:=tiA 79 Tryz.isAgg79 Tryz.sizeOf79 Tryz.underlying79 Tryz.zeroValue79 Js
def Q2m:TI Tryz.prog:=Mq 84 Tryz.isAgg84 Tryz.sizeOf84 Tryz.underlying84 Tryz.zeroValue84
def Q2b:TI Tryz.prog:=Dq (ks:=[10,1,1,1]) (ag:=[true,false,false,false]) 91 Tryz.isAgg91 Tryz.sizeOf91 Tryz.underlying91 Tryz.zeroValue91 ⟨Tryz.sizeOf36,Tryz.sizeOf38,Js,Tryz.sizeOf45,trivial⟩ ⟨Tryz.isAgg36,Tryz.isAgg38,Lw,Tryz.isAgg45,trivial⟩ rfl
def Q2i:TI Tryz.prog:=Dq (ks:=[1,4,13]) (ag:=[false,true,true]) 93 Tryz.isAgg93 Tryz.sizeOf93 Tryz.underlying93 Tryz.zeroValue93 ⟨qUz,Uo,Tryz.sizeOf91,trivial⟩ ⟨qFd,qUo,Tryz.isAgg91,trivial⟩ rfl
def Q2l:TI Tryz.prog:=Dq (ks:=[1,1,4]) (ag:=[false,false,true]) 98 Tryz.isAgg98 Tryz.sizeOf98 Tryz.underlying98 Tryz.zeroValue98 ⟨Ez,Ez,qFk,trivial⟩ ⟨qFe,qFe,qFr,trivial⟩ rfl
def Q0e:TI Tryz.prog:=Dq (ks:=[6,1]) (ag:=[true,false]) 100 qUg Kn Tryz.underlying100 qWh ⟨Tryz.sizeOf98,Js,trivial⟩ ⟨Tryz.isAgg98,Lw,trivial⟩ rfl
def Qzg:TI Tryz.prog:=Mq 102 Tryz.isAgg102 Tryz.sizeOf102 Tryz.underlying102 Tryz.zeroValue102
def Qy4:TI Tryz.prog:=Dq (ks:=[1,9,1,1]) (ag:=[false,true,false,false]) 104 Tryz.isAgg104 qGo Tryz.underlying104 Tryz.zeroValue104 ⟨qFn,qFa,Tryz.sizeOf102,Js,trivial⟩ ⟨M4,qFz,Tryz.isAgg102,Lw,trivial⟩ rfl
def Qzv:TI Tryz.prog:=Dq (ks:=[1]) (ag:=[false]) 106 Tryz.isAgg106 qGp Tryz.underlying106 qUy ⟨Tryz.sizeOf22,trivial⟩ ⟨Tryz.isAgg22,trivial⟩ rfl
def Qz3:TI Tryz.prog:=Dq (ks:=[12,1,1]) (ag:=[true,true,false]) 108 Tryz.isAgg108 Tryz.sizeOf108 Tryz.underlying108 Tryz.zeroValue108 ⟨qGo,qGp,Tryz.sizeOf22,trivial⟩ ⟨Tryz.isAgg104,Tryz.isAgg106,Tryz.isAgg22,trivial⟩ rfl
def Qzu:TI Tryz.prog:=Mq 110 Tryz.isAgg110 Tryz.sizeOf110 Tryz.underlying110 Tryz.zeroValue110
def Q0n:TI Tryz.prog:=Mq 114 Tryz.isAgg114 Tryz.sizeOf114 Tryz.underlying114 Tryz.zeroValue114
def Qzq:TI Tryz.prog:=Dq (ks:=[1,4,13]) (ag:=[false,true,true]) 119 Tryz.isAgg119 Tryz.sizeOf119 Tryz.underlying119 Tryz.zeroValue119 ⟨qUz,Uo,Tryz.sizeOf91,trivial⟩ ⟨qFd,qUo,Tryz.isAgg91,trivial⟩ rfl
def Qzf:TI Tryz.prog:=Mq 120 Tryz.isAgg120 Tryz.sizeOf120 Tryz.underlying120 Tryz.zeroValue120
def Qz4:TI Tryz.prog:=Dq (ks:=[12,1,1,1]) (ag:=[true,true,false,false]) 122 Tryz.isAgg122 Tryz.sizeOf122 Tryz.underlying122 Tryz.zeroValue122 ⟨qGo,qGp,Tryz.sizeOf22,Tryz.sizeOf120,trivial⟩ ⟨Tryz.isAgg104,Tryz.isAgg106,Tryz.isAgg22,Tryz.isAgg120,trivial⟩ rfl
def Q09:TI Tryz.prog:=tiA 123 Tryz.isAgg123 Tryz.sizeOf123 Tryz.underlying123 Tryz.zeroValue123 Js
def Qy3:TI Tryz.prog:=Mq 125 Tryz.isAgg125 Tryz.sizeOf125 Tryz.underlying125 Tryz.zeroValue125
def Q0o:TI Tryz.prog:=Mq 133 Tryz.isAgg133 Tryz.sizeOf133 Tryz.underlying133 Tryz.zeroValue133
def Qzx:TI Tryz.prog:=Dq (ks:=[1,4,13]) (ag:=[false,true,true]) 138 Tryz.isAgg138 Tryz.sizeOf138 Tryz.underlying138 Tryz.zeroValue138 ⟨qUz,Uo,Tryz.sizeOf91,trivial⟩ ⟨qFd,qUo,Tryz.isAgg91,trivial⟩ rfl
def Qzz:TI Tryz.prog:=Mq 143 Tryz.isAgg143 Tryz.sizeOf143 Tryz.underlying143 Tryz.zeroValue143
def Qzm:TI Tryz.prog:=Mq 144 Tryz.isAgg144 Tryz.sizeOf144 Tryz.underlying144 Tryz.zeroValue144
def Q1f:TI Tryz.prog:=Dq (ks:=[1,4,13]) (ag:=[false,true,true]) 148 Tryz.isAgg148 Tryz.sizeOf148 Tryz.underlying148 Tryz.zeroValue148 ⟨qUz,Uo,Tryz.sizeOf91,trivial⟩ ⟨qFd,qUo,Tryz.isAgg91,trivial⟩ rfl
def Q0l:TI Tryz.prog:=Dq (ks:=[5,1,1]) (ag:=[true,false,false]) 166 Tryz.isAgg166 qWw Tryz.underlying166 qUc ⟨qFv,qUf,Js,trivial⟩ ⟨qFy,qUl,Lw,trivial⟩ rfl
def Qz0:TI Tryz.prog:=Mq 172 Tryz.isAgg172 Tryz.sizeOf172 Tryz.underlying172 Tryz.zeroValue172
def Q07:TI Tryz.prog:=Dq (ks:=[7,1,1,9]) (ag:=[true,false,false,true]) 196 Tryz.isAgg196 qFl Tryz.underlying196 qUr ⟨qWw,qFn,qFn,qFa,trivial⟩ ⟨Tryz.isAgg166,M4,M4,qFz,trivial⟩ rfl
def Qzy:TI Tryz.prog:=tiA 198 Tryz.isAgg198 Tryz.sizeOf198 Tryz.underlying198 Tryz.zeroValue198 F4
def Q0g:TI Tryz.prog:=Dq (ks:=[12,1,1]) (ag:=[true,true,false]) 210 Tryz.isAgg210 Tryz.sizeOf210 Tryz.underlying210 Tryz.zeroValue210 ⟨qGo,qGp,Tryz.sizeOf63,trivial⟩ ⟨Tryz.isAgg104,Tryz.isAgg106,Tryz.isAgg63,trivial⟩ rfl
def Q0t:TI Tryz.prog:=Mq 211 Tryz.isAgg211 Tryz.sizeOf211 Tryz.underlying211 Tryz.zeroValue211
def Q1b:TI Tryz.prog:=Mq 212 Tryz.isAgg212 Tryz.sizeOf212 Tryz.underlying212 Tryz.zeroValue212
def Qz1:TI Tryz.prog:=Dq (ks:=[12,1,1]) (ag:=[true,true,false]) 215 Tryz.isAgg215 Tryz.sizeOf215 Tryz.underlying215 Tryz.zeroValue215 ⟨qGo,qGp,Tryz.sizeOf22,trivial⟩ ⟨Tryz.isAgg104,Tryz.isAgg106,Tryz.isAgg22,trivial⟩ rfl
def Qzn:TI Tryz.prog:=tiA 230 Tryz.isAgg230 Tryz.sizeOf230 Tryz.underlying230 Tryz.zeroValue230 Kn
def Qzk:TI Tryz.prog:=tiA 269 Tryz.isAgg269 Tryz.sizeOf269 Tryz.underlying269 Tryz.zeroValue269 Tryz.sizeOf123
def Qy7:TI Tryz.prog:=Mq 276 Sp Y7 Tryz.underlying276 qWo
def Qz7:TI Tryz.prog:=Mq 287 Tryz.isAgg287 Tryz.sizeOf287 Tryz.underlying287 Tryz.zeroValue287
def Q0d:TI Tryz.prog:=Mq 317 Tryz.isAgg317 Tryz.sizeOf317 Tryz.underlying317 Tryz.zeroValue317
def Q06:TI Tryz.prog:=Mq 320 Tryz.isAgg320 Tryz.sizeOf320 Tryz.underlying320 Tryz.zeroValue320
def Q00:TI Tryz.prog:=Mq 342 Tryz.isAgg342 Tryz.sizeOf342 Tryz.underlying342 Tryz.zeroValue342
def Q0c:TI Tryz.prog:=Dq (ks:=[1]) (ag:=[false]) 347 Tryz.isAgg347 Tryz.sizeOf347 Tryz.underlying347 Tryz.zeroValue347 ⟨Tryz.sizeOf287,trivial⟩ ⟨Tryz.isAgg287,trivial⟩ rfl
def Qy5:TI Tryz.prog:=Mq 362 Tryz.isAgg362 Tryz.sizeOf362 Tryz.underlying362 Tryz.zeroValue362
def tt:TT Tryz.prog:=(.nd (.nd (.nd (.nd (.nd (.nd (.nd .nil ti3 .nil) ti4 .nil) Q14 (.nd .nil Q2g .nil)) Q2p (.nd (.nd .nil Q22 .nil) Q2u (.nd .nil Q2v .nil))) Q27 (.nd (.nd (.nd .nil Q15 .nil) Q2s (.nd .nil Q2n .nil)) Q17 (.nd (.nd .nil Q2h .nil) Q20 (.nd .nil Q2j .nil)))) Q23 (.nd (.nd (.nd (.nd (.nd .nil Q2r .nil) Q13 .nil) Q2k (.nd .nil Q24 .nil)) Q12 (.nd (.nd .nil Q2e .nil) Q2w (.nd .nil Q16 .nil))) Q2x (.nd (.nd (.nd .nil Q25 .nil) Q21 (.nd .nil Q2m .nil)) Q2b (.nd (.nd .nil Q2i .nil) Q2l (.nd .nil Q0e .nil))))) Qzg (.nd (.nd (.nd (.nd (.nd (.nd .nil Qy4 .nil) Qzv .nil) Qz3 (.nd .nil Qzu .nil)) Q0n (.nd (.nd .nil Qzq .nil) Qzf (.nd .nil Qz4 .nil))) Q09 (.nd (.nd (.nd .nil Qy3 .nil) Q0o (.nd .nil Qzx .nil)) Qzz (.nd (.nd .nil Qzm .nil) Q1f (.nd .nil Q0l .nil)))) Qz0 (.nd (.nd (.nd (.nd .nil Q07 .nil) Qzy (.nd .nil Q0g .nil)) Q0t (.nd (.nd .nil Q1b .nil) Qz1 (.nd .nil Qzn .nil))) Qzk (.nd (.nd (.nd .nil Qy7 .nil) Qz7 (.nd .nil Q0d .nil)) Q06 (.nd (.nd .nil Q00 .nil) Q0c (.nd .nil Qy5 .nil))))))
end Orr

namespace Orr
open Go Go.Proofs
theorem Qwk {b:Bool} {l:List Nat}:Q8 Tryz.prog 252 [.agg [.bool b,Xy l]] (.one (.bool (decide (l.length=0)))):=by
 refine X2 tt 4 [] qUm Tryz.ntmps252 rfl rfl rfl ?_
 refine Qf tt 2 [] (Qj (m:=l.length) Jd rfl (by simp [We,Xy]) rfl) rfl ?_
 exact Xq tt [] rfl (by simp)
theorem Ux (z:Int):Q8 Tryz.prog 252 [.agg (Wy z)] (.one (.bool (decide (z=0)))):=by
 have h:=Qwk (b:=decide (z<0)) (l:=Kb z.natAbs)
 rwa [show decide ((Kb z.natAbs).length=0)=decide (z=0) from by rw [decide_eq_decide]; exact Qnf] at h
theorem Ma {p:List Int} {k:Nat}:Q8 Tryz.prog 257 [.one (pl p),.one (.int .i64 ((k:Int)))] (.agg [sg (p.getD k 0),mg (p.getD k 0)]):=by
 refine X2 tt 0 [] Tryz.func257 Tryz.ntmps257 rfl rfl rfl ?_
 refine Zn (Ql Ko rfl rfl fun g1=>ko ?_)
 refine Qr tt 2 rfl ?_
 refine Qf tt 1 [] (Qj (m:=p.length) Kr rfl (Jq _) rfl) rfl ?_
 refine kif rfl (fun hb_if1=>?_) (fun hb_if1=>?_)
 ·try simp only [decide_eq_true_eq,decide_eq_false_iff_not,Vf,Vg] at hb_if1
  have hb:k<p.length:=by omega
  refine Qr tt 2 rfl ?_
  obtain ⟨x_ix1,hx_ix1⟩:∃ x,(p)[k]? = some x:=⟨_,Xv (by omega)⟩
  refine Qw tt rfl ?_
  refine Qf tt 2 [0] (Qi (k) Kr J6 rfl rfl (rfl) (Qg hx_ix1) rfl rfl) rfl ?_
  exact Xq tt [0] rfl (by rw [Ve,hx_ix1]; rfl)
 try simp only [decide_eq_true_eq,decide_eq_false_iff_not,Vf,Vg] at hb_if1
 have hb:p.length≤k:=by omega
 refine Xd tt 2 [0] rfl ?_
 exact Xq tt [0] rfl (by rw [Ve,Eu hb,Option.getD_none]; exact congrArg AV.agg ofI_zero.symm)
theorem Tp {p:List Int} (hl:p.length<140737488355328:=by omega):Q8 Tryz.prog 192 [.one (pl p)] (.one (pl (trim p))):=by
 refine X2 tt 2 [] Tryz.func192 Tryz.ntmps192 rfl rfl rfl ?_
 refine Qf tt 1 [] (Qj (m:=p.length) Kr rfl (Jq _) rfl) rfl ?_
 refine Qk [0,3] rfl rfl ?_
 refine Zj (fun m L B=>∃ n,n≤p.length∧(∀ j x,n≤j→p[j]? = some x→x=0)∧m=n∧L=[(0,.one (pl p)),(3,.one (.int .i64 ((n:Int))))]∧B=[]) (m:=_) ⟨p.length,Ji _,fun j x hj hx=>absurd (Wz.1 hx).1 (by omega),rfl,rfl,rfl⟩ ?_
 rintro m L B ⟨n,hp0,hp1,hm,rfl,rfl⟩
 refine Qw tt rfl ?_
 by_cases hn0:0<n
 ·obtain ⟨y,hy⟩:∃ y,p[n-1]? = some y:=⟨_,Xv (by omega)⟩
  by_cases hy0:y=0
  refine Qw tt rfl ?_
  ·skip
   refine Qr tt 3 rfl ?_
   refine Qf tt 0 [] ((Qd rfl rfl (decide_eq_true (by omega)) (Qv tt rfl rfl))) rfl ?_
   refine Qf tt 0 [] ((Qd rfl rfl (decide_eq_true (by omega)) (Qv tt rfl rfl))) rfl ?_
   refine Qf tt 0 [] ((Qd rfl rfl (decide_eq_true (by omega)) (Xs (r:=((n-1:Nat):Int)) rfl rfl (Qm (by omega) (by omega)) rfl))) rfl ?_
   refine Qf tt 0 [] ((Qd rfl rfl (decide_eq_true (by omega)) (Qi (n-1) Kr J6 rfl rfl (rfl) (Qg hy) rfl rfl))) rfl ?_
   refine Qf tt 0 [] ((Qd rfl rfl (decide_eq_true (by omega)) (Qv tt rfl rfl))) rfl ?_
   refine Qf tt 0 [] ((Qd rfl rfl (decide_eq_true (by omega)) (Zs qUm rfl rfl rfl rfl ((Ux _) ) rfl))) rfl ?_
   refine Qf tt 0 [] (Zp rfl (decide_eq_true (by omega)) rfl rfl) rfl ?_
   refine Xf tt 1 [] (decide_eq_true hy0) rfl rfl ?_
   refine Qf tt 1 [] (Xs (r:=((n-1:Nat):Int)) rfl rfl (Qm (by omega) (by omega)) rfl) rfl ?_
   refine Qk [0,3] rfl rfl ?_
   refine Q7 ?_
   refine ⟨_,?_,n-1,by omega,fun j x hj hx=>by
     rcases Mp j n with h1 | h1
     ·have:j=n-1:=by omega
      subst this; rw [hy] at hx; injection hx with hx; rw [←hx]; exact hy0
     ·exact hp1 j x h1 hx,rfl,rfl,rfl⟩
   omega
  skip
  refine Qr tt 3 rfl ?_
  refine Qf tt 0 [] ((Qd rfl rfl (decide_eq_true (by omega)) (Qv tt rfl rfl))) rfl ?_
  refine Qf tt 0 [] ((Qd rfl rfl (decide_eq_true (by omega)) (Qv tt rfl rfl))) rfl ?_
  refine Qf tt 0 [] ((Qd rfl rfl (decide_eq_true (by omega)) (Xs (r:=((n-1:Nat):Int)) rfl rfl (Qm (by omega) (by omega)) rfl))) rfl ?_
  refine Qf tt 0 [] ((Qd rfl rfl (decide_eq_true (by omega)) (Qi (n-1) Kr J6 rfl rfl (rfl) (Qg hy) rfl rfl))) rfl ?_
  refine Qf tt 0 [] ((Qd rfl rfl (decide_eq_true (by omega)) (Qv tt rfl rfl))) rfl ?_
  refine Qf tt 0 [] ((Qd rfl rfl (decide_eq_true (by omega)) (Zs qUm rfl rfl rfl rfl ((Ux _) ) rfl))) rfl ?_
  refine Qf tt 0 [] (Zp rfl (decide_eq_true (by omega)) rfl rfl) rfl ?_
  refine Xb tt 2 [] (decide_eq_false hy0) rfl rfl ?_
  have hcut:=Qh2 (l:=p) (m:=n) hp0 hp1 (fun _=>⟨y,hy,hy0⟩)
  refine Qf tt 1 [] (Fd n Kr J6 rfl rfl rfl (by simp; omega) (Vu p (sz:=2) (fun _=>rfl)) (l':=(trim p).map Wy) (by rw [hcut,qXu]) rfl) rfl ?_
  exact Xq tt [] rfl (rfl)
 skip
 refine Qr tt 3 rfl ?_
 refine Qf tt 0 [] (Qh rfl rfl (decide_eq_false (by omega)) rfl) rfl ?_
 refine Qf tt 0 [] (Qh rfl rfl (decide_eq_false (by omega)) rfl) rfl ?_
 refine Qf tt 0 [] (Qh rfl rfl (decide_eq_false (by omega)) rfl) rfl ?_
 refine Qf tt 0 [] (Qh rfl rfl (decide_eq_false (by omega)) rfl) rfl ?_
 refine Qf tt 0 [] (Qh rfl rfl (decide_eq_false (by omega)) rfl) rfl ?_
 refine Qf tt 0 [] (Qh rfl rfl (decide_eq_false (by omega)) rfl) rfl ?_
 refine Qf tt 0 [] (Zu rfl (decide_eq_false (by omega)) rfl rfl) rfl ?_
 refine Xb tt 2 [] (rfl) rfl rfl ?_
 have hcut:=Qh2 (l:=p) (m:=n) hp0 hp1 (fun h=>absurd h hn0)
 refine Qf tt 1 [] (Fd n Kr J6 rfl rfl rfl (by simp; omega) (Vu p (sz:=2) (fun _=>rfl)) (l':=(trim p).map Wy) (by rw [hcut,qXu]) rfl) rfl ?_
 exact Xq tt [] rfl (rfl)
theorem Qgf {p q:List Int} {k:Nat} (hp:Bd 4294967295 p) (hq:Bd 4294967295 q):Q8 Tryz.prog 294 [.one (.int .i64 ((k:Int))),.one (.sh [pl p]),.one (.sh [pl q])] (.agg [sg (p.getD k 0+q.getD k 0),mg (p.getD k 0+q.getD k 0)]):=by
 refine X2 tt 0 [] Tryz.func294 Tryz.ntmps294 rfl rfl rfl ?_
 refine Zn (Ql Ko rfl rfl fun g1=>ko ?_)
 refine Qw tt rfl ?_
 refine Qx 5 Qp rfl rfl rfl ?_
 refine Qr tt 2 rfl ?_
 refine Ye tt 2 [] Tryz.func257 rfl rfl rfl (Ma ) rfl rfl ?_
 refine Qw tt rfl ?_
 refine kl tt 0 [] Tryz.func257 rfl rfl rfl (Ma ) rfl rfl ?_
 refine kl tt 1 [0] Tryz.func295 rfl rfl rfl (Su (Zc _) (Zc _) (Zl hp k) (Zl hq k)) rfl rfl ?_
 exact Xq tt [0] rfl (rfl)
theorem Qhb {p q:List Int} {k:Nat} (hp:Bd 4294967295 p) (hq:Bd 4294967295 q):Q8 Tryz.prog 255 [.one (.int .i64 ((k:Int))),.one (.sh [pl p]),.one (.sh [pl q])] (.agg [sg (p.getD k 0-q.getD k 0),mg (p.getD k 0-q.getD k 0)]):=by
 refine X2 tt 0 [] Tryz.func255 Tryz.ntmps255 rfl rfl rfl ?_
 refine Zn (Ql Ko rfl rfl fun g1=>ko ?_)
 refine Qw tt rfl ?_
 refine Qx 5 Qp rfl rfl rfl ?_
 refine Qr tt 2 rfl ?_
 refine Ye tt 2 [] Tryz.func257 rfl rfl rfl (Ma ) rfl rfl ?_
 refine Qw tt rfl ?_
 refine kl tt 0 [] Tryz.func257 rfl rfl rfl (Ma ) rfl rfl ?_
 refine kl tt 1 [0] Tryz.func256 rfl rfl rfl (Qhi (Zc _) (Zc _) (Zl hp k) (Zl hq k)) rfl rfl ?_
 exact Xq tt [0] rfl (rfl)
theorem Qbi {p:List Int} {c:Int} {k:Nat} (hk:k<p.length) (hp:Bd 4294967295 p) (hc:Xh c≤4294967295):Q8 Tryz.prog 258 [.one (.int .i64 ((k:Int))),.one (.sh [pl p]),.one (.sh [sg c,mg c])] (.agg [sg (p.getD k 0*c),mg (p.getD k 0*c)]):=by
 refine X2 tt 0 [] Tryz.func258 Tryz.ntmps258 rfl rfl rfl ?_
 refine Zn (Ql Ko rfl rfl fun g1=>ko ?_)
 refine Qw tt rfl ?_
 refine Qx 5 Qp rfl rfl rfl ?_
 obtain ⟨x_ix1,hx_ix1⟩:∃ x,(p)[k]? = some x:=⟨_,Xv (by omega)⟩
 refine Qr tt 2 rfl ?_
 refine kd (Qi (k) Kr J6 rfl rfl (rfl) (Qg hx_ix1) rfl rfl) rfl ?_
 refine Qr tt 2 rfl ?_
 refine Qw tt rfl ?_
 refine kl tt 1 [0] qUi rfl rfl rfl (J3 (Zc _) (Zc _) (Qjm hp hx_ix1) (hc)) rfl rfl ?_
 exact Xq tt [0] rfl (by rw [Ve,hx_ix1]; rfl)
set_option maxRecDepth 20000 in
theorem I2 {p:List Int} {k:Nat} (hk:k+1<p.length) (hl:p.length<274877906944) (hp:Bd 4294967295 p):Q8 Tryz.prog 296 [.one (.int .i64 ((k:Int))),.one (.sh [pl p])] (.agg [sg (p.getD (k+1) 0*((k+1:Nat):Int)),mg (p.getD (k+1) 0*((k+1:Nat):Int))]):=by
 refine X2 tt 0 [] Tryz.func296 Tryz.ntmps296 rfl rfl rfl ?_
 refine Zn (Ql Ko rfl rfl fun g1=>ko ?_)
 refine Qw tt rfl ?_
 refine Qx 8 Qp rfl rfl rfl ?_
 refine Qr tt 2 rfl ?_
 refine kd (Q6 (r:=((k+1:Nat):Int)) rfl rfl (Qm (by omega) (by omega)) rfl) rfl ?_
 obtain ⟨x_ix1,hx_ix1⟩:∃ x,(p)[k+1]? = some x:=⟨_,Xv (by omega)⟩
 refine Qw tt rfl ?_
 refine kd (Qi (k+1) Kr J6 rfl rfl (rfl) (Qg hx_ix1) rfl rfl) rfl ?_
 refine Qr tt 2 rfl ?_
 refine kd (Q6 (r:=((k+1:Nat):Int)) rfl rfl (Qm (by omega) (by omega)) rfl) rfl ?_
 refine Qw tt rfl ?_
 refine Ye tt 0 [] qFo rfl rfl rfl (U5 (by omega)) rfl rfl ?_
 refine kl tt 1 [0] qUi rfl rfl rfl (J3 (Zc _) (Zc _) (Qjm hp hx_ix1) (Qmv (by omega))) rfl rfl ?_
 exact Xq tt [0] rfl (by rw [Ve,hx_ix1]; rfl)
theorem Rg {n fid:Nat} {pre post:List LV} {fn:Func} {g:Nat→Int} (hfn:Tryz.prog.funcs[fid]? = some fn) (hnm:(fn.name == "runtime.NumGoroutine")=false) (hbd:fn.body.isNone=false) (hn:n<274877906944)
  (hf:∀ k:Nat,k<n→Q8 Tryz.prog fid (pre.map .one++[.one (.int .i64 (k:Int))]++post.map .one) (.agg (Wy (g k)))):Q8 Tryz.prog 254 [.one (.int .i64 ((n:Int))),.one (.fn fid pre post)] (.one (pl (Ut n g))):=by
 refine X2 tt 2 [] Tryz.func254 Tryz.ntmps254 rfl rfl rfl ?_
 refine Zn (G3 (n) Kr qWr rfl J6 Ko rfl rfl rfl rfl rfl rfl (rfl) (rfl) (hn) rfl fun r1=>ko ?_)
 refine X5 (fun _ k_=>Gy (ls':=(An g n 0).map Wy) 0 rfl rfl (by rw [←Cn]; exact C7 _) (Qo k_)) rfl ?_
 refine Qr tt 2 rfl ?_
 refine Qf tt 1 [] (Qj (m:=n) Kr rfl (rfl) rfl) rfl ?_
 refine Qk [1,5,10,11] rfl rfl ?_
 refine Zj (fun m L B=>∃ i,i≤n∧m=n-i∧L=[(1,.one (.fn fid pre post)),(5,.one (.orow r1 2 0 n)),(10,.one (.int .i64 (((n:Nat):Int)))),(11,.one (.int .i64 ((i:Int))))]∧B=[.row r1 55 2 ((An g n i).map Wy)]) (m:=_) ⟨0,K7 _,rfl,rfl,rfl⟩ ?_
 rintro m L B ⟨i,hp0,hm,rfl,rfl⟩
 refine Qw tt rfl ?_
 by_cases hlt:i<n
 ·skip
  refine Qr tt 1 rfl ?_
  refine Xf tt 6 [] (decide_eq_true (by omega)) rfl rfl ?_
  refine Qf tt 0 [] (Iz rfl hfn hnm hbd rfl rfl (hf i hlt) rfl) rfl ?_
  refine kw (Zr (i) Kr J6 rfl rfl (rfl) (by omega) rfl) ?_
  refine Zn (Ju (ls2:=(An g n (i+1)).map Wy) 0 J6 rfl rfl rfl rfl rfl rfl (by rw [Vy]; exact Qg (E3 g hlt)) rfl (by rw [Vy]; exact (W4 Wy _ i (g i)).trans (by rw [Ai g hlt])) (ko ?_))
  refine Qw tt rfl ?_
  refine Qf tt 1 [] (Q6 (r:=((i+1:Nat):Int)) rfl rfl (Qm (by omega) (by omega)) rfl) rfl ?_
  refine Qk [1,5,10,11] rfl rfl ?_
  refine Q7 ?_
  refine ⟨_,?_,i+1,by omega,rfl,rfl,rfl⟩
  omega
 skip
 refine Qr tt 1 rfl ?_
 refine Xb tt 1 [] (decide_eq_false (by omega)) rfl rfl ?_
 refine X5 (fun _ k_=>Xm 0 [21] rfl (Zg rfl) (by rw [Zw,Uw g (by omega)]) (by rw [Zw,Uw g (by omega)]; omega) rfl (Qo k_)) rfl ?_
 refine Qw tt rfl ?_
 refine kl tt 1 [] Tryz.func192 rfl rfl rfl (Tp (by rw [Uw g (by omega)]; omega)) rfl rfl ?_
 exact Xq tt [] rfl (by rw [show i=n from by omega,E4]; rfl)
theorem Qjz {p q:List Int} (hlp:p.length<274877906944) (hlq:q.length<274877906944) (hp:Bd 4294967295 p) (hq:Bd 4294967295 q):Q8 Tryz.prog 236 [.one (pl p),.one (pl q)] (.one (pl (Qif p q))):=by
 refine X2 tt 4 [] Tryz.func236 Tryz.ntmps236 rfl rfl rfl ?_
 refine Qf tt 1 [] (Qj (m:=p.length) Kr rfl (Jq _) rfl) rfl ?_
 refine Qf tt 0 [] (Qj (m:=q.length) Kr rfl (Jq _) rfl) rfl ?_
 refine Qf tt 1 [] (Qbk (r:=((max p.length q.length:Nat):Int)) rfl rfl (by split <;> omega) rfl) rfl ?_
 refine kl tt 1 [] Tryz.func254 rfl rfl rfl (Rg (g:=fun k=>p.getD k 0+q.getD k 0) Tryz.func294 rfl rfl (by omega) (fun k hk=>Qgf hp hq)) rfl rfl ?_
 exact Xq tt [] rfl (rfl)
theorem Nu {p q:List Int} (hlp:p.length<274877906944) (hlq:q.length<274877906944) (hp:Bd 4294967295 p) (hq:Bd 4294967295 q):Q8 Tryz.prog 171 [.one (pl p),.one (pl q)] (.one (pl (Si p q))):=by
 refine X2 tt 4 [] Tryz.func171 Tryz.ntmps171 rfl rfl rfl ?_
 refine Qf tt 1 [] (Qj (m:=p.length) Kr rfl (Jq _) rfl) rfl ?_
 refine Qf tt 0 [] (Qj (m:=q.length) Kr rfl (Jq _) rfl) rfl ?_
 refine Qf tt 1 [] (Qbk (r:=((max p.length q.length:Nat):Int)) rfl rfl (by split <;> omega) rfl) rfl ?_
 refine kl tt 1 [] Tryz.func254 rfl rfl rfl (Rg (g:=fun k=>p.getD k 0-q.getD k 0) Tryz.func255 rfl rfl (by omega) (fun k hk=>Qhb hp hq)) rfl rfl ?_
 exact Xq tt [] rfl (rfl)
theorem W5 {p:List Int} {c:Int} (hlp:p.length<274877906944) (hp:Bd 4294967295 p) (hc:Xh c≤4294967295):Q8 Tryz.prog 172 [.one (pl p),.agg [sg c,mg c]] (.one (pl (Xx p c))):=by
 refine X2 tt 4 [] qGa Tryz.ntmps172 rfl rfl rfl ?_
 refine Qf tt 1 [] (Qj (m:=p.length) Kr rfl (Jq _) rfl) rfl ?_
 refine kl tt 1 [] Tryz.func254 rfl rfl rfl (Rg (g:=fun k=>p.getD k 0*c) Tryz.func258 rfl rfl (by omega) (fun k hk=>Qbi hk hp hc)) rfl rfl ?_
 exact Xq tt [] rfl (rfl)
theorem Qbc {p:List Int} (hlp:p.length<274877906944) (hp:Bd 4294967295 p):Q8 Tryz.prog 238 [.one (pl p)] (.one (pl (Uj p))):=by
 refine X2 tt 3 [] Tryz.func238 Tryz.ntmps238 rfl rfl rfl ?_
 refine Qf tt 0 [] (Qj (m:=p.length) Kr rfl (Jq _) rfl) rfl ?_
 refine Qf tt 0 [] (Xs (r:=((((p.length:Nat):Int))-1)) rfl rfl (Qm rfl (by omega)) rfl) rfl ?_
 refine Qf tt 1 [] (Qbk (r:=((p.length-1:Nat):Int)) rfl rfl (by split <;> omega) rfl) rfl ?_
 refine kl tt 1 [] Tryz.func254 rfl rfl rfl (Rg (g:=fun k=>p.getD (k+1) 0*((k+1:Nat):Int)) Tryz.func296 rfl rfl (by omega) (fun k hk=>I2 (by omega) hlp hp)) rfl rfl ?_
 exact Xq tt [] rfl (rfl)
theorem Vz {ls:List (List LV)} {p:List Int} (hi:IsInts ls p) (hl:p.length<274877906944) (hs:Bd 4294967295 p):Q8 Tryz.prog 189 [.one (.row ls)] (.one (pl (trim p))):=by
 refine X2 tt 2 [] qWp Tryz.ntmps189 rfl rfl rfl ?_
 refine kw (Qj (m:=p.length) Kr rfl (by simp only [We]; rw [hi.len]) rfl) ?_
 refine Zn (G3 (p.length) Kr qWr rfl J6 Ko rfl rfl rfl rfl rfl rfl (rfl) (rfl) (hl) rfl fun r1=>ko ?_)
 refine X5 (fun _ k_=>Gy (ls':=(An (fun k=>p.getD k 0) p.length 0).map Wy) 0 rfl rfl (by rw [←Cn]; exact C7 _) (Qo k_)) rfl ?_
 refine Qr tt 2 rfl ?_
 refine Qf tt 1 [] (Qj (m:=p.length) Kr rfl (by simp only [We]; rw [hi.len]) rfl) rfl ?_
 refine Qk [9,10,3,11] rfl rfl ?_
 refine Zj (fun m L B=>∃ i,i≤p.length∧m=p.length-i∧L=[(9,.one (.row ls)),(10,.one (.int .i64 (((p.length:Nat):Int)))),(3,.one (.orow r1 2 0 p.length)),(11,.one (.int .i64 ((i:Int))))]∧B=[.row r1 55 2 ((An (fun k=>p.getD k 0) p.length i).map Wy)]) (m:=_) ⟨0,K7 _,rfl,rfl,rfl⟩ ?_
 rintro m L B ⟨i,hp0,hm,rfl,rfl⟩
 refine Qw tt rfl ?_
 by_cases hlt:i<p.length
 ·obtain ⟨xa,xb,hx,bb,ll,rfl,rfl,hll,hzz⟩:=hi.get (getD_some hlt)
  refine Qr tt 1 rfl ?_
  refine Xf tt 1 [] (decide_eq_true (by omega)) rfl rfl ?_
  refine Qf tt 1 [] (Qi (i) Kr J6 rfl rfl (rfl) (hx) rfl rfl) rfl ?_
  refine Zn (Ql Ko rfl rfl fun g2=>ko ?_)
  refine Xd tt 5 [0,0] rfl ?_
  refine kl tt 0 [] qUh rfl rfl rfl (Jj ⟨_,_,rfl,rfl,hll,hzz⟩ (Zl hs i)) rfl rfl ?_
  refine kw (Zr (i) Kr J6 rfl rfl (rfl) (by omega) rfl) ?_
  refine Zn (Ju (ls2:=(An (fun k=>p.getD k 0) p.length (i+1)).map Wy) 1 J6 rfl rfl rfl rfl rfl rfl (by rw [Vy]; exact Qg (E3 _ hlt)) rfl (by rw [Vy]; exact (W4 Wy _ i (p.getD i 0)).trans (by rw [←Ai _ hlt])) (ko ?_))
  refine Qw tt rfl ?_
  refine Qf tt 1 [] (Q6 (r:=((i+1:Nat):Int)) rfl rfl (Qm (by omega) (by omega)) rfl) rfl ?_
  refine Qk [9,10,3,11] rfl rfl ?_
  refine Y2 1 rfl rfl ?_
  refine Q7 ?_
  refine ⟨_,?_,i+1,by omega,rfl,rfl,rfl⟩
  omega
 skip
 refine Qr tt 1 rfl ?_
 refine Xb tt 1 [] (decide_eq_false (by omega)) rfl rfl ?_
 refine X5 (fun _ k_=>Xm 0 [22] rfl (Zg rfl) (by rw [Zw,Uw _ (by omega)]) (by rw [Zw,Uw _ (by omega)]; omega) rfl (Qo k_)) rfl ?_
 refine Qw tt rfl ?_
 refine kl tt 1 [] Tryz.func192 rfl rfl rfl (Tp (by rw [Uw _ (by omega)]; omega)) rfl rfl ?_
 exact Xq tt [] rfl (by rw [show i=p.length from by omega,E4,G1])
theorem B8 {p:List Int} (hl:p.length<274877906944) (hs:Bd 4294967295 p):Q8 Tryz.prog 189 [.one (pl p)] (.one (pl (trim p))):=Vz (Y5 p) hl hs
theorem Jz {p:List Int} (ht:Yu p) (hl:p.length<274877906944) (hs:Bd 4294967295 p):Q8 Tryz.prog 189 [.one (pl p)] (.one (pl p)):=by
 have h:=B8 hl hs
 rwa [show trim p=p from ht] at h
theorem Qcu {p:List Int} (hl:p.length<274877906944) (hr:∀ z∈p,-9223372036854775808≤z∧z≤9223372036854775807):Q8 Tryz.prog 113 [.one (ids p)] (.one (pl (trim p))):=by
 refine X2 tt 2 [] Tryz.func113 Tryz.ntmps113 rfl rfl rfl ?_
 refine kw (Qj (m:=p.length) qUv rfl (Qgy _) rfl) ?_
 refine Zn (G3 (p.length) Kr qWr rfl J6 Ko rfl rfl rfl rfl rfl rfl (rfl) (rfl) (hl) rfl fun r1=>ko ?_)
 refine X5 (fun _ k_=>Gy (ls':=(An (fun k=>p.getD k 0) p.length 0).map Wy) 0 rfl rfl (by rw [←Cn]; exact C7 _) (Qo k_)) rfl ?_
 refine Qr tt 2 rfl ?_
 refine Qf tt 1 [] (Qj (m:=p.length) qUv rfl (Qgy _) rfl) rfl ?_
 refine Qk [9,10,3,11] rfl rfl ?_
 refine Zj (fun m L B=>∃ i,i≤p.length∧m=p.length-i∧L=[(9,.one (ids p)),(10,.one (.int .i64 (((p.length:Nat):Int)))),(3,.one (.orow r1 2 0 p.length)),(11,.one (.int .i64 ((i:Int))))]∧B=[.row r1 55 2 ((An (fun k=>p.getD k 0) p.length i).map Wy)]) (m:=_) ⟨0,K7 _,rfl,rfl,rfl⟩ ?_
 rintro m L B ⟨i,hp0,hm,rfl,rfl⟩
 refine Qw tt rfl ?_
 by_cases hlt:i<p.length
 ·skip
  refine Qr tt 1 rfl ?_
  refine Xf tt 1 [] (decide_eq_true (by omega)) rfl rfl ?_
  refine Qf tt 6 [] (Qi (i) qUv Js rfl rfl (rfl) (Qg (getD_some hlt)) rfl rfl) rfl ?_
  refine kl tt 0 [] qFo rfl rfl rfl (U5 (hr _ (Y6 (getD_some hlt)))) rfl rfl ?_
  refine kw (Zr (i) Kr J6 rfl rfl (rfl) (by omega) rfl) ?_
  refine Zn (Ju (ls2:=(An (fun k=>p.getD k 0) p.length (i+1)).map Wy) 0 J6 rfl rfl rfl rfl rfl rfl (by rw [Vy]; exact Qg (E3 _ hlt)) rfl (by rw [Vy]; exact (W4 Wy _ i (p.getD i 0)).trans (by rw [←Ai _ hlt])) (ko ?_))
  refine Qw tt rfl ?_
  refine Qf tt 1 [] (Q6 (r:=((i+1:Nat):Int)) rfl rfl (Qm (by omega) (by omega)) rfl) rfl ?_
  refine Qk [9,10,3,11] rfl rfl ?_
  refine Q7 ?_
  refine ⟨_,?_,i+1,by omega,rfl,rfl,rfl⟩
  omega
 skip
 refine Qr tt 1 rfl ?_
 refine Xb tt 1 [] (decide_eq_false (by omega)) rfl rfl ?_
 refine X5 (fun _ k_=>Xm 0 [22] rfl (Zg rfl) (by rw [Zw,Uw _ (by omega)]) (by rw [Zw,Uw _ (by omega)]; omega) rfl (Qo k_)) rfl ?_
 refine Qw tt rfl ?_
 refine kl tt 1 [] Tryz.func192 rfl rfl rfl (Tp (by rw [Uw _ (by omega)]; omega)) rfl rfl ?_
 exact Xq tt [] rfl (by rw [show i=p.length from by omega,E4,G1])
set_option maxRecDepth 20000 in
theorem Ou {p q:List Int} {s t:Nat} (tp:Yu p) (tq:Yu q) (hlp:p.length<137438953472) (hlq:q.length<137438953472) (hp:Bd s p) (hq:Bd t q) (hst:s+t≤4294967000):Q8 Tryz.prog 237 [.one (pl p),.one (pl q)] (.one (pl (U2 p q))):=by
 refine X2 tt 0 [] Tryz.func237 Tryz.ntmps237 rfl rfl rfl ?_
 rcases H9 p.length with h0 | h0
 ·skip
  refine Qr tt 2 rfl ?_
  refine kl tt 1 [] qWp rfl rfl rfl (Jz tp (by omega) (Qz hp (by omega))) rfl rfl ?_
  refine kl tt 3 [] qWp rfl rfl rfl (Jz tq (by omega) (Qz hq (by omega))) rfl rfl ?_
  refine Qf tt 2 [] (Qj (m:=p.length) Kr rfl (Jq _) rfl) rfl ?_
  refine Qf tt 0 [] (Qh rfl rfl (decide_eq_true (by omega)) rfl) rfl ?_
  refine Qf tt 0 [] (Qh rfl rfl (decide_eq_true (by omega)) rfl) rfl ?_
  refine Qf tt 0 [] (Qh rfl rfl (decide_eq_true (by omega)) rfl) rfl ?_
  refine Qf tt 0 [] (Zp rfl (decide_eq_true (by omega)) rfl rfl) rfl ?_
  refine Xf tt 1 [] (rfl) rfl rfl ?_
  exact Xq tt [] rfl (by unfold U2; rw [if_pos (.inl h0)]; rfl)
 rcases H9 q.length with h1 | h1
 refine Qw tt rfl ?_
 ·skip
  refine Qr tt 2 rfl ?_
  refine kl tt 1 [] qWp rfl rfl rfl (Jz tp (by omega) (Qz hp (by omega))) rfl rfl ?_
  refine kl tt 3 [] qWp rfl rfl rfl (Jz tq (by omega) (Qz hq (by omega))) rfl rfl ?_
  refine Qf tt 2 [] (Qj (m:=p.length) Kr rfl (Jq _) rfl) rfl ?_
  refine Qf tt 0 [] ((Qd rfl rfl (decide_eq_false (by omega)) (Qv tt rfl rfl))) rfl ?_
  refine Qf tt 0 [] ((Qd rfl rfl (decide_eq_false (by omega)) (Qj (m:=q.length) Kr rfl (Jq _) rfl))) rfl ?_
  refine Qf tt 0 [] ((Qd rfl rfl (decide_eq_false (by omega)) (Qv tt rfl rfl))) rfl ?_
  refine Qf tt 0 [] (Zu rfl (decide_eq_false (by omega)) rfl rfl) rfl ?_
  refine Xf tt 1 [] (decide_eq_true (by omega)) rfl rfl ?_
  exact Xq tt [] rfl (by unfold U2; rw [if_pos (.inr h1)]; rfl)
 skip
 refine Qr tt 2 rfl ?_
 refine kl tt 1 [] qWp rfl rfl rfl (Jz tp (by omega) (Qz hp (by omega))) rfl rfl ?_
 refine kl tt 3 [] qWp rfl rfl rfl (Jz tq (by omega) (Qz hq (by omega))) rfl rfl ?_
 refine Qf tt 2 [] (Qj (m:=p.length) Kr rfl (Jq _) rfl) rfl ?_
 refine Qf tt 0 [] ((Qd rfl rfl (decide_eq_false (by omega)) (Qv tt rfl rfl))) rfl ?_
 refine Qf tt 0 [] ((Qd rfl rfl (decide_eq_false (by omega)) (Qj (m:=q.length) Kr rfl (Jq _) rfl))) rfl ?_
 refine Qf tt 0 [] ((Qd rfl rfl (decide_eq_false (by omega)) (Qv tt rfl rfl))) rfl ?_
 refine Qf tt 0 [] (Zu rfl (decide_eq_false (by omega)) rfl rfl) rfl ?_
 refine Xb tt 1 [] (decide_eq_false (by omega)) rfl rfl ?_
 refine Qf tt 1 [] (Qj (m:=p.length) Kr rfl (Jq _) rfl) rfl ?_
 refine Qf tt 0 [] (Qj (m:=q.length) Kr rfl (Jq _) rfl) rfl ?_
 refine Qf tt 0 [] (Q6 (r:=((p.length+q.length:Nat):Int)) rfl rfl (Qm (by omega) (by omega)) rfl) rfl ?_
 refine kw (Xs (r:=((p.length+q.length-1:Nat):Int)) rfl rfl (Qm (by omega) (by omega)) rfl) ?_
 refine Zn (G3 (p.length+q.length-1) Kr qWr rfl J6 Ko rfl rfl rfl rfl rfl rfl (rfl) (rfl) (by omega) rfl fun r1=>ko ?_)
 refine X5 (fun _ k_=>Gy (ls':=(Fz p q (List.replicate (p.length+q.length-1) 0) 0).map Wy) 0 rfl rfl (C7 _) (Qo k_)) rfl ?_
 refine Qr tt 2 rfl ?_
 refine Qf tt 1 [] (Qj (m:=p.length) Kr rfl (Jq _) rfl) rfl ?_
 refine Qk [1,5,29,30,31] rfl rfl ?_
 refine Zj (fun m L B=>∃ i,i≤p.length∧m=p.length-i∧L=[(1,.one (pl q)),(5,.one (.orow r1 2 0 (p.length+q.length-1))),(29,.one (pl p)),(30,.one (.int .i64 (((p.length:Nat):Int)))),(31,.one (.int .i64 ((i:Int))))]∧B=[.row r1 55 2 ((Fz p q (List.replicate (p.length+q.length-1) 0) i).map Wy)]) (m:=_) ⟨0,K7 _,rfl,rfl,rfl⟩ ?_
 rintro m L B ⟨i,hp0,hm,rfl,rfl⟩
 refine Qw tt rfl ?_
 by_cases hlt:i<p.length
 ·skip
  refine Qr tt 1 rfl ?_
  refine Xf tt 1 [] (decide_eq_true (by omega)) rfl rfl ?_
  refine Qf tt 1 [] (Qi (i) Kr J6 rfl rfl (rfl) (Qg (getD_some hlt)) rfl rfl) rfl ?_
  refine Zn (Ql Ko rfl rfl fun g2=>ko ?_)
  refine Xd tt 3 [0] rfl ?_
  refine Qf tt 1 [] (Qj (m:=q.length) Kr rfl (Jq _) rfl) rfl ?_
  refine Qk [1,5,6,7,29,30,31,36,37,38] rfl rfl ?_
  refine Zx 0 rfl rfl ?_
  refine Zx 1 rfl rfl ?_
  refine Zj (fun m L B=>∃ k,k≤q.length∧m=q.length-k∧L=[(1,.one (pl q)),(5,.one (.orow r1 2 0 (p.length+q.length-1))),(6,.one (.int .i64 ((i:Int)))),(7,.one (.ow g2 0)),(29,.one (pl p)),(30,.one (.int .i64 (((p.length:Nat):Int)))),(31,.one (.int .i64 ((i:Int)))),(36,.one (pl q)),(37,.one (.int .i64 (((q.length:Nat):Int)))),(38,.one (.int .i64 ((k:Int))))]∧B=[.row r1 55 2 ((Pp (p.getD i 0) q i (Fz p q (List.replicate (p.length+q.length-1) 0) i) k).map Wy),.blk g2 55 [sg (p.getD i 0),mg (p.getD i 0)]]) (m:=_) ⟨0,K7 _,rfl,rfl,rfl⟩ ?_
  rintro m L B ⟨k,hq0,hm,rfl,rfl⟩
  refine Qw tt rfl ?_
  by_cases hlt2:k<q.length
  ·have hm1:Xh ((Pp (p.getD i 0) q i (Fz p q (List.replicate (p.length+q.length-1) 0) i) k).getD (i+k) 0)≤4294967295:=Xa (Gn (t:=39) (Qdu (by rw [V1,Li]; omega) (Ad (fun j hj=>by rw [Li]; omega) (Km _) (fun i j=>Wb (Zl hp i) (Zl hq j))) (fun j=>Wb (Zl hp i) (Zl hq j)) (i+k)) (qJn (show i+1<549755813888 by omega) (by decide))) (by omega)
   have hm2:Xh (p.getD i 0*q.getD k 0)≤4294967295:=Xa (Z2 _ _) (by have:=Zl hp i; have:=Zl hq k; omega)
   refine Qr tt 1 rfl ?_
   refine Xf tt 1 [] (decide_eq_true (by omega)) rfl rfl ?_
   refine Qf tt 1 [] (Qi (k) Kr J6 rfl rfl (rfl) (Qg (getD_some hlt2)) rfl rfl) rfl ?_
   refine Zn (Ql Ko rfl rfl fun g3=>ko ?_)
   refine Xd tt 2 [0] rfl ?_
   refine Qx 14 Qp rfl rfl rfl ?_
   refine Qr tt 3 rfl ?_
   refine kd (Q6 (r:=((i+k:Nat):Int)) rfl rfl (Qm (by omega) (by omega)) rfl) rfl ?_
   refine Qr tt 3 rfl ?_
   refine kd (Q6 (r:=((i+k:Nat):Int)) rfl rfl (Qm (by omega) (by omega)) rfl) rfl ?_
   refine Qw tt rfl ?_
   refine kd (Zr (i+k) Kr J6 rfl rfl (rfl) (by omega) rfl) rfl ?_
   refine Qw tt rfl ?_
   refine kd (Yo 1 Rd J6 rfl rfl (by rw [Vy]; exact Qg (getD_some (by rw [Pq,V1,Li]; omega))) rfl rfl rfl) rfl ?_
   refine Xd tt 2 [2,0] rfl ?_
   refine Ye tt 0 [] qUi rfl rfl rfl (J3 (Zc _) (Zc _) (Xa (Zl hp i) (by omega)) (Xa (Zl hq k) (by omega))) rfl rfl ?_
   refine Ye tt 0 [] Tryz.func295 rfl rfl rfl (Su (Zc _) (Zc _) (hm1) (hm2)) rfl rfl ?_
   refine kw (Zr (i+k) Kr J6 rfl rfl (rfl) (by omega) rfl) ?_
   refine Zn (Ju (ls2:=(Pp (p.getD i 0) q i (Fz p q (List.replicate (p.length+q.length-1) 0) i) (k+1)).map Wy) 1 J6 rfl rfl rfl rfl rfl rfl (by rw [Vy]; exact Qg (getD_some (by rw [Pq,V1,Li]; omega))) rfl (by rw [Vy]; exact W4 Wy _ _ _) (ko ?_))
   refine Qw tt rfl ?_
   refine Qf tt 1 [] (Q6 (r:=((k+1:Nat):Int)) rfl rfl (Qm (by omega) (by omega)) rfl) rfl ?_
   refine Qk [1,5,6,7,29,30,31,36,37,38] rfl rfl ?_
   refine Y2 1 rfl rfl ?_
   refine Q7 ?_
   refine ⟨_,?_,k+1,by omega,rfl,rfl,rfl⟩
   omega
  skip
  refine Qr tt 1 rfl ?_
  refine Xb tt 0 [] (decide_eq_false (by omega)) rfl rfl ?_
  refine Qf tt 1 [] (Q6 (r:=((i+1:Nat):Int)) rfl rfl (Qm (by omega) (by omega)) rfl) rfl ?_
  refine X5 (fun _ k_=>Jx (ls':=(Fz p q (List.replicate (p.length+q.length-1) 0) (i+1)).map Wy) 0 rfl (by rw [show k=q.length from by omega]; rfl) (Qo k_)) rfl ?_
  refine Qk [1,5,29,30,31] rfl rfl ?_
  refine Y2 1 rfl rfl ?_
  refine Q7 ?_
  refine ⟨_,?_,i+1,by omega,rfl,rfl,rfl⟩
  omega
 skip
 refine Qr tt 1 rfl ?_
 refine Xb tt 1 [] (decide_eq_false (by omega)) rfl rfl ?_
 refine X5 (fun _ k_=>Xm 0 [60] rfl (Zg rfl) (by rw [Zw,V1,Li]) (by rw [Zw,V1,Li]; omega) rfl (Qo k_)) rfl ?_
 refine Qw tt rfl ?_
 refine kl tt 1 [] Tryz.func192 rfl rfl rfl (Tp (by rw [V1,Li]; omega)) rfl rfl ?_
 exact Xq tt [] rfl (by unfold U2; rw [if_neg (by omega),show i=p.length from by omega])
set_option maxRecDepth 20000 in
theorem Qev {p:List Int} {n d:Int} {s t:Nat} (hl:p.length<274877906944) (hp:Bd s p) (hn:Xh n≤t) (hd:Xh d≤t) (hst:s+p.length*(t+1)+2*t+10≤4294967295):Q8 Tryz.prog 298 [.one (pl p),.agg [sg n,mg n],.agg [sg d,mg d]] (.agg [sg (Qs3 p n d),mg (Qs3 p n d)]):=by
 refine X2 tt 2 [] Tryz.func298 Tryz.ntmps298 rfl rfl rfl ?_
 refine Zn (Ql Ko rfl rfl fun g1=>ko ?_)
 refine Qw tt rfl ?_
 refine Zn (Ql Ko rfl rfl fun g2=>ko ?_)
 refine Qw tt rfl ?_
 refine kw (Zs qFo rfl rfl rfl rfl (U5 (by omega)) rfl) ?_
 refine Zn (Ql Ko rfl rfl fun g3=>ko ?_)
 refine Xd tt 1 [0] rfl ?_
 refine X5 (fun _ k_=>Jp (ys:=Wy 0) 1 rfl rfl ofI_zero.symm (Qo k_)) rfl ?_
 refine Qr tt 1 rfl ?_
 refine Qf tt 0 [] (Qj (m:=p.length) Kr rfl (Jq _) rfl) rfl ?_
 refine Qf tt 1 [] (Xs (r:=((p.length:Int)-1-((0:Nat):Int))) rfl rfl (Qm (by omega) (by omega)) rfl) rfl ?_
 refine Qk [0,4,5,6,7,8,9] rfl rfl ?_
 refine Zx 2 rfl rfl ?_
 refine Zx 1 rfl rfl ?_
 refine Zx 2 rfl rfl ?_
 refine Zj (fun m L B=>∃ j,j≤p.length∧m=p.length-j∧L=[(0,.one (pl p)),(4,.one (.sh [sg n,mg n])),(5,.one (.sh [sg d,mg d])),(6,.one (.ow g1 0)),(7,.one (.ow g2 0)),(8,.one (.ow g3 0)),(9,.one (.int .i64 (((p.length:Int)-1-(j:Int)))))]∧B=[.blk g3 55 [sg ((K3 p n d j).2),mg ((K3 p n d j).2)],.blk g2 55 [sg ((K3 p n d j).1),mg ((K3 p n d j).1)],.blk g1 55 [.bool false,.nils]]) (m:=_) ⟨0,K7 _,rfl,rfl,rfl⟩ ?_
 rintro m L B ⟨j,hp0,hm,rfl,rfl⟩
 refine Qw tt rfl ?_
 by_cases hlt:j<p.length
 ·have hv:=E0 (k:=j) hp hn hd
  have hjl:j*(t+1)≤p.length*(t+1):=qZm _ (by omega)
  have hjl2:j*t≤j*(t+1):=qXd _ (by omega)
  have hc:=Zl hp (p.length-1-j)
  have hm1:Xh ((K3 p n d j).1*n)≤4294967295:=Xa (Z2 _ _) (by omega)
  have hm2:Xh (p.getD (p.length-1-j) 0*(K3 p n d j).2)≤4294967295:=Xa (Z2 _ _) (by omega)
  refine Qr tt 2 rfl ?_
  refine Xf tt 0 [] (decide_eq_true (by omega)) rfl rfl ?_
  refine Qx 8 Qp rfl rfl rfl ?_
  refine Xd tt 2 [1] rfl ?_
  refine Ye tt 2 [] qUi rfl rfl rfl (J3 (Zc _) (Zc _) (by omega) (by omega)) rfl rfl ?_
  refine kd (Qi (p.length-1-j) Kr J6 rfl rfl (by omega) (Qg (getD_some (by omega))) rfl rfl) rfl ?_
  refine Xd tt 2 [0] rfl ?_
  refine Qw tt rfl ?_
  refine kl tt 0 [] qUi rfl rfl rfl (J3 (Zc _) (Zc _) (by omega) (by omega)) rfl rfl ?_
  refine kl tt 3 [1,0] Tryz.func295 rfl rfl rfl (Su (Zc _) (Zc _) (hm1) (hm2)) rfl rfl ?_
  refine kl tt 2 [0] qUi rfl rfl rfl (J3 (Zc _) (Zc _) (by omega) (by omega)) rfl rfl ?_
  refine Qf tt 1 [] (Xs (r:=((p.length:Int)-1-((j+1:Nat):Int))) rfl rfl (Qm (by omega) (by omega)) rfl) rfl ?_
  refine Qk [0,4,5,6,7,8,9] rfl rfl ?_
  refine Q7 ?_
  refine ⟨_,?_,j+1,by omega,rfl,rfl,rfl⟩
  omega
 skip
 refine Qr tt 2 rfl ?_
 refine Xb tt 2 [1,2] (decide_eq_false (by omega)) rfl rfl ?_
 exact Xq tt [2] rfl (by rw [show j=p.length from by omega]; rfl)
end Orr

namespace Orr
open Go Go.Proofs
theorem Ph {n d:Int} (h0:d≠0) (hn:Xh n≤4294967295) (hd:Xh d≤4294967295):Q8 Tryz.prog 313 [.agg [sg n,mg n],.agg [sg d,mg d]] (.agg [sg (((Rat.divInt n d)).num),mg (((Rat.divInt n d)).num),sg ((((Rat.divInt n d)).den:Int)),mg ((((Rat.divInt n d)).den:Int))]):=by
 refine X2 tt 0 [] Tryz.func313 Tryz.ntmps313 rfl rfl rfl ?_
 have hg0:=Qg1 (n:=n) h0
 have hgs:=Qk3 (n:=n) h0 hd
 have hm1:=I1 n d
 have hm2:=Qad n d
 rcases qYh h0 with hneg | hpos
 ·skip
  refine Qw tt rfl ?_
  refine Zn (Y0 rfl rfl rfl fun g1=>ko ?_)
  refine Zn (Y0 rfl rfl rfl fun g2=>ko ?_)
  refine Zn (Ql qUp rfl rfl fun g3=>ko ?_)
  refine Xd tt 3 [2,1] rfl ?_
  refine kw (Zs qFx rfl rfl rfl rfl (Fa (Y5 [n,d]) (by intro z hz; simp only [Vb,Nx,or_false] at hz; rcases hz with rfl | rfl <;> assumption)) rfl) ?_
  refine Zn (Ql Ko rfl rfl fun g4=>ko ?_)
  refine Xd tt 3 [0,2] rfl ?_
  refine Xf tt 0 [] (decide_eq_true hneg) rfl rfl ?_
  refine Qx 3 Qp rfl rfl rfl ?_
  refine Xd tt 1 [3] rfl ?_
  refine Ye tt 1 [2] qGk rfl rfl rfl (Gv (Zc _) (hn)) rfl rfl ?_
  refine Qw tt rfl ?_
  refine kl tt 4 [3,2,3,0] qGk rfl rfl rfl (Gv (Zc _) (hd)) rfl rfl ?_
  refine kl tt 6 [3,2,0] qUu rfl rfl rfl (Yp (Zc _) (Zc _) (by rw [Xk]; exact hn) (hgs) (by omega) (Qla hm1)) rfl rfl ?_
  refine kl tt 8 [2,3,2,1] qUu rfl rfl rfl (Yp (Zc _) (Zc _) (by rw [Xk]; exact hd) (hgs) (by omega) (Qla hm2)) rfl rfl ?_
  exact Xq tt [1] rfl (Qv7 (Qk4 hneg).1 (Qk4 hneg).2)
 skip
 refine Qw tt rfl ?_
 refine Zn (Y0 rfl rfl rfl fun g5=>ko ?_)
 refine Zn (Y0 rfl rfl rfl fun g6=>ko ?_)
 refine Zn (Ql qUp rfl rfl fun g7=>ko ?_)
 refine Xd tt 3 [2,1] rfl ?_
 refine kw (Zs qFx rfl rfl rfl rfl (Fa (Y5 [n,d]) (by intro z hz; simp only [Vb,Nx,or_false] at hz; rcases hz with rfl | rfl <;> assumption)) rfl) ?_
 refine Zn (Ql Ko rfl rfl fun g8=>ko ?_)
 refine Xd tt 3 [0,2] rfl ?_
 refine Xb tt 2 [3,0] (decide_eq_false (by omega)) rfl rfl ?_
 refine kl tt 6 [3,2,0] qUu rfl rfl rfl (Yp (Zc _) (Zc _) (hn) (hgs) (by omega) (hm1)) rfl rfl ?_
 refine kl tt 8 [2,3,2,1] qUu rfl rfl rfl (Yp (Zc _) (Zc _) (hd) (hgs) (by omega) (hm2)) rfl rfl ?_
 exact Xq tt [1] rfl (Qv7 (Aj hpos).1 (Aj hpos).2)
theorem B4 {b1 b2:Bool} {l1 l2:List Nat} {n d:Int} (h1:Y1 (.bool b1) (Xy l1) n) (h2:Y1 (.bool b2) (Xy l2) d) (hn:Xh n≤4294967295) (hd:Xh d≤4294967295):Q8 Tryz.prog 268 [.agg [.bool b1,Xy l1,.bool b2,Xy l2]] (.agg [sg (((Q3 n d)).num),mg (((Q3 n d)).num),sg ((((Q3 n d)).den:Int)),mg ((((Q3 n d)).den:Int))]):=by
 refine X2 tt 0 [] Tryz.func268 Tryz.ntmps268 rfl rfl rfl ?_
 by_cases h0:d=0
 ·skip
  refine Qr tt 1 rfl ?_
  refine Zn (Ql qUp rfl rfl fun g1=>ko ?_)
  refine Qr tt 2 rfl ?_
  refine kw (Zs qUh rfl rfl rfl rfl (Jj h2 (hd)) rfl) ?_
  refine Zn (Ql Ko rfl rfl fun g2=>ko ?_)
  refine Xd tt 2 [0,0] rfl ?_
  refine kl tt 0 [] qUm rfl rfl rfl ((Ux _) ) rfl rfl ?_
  refine Xf tt 0 [] (decide_eq_true h0) rfl rfl ?_
  refine kl tt 1 [0] qFo rfl rfl rfl (U5 (by omega)) rfl rfl ?_
  refine Qx 4 Qp rfl rfl rfl ?_
  refine Qr tt 2 rfl ?_
  refine Ye tt 1 [0] qUh rfl rfl rfl (Jj h1 (hn)) rfl rfl ?_
  refine Qw tt rfl ?_
  refine kl tt 1 [1] Tryz.func313 rfl rfl rfl (Ph (by decide) (hn) (by decide)) rfl rfl ?_
  exact Xq tt [1] rfl (by unfold Q3; rw [if_pos h0])
 skip
 refine Qr tt 1 rfl ?_
 refine Zn (Ql qUp rfl rfl fun g3=>ko ?_)
 refine Qr tt 2 rfl ?_
 refine kw (Zs qUh rfl rfl rfl rfl (Jj h2 (hd)) rfl) ?_
 refine Zn (Ql Ko rfl rfl fun g4=>ko ?_)
 refine Xd tt 2 [0,0] rfl ?_
 refine kl tt 0 [] qUm rfl rfl rfl ((Ux _) ) rfl rfl ?_
 refine Xb tt 0 [] (decide_eq_false h0) rfl rfl ?_
 refine Qx 4 Qp rfl rfl rfl ?_
 refine Qr tt 2 rfl ?_
 refine Ye tt 1 [0] qUh rfl rfl rfl (Jj h1 (hn)) rfl rfl ?_
 refine Qw tt rfl ?_
 refine kl tt 1 [1] Tryz.func313 rfl rfl rfl (Ph (h0) (hn) (hd)) rfl rfl ?_
 exact Xq tt [1] rfl (by unfold Q3; rw [if_neg h0])
theorem Mz {q:Rat} (hq:Qs 4294967295 q):Q8 Tryz.prog 268 [.agg (rl q)] (.agg (rl q)):=by
 have h:=B4 (Zc q.num) (Zc (q.den:Int)) hq.1 hq.2
 rwa [E8] at h
set_option maxRecDepth 20000 in
theorem Qbe {a b:Rat} (ha:Qs 2147483647 a) (hb:Qs 2147483647 b):Q8 Tryz.prog 314 [.agg [sg a.num,mg a.num,sg ((a.den:Int)),mg ((a.den:Int))],.agg [sg b.num,mg b.num,sg ((b.den:Int)),mg ((b.den:Int))]] (.tup [.agg [sg (a.num*(b.den:Int)),mg (a.num*(b.den:Int))],.agg [sg (b.num*(a.den:Int)),mg (b.num*(a.den:Int))],.agg [sg ((a.den:Int)*(b.den:Int)),mg ((a.den:Int)*(b.den:Int))]]):=by
 refine X2 tt 0 [] Tryz.func314 Tryz.ntmps314 rfl rfl rfl ?_
 refine Zn (Y0 rfl rfl rfl fun g1=>ko ?_)
 refine Zn (Y0 rfl rfl rfl fun g2=>ko ?_)
 refine Zn (Ql Ko rfl rfl fun g3=>ko ?_)
 refine Zn (Ql Ko rfl rfl fun g4=>ko ?_)
 refine Zn (Ql Ko rfl rfl fun g5=>ko ?_)
 refine Qw tt rfl ?_
 refine Qx 3 Qp rfl rfl rfl ?_
 refine Xd tt 1 [4] rfl ?_
 refine Ye tt 1 [3] Tryz.func268 rfl rfl rfl (Mz (ha.mono (by omega))) rfl rfl ?_
 refine Qw tt rfl ?_
 refine kl tt 2 [4,3] Tryz.func268 rfl rfl rfl (Mz (hb.mono (by omega))) rfl rfl ?_
 refine Qx 14 Qp rfl rfl rfl ?_
 refine Xd tt 4 [4,3] rfl ?_
 refine Ye tt 4 [3,4] qUi rfl rfl rfl (J3 (Zc _) (Zc _) (Xa ha.1 (by omega)) (Xa hb.2 (by omega))) rfl rfl ?_
 refine Ye tt 4 [4,3] qUi rfl rfl rfl (J3 (Zc _) (Zc _) (Xa hb.1 (by omega)) (Xa ha.2 (by omega))) rfl rfl ?_
 refine Qw tt rfl ?_
 refine kl tt 3 [2,1,0] qUi rfl rfl rfl (J3 (Zc _) (Zc _) (Xa ha.2 (by omega)) (Xa hb.2 (by omega))) rfl rfl ?_
 exact kr3 tt [2,1,0] rfl (rfl)
theorem Qht {a b:Rat} (ha:Qs 2147483647 a) (hb:Qs 2147483647 b):Q8 Tryz.prog 269 [.agg [sg a.num,mg a.num,sg ((a.den:Int)),mg ((a.den:Int))],.agg [sg b.num,mg b.num,sg ((b.den:Int)),mg ((b.den:Int))]] (.one (.int .i64 (Qt8 a b))):=by
 refine X2 tt 5 [] Tryz.func269 Tryz.ntmps269 rfl rfl rfl ?_
 refine kl tt 4 [] Tryz.func314 rfl rfl rfl (Qbe (ha) (hb)) rfl rfl ?_
 refine Zn (Ql Ko rfl rfl fun g1=>ko ?_)
 refine Zn (Ql Ko rfl rfl fun g2=>ko ?_)
 refine Zn (Ql Ko rfl rfl fun g3=>ko ?_)
 refine Xd tt 5 [2,1,0,2,1] rfl ?_
 refine kl tt 1 [] Tryz.func291 rfl rfl rfl (Lm (Zc _) (Zc _) (Xa (Z2 _ _) (by have:=ha.1; have:=hb.2; omega)) (Xa (Z2 _ _) (by have:=hb.1; have:=ha.2; omega))) rfl rfl ?_
 exact Xq tt [] rfl (rfl)
theorem D9 {b1 b2:Bool} {l1 l2:List Nat} {n d:Int} (h1:Y1 (.bool b1) (Xy l1) n) (h2:Y1 (.bool b2) (Xy l2) d) (hn:Xh n≤4294967295) (hd:Xh d≤4294967295):Q8 Tryz.prog 193 [.agg [.bool b1,Xy l1,.bool b2,Xy l2],.one (.row ([]))] (.agg [sg (((Q3 n d)).num),mg (((Q3 n d)).num),sg ((((Q3 n d)).den:Int)),mg ((((Q3 n d)).den:Int))]):=by
 refine X2 tt 1 [] qGl Tryz.ntmps193 rfl rfl rfl ?_
 refine Zn (Ql qUp rfl rfl fun g1=>ko ?_)
 refine Qr tt 1 rfl ?_
 refine kw (Zs Tryz.func268 rfl rfl rfl rfl (B4 h1 h2 hn hd) rfl) ?_
 refine Zn (Ql qUp rfl rfl fun g2=>ko ?_)
 refine Xd tt 2 [0] rfl ?_
 refine Qf tt 1 [] (Qj (m:=0) Tryz.runUnderlying320 rfl rfl rfl) rfl ?_
 refine Qk [4,5,11,12] rfl rfl ?_
 refine Zj (fun m L B=>m=0∧L=[(4,.one (.ow g1 0)),(5,.one (.ow g2 0)),(11,.one (.int .i64 (((0:Nat):Int)))),(12,.one (.int .i64 0))]∧B=[.blk g2 57 [sg (((Q3 n d)).num),mg (((Q3 n d)).num),sg ((((Q3 n d)).den:Int)),mg ((((Q3 n d)).den:Int))],.blk g1 57 [.bool false,.nils,.bool false,.nils]]) (m:=_) ⟨rfl,rfl,rfl⟩ ?_
 rintro m L B ⟨hm,rfl,rfl⟩
 refine Qw tt rfl ?_
 skip
 skip
 refine Qr tt 1 rfl ?_
 refine Xb tt 2 [0,1] (rfl) rfl rfl ?_
 exact Xq tt [1] rfl (rfl)
theorem Hc {q:Rat} (hq:Qs 4294967295 q):Q8 Tryz.prog 193 [.agg (rl q),.one (.row [])] (.agg (rl q)):=by
 have h:=D9 (Zc q.num) (Zc (q.den:Int)) hq.1 hq.2
 rwa [E8] at h
theorem Qfl {q:Rat} (hq:Qs 4294967295 q):Q8 Tryz.prog 297 [.agg [sg q.num,mg q.num,sg ((q.den:Int)),mg ((q.den:Int))]] (.agg [sg q.num,mg q.num,sg ((q.den:Int)),mg ((q.den:Int))]):=by
 refine X2 tt 1 [] Tryz.func297 Tryz.ntmps297 rfl rfl rfl ?_
 refine Zn (Ql qUp rfl rfl fun g1=>ko ?_)
 refine Qr tt 1 rfl ?_
 refine kl tt 1 [0] qGl rfl rfl rfl (Hc (hq)) rfl rfl ?_
 exact Xq tt [0] rfl (rfl)
set_option maxRecDepth 20000 in
theorem Qfw {p:List Int} {q:Rat} {s t:Nat} (tp:Yu p) (hl:p.length<274877906944) (hp:Bd s p) (hq:Qs t q) (hst:s+p.length*(t+1)+2*t+10≤4294967295):Q8 Tryz.prog 241 [.one (pl p),.agg [sg q.num,mg q.num,sg ((q.den:Int)),mg ((q.den:Int))]] (.one (.int .i64 (F3 p q))):=by
 refine X2 tt 0 [] Tryz.func241 Tryz.ntmps241 rfl rfl rfl ?_
 refine Zn (Y0 rfl rfl rfl fun g1=>ko ?_)
 refine Xd tt 2 [0] rfl ?_
 refine kl tt 1 [0] Tryz.func297 rfl rfl rfl (Qfl (hq.mono (by omega))) rfl rfl ?_
 refine Qx 8 Qp rfl rfl rfl ?_
 refine Qr tt 1 rfl ?_
 refine Ye tt 4 [0,0] qWp rfl rfl rfl (Jz tp hl (Qz hp (by omega))) rfl rfl ?_
 refine Ye tt 1 [] Tryz.func298 rfl rfl rfl (Qev (hl) (hp) (hq.1) (hq.2) (hst)) rfl rfl ?_
 refine Qw tt rfl ?_
 refine kl tt 1 [] Tryz.func291 rfl rfl rfl (Lm (Zc _) T4 (Xa (E0 hp hq.1 hq.2).1 (by omega)) (by decide)) rfl rfl ?_
 exact Xq tt [] rfl (rfl)
end Orr

namespace Orr
open Go Go.Proofs
theorem Qem (p:List Int) (g:Int):(List.range p.length).map (fun k=>p.getD k 0 / g)=p.map (· / g):=by
 conv=>rhs; rw [←G1 p]
 simp
theorem V3 {p:List Int} {g:Int} (hl:p.length<274877906944) (hp:Bd 4294967295 p) (hg:Xh g≤4294967295) (h0:g≠0) (hd:∀ z∈p,z % g=0):Q8 Tryz.prog 266 [.one (pl p),.agg [sg g,mg g]] (.one (pl (trim (p.map (· / g))))):=by
 refine X2 tt 3 [] qFf Tryz.ntmps266 rfl rfl rfl ?_
 refine kw (Qj (m:=p.length) Kr rfl (Jq _) rfl) ?_
 refine Zn (G3 (p.length) Kr qWr rfl J6 Ko rfl rfl rfl rfl rfl rfl (rfl) (rfl) (hl) rfl fun r1=>ko ?_)
 refine X5 (fun _ k_=>Gy (ls':=(An (fun k=>p.getD k 0 / g) p.length 0).map Wy) 0 rfl rfl (by rw [←Cn]; exact C7 _) (Qo k_)) rfl ?_
 refine Qr tt 2 rfl ?_
 refine Qf tt 1 [] (Qj (m:=p.length) Kr rfl (Jq _) rfl) rfl ?_
 refine Qk [3,5,11,12,13] rfl rfl ?_
 refine Zj (fun m L B=>∃ i,i≤p.length∧m=p.length-i∧L=[(3,.one (.sh [sg g,mg g])),(5,.one (.orow r1 2 0 p.length)),(11,.one (pl p)),(12,.one (.int .i64 (((p.length:Nat):Int)))),(13,.one (.int .i64 ((i:Int))))]∧B=[.row r1 55 2 ((An (fun k=>p.getD k 0 / g) p.length i).map Wy)]) (m:=_) ⟨0,K7 _,rfl,rfl,rfl⟩ ?_
 rintro m L B ⟨i,hp0,hm,rfl,rfl⟩
 refine Qw tt rfl ?_
 by_cases hlt:i<p.length
 ·skip
  refine Qr tt 1 rfl ?_
  refine Xf tt 1 [] (decide_eq_true (by omega)) rfl rfl ?_
  refine Qf tt 1 [] (Qi (i) Kr J6 rfl rfl (rfl) (Qg (getD_some hlt)) rfl rfl) rfl ?_
  refine Zn (Ql Ko rfl rfl fun g2=>ko ?_)
  refine Xd tt 6 [0,0] rfl ?_
  refine kl tt 3 [] qUu rfl rfl rfl (Yp (Zc _) (Zc _) (Zl hp i) (hg) (h0) (hd _ (Y6 (getD_some hlt)))) rfl rfl ?_
  refine kw (Zr (i) Kr J6 rfl rfl (rfl) (by omega) rfl) ?_
  refine Zn (Ju (ls2:=(An (fun k=>p.getD k 0 / g) p.length (i+1)).map Wy) 1 J6 rfl rfl rfl rfl rfl rfl (by rw [Vy]; exact Qg (E3 _ hlt)) rfl (by rw [Vy]; exact (W4 Wy _ i (p.getD i 0 / g)).trans (by rw [←Ai _ hlt])) (ko ?_))
  refine Qw tt rfl ?_
  refine Qf tt 1 [] (Q6 (r:=((i+1:Nat):Int)) rfl rfl (Qm (by omega) (by omega)) rfl) rfl ?_
  refine Qk [3,5,11,12,13] rfl rfl ?_
  refine Y2 1 rfl rfl ?_
  refine Q7 ?_
  refine ⟨_,?_,i+1,by omega,rfl,rfl,rfl⟩
  omega
 skip
 refine Qr tt 1 rfl ?_
 refine Xb tt 1 [] (decide_eq_false (by omega)) rfl rfl ?_
 have htab:(An (fun k=>p.getD k 0 / g) p.length i)=p.map (· / g):=by rw [show i=p.length from by omega,E4,Qem]
 refine X5 (fun _ k_=>Xm 0 [28] rfl (Zg rfl) (by rw [Zw,Uw _ (by omega)]) (by rw [Zw,Uw _ (by omega)]; omega) rfl (Qo k_)) rfl ?_
 refine Qw tt rfl ?_
 refine kl tt 1 [] qWp rfl rfl rfl (B8 (by rw [Uw _ (by omega)]; exact hl) (by rw [htab]; exact Qj2 hp g)) rfl rfl ?_
 exact Xq tt [] rfl (by rw [htab])
set_option maxRecDepth 20000 in
theorem Cc {lx ly:List (List LV)} {px py:List Int} {b:Bool} {l:List Nat} {d:Int} (hx:IsInts lx px) (hy:IsInts ly py) (hd:Y1 (.bool b) (Xy l) d) (hk:Cs 4294967294 1073741824 (Crv.mk px py d)):Q8 Tryz.prog 190 [.agg [.row lx,.row ly,.bool b,Xy l]] (.agg [pl (((Crv.norm (Crv.mk px py d))).x),pl (((Crv.norm (Crv.mk px py d))).y),sg (((Crv.norm (Crv.mk px py d))).d),mg (((Crv.norm (Crv.mk px py d))).d)]):=by
 refine X2 tt 0 [] Tryz.func190 Tryz.ntmps190 rfl rfl rfl ?_
 have hlx:=hk.lx
 have hly:=hk.ly
 simp only at hlx hly
 have htx:=Kj px
 have hty:=Kj py
 have hd1:Xh (Crv.mk px py d).d'≤4294967295:=Xa (Qdt hk.d (by omega)) (by omega)
 have hg1:=Crv.isz_g (Crv.mk px py d) hd1
 have hgs:Xh ((Y9 ((Crv.mk px py d).d'::(trim px++trim py)):Nat):Int)≤4294967295:=by
  have:=hg1
  unfold Crv.g at this
  split at this
  ·rwa [Xk] at this
  ·exact this
 by_cases h0:d=0
 ·skip
  refine Qw tt rfl ?_
  rcases qYh (Crv.d'_ne (Crv.mk px py d)) with hneg | hpos
  ·skip
   refine Qr tt 1 rfl ?_
   refine Zn (Ql qWx rfl rfl fun g1=>ko ?_)
   refine Qw tt rfl ?_
   refine kc (Ul Qp 10 [7,8,9,10,11,12,13,14,15,5] [[],[0],[1],[],[3],[4],[],[6],[7],[]] [.one (.sh [.row lx,.row ly,.bool b,Xy l]),.one (.row lx),.one (pl (trim px)),.one (.sh [.row ly,.bool b,Xy l]),.one (.row ly),.one (pl (trim py)),.one (.sh [.bool b,Xy l]),.agg [.bool b,Xy l],.agg [sg d,mg d],.un] [(9,55,[.bool false,.slice none 0 0])] [[.bool false,.nils]] rfl rfl rfl (by decide) ⟨rfl,trivial⟩ rfl ⟨J2 E1 rfl rfl rfl,Zz qUl qUf rfl rfl rfl rfl,Zs qWp rfl rfl rfl rfl (Vz hx (by omega) (Qz hk.x (by omega))) rfl,J2 Ab rfl rfl rfl,Zz qUl qUf rfl rfl rfl rfl,Zs qWp rfl rfl rfl rfl (Vz hy (by omega) (Qz hk.y (by omega))) rfl,J2 Eo rfl rfl rfl,Zz Rd J6 rfl rfl rfl rfl,Zs qUh rfl rfl rfl rfl (Jj hd (Xa hk.d (by omega))) rfl,Vl Ko rfl,trivial⟩ fun g2=>⟨_,_,rfl,rfl,kn ?_⟩)
   refine Xd tt 4 [0,0] rfl ?_
   refine kl tt 0 [] qUm rfl rfl rfl ((Ux _) ) rfl rfl ?_
   refine Xf tt 0 [] (decide_eq_true h0) rfl rfl ?_
   refine kl tt 1 [0] qFo rfl rfl rfl (U5 (by omega)) rfl rfl ?_
   refine X5 (fun _ k_=>Jp (ys:=Wy ((Crv.mk px py d).d')) 0 rfl rfl (by unfold Crv.d'; rw [if_pos h0]) (Qo k_)) rfl ?_
   refine Xd tt 1 [0] rfl ?_
   refine Zn (Ox qWn J6 Ko rfl rfl rfl rfl rfl rfl rfl rfl rfl rfl fun r3=>ko ?_)
   refine Qr tt 1 rfl ?_
   refine Zn (Zo (ls2:=((Crv.mk px py d).d'::trim px).map Wy) (m2:=1+(trim px).length) 0 qWn Kr qWr rfl rfl J6 Ko rfl rfl rfl rfl rfl rfl rfl (Ji _) (Vu _ (fun _=>rfl)) (F1 _ (fun _=>rfl)) (by rw [Zw]; omega) (rfl) (by rw [Zw]) fun r4=>ko ?_)
   refine Qr tt 1 rfl ?_
   refine Zn (Zo (ls2:=((Crv.mk px py d).d'::(trim px++trim py)).map Wy) (m2:=1+(trim px).length+(trim py).length) 0 qWn Kr qWr rfl rfl J6 Ko rfl rfl rfl rfl rfl rfl rfl (by simp; omega) (Vu _ (fun _=>rfl)) (F1 _ (fun _=>rfl)) (by rw [Zw]; omega) (by rw [Vh (by simp; omega)]; simp) (by rw [Zw]) fun r5=>ko ?_)
   refine X5 (fun _ k_=>Xm 0 [24] rfl (Zg rfl) (by simp; omega) (by simp; omega) rfl (Qo k_)) rfl ?_
   refine Qw tt rfl ?_
   refine kw (Zs qFx rfl rfl rfl rfl (Fa (Y5 ((Crv.mk px py d).d'::(trim px++trim py))) (by
     intro z hz
     rcases Vb.1 hz with rfl | hz
     ·exact hd1
     ·rcases Yz.1 hz with hz | hz
      ·exact Xa (Jk hk.x z hz) (by omega)
      ·exact Xa (Jk hk.y z hz) (by omega))) rfl) ?_
   refine Zn (Ql Ko rfl rfl fun g6=>ko ?_)
   refine Xd tt 3 [0,1] rfl ?_
   refine Xf tt 1 [0] (decide_eq_true hneg) rfl rfl ?_
   refine kl tt 1 [0] qGk rfl rfl rfl (Gv (Zc _) (hgs)) rfl rfl ?_
   refine X5 (fun _ k_=>Jp (ys:=Wy ((Crv.mk px py d).g)) 0 rfl rfl (by unfold Crv.g; rw [if_pos hneg]) (Qo k_)) rfl ?_
   refine Xd tt 2 [1,0] rfl ?_
   refine kl tt 4 [1] qUu rfl rfl rfl (Yp (Zc _) (Zc _) (hd1) (hg1) (Crv.g_ne _) (Crv.g_dvd _ _ (Ub ..))) rfl rfl ?_
   refine Qx 7 Qp rfl rfl rfl ?_
   refine Xd tt 2 [0] rfl ?_
   refine Ye tt 2 [0] qFf rfl rfl rfl (V3 (by omega) (Qz (Jk hk.x) (by omega)) (hg1) (Crv.g_ne _) (fun z hz=>Crv.g_dvd (Crv.mk px py d) z (by simp [hz]))) rfl rfl ?_
   refine Ye tt 1 [1] qFf rfl rfl rfl (V3 (by omega) (Qz (Jk hk.y) (by omega)) (hg1) (Crv.g_ne _) (fun z hz=>Crv.g_dvd (Crv.mk px py d) z (by simp [hz]))) rfl rfl ?_
   refine Xd tt 2 [2] rfl ?_
   exact Xq tt [2] rfl (rfl)
  skip
  refine Qr tt 1 rfl ?_
  refine Zn (Ql qWx rfl rfl fun g7=>ko ?_)
  refine Qw tt rfl ?_
  refine kc (Ul Qp 10 [7,8,9,10,11,12,13,14,15,5] [[],[0],[1],[],[3],[4],[],[6],[7],[]] [.one (.sh [.row lx,.row ly,.bool b,Xy l]),.one (.row lx),.one (pl (trim px)),.one (.sh [.row ly,.bool b,Xy l]),.one (.row ly),.one (pl (trim py)),.one (.sh [.bool b,Xy l]),.agg [.bool b,Xy l],.agg [sg d,mg d],.un] [(9,55,[.bool false,.slice none 0 0])] [[.bool false,.nils]] rfl rfl rfl (by decide) ⟨rfl,trivial⟩ rfl ⟨J2 E1 rfl rfl rfl,Zz qUl qUf rfl rfl rfl rfl,Zs qWp rfl rfl rfl rfl (Vz hx (by omega) (Qz hk.x (by omega))) rfl,J2 Ab rfl rfl rfl,Zz qUl qUf rfl rfl rfl rfl,Zs qWp rfl rfl rfl rfl (Vz hy (by omega) (Qz hk.y (by omega))) rfl,J2 Eo rfl rfl rfl,Zz Rd J6 rfl rfl rfl rfl,Zs qUh rfl rfl rfl rfl (Jj hd (Xa hk.d (by omega))) rfl,Vl Ko rfl,trivial⟩ fun g8=>⟨_,_,rfl,rfl,kn ?_⟩)
  refine Xd tt 4 [0,0] rfl ?_
  refine kl tt 0 [] qUm rfl rfl rfl ((Ux _) ) rfl rfl ?_
  refine Xf tt 0 [] (decide_eq_true h0) rfl rfl ?_
  refine kl tt 1 [0] qFo rfl rfl rfl (U5 (by omega)) rfl rfl ?_
  refine X5 (fun _ k_=>Jp (ys:=Wy ((Crv.mk px py d).d')) 0 rfl rfl (by unfold Crv.d'; rw [if_pos h0]) (Qo k_)) rfl ?_
  refine Xd tt 1 [0] rfl ?_
  refine Zn (Ox qWn J6 Ko rfl rfl rfl rfl rfl rfl rfl rfl rfl rfl fun r9=>ko ?_)
  refine Qr tt 1 rfl ?_
  refine Zn (Zo (ls2:=((Crv.mk px py d).d'::trim px).map Wy) (m2:=1+(trim px).length) 0 qWn Kr qWr rfl rfl J6 Ko rfl rfl rfl rfl rfl rfl rfl (Ji _) (Vu _ (fun _=>rfl)) (F1 _ (fun _=>rfl)) (by rw [Zw]; omega) (rfl) (by rw [Zw]) fun r10=>ko ?_)
  refine Qr tt 1 rfl ?_
  refine Zn (Zo (ls2:=((Crv.mk px py d).d'::(trim px++trim py)).map Wy) (m2:=1+(trim px).length+(trim py).length) 0 qWn Kr qWr rfl rfl J6 Ko rfl rfl rfl rfl rfl rfl rfl (by simp; omega) (Vu _ (fun _=>rfl)) (F1 _ (fun _=>rfl)) (by rw [Zw]; omega) (by rw [Vh (by simp; omega)]; simp) (by rw [Zw]) fun r11=>ko ?_)
  refine X5 (fun _ k_=>Xm 0 [24] rfl (Zg rfl) (by simp; omega) (by simp; omega) rfl (Qo k_)) rfl ?_
  refine Qw tt rfl ?_
  refine kw (Zs qFx rfl rfl rfl rfl (Fa (Y5 ((Crv.mk px py d).d'::(trim px++trim py))) (by
    intro z hz
    rcases Vb.1 hz with rfl | hz
    ·exact hd1
    ·rcases Yz.1 hz with hz | hz
     ·exact Xa (Jk hk.x z hz) (by omega)
     ·exact Xa (Jk hk.y z hz) (by omega))) rfl) ?_
  refine Zn (Ql Ko rfl rfl fun g12=>ko ?_)
  refine Xd tt 1 [0] rfl ?_
  refine X5 (fun _ k_=>Jp (ys:=Wy ((Crv.mk px py d).g)) 0 rfl rfl (by unfold Crv.g; rw [if_neg (by omega)]) (Qo k_)) rfl ?_
  refine Xd tt 2 [1] rfl ?_
  refine Xb tt 2 [1,0] (decide_eq_false (by omega)) rfl rfl ?_
  refine kl tt 4 [1] qUu rfl rfl rfl (Yp (Zc _) (Zc _) (hd1) (hg1) (Crv.g_ne _) (Crv.g_dvd _ _ (Ub ..))) rfl rfl ?_
  refine Qx 7 Qp rfl rfl rfl ?_
  refine Xd tt 2 [0] rfl ?_
  refine Ye tt 2 [0] qFf rfl rfl rfl (V3 (by omega) (Qz (Jk hk.x) (by omega)) (hg1) (Crv.g_ne _) (fun z hz=>Crv.g_dvd (Crv.mk px py d) z (by simp [hz]))) rfl rfl ?_
  refine Ye tt 1 [1] qFf rfl rfl rfl (V3 (by omega) (Qz (Jk hk.y) (by omega)) (hg1) (Crv.g_ne _) (fun z hz=>Crv.g_dvd (Crv.mk px py d) z (by simp [hz]))) rfl rfl ?_
  refine Xd tt 2 [2] rfl ?_
  exact Xq tt [2] rfl (rfl)
 have h0':¬((Crv.mk px py d).d'=0):=Crv.d'_ne _
 refine Qw tt rfl ?_
 rcases qYh (Crv.d'_ne (Crv.mk px py d)) with hneg | hpos
 ·skip
  refine Qr tt 1 rfl ?_
  refine Zn (Ql qWx rfl rfl fun g13=>ko ?_)
  refine Qw tt rfl ?_
  refine kc (Ul Qp 10 [7,8,9,10,11,12,13,14,15,5] [[],[0],[1],[],[3],[4],[],[6],[7],[]] [.one (.sh [.row lx,.row ly,.bool b,Xy l]),.one (.row lx),.one (pl (trim px)),.one (.sh [.row ly,.bool b,Xy l]),.one (.row ly),.one (pl (trim py)),.one (.sh [.bool b,Xy l]),.agg [.bool b,Xy l],.agg [sg d,mg d],.un] [(9,55,[.bool false,.slice none 0 0])] [[.bool false,.nils]] rfl rfl rfl (by decide) ⟨rfl,trivial⟩ rfl ⟨J2 E1 rfl rfl rfl,Zz qUl qUf rfl rfl rfl rfl,Zs qWp rfl rfl rfl rfl (Vz hx (by omega) (Qz hk.x (by omega))) rfl,J2 Ab rfl rfl rfl,Zz qUl qUf rfl rfl rfl rfl,Zs qWp rfl rfl rfl rfl (Vz hy (by omega) (Qz hk.y (by omega))) rfl,J2 Eo rfl rfl rfl,Zz Rd J6 rfl rfl rfl rfl,Zs qUh rfl rfl rfl rfl (Jj hd (Xa hk.d (by omega))) rfl,Vl Ko rfl,trivial⟩ fun g14=>⟨_,_,rfl,rfl,kn ?_⟩)
  refine Xd tt 3 [0] rfl ?_
  refine X5 (fun _ k_=>Jp (ys:=Wy ((Crv.mk px py d).d')) 0 rfl rfl (by unfold Crv.d'; rw [if_neg h0]) (Qo k_)) rfl ?_
  refine Xd tt 1 [0] rfl ?_
  refine kl tt 0 [] qUm rfl rfl rfl (Ux _) rfl rfl ?_
  refine Xb tt 1 [0] (decide_eq_false h0') rfl rfl ?_
  refine Zn (Ox qWn J6 Ko rfl rfl rfl rfl rfl rfl rfl rfl rfl rfl fun r15=>ko ?_)
  refine Qr tt 1 rfl ?_
  refine Zn (Zo (ls2:=((Crv.mk px py d).d'::trim px).map Wy) (m2:=1+(trim px).length) 0 qWn Kr qWr rfl rfl J6 Ko rfl rfl rfl rfl rfl rfl rfl (Ji _) (Vu _ (fun _=>rfl)) (F1 _ (fun _=>rfl)) (by rw [Zw]; omega) (rfl) (by rw [Zw]) fun r16=>ko ?_)
  refine Qr tt 1 rfl ?_
  refine Zn (Zo (ls2:=((Crv.mk px py d).d'::(trim px++trim py)).map Wy) (m2:=1+(trim px).length+(trim py).length) 0 qWn Kr qWr rfl rfl J6 Ko rfl rfl rfl rfl rfl rfl rfl (by simp; omega) (Vu _ (fun _=>rfl)) (F1 _ (fun _=>rfl)) (by rw [Zw]; omega) (by rw [Vh (by simp; omega)]; simp) (by rw [Zw]) fun r17=>ko ?_)
  refine X5 (fun _ k_=>Xm 0 [24] rfl (Zg rfl) (by simp; omega) (by simp; omega) rfl (Qo k_)) rfl ?_
  refine Qw tt rfl ?_
  refine kw (Zs qFx rfl rfl rfl rfl (Fa (Y5 ((Crv.mk px py d).d'::(trim px++trim py))) (by
    intro z hz
    rcases Vb.1 hz with rfl | hz
    ·exact hd1
    ·rcases Yz.1 hz with hz | hz
     ·exact Xa (Jk hk.x z hz) (by omega)
     ·exact Xa (Jk hk.y z hz) (by omega))) rfl) ?_
  refine Zn (Ql Ko rfl rfl fun g18=>ko ?_)
  refine Xd tt 3 [0,1] rfl ?_
  refine Xf tt 1 [0] (decide_eq_true hneg) rfl rfl ?_
  refine kl tt 1 [0] qGk rfl rfl rfl (Gv (Zc _) (hgs)) rfl rfl ?_
  refine X5 (fun _ k_=>Jp (ys:=Wy ((Crv.mk px py d).g)) 0 rfl rfl (by unfold Crv.g; rw [if_pos hneg]) (Qo k_)) rfl ?_
  refine Xd tt 2 [1,0] rfl ?_
  refine kl tt 4 [1] qUu rfl rfl rfl (Yp (Zc _) (Zc _) (hd1) (hg1) (Crv.g_ne _) (Crv.g_dvd _ _ (Ub ..))) rfl rfl ?_
  refine Qx 7 Qp rfl rfl rfl ?_
  refine Xd tt 2 [0] rfl ?_
  refine Ye tt 2 [0] qFf rfl rfl rfl (V3 (by omega) (Qz (Jk hk.x) (by omega)) (hg1) (Crv.g_ne _) (fun z hz=>Crv.g_dvd (Crv.mk px py d) z (by simp [hz]))) rfl rfl ?_
  refine Ye tt 1 [1] qFf rfl rfl rfl (V3 (by omega) (Qz (Jk hk.y) (by omega)) (hg1) (Crv.g_ne _) (fun z hz=>Crv.g_dvd (Crv.mk px py d) z (by simp [hz]))) rfl rfl ?_
  refine Xd tt 2 [2] rfl ?_
  exact Xq tt [2] rfl (rfl)
 skip
 refine Qr tt 1 rfl ?_
 refine Zn (Ql qWx rfl rfl fun g19=>ko ?_)
 refine Qw tt rfl ?_
 refine kc (Ul Qp 10 [7,8,9,10,11,12,13,14,15,5] [[],[0],[1],[],[3],[4],[],[6],[7],[]] [.one (.sh [.row lx,.row ly,.bool b,Xy l]),.one (.row lx),.one (pl (trim px)),.one (.sh [.row ly,.bool b,Xy l]),.one (.row ly),.one (pl (trim py)),.one (.sh [.bool b,Xy l]),.agg [.bool b,Xy l],.agg [sg d,mg d],.un] [(9,55,[.bool false,.slice none 0 0])] [[.bool false,.nils]] rfl rfl rfl (by decide) ⟨rfl,trivial⟩ rfl ⟨J2 E1 rfl rfl rfl,Zz qUl qUf rfl rfl rfl rfl,Zs qWp rfl rfl rfl rfl (Vz hx (by omega) (Qz hk.x (by omega))) rfl,J2 Ab rfl rfl rfl,Zz qUl qUf rfl rfl rfl rfl,Zs qWp rfl rfl rfl rfl (Vz hy (by omega) (Qz hk.y (by omega))) rfl,J2 Eo rfl rfl rfl,Zz Rd J6 rfl rfl rfl rfl,Zs qUh rfl rfl rfl rfl (Jj hd (Xa hk.d (by omega))) rfl,Vl Ko rfl,trivial⟩ fun g20=>⟨_,_,rfl,rfl,kn ?_⟩)
 refine Xd tt 3 [0] rfl ?_
 refine X5 (fun _ k_=>Jp (ys:=Wy ((Crv.mk px py d).d')) 0 rfl rfl (by unfold Crv.d'; rw [if_neg h0]) (Qo k_)) rfl ?_
 refine Xd tt 1 [0] rfl ?_
 refine kl tt 0 [] qUm rfl rfl rfl (Ux _) rfl rfl ?_
 refine Xb tt 1 [0] (decide_eq_false h0') rfl rfl ?_
 refine Zn (Ox qWn J6 Ko rfl rfl rfl rfl rfl rfl rfl rfl rfl rfl fun r21=>ko ?_)
 refine Qr tt 1 rfl ?_
 refine Zn (Zo (ls2:=((Crv.mk px py d).d'::trim px).map Wy) (m2:=1+(trim px).length) 0 qWn Kr qWr rfl rfl J6 Ko rfl rfl rfl rfl rfl rfl rfl (Ji _) (Vu _ (fun _=>rfl)) (F1 _ (fun _=>rfl)) (by rw [Zw]; omega) (rfl) (by rw [Zw]) fun r22=>ko ?_)
 refine Qr tt 1 rfl ?_
 refine Zn (Zo (ls2:=((Crv.mk px py d).d'::(trim px++trim py)).map Wy) (m2:=1+(trim px).length+(trim py).length) 0 qWn Kr qWr rfl rfl J6 Ko rfl rfl rfl rfl rfl rfl rfl (by simp; omega) (Vu _ (fun _=>rfl)) (F1 _ (fun _=>rfl)) (by rw [Zw]; omega) (by rw [Vh (by simp; omega)]; simp) (by rw [Zw]) fun r23=>ko ?_)
 refine X5 (fun _ k_=>Xm 0 [24] rfl (Zg rfl) (by simp; omega) (by simp; omega) rfl (Qo k_)) rfl ?_
 refine Qw tt rfl ?_
 refine kw (Zs qFx rfl rfl rfl rfl (Fa (Y5 ((Crv.mk px py d).d'::(trim px++trim py))) (by
   intro z hz
   rcases Vb.1 hz with rfl | hz
   ·exact hd1
   ·rcases Yz.1 hz with hz | hz
    ·exact Xa (Jk hk.x z hz) (by omega)
    ·exact Xa (Jk hk.y z hz) (by omega))) rfl) ?_
 refine Zn (Ql Ko rfl rfl fun g24=>ko ?_)
 refine Xd tt 1 [0] rfl ?_
 refine X5 (fun _ k_=>Jp (ys:=Wy ((Crv.mk px py d).g)) 0 rfl rfl (by unfold Crv.g; rw [if_neg (by omega)]) (Qo k_)) rfl ?_
 refine Xd tt 2 [1] rfl ?_
 refine Xb tt 2 [1,0] (decide_eq_false (by omega)) rfl rfl ?_
 refine kl tt 4 [1] qUu rfl rfl rfl (Yp (Zc _) (Zc _) (hd1) (hg1) (Crv.g_ne _) (Crv.g_dvd _ _ (Ub ..))) rfl rfl ?_
 refine Qx 7 Qp rfl rfl rfl ?_
 refine Xd tt 2 [0] rfl ?_
 refine Ye tt 2 [0] qFf rfl rfl rfl (V3 (by omega) (Qz (Jk hk.x) (by omega)) (hg1) (Crv.g_ne _) (fun z hz=>Crv.g_dvd (Crv.mk px py d) z (by simp [hz]))) rfl rfl ?_
 refine Ye tt 1 [1] qFf rfl rfl rfl (V3 (by omega) (Qz (Jk hk.y) (by omega)) (hg1) (Crv.g_ne _) (fun z hz=>Crv.g_dvd (Crv.mk px py d) z (by simp [hz]))) rfl rfl ?_
 refine Xd tt 2 [2] rfl ?_
 exact Xq tt [2] rfl (rfl)
def F2 (x y:Int):Crv:=Crv.norm ⟨trim [x],trim [y],0⟩
theorem Tw {lx ly:List (List LV)} {px py:List Int} {b:Bool} {l:List Nat} {d:Int} (hx:IsInts lx px) (hy:IsInts ly py) (hd:Y1 (.bool b) (Xy l) d) (hk:Cs 4294967294 1073741824 (Crv.mk px py d)) (h0:d≠0):Q8 Tryz.prog 253 [.one (.row lx),.one (.row ly),.agg [.bool b,Xy l]] (.tup [.agg [pl (((Crv.norm (Crv.mk px py d))).x),pl (((Crv.norm (Crv.mk px py d))).y),sg (((Crv.norm (Crv.mk px py d))).d),mg (((Crv.norm (Crv.mk px py d))).d)],.one (.int .i64 0)]):=by
 refine X2 tt 1 [] Tryz.func253 Tryz.ntmps253 rfl rfl rfl ?_
 refine Zn (Ql qWx rfl rfl fun g1=>ko ?_)
 refine Qr tt 2 rfl ?_
 refine kl tt 0 [] qUh rfl rfl rfl (Jj hd (Xa hk.d (by omega))) rfl rfl ?_
 refine kl tt 0 [] qUm rfl rfl rfl ((Ux _) ) rfl rfl ?_
 refine Xb tt 4 [] (decide_eq_false h0) rfl rfl ?_
 refine kl tt 2 [0] Tryz.func190 rfl rfl rfl (Cc hx hy hd (hk)) rfl rfl ?_
 exact kr2 tt [0] rfl (rfl)
theorem Qkc {lx ly:List (List LV)} {px py:List Int} (hx:IsInts lx px) (hy:IsInts ly py) (hk:Cs 4294967294 1073741824 (Crv.mk px py 0)):Q8 Tryz.prog 112 [.one (.row lx),.one (.row ly)] (.agg [pl (((Crv.norm (Crv.mk px py 0))).x),pl (((Crv.norm (Crv.mk px py 0))).y),sg (((Crv.norm (Crv.mk px py 0))).d),mg (((Crv.norm (Crv.mk px py 0))).d)]):=by
 refine X2 tt 0 [] Tryz.func112 Tryz.ntmps112 rfl rfl rfl ?_
 refine Zn (Ql qWx rfl rfl fun g1=>ko ?_)
 refine Qr tt 3 rfl ?_
 refine kl tt 1 [0] Tryz.func190 rfl rfl rfl (Cc hx hy (show Y1 (.bool false) (Xy []) 0 from T4) (hk)) rfl rfl ?_
 exact Xq tt [0] rfl (rfl)
theorem Qh3 {x y:Int} (hx:-9223372036854775808≤x∧x≤9223372036854775807) (hy:-9223372036854775808≤y∧y≤9223372036854775807):Cs 64 1 ⟨trim [x],trim [y],0⟩:=by
 have key:∀ z:Int,-9223372036854775808≤z∧z≤9223372036854775807→Xh z≤64:=fun z hz=>by
  rw [G7]
  have:(2:Nat)^64=18446744073709551616:=by decide
  omega
 refine ⟨Jk fun z hz=>?_,Jk fun z hz=>?_,K7 _,Kj [x],Kj [y]⟩
 ·rw [qZw] at hz; rw [hz]; exact key x hx
 rw [qZw] at hz; rw [hz]; exact key y hy
theorem M2 {x y:Int} (hx:-9223372036854775808≤x∧x≤9223372036854775807) (hy:-9223372036854775808≤y∧y≤9223372036854775807):Q8 Tryz.prog 45 [.one (.int .i64 x),.one (.int .i64 y)] (.agg [pl (((F2 x y)).x),pl (((F2 x y)).y),sg (((F2 x y)).d),mg (((F2 x y)).d)]):=by
 refine X2 tt 0 [] Tryz.func45 Tryz.ntmps45 rfl rfl rfl ?_
 refine Zn (Ql qWx rfl rfl fun g1=>ko ?_)
 refine Qr tt 2 rfl ?_
 refine kl tt 2 [] Tryz.func113 rfl rfl rfl (Qcu (p:=[x]) (show 1<274877906944 by decide) (by intro z hz; rw [qZw] at hz; rw [hz]; exact hx)) rfl rfl ?_
 refine kl tt 0 [] Tryz.func113 rfl rfl rfl (Qcu (p:=[y]) (show 1<274877906944 by decide) (by intro z hz; rw [qZw] at hz; rw [hz]; exact hy)) rfl rfl ?_
 refine kl tt 1 [0] Tryz.func112 rfl rfl rfl (Qkc (Y5 _) (Y5 _) ((Qh3 hx hy).mono (by omega) (by omega))) rfl rfl ?_
 exact Xq tt [0] rfl (rfl)
theorem Qu6 (px py:List Int):Crv.norm ⟨px,py,1⟩=Crv.norm ⟨px,py,0⟩:=rfl
theorem Qar {lx ly:List (List LV)} {px py:List Int} {b:Bool} {l:List Nat} {d:Int} (hx:IsInts lx px) (hy:IsInts ly py) (hd:Y1 (.bool b) (Xy l) d) (hk:Cs 4294967294 1073741824 (Crv.mk px py d)) {id:Int}:Q8 Tryz.prog 204 [.agg [.row lx,.row ly,.bool b,Xy l,.int .i64 id]] (.agg [pl (((Crv.norm (Crv.mk px py d))).x),pl (((Crv.norm (Crv.mk px py d))).y),sg (((Crv.norm (Crv.mk px py d))).d),mg (((Crv.norm (Crv.mk px py d))).d),.int .i64 id]):=by
 refine X2 tt 0 [] Tryz.func204 Tryz.ntmps204 rfl rfl rfl ?_
 by_cases h0:d=0
 ·skip
  refine Qw tt rfl ?_
  refine Zn (Y0 rfl rfl rfl fun g1=>ko ?_)
  refine Zn (Ql qWi rfl rfl fun g2=>ko ?_)
  refine Xd tt 3 [1] rfl ?_
  refine Zn (Ql Ko rfl rfl fun g3=>ko ?_)
  refine Xd tt 2 [0,0] rfl ?_
  refine kl tt 0 [] qUh rfl rfl rfl (Jj hd (Xa hk.d (by omega))) rfl rfl ?_
  refine kl tt 0 [] qUm rfl rfl rfl ((Ux _) ) rfl rfl ?_
  refine Xf tt 0 [] (decide_eq_true h0) rfl rfl ?_
  refine kl tt 8 [0,2,2,0] qFo rfl rfl rfl (U5 (by omega)) rfl rfl ?_
  refine kl tt 7 [2,2,1] Tryz.func253 rfl rfl rfl (Tw hx hy (Zc _) (⟨hk.x,hk.y,by show Xh 1≤_; decide,hk.lx,hk.ly⟩) (by decide)) rfl rfl ?_
  exact Xq tt [1] rfl (by rw [h0,Qu6])
 skip
 refine Qw tt rfl ?_
 refine Zn (Y0 rfl rfl rfl fun g4=>ko ?_)
 refine Zn (Ql qWi rfl rfl fun g5=>ko ?_)
 refine Xd tt 3 [1] rfl ?_
 refine Zn (Ql Ko rfl rfl fun g6=>ko ?_)
 refine Xd tt 2 [0,0] rfl ?_
 refine kl tt 0 [] qUh rfl rfl rfl (Jj hd (Xa hk.d (by omega))) rfl rfl ?_
 refine kl tt 0 [] qUm rfl rfl rfl ((Ux _) ) rfl rfl ?_
 refine Xb tt 7 [2,2,0] (decide_eq_false h0) rfl rfl ?_
 refine kl tt 7 [2,2,1] Tryz.func253 rfl rfl rfl (Tw hx hy hd (hk) (h0)) rfl rfl ?_
 exact Xq tt [1] rfl (rfl)
end Orr

namespace Orr
open Go Go.Proofs
set_option maxRecDepth 20000 in
theorem Nd {l:List Pt} {id:Int} (hl:l.length<1073741824):Q8 Tryz.prog 203 [.agg [Um l],.one (.int .i64 id)] (.tup [.one (.int .i64 (((pos l id:Nat):Int))),.one (.bool (has l id))]):=by
 refine X2 tt 4 [] Tryz.func203 Tryz.ntmps203 rfl rfl rfl ?_
 refine Qk [1,2,6] rfl rfl ?_
 refine Zj (fun m L B=>∃ k,k≤l.length∧(∀ j p,j<k→l[j]? = some p→p.id<id)∧m=l.length-k∧L=[(1,.one (.int .i64 id)),(2,.one (.sh [Um l])),(6,.one (.int .i64 ((k:Int))))]∧B=[]) (m:=_) ⟨0,K7 _,fun j p hj=>absurd hj (qKa _),rfl,rfl,rfl⟩ ?_
 rintro m L B ⟨k,hp0,hp1,hm,rfl,rfl⟩
 refine Qw tt rfl ?_
 by_cases hlt:k<l.length
 ·obtain ⟨p,hp⟩:∃ p,l[k]? = some p:=⟨_,Xv hlt⟩
  by_cases hid:p.id<id
  refine Qw tt rfl ?_
  ·skip
   refine Qr tt 3 rfl ?_
   refine Qf tt 2 [] (Qj (m:=l.length) Wn rfl (Kl _) rfl) rfl ?_
   refine Qf tt 0 [] ((Qd rfl rfl (decide_eq_true (by omega)) (Qv tt rfl rfl))) rfl ?_
   refine Qf tt 0 [] ((Qd rfl rfl (decide_eq_true (by omega)) (Qv tt rfl rfl))) rfl ?_
   refine Qf tt 0 [] ((Qd rfl rfl (decide_eq_true (by omega)) (Qv tt rfl rfl))) rfl ?_
   refine Qf tt 0 [] ((Qd rfl rfl (decide_eq_true (by omega)) (Qi (k) Wn F4 rfl rfl (rfl) (Qg hp) rfl rfl))) rfl ?_
   refine Qf tt 0 [] ((Qd rfl rfl (decide_eq_true (by omega)) (Qv tt rfl rfl))) rfl ?_
   refine Qf tt 0 [] ((Qd rfl rfl (decide_eq_true (by omega)) (Qv tt rfl rfl))) rfl ?_
   refine Qf tt 0 [] ((Qd rfl rfl (decide_eq_true (by omega)) (Qv tt rfl rfl))) rfl ?_
   refine Qf tt 0 [] ((Qd rfl rfl (decide_eq_true (by omega)) (Qv tt rfl rfl))) rfl ?_
   refine Qf tt 0 [] (Zp rfl (decide_eq_true (by omega)) rfl rfl) rfl ?_
   refine Xf tt 1 [] (decide_eq_true hid) rfl rfl ?_
   refine Qf tt 1 [] (Q6 (r:=((k+1:Nat):Int)) rfl rfl (Qm (by omega) (by omega)) rfl) rfl ?_
   refine Qk [1,2,6] rfl rfl ?_
   refine Q7 ?_
   refine ⟨_,?_,k+1,by omega,fun j q hj hq=>by
     rcases Mp j k with h1 | h1
     ·exact hp1 j q h1 hq
     ·rw [show j=k from by omega,hp] at hq; injection hq with hq; rw [←hq]; exact hid,rfl,rfl,rfl⟩
   omega
  skip
  refine Qr tt 3 rfl ?_
  refine Qf tt 2 [] (Qj (m:=l.length) Wn rfl (Kl _) rfl) rfl ?_
  refine Qf tt 0 [] ((Qd rfl rfl (decide_eq_true (by omega)) (Qv tt rfl rfl))) rfl ?_
  refine Qf tt 0 [] ((Qd rfl rfl (decide_eq_true (by omega)) (Qv tt rfl rfl))) rfl ?_
  refine Qf tt 0 [] ((Qd rfl rfl (decide_eq_true (by omega)) (Qv tt rfl rfl))) rfl ?_
  refine Qf tt 0 [] ((Qd rfl rfl (decide_eq_true (by omega)) (Qi (k) Wn F4 rfl rfl (rfl) (Qg hp) rfl rfl))) rfl ?_
  refine Qf tt 0 [] ((Qd rfl rfl (decide_eq_true (by omega)) (Qv tt rfl rfl))) rfl ?_
  refine Qf tt 0 [] ((Qd rfl rfl (decide_eq_true (by omega)) (Qv tt rfl rfl))) rfl ?_
  refine Qf tt 0 [] ((Qd rfl rfl (decide_eq_true (by omega)) (Qv tt rfl rfl))) rfl ?_
  refine Qf tt 0 [] ((Qd rfl rfl (decide_eq_true (by omega)) (Qv tt rfl rfl))) rfl ?_
  refine Qf tt 0 [] (Zp rfl (decide_eq_true (by omega)) rfl rfl) rfl ?_
  refine Xb tt 0 [] (decide_eq_false hid) rfl rfl ?_
  refine Qx 17 Qp rfl rfl rfl ?_
  refine Qr tt 4 rfl ?_
  refine kd (Qj (m:=l.length) Wn rfl (Kl _) rfl) rfl ?_
  refine Qr tt 2 rfl ?_
  refine kd ((Qd rfl rfl (decide_eq_true (by omega)) (Qv tt rfl rfl))) rfl ?_
  refine Qw tt rfl ?_
  refine kd ((Qd rfl rfl (decide_eq_true (by omega)) (Qv tt rfl rfl))) rfl ?_
  refine Qw tt rfl ?_
  refine kd ((Qd rfl rfl (decide_eq_true (by omega)) (Qv tt rfl rfl))) rfl ?_
  refine Qw tt rfl ?_
  refine kd ((Qd rfl rfl (decide_eq_true (by omega)) (Qi (k) Wn F4 rfl rfl (rfl) (Qg hp) rfl rfl))) rfl ?_
  refine Qw tt rfl ?_
  refine kd ((Qd rfl rfl (decide_eq_true (by omega)) (Qv tt rfl rfl))) rfl ?_
  refine Qw tt rfl ?_
  refine kd ((Qd rfl rfl (decide_eq_true (by omega)) (Qv tt rfl rfl))) rfl ?_
  refine Qw tt rfl ?_
  refine kd ((Qd rfl rfl (decide_eq_true (by omega)) (Qv tt rfl rfl))) rfl ?_
  refine Qw tt rfl ?_
  refine kd ((Qd rfl rfl (decide_eq_true (by omega)) (Qv tt rfl rfl))) rfl ?_
  refine Qw tt rfl ?_
  refine kd (Zp rfl (decide_eq_true (by omega)) rfl rfl) rfl ?_
  refine Qr tt 1 rfl ?_
  refine Qr tt 1 rfl ?_
  have hpos:=Qjw hp1 (.inr ⟨p,hp,hid⟩)
  have hhas:has l id=decide (p.id=id):=by unfold has; rw [hpos,hp]
  exact kr2 tt [] rfl (by rw [hpos,hhas])
 skip
 refine Qr tt 3 rfl ?_
 refine Qf tt 2 [] (Qj (m:=l.length) Wn rfl (Kl _) rfl) rfl ?_
 refine Qf tt 0 [] (Qh rfl rfl (decide_eq_false (by omega)) rfl) rfl ?_
 refine Qf tt 0 [] (Qh rfl rfl (decide_eq_false (by omega)) rfl) rfl ?_
 refine Qf tt 0 [] (Qh rfl rfl (decide_eq_false (by omega)) rfl) rfl ?_
 refine Qf tt 0 [] (Qh rfl rfl (decide_eq_false (by omega)) rfl) rfl ?_
 refine Qf tt 0 [] (Qh rfl rfl (decide_eq_false (by omega)) rfl) rfl ?_
 refine Qf tt 0 [] (Qh rfl rfl (decide_eq_false (by omega)) rfl) rfl ?_
 refine Qf tt 0 [] (Qh rfl rfl (decide_eq_false (by omega)) rfl) rfl ?_
 refine Qf tt 0 [] (Qh rfl rfl (decide_eq_false (by omega)) rfl) rfl ?_
 refine Qf tt 0 [] (Zu rfl (decide_eq_false (by omega)) rfl rfl) rfl ?_
 refine Xb tt 0 [] (rfl) rfl rfl ?_
 refine Qx 17 Qp rfl rfl rfl ?_
 refine Qr tt 4 rfl ?_
 refine kd (Qj (m:=l.length) Wn rfl (Kl _) rfl) rfl ?_
 refine Qr tt 2 rfl ?_
 refine kd (Qh rfl rfl (decide_eq_false (by omega)) rfl) rfl ?_
 refine Qw tt rfl ?_
 refine kd (Qh rfl rfl (decide_eq_false (by omega)) rfl) rfl ?_
 refine Qw tt rfl ?_
 refine kd (Qh rfl rfl (decide_eq_false (by omega)) rfl) rfl ?_
 refine Qw tt rfl ?_
 refine kd (Qh rfl rfl (decide_eq_false (by omega)) rfl) rfl ?_
 refine Qw tt rfl ?_
 refine kd (Qh rfl rfl (decide_eq_false (by omega)) rfl) rfl ?_
 refine Qw tt rfl ?_
 refine kd (Qh rfl rfl (decide_eq_false (by omega)) rfl) rfl ?_
 refine Qw tt rfl ?_
 refine kd (Qh rfl rfl (decide_eq_false (by omega)) rfl) rfl ?_
 refine Qw tt rfl ?_
 refine kd (Qh rfl rfl (decide_eq_false (by omega)) rfl) rfl ?_
 refine Qw tt rfl ?_
 refine kd (Zu rfl (decide_eq_false (by omega)) rfl rfl) rfl ?_
 refine Qr tt 1 rfl ?_
 refine Qr tt 1 rfl ?_
 have hk:k=l.length:=by omega
 have hpos:=Qjw hp1 (.inl hk)
 have hhas:has l id=false:=by unfold has; rw [hpos,Eu (by omega)]
 exact kr2 tt [] rfl (by rw [hpos,hhas])
theorem Ck {l:List Pt}:Q8 Tryz.prog 197 [.agg [Um l]] (.one (Um l)):=by
 refine X2 tt 5 [] Tryz.func197 Tryz.ntmps197 rfl rfl rfl ?_
 exact Xq tt [] rfl (rfl)
theorem L5 {lx ly:List (List LV)} {px py:List Int} {b:Bool} {ll:List Nat} {d id:Int} {l:List Pt} (hx:IsInts lx px) (hy:IsInts ly py) (hd:Y1 (.bool b) (Xy ll) d) (hk:Cs 4294967294 1073741824 (Crv.mk px py d)) (hl:l.length≤1000000):Q8 Tryz.prog 119 [.agg [Um l],.agg [.row lx,.row ly,.bool b,Xy ll,.int .i64 id]] (.tup [.agg [Um ((if Tn l (Pt.mk (Crv.norm (Crv.mk px py d)) id)=0 then put l (Pt.mk (Crv.norm (Crv.mk px py d)) id) else l))],.one (.int .i64 (Tn l (Pt.mk (Crv.norm (Crv.mk px py d)) id)))]):=by
 refine X2 tt 0 [] Tryz.func119 Tryz.ntmps119 rfl rfl rfl ?_
 have hpl:=Qfi l id
 have htl:(l.take (pos l id)).length=pos l id:=by rw [Uk]; omega
 have hdl:(l.drop (pos l id)).length=l.length-pos l id:=E5 ..
 by_cases h1:has l id=true
 ·skip
  refine Qr tt 2 rfl ?_
  refine Zn (Ql qUy rfl rfl fun g1=>ko ?_)
  refine Qr tt 4 rfl ?_
  refine kl tt 7 [] Tryz.func203 rfl rfl rfl (Nd (by omega)) rfl rfl ?_
  refine Xf tt 3 [0] (h1) rfl rfl ?_
  have he:Tn l (Pt.mk (Crv.norm (Crv.mk px py d)) id)=6:=by unfold Tn; rw [if_pos h1]
  exact kr2 tt [0] rfl (by rw [he]; rfl)
 replace h1:has l id=false:=by simpa using h1
 by_cases h2:6≤l.length
 refine Qw tt rfl ?_
 ·skip
  refine Qr tt 2 rfl ?_
  refine Zn (Ql qUy rfl rfl fun g2=>ko ?_)
  refine Qr tt 4 rfl ?_
  refine kl tt 7 [] Tryz.func203 rfl rfl rfl (Nd (by omega)) rfl rfl ?_
  refine Xb tt 2 [] (h1) rfl rfl ?_
  refine Qf tt 2 [] (Qj (m:=l.length) Wn rfl (Kl _) rfl) rfl ?_
  refine Xf tt 3 [0] (decide_eq_true (by omega)) rfl rfl ?_
  have he:Tn l (Pt.mk (Crv.norm (Crv.mk px py d)) id)=9:=by unfold Tn; rw [if_neg (by rw [h1]; decide),if_pos h2]
  exact kr2 tt [0] rfl (by rw [he]; rfl)
 skip
 refine Qr tt 2 rfl ?_
 refine Zn (Ql qUy rfl rfl fun g3=>ko ?_)
 refine Qr tt 4 rfl ?_
 refine kl tt 7 [] Tryz.func203 rfl rfl rfl (Nd (by omega)) rfl rfl ?_
 refine Xb tt 2 [] (h1) rfl rfl ?_
 refine Qf tt 2 [] (Qj (m:=l.length) Wn rfl (Kl _) rfl) rfl ?_
 refine Xb tt 3 [] (decide_eq_false (by omega)) rfl rfl ?_
 refine kw (Fd (pos l id) Wn F4 rfl rfl rfl (by rw [Zw]; exact Qfi l id) (Vu l (fun _=>rfl)) (l':=(l.take (pos l id)).map Ui) (by rw [qXu]) rfl) ?_
 refine Zn (Ds (ls2:=(l.take (pos l id)).map Ui) (m2:=(l.take (pos l id)).length) Wn Wn Tryz.typeInfo76 rfl rfl F4 qWi rfl rfl rfl rfl rfl rfl rfl (Vu _ (fun _=>rfl)) (F1 _ (fun _=>rfl)) (by rw [Zw]; omega) (rfl) (Zw _) fun r4=>ko ?_)
 refine Qr tt 3 rfl ?_
 refine kl tt 1 [] Tryz.func204 rfl rfl rfl (Qar hx hy hd (hk)) rfl rfl ?_
 refine Zn (Zo (ls2:=(l.take (pos l id)++[(Pt.mk (Crv.norm (Crv.mk px py d)) id)]).map Ui) (m2:=(l.take (pos l id)).length+1) 0 Wn Wn Tryz.typeInfo76 rfl rfl F4 qWi rfl rfl rfl rfl rfl rfl rfl (by rw [Zw]; omega) (Yh rfl) (Ya rfl) (by show _+1<_; omega) (by rw [Vh (by rw [Zw]; omega),G2]; rfl) (rfl) fun r5=>ko ?_)
 refine Qr tt 5 rfl ?_
 refine kw (Dz (pos l id) Wn F4 rfl rfl rfl (by rw [Zw]; exact Qfi l id) (Vu l (fun _=>rfl)) (l':=(l.drop (pos l id)).map Ui) (by rw [List.map_drop]) rfl) ?_
 refine Zn (Zo (ls2:=(put l (Pt.mk (Crv.norm (Crv.mk px py d)) id)).map Ui) (m2:=(l.take (pos l id)).length+1+(l.drop (pos l id)).length) 0 Wn Wn Tryz.typeInfo76 rfl rfl F4 qWi rfl rfl rfl rfl rfl rfl rfl (by rw [Zw,H7]; exact Ji _) (Vu _ (fun _=>rfl)) (F1 _ (fun _=>rfl)) (by rw [Zw]; omega) (by rw [Vh (by rw [Zw,H7]; exact Ji _),←G2,N1]; rfl) (by rw [Zw]) fun r6=>ko ?_)
 refine X5 (fun _ k_=>Xm 0 [40] rfl (Zg rfl) (by rw [Zw,Ew]; omega) (by rw [Zw,Ew]; omega) rfl (Qo k_)) rfl ?_
 refine Xd tt 3 [0] rfl ?_
 have he:Tn l (Pt.mk (Crv.norm (Crv.mk px py d)) id)=0:=by unfold Tn; rw [if_neg (by rw [h1]; decide),if_neg h2]
 exact kr2 tt [0] rfl (by rw [he]; rfl)
theorem Qh5:∀ (qs:List Pt),(J1 [] qs).1.length≤qs.length:=by
 have key:∀ (qs acc:List Pt),(J1 acc qs).1.length≤acc.length+qs.length:=by
  intro qs
  induction qs with
  | nil=>intro acc; simp [J1]
  | cons q qs ih =>
   intro acc
   simp only [J1]
   split
   ·have:=ih (put acc q); rw [Ew] at this; simp only [qZy]; omega
   ·simp
 intro qs
 have:=key qs []
 simpa using this
theorem Qgq {zs:List (List LV)} {qs:List Pt} (hz:IsPts 4294967294 1073741824 zs qs) (hl:qs.length≤6):Q8 Tryz.prog 114 [.one (.row zs)] (.tup [.agg [Um ((J1 [] qs).1)],.one (.int .i64 ((J1 [] qs).2))]):=by
 refine X2 tt 0 [] Tryz.func114 Tryz.ntmps114 rfl rfl rfl ?_
 refine Zn (Ql qUy rfl rfl fun g1=>ko ?_)
 refine Qr tt 2 rfl ?_
 refine Qf tt 1 [] (Qj (m:=qs.length) Wn rfl (by simp only [We]; rw [hz.len]) rfl) rfl ?_
 refine Xb tt 0 [] (decide_eq_false (by omega)) rfl rfl ?_
 refine Zn (Ql qUy rfl rfl fun g2=>ko ?_)
 refine Qr tt 1 rfl ?_
 refine Qf tt 1 [] (Qj (m:=qs.length) Wn rfl (by simp only [We]; rw [hz.len]) rfl) rfl ?_
 refine X5 (fun _ k_=>Jp (ys:=[Um ((J1 [] (qs.take 0)).1)]) 0 rfl rfl rfl (Qo k_)) rfl ?_
 refine Qk [2,3,4,12,13,14] rfl rfl ?_
 refine Zj (fun m L B=>∃ i,i≤qs.length∧(J1 [] (qs.take i)).2=0∧m=qs.length-i∧L=[(2,.one (.ow g1 0)),(3,.one (.int .i64 0)),(4,.one (.ow g2 0)),(12,.one (.row zs)),(13,.one (.int .i64 (((qs.length:Nat):Int)))),(14,.one (.int .i64 ((i:Int))))]∧B=[.blk g2 106 [Um ((J1 [] (qs.take i)).1)],.blk g1 106 [.nils]]) (m:=_) ⟨0,K7 _,rfl,rfl,rfl,rfl⟩ ?_
 rintro m L B ⟨i,hp0,hp1,hm,rfl,rfl⟩
 refine Qw tt rfl ?_
 by_cases hlt:i<qs.length
 ·have hqi:qs[i]? = some qs[i]:=Xv hlt
  obtain ⟨z,hz,lx,ly,b,ll,px,py,d,rfl,hx,hy,hd,hk,hc⟩:=hz.get hqi
  have hq:(Pt.mk (Crv.norm (Crv.mk px py d)) qs[i].id)=qs[i]:=by rw [←hc]
  have hst:=Qmu [] qs hqi (by rw [←hp1])
  have hnl:=Qh5 (qs.take i)
  rw [Uk,Nm hp0] at hnl
  by_cases he:Tn (J1 [] (qs.take i)).1 (Pt.mk (Crv.norm (Crv.mk px py d)) qs[i].id)=0
  refine Qw tt rfl ?_
  ·have hstep:(J1 [] (qs.take (i+1))).1=put (J1 [] (qs.take i)).1 (Pt.mk (Crv.norm (Crv.mk px py d)) qs[i].id):=by rw [hst,←hq,if_pos he]
   have hst2:(J1 [] (qs.take (i+1))).2=0:=by rw [hst,←hq,if_pos he]
   refine Qr tt 1 rfl ?_
   refine Xf tt 0 [] (decide_eq_true (by omega)) rfl rfl ?_
   refine Qf tt 1 [] (Qi (i) Wn F4 rfl rfl (rfl) (hz) rfl rfl) rfl ?_
   refine Zn (Ql qWi rfl rfl fun g3=>ko ?_)
   refine Xd tt 4 [0,1,0] rfl ?_
   refine kl tt 7 [1] Tryz.func119 rfl rfl rfl (L5 hx hy hd (hk) (by omega)) rfl rfl ?_
   refine Xb tt 0 [] (decide_eq_false (fun h=>h he)) rfl rfl ?_
   refine Qf tt 1 [] (Q6 (r:=((i+1:Nat):Int)) rfl rfl (Qm (by omega) (by omega)) rfl) rfl ?_
   refine X5 (fun _ k_=>Jp (ys:=[Um ((J1 [] (qs.take (i+1))).1)]) 1 rfl rfl (by rw [if_pos he,hstep]) (Qo k_)) rfl ?_
   refine Qk [2,3,4,12,13,14] rfl rfl ?_
   refine Y2 1 rfl rfl ?_
   refine Q7 ?_
   refine ⟨_,?_,i+1,by omega,hst2,rfl,rfl,rfl⟩
   omega
  have herr:J1 [] qs=([],Tn (J1 [] (qs.take i)).1 (Pt.mk (Crv.norm (Crv.mk px py d)) qs[i].id)):=Qrr [] qs he (by rw [hst,←hq,if_neg he])
  refine Qr tt 1 rfl ?_
  refine Xf tt 0 [] (decide_eq_true (by omega)) rfl rfl ?_
  refine Qf tt 1 [] (Qi (i) Wn F4 rfl rfl (rfl) (hz) rfl rfl) rfl ?_
  refine Zn (Ql qWi rfl rfl fun g4=>ko ?_)
  refine Xd tt 4 [0,1,0] rfl ?_
  refine kl tt 7 [1] Tryz.func119 rfl rfl rfl (L5 hx hy hd (hk) (by omega)) rfl rfl ?_
  refine Xf tt 4 [2] (decide_eq_true he) rfl rfl ?_
  exact kr2 tt [2] rfl (by rw [herr]; rfl)
 skip
 refine Qr tt 1 rfl ?_
 refine Xb tt 3 [0,1] (decide_eq_false (by omega)) rfl rfl ?_
 have hi:qs.take i=qs:=Vh (by omega)
 rw [hi] at hp1
 exact kr2 tt [1] rfl (by rw [hi,hp1])
end Orr

namespace Orr
open Go Go.Proofs
theorem Ql0 (q:Rat):Yu [-q.num,(q.den:Int)]:=by
 unfold Yu
 simp [trim,q.den_nz]
theorem Q0j {q:Rat} {s:Nat} (h:Qs s q):Bd s [-q.num,(q.den:Int)]:=by
 intro z hz
 simp only [Vb,Nx,or_false] at hz
 rcases hz with rfl | rfl
 ·rw [Xk]; exact h.1
 exact h.2
set_option maxRecDepth 20000 in
theorem Qqu {b1 b2:Bool} {l1 l2:List Nat} {n d:Int} (h1:Y1 (.bool b1) (Xy l1) n) (h2:Y1 (.bool b2) (Xy l2) d) (hn:Xh n≤4294967295) (hd:Xh d≤4294967295) (hq:Qs 4294967295 (Q3 n d)):Q8 Tryz.prog 115 [.agg [.bool b1,Xy l1,.bool b2,Xy l2]] (.agg [pl ([-((Q3 n d)).num,(((Q3 n d)).den:Int)]),sg ((((Q3 n d))).num),mg ((((Q3 n d))).num),sg (((((Q3 n d))).den:Int)),mg (((((Q3 n d))).den:Int)),sg ((((Q3 n d))).num),mg ((((Q3 n d))).num),sg (((((Q3 n d))).den:Int)),mg (((((Q3 n d))).den:Int))]):=by
 refine X2 tt 0 [] Tryz.func115 Tryz.ntmps115 rfl rfl rfl ?_
 refine Zn (Y0 rfl rfl rfl fun g1=>ko ?_)
 refine Zn (Ql qFc rfl rfl fun g2=>ko ?_)
 refine Xd tt 1 [1] rfl ?_
 refine kl tt 1 [1] qGl rfl rfl rfl (D9 h1 h2 hn hd) rfl rfl ?_
 refine Qx 9 Qp rfl rfl rfl ?_
 refine Xd tt 2 [1] rfl ?_
 refine Ye tt 5 [1,1,1] qGk rfl rfl rfl (Gv (Zc _) (hq.1)) rfl rfl ?_
 refine Ye tt 2 [0] qGl rfl rfl rfl (Hc hq) rfl rfl ?_
 exact Xq tt [0] rfl (rfl)
set_option maxRecDepth 20000 in
theorem Pr {q:Rat} (hq:Qs 4294967295 q):Q8 Tryz.prog 239 [.agg [pl ([-q.num,(q.den:Int)]),sg q.num,mg q.num,sg ((q.den:Int)),mg ((q.den:Int)),sg q.num,mg q.num,sg ((q.den:Int)),mg ((q.den:Int))]] (.agg [pl ([-q.num,(q.den:Int)]),sg q.num,mg q.num,sg ((q.den:Int)),mg ((q.den:Int)),sg q.num,mg q.num,sg ((q.den:Int)),mg ((q.den:Int))]):=by
 refine X2 tt 1 [] Tryz.func239 Tryz.ntmps239 rfl rfl rfl ?_
 refine Zn (Ql qFc rfl rfl fun g1=>ko ?_)
 refine Qw tt rfl ?_
 refine Qx 8 Qp rfl rfl rfl ?_
 refine Qr tt 2 rfl ?_
 refine Ye tt 2 [] qWp rfl rfl rfl (Jz (Ql0 q) (show 2<274877906944 by decide) (Q0j hq)) rfl rfl ?_
 refine Ye tt 2 [] qGl rfl rfl rfl (Hc (hq)) rfl rfl ?_
 refine Qw tt rfl ?_
 refine kl tt 2 [0] qGl rfl rfl rfl (Hc (hq)) rfl rfl ?_
 exact Xq tt [0] rfl (rfl)
theorem Qe4 {q:Rat} (hq:Qs 4294967295 q):Q8 Tryz.prog 315 [.agg [pl ([-q.num,(q.den:Int)]),sg q.num,mg q.num,sg ((q.den:Int)),mg ((q.den:Int)),sg q.num,mg q.num,sg ((q.den:Int)),mg ((q.den:Int))]] (.agg [pl ([-q.num,(q.den:Int)]),sg q.num,mg q.num,sg ((q.den:Int)),mg ((q.den:Int)),sg q.num,mg q.num,sg ((q.den:Int)),mg ((q.den:Int))]):=by
 refine X2 tt 1 [] Tryz.func315 Tryz.ntmps315 rfl rfl rfl ?_
 refine Zn (Ql qFc rfl rfl fun g1=>ko ?_)
 refine Qr tt 1 rfl ?_
 refine kl tt 1 [0] Tryz.func239 rfl rfl rfl (Pr (hq)) rfl rfl ?_
 exact Xq tt [0] rfl (rfl)
theorem Qd3 {q:Rat} (hq:Qs 2147483647 q):Q8 Tryz.prog 240 [.agg [pl ([-q.num,(q.den:Int)]),sg q.num,mg q.num,sg ((q.den:Int)),mg ((q.den:Int)),sg q.num,mg q.num,sg ((q.den:Int)),mg ((q.den:Int))]] (.one (.bool true)):=by
 refine X2 tt 6 [] Tryz.func240 Tryz.ntmps240 rfl rfl rfl ?_
 refine kl tt 2 [] Tryz.func269 rfl rfl rfl (Qht (hq) (hq)) rfl rfl ?_
 exact Xq tt [] rfl (by rw [Qb2]; rfl)
theorem Qfz {p:List Int} {q:Rat} (tp:Yu p) (hl:p.length≤64) (hp:Bd 16780000 p) (hq:Qb q):Q8 Tryz.prog 168 [.one (pl p),.agg [pl ([-q.num,(q.den:Int)]),sg q.num,mg q.num,sg ((q.den:Int)),mg ((q.den:Int)),sg q.num,mg q.num,sg ((q.den:Int)),mg ((q.den:Int))]] (.one (.int .i64 (F3 p q))):=by
 refine X2 tt 0 [] Tryz.func168 Tryz.ntmps168 rfl rfl rfl ?_
 have hmm:p.length*(16777216+1)≤64*(16777216+1):=qZm _ hl
 rcases H9 p.length with h0 | h0
 ·skip
  refine Qw tt rfl ?_
  refine Zn (Y0 rfl rfl rfl fun g1=>ko ?_)
  refine Qr tt 1 rfl ?_
  refine Qx 3 Qp rfl rfl rfl ?_
  refine Qr tt 1 rfl ?_
  refine Ye tt 1 [0] qWp rfl rfl rfl (Jz (tp) (by omega) (Qz hp (by omega))) rfl rfl ?_
  refine Qw tt rfl ?_
  refine kl tt 3 [0] Tryz.func239 rfl rfl rfl (Pr (hq.mono (by omega))) rfl rfl ?_
  refine Qf tt 1 [] (Qj (m:=p.length) Kr rfl (Jq _) rfl) rfl ?_
  refine Xf tt 1 [] (decide_eq_true (by omega)) rfl rfl ?_
  exact Xq tt [] rfl (by rw [Md h0]; rfl)
 skip
 refine Qw tt rfl ?_
 refine Zn (Y0 rfl rfl rfl fun g2=>ko ?_)
 refine Qr tt 1 rfl ?_
 refine Qx 3 Qp rfl rfl rfl ?_
 refine Qr tt 1 rfl ?_
 refine Ye tt 1 [0] qWp rfl rfl rfl (Jz (tp) (by omega) (Qz hp (by omega))) rfl rfl ?_
 refine Qw tt rfl ?_
 refine kl tt 3 [0] Tryz.func239 rfl rfl rfl (Pr (hq.mono (by omega))) rfl rfl ?_
 refine Qf tt 1 [] (Qj (m:=p.length) Kr rfl (Jq _) rfl) rfl ?_
 refine Xb tt 1 [0] (decide_eq_false (by omega)) rfl rfl ?_
 refine kl tt 0 [] Tryz.func240 rfl rfl rfl (Qd3 (hq.mono (by omega))) rfl rfl ?_
 refine Xf tt 3 [0] (rfl) rfl rfl ?_
 refine kl tt 1 [] Tryz.func241 rfl rfl rfl (Qfw (tp) (by omega) (hp) (hq) (by omega)) rfl rfl ?_
 exact Xq tt [] rfl (rfl)
theorem Qiu {p:List Int} {q:Rat} (tp:Yu p) (hl:p.length≤64) (hp:Bd 16780000 p) (hq:Qb q):Q8 Tryz.prog 167 [.one (pl p),.one (.sh [pl ([-q.num,(q.den:Int)]),sg q.num,mg q.num,sg ((q.den:Int)),mg ((q.den:Int)),sg q.num,mg q.num,sg ((q.den:Int)),mg ((q.den:Int))])] (.one (.int .i64 (F3 p q))):=by
 refine X2 tt 3 [] Tryz.func167 Tryz.ntmps167 rfl rfl rfl ?_
 refine kl tt 1 [] Tryz.func168 rfl rfl rfl (Qfz (tp) (hl) (hp) (hq)) rfl rfl ?_
 exact Xq tt [] rfl (rfl)
theorem Qd0 {p:List Int} {fid:Nat} {pre post:List LV} {fn:Func} {sgn:List Int→Int} (hp:Pb p) (hfn:Tryz.prog.funcs[fid]? = some fn) (hnm:(fn.name == "runtime.NumGoroutine")=false) (hbd:fn.body.isNone=false)
  (hf:∀ p:List Int,Yu p→p.length≤64→Bd 16780000 p→Q8 Tryz.prog fid (pre.map .one++[.one (pl p)]++post.map .one) (.one (.int .i64 (sgn p)))):Q8 Tryz.prog 166 [.one (pl p),.one (.fn fid pre post)] (.one (.int .i64 (Ki sgn p.length p))):=by
 refine X2 tt 2 [] Tryz.func166 Tryz.ntmps166 rfl rfl rfl ?_
 refine kl tt 1 [] qWp rfl rfl rfl (Jz (hp.t) (B9 hp.l (by decide)) (Qz hp.b (by omega))) rfl rfl ?_
 refine Qk [0,1] rfl rfl ?_
 refine Zj (fun m L B=>∃ p' k,Yu p'∧p'.length+k≤64∧Bd (16777216+7*k) p'∧Ki sgn p'.length p'=Ki sgn p.length p∧m=p'.length∧L=[(0,.one (pl p')),(1,.one (.fn fid pre post))]∧B=[]) (m:=_) ⟨p,0,hp.t,hp.l,hp.b,rfl,rfl,rfl,rfl⟩ ?_
 rintro m L B ⟨p',k,hp0,hp1,hp2,hp3,hm,rfl,rfl⟩
 refine Qw tt rfl ?_
 by_cases h0:0<p'.length
 ·by_cases hs:sgn p'=0
  refine Qw tt rfl ?_
  ·skip
   refine Qr tt 1 rfl ?_
   refine Qf tt 1 [] (Qj (m:=p'.length) Kr rfl (Jq _) rfl) rfl ?_
   refine Xf tt 2 [] (decide_eq_true (by omega)) rfl rfl ?_
   refine Qf tt 3 [] (Iz rfl hfn hnm hbd rfl rfl (hf p' hp0 (by omega) (Qz hp2 (by omega))) rfl) rfl ?_
   refine Xb tt 1 [] (decide_eq_false (fun h=>h hs)) rfl rfl ?_
   refine kl tt 1 [] Tryz.func238 rfl rfl rfl (Qbc (by omega) (Qz hp2 (by omega))) rfl rfl ?_
   refine Qk [0,1] rfl rfl ?_
   refine Q7 ?_
   refine ⟨_,?_,Uj p',k+1,Ke _ _,by have:=Up p'; omega,Qz (Qfd (t:=7) hp2 (by show p'.length≤128; omega)) (by omega),by rw [←hp3,Ln sgn h0 hs],rfl,rfl,rfl⟩
   have:=Up p'; omega
  skip
  refine Qr tt 1 rfl ?_
  refine Qf tt 1 [] (Qj (m:=p'.length) Kr rfl (Jq _) rfl) rfl ?_
  refine Xf tt 2 [] (decide_eq_true (by omega)) rfl rfl ?_
  refine Qf tt 3 [] (Iz rfl hfn hnm hbd rfl rfl (hf p' hp0 (by omega) (Qz hp2 (by omega))) rfl) rfl ?_
  refine Xf tt 2 [] (decide_eq_true hs) rfl rfl ?_
  exact Xq tt [] rfl (by rw [←hp3,Lr sgn h0 hs])
 skip
 refine Qr tt 1 rfl ?_
 refine Qf tt 1 [] (Qj (m:=p'.length) Kr rfl (Jq _) rfl) rfl ?_
 refine Xb tt 1 [] (decide_eq_false (by omega)) rfl rfl ?_
 exact Xq tt [] rfl (by rw [←hp3,Lx sgn (by omega)])
theorem Nn {p:List Int} {q:Rat} (hp:Pb p) (hq:Qb q):Q8 Tryz.prog 99 [.one (pl p),.agg [pl ([-q.num,(q.den:Int)]),sg q.num,mg q.num,sg ((q.den:Int)),mg ((q.den:Int)),sg q.num,mg q.num,sg ((q.den:Int)),mg ((q.den:Int))]] (.one (.int .i64 (Kx p q))):=by
 refine X2 tt 4 [] Tryz.func99 Tryz.ntmps99 rfl rfl rfl ?_
 refine kl tt 1 [] Tryz.func166 rfl rfl rfl (Qd0 (sgn:=fun p=>F3 p q) hp Tryz.func167 rfl rfl (fun p h1 h2 h3=>Qiu h1 h2 h3 hq)) rfl rfl ?_
 exact Xq tt [] rfl (rfl)
theorem Kt {k:Crv} (hn:Mv k) (hk:Cs 4294967294 1073741824 k):Q8 Tryz.prog 170 [.agg [pl k.x,pl k.y,sg k.d,mg k.d]] (.agg [pl k.x,pl k.y,sg k.d,mg k.d]):=by
 refine X2 tt 0 [] qFg Tryz.ntmps170 rfl rfl rfl ?_
 have h0:¬(k.d=0):=by have:=hn.2.2.1; omega
 skip
 refine Qr tt 1 rfl ?_
 refine Zn (Ql qWx rfl rfl fun g1=>ko ?_)
 refine Qr tt 2 rfl ?_
 refine Zn (Ql Ko rfl rfl fun g2=>ko ?_)
 refine Xd tt 2 [0,0] rfl ?_
 refine kl tt 0 [] qUh rfl rfl rfl (Jj (Zc _) (Xa hk.d (by omega))) rfl rfl ?_
 refine kl tt 0 [] qUm rfl rfl rfl ((Ux _) ) rfl rfl ?_
 refine Xb tt 5 [0] (decide_eq_false h0) rfl rfl ?_
 refine kl tt 3 [] Tryz.func253 rfl rfl rfl (Tw (Y5 k.x) (Y5 k.y) (Zc k.d) hk h0) rfl rfl ?_
 refine Zn (Ql qWx rfl rfl fun g3=>ko ?_)
 refine Xd tt 4 [0,0,2] rfl ?_
 exact Xq tt [2] rfl (by rw [show Crv.mk k.x k.y k.d=k from rfl,Crv.norm_of hn])
set_option maxRecDepth 20000 in
theorem Qdj {a b:Crv} (ha:Mv a) (hb:Mv b) (ca:Cb a) (cb:Cb b):Q8 Tryz.prog 159 [.agg [pl a.x,pl a.y,sg a.d,mg a.d],.agg [pl b.x,pl b.y,sg b.d,mg b.d]] (.one (pl (Kf a b))):=by
 refine X2 tt 0 [] Tryz.func159 Tryz.ntmps159 rfl rfl rfl ?_
 refine Zn (Y0 rfl rfl rfl fun g1=>ko ?_)
 refine Zn (Y0 rfl rfl rfl fun g2=>ko ?_)
 refine Qr tt 1 rfl ?_
 refine Qx 3 Qp rfl rfl rfl ?_
 refine Xd tt 1 [1] rfl ?_
 refine Ye tt 1 [0] qFg rfl rfl rfl (Kt (ha) (ca.mono (by omega) (by omega))) rfl rfl ?_
 refine Qw tt rfl ?_
 refine kl tt 2 [1,0] qFg rfl rfl rfl (Kt (hb) (cb.mono (by omega) (by omega))) rfl rfl ?_
 refine Qx 9 Qp rfl rfl rfl ?_
 refine Xd tt 4 [0,1] rfl ?_
 refine Ye tt 4 [1,0] qGa rfl rfl rfl (W5 (B9 cb.lx (by decide)) (Qz cb.x (by omega)) (Xa ca.d (by omega))) rfl rfl ?_
 refine Qw tt rfl ?_
 refine kl tt 0 [] qGa rfl rfl rfl (W5 (B9 ca.lx (by decide)) (Qz ca.x (by omega)) (Xa cb.d (by omega))) rfl rfl ?_
 refine kl tt 1 [] Tryz.func171 rfl rfl rfl (Nu (B9 (Xa (Z6 _ _) cb.lx) (by decide)) (B9 (Xa (Z6 _ _) ca.lx) (by decide)) (Qz (Xo cb.x ca.d) (by decide)) (Qz (Xo ca.x cb.d) (by decide))) rfl rfl ?_
 exact Xq tt [] rfl (rfl)
set_option maxRecDepth 20000 in
theorem Qfk {a b:Crv} (ha:Mv a) (hb:Mv b) (ca:Cb a) (cb:Cb b):Q8 Tryz.prog 160 [.agg [pl a.x,pl a.y,sg a.d,mg a.d],.agg [pl b.x,pl b.y,sg b.d,mg b.d]] (.one (pl (Kh a b))):=by
 refine X2 tt 0 [] Tryz.func160 Tryz.ntmps160 rfl rfl rfl ?_
 refine Zn (Y0 rfl rfl rfl fun g1=>ko ?_)
 refine Zn (Y0 rfl rfl rfl fun g2=>ko ?_)
 refine Qr tt 1 rfl ?_
 refine Qx 3 Qp rfl rfl rfl ?_
 refine Xd tt 1 [1] rfl ?_
 refine Ye tt 1 [0] qFg rfl rfl rfl (Kt (ha) (ca.mono (by omega) (by omega))) rfl rfl ?_
 refine Qw tt rfl ?_
 refine kl tt 2 [1,0] qFg rfl rfl rfl (Kt (hb) (cb.mono (by omega) (by omega))) rfl rfl ?_
 refine Qx 9 Qp rfl rfl rfl ?_
 refine Xd tt 4 [0,1] rfl ?_
 refine Ye tt 4 [1,0] qGa rfl rfl rfl (W5 (B9 cb.ly (by decide)) (Qz cb.y (by omega)) (Xa ca.d (by omega))) rfl rfl ?_
 refine Qw tt rfl ?_
 refine kl tt 0 [] qGa rfl rfl rfl (W5 (B9 ca.ly (by decide)) (Qz ca.y (by omega)) (Xa cb.d (by omega))) rfl rfl ?_
 refine kl tt 1 [] Tryz.func171 rfl rfl rfl (Nu (B9 (Xa (Z6 _ _) cb.ly) (by decide)) (B9 (Xa (Z6 _ _) ca.ly) (by decide)) (Qz (Xo cb.y ca.d) (by decide)) (Qz (Xo ca.y cb.d) (by decide))) rfl rfl ?_
 exact Xq tt [] rfl (rfl)
end Orr
