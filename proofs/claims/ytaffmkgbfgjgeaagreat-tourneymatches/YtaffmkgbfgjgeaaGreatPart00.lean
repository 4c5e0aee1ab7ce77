/- Core Steps Mem Calls Ctl App Rel Draw Num Val U64 Arith IntR Ext -/
import Derived.WalkKit
set_option linter.all false

namespace Orr
open Go
def Z0:List (Nat×Value)→Nat→Option Value
  | [],_=>none
  |
   (t,v)::l,s=>match Nat.beq s t with
   | true=>some v
   | false=>Z0 l s
def ev (L:List (Nat×Value)):Operand→Option Value
  | .tmp t=>Z0 L t
  | .const v=>some v
  | .func f=>some (.func (.func f) #[] #[])
  | .global g=>some (.pointer (some ⟨g,0,none⟩))
def evl (L:List (Nat×Value)):List Operand→Option (List Value)
  | []=>some []
  |
   x::r=>match ev L x with
   | none=>none
   |
    some v=>match evl L r with
    | none=>none
    | some vs=>some (v::vs)
def evp (L:List (Nat×Value)):List (Nat×Operand)→Option (List (Nat×Value))
  | []=>some []
  |
   (i,x)::r=>match ev L x with
   | none=>none
   |
    some v=>match evp L r with
    | none=>none
    | some vs=>some ((i,v)::vs)
def Le (w:World) (O:Nat→Prop) (w':World) (O':Nat→Prop):Prop :=
  w.heap.size≤w'.heap.size∧(∀ b,b<w.heap.size→¬O b→w'.heap[b]? = w.heap[b]?)∧(∀ b,b<w.heap.size→O' b→O b)
structure Grow (w w':World):Prop where
  size:w.heap.size≤w'.heap.size
  keep:∀ b,b<w.heap.size→w'.heap[b]? = w.heap[b]?
  io:w'.os=w.os∧w'.output=w.output
theorem Grow.refl (w:World):Grow w w:=⟨Nat.le_refl _,fun _ _=>rfl,rfl,rfl⟩
theorem Grow.trans {w w1 w2:World} (h:Grow w w1) (h':Grow w1 w2):Grow w w2 :=
  ⟨Nat.le_trans h.1 h'.1,fun b hb=>(h'.2 b (Nat.lt_of_lt_of_le hb h.1)).trans (h.2 b hb),h'.io.1.trans h.io.1,h'.io.2.trans h.io.2⟩
theorem Grow.le {w w':World} (h:Grow w w') (O:Nat→Prop):Le w O w' O:=⟨h.1,fun b hb _=>h.2 b hb,fun _ _ h=>h⟩
structure Fact where
  holds:World→(Nat→Prop)→Prop
  keep:∀ {w w':World} {O O':Nat→Prop},Le w O w' O'→holds w O→holds w' O'
inductive Tag where
  | ty (T:TypeId)
  | mp (es:List MapEntry) (clock:Nat)
instance:Coe Nat Tag:=⟨Tag.ty⟩
instance (n:Nat):OfNat Tag n:=⟨Tag.ty n⟩
def D1:Tag→List Value→Obj
  | .ty T,cs=>.cells cs.toArray T (0,0)
  | .mp es ck,[]=>.map es.toArray ck
  | .mp _ _,c::cs=>.cells (c::cs).toArray 0 (0,0)
abbrev Va:=Nat×Tag×List Value
def Q3 (Ob:Nat→Prop) (Bs:List Va) (b:Nat):Prop:=Ob b∨b∈Bs.map (·.1)
structure St (K Ob:Nat→Prop) (w0 w:World) (a:Act) (n:Nat) (L:List (Nat×Value)) (Fs:List Fact) (Bs:List Va):Prop where
  size:a.tmps.size=n
  defers:a.defers=[]
  slots:∀ t v,Z0 L t=some v→a.tmps[t]? = some v
  wsize:w0.heap.size≤w.heap.size
  grow:∀ b,K b→w.heap[b]? = w0.heap[b]?
  own:∀ g T cs,(g,T,cs)∈Bs→¬K g∧g<w.heap.size∧w.heap[g]? = some (D1 T cs)
  nodup:(Bs.map (·.1)).Nodup
  facts:∀ f∈Fs,f.holds w (Q3 Ob Bs)
  base:∀ b,K b→b<w0.heap.size
  obase:∀ b,Ob b→b<w0.heap.size
  ownO:∀ b,b∈Bs.map (·.1)→¬Ob b
  io:w.os=w0.os∧w.output=w0.output
variable {P:Program} {ops:Array Oper} {Q:Exit→Act→World→Prop}
section
variable {K Ob:Nat→Prop} {w0 w:World} {a:Act} {n:Nat} {L:List (Nat×Value)} {Fs:List Fact} {Bs:List Va}
theorem St.tmp (h:St K Ob w0 w a n L Fs Bs) {t:Nat} {v:Value} (hv:Z0 L t=some v):a.eval (.tmp t)=v:=by
  have:=h.slots t v hv
  simp [Act.eval,Array.getD_eq_getD_getElem?,this]
theorem St.ev (h:St K Ob w0 w a n L Fs Bs) {x:Operand} {v:Value} (hv:ev L x=some v):a.eval x=v:=by
  cases x with
  | tmp t=>exact h.tmp hv
  | const u=>simp [Orr.ev] at hv; exact hv
  | global g=>simp [Orr.ev] at hv; exact hv
  | func f=>simp [Orr.ev] at hv; exact hv
theorem St.evl (h:St K Ob w0 w a n L Fs Bs):∀ {xs:List Operand} {vs:List Value},evl L xs=some vs→xs.toArray.map a.eval=vs.toArray
  | [],vs,hv=>by simp [Orr.evl] at hv; subst hv; simp
  |
   x::r,vs,hv=>by
   simp only [Orr.evl] at hv
   split at hv
   · cases hv
   · rename_i v hx
     split at hv
     · cases hv
     · rename_i us hr
       injection hv with hv; subst hv
       have h1:=h.ev hx
       have h2:=h.evl hr
       simp at h2 ⊢
       exact ⟨h1,h2⟩
theorem St.evp (h:St K Ob w0 w a n L Fs Bs):∀ {xs:List (Nat×Operand)} {vs:List (Nat×Value)},evp L xs=some vs→(xs.toArray.map fun (p:Nat×Operand)=>(p.1,a.eval p.2))=vs.toArray
  | [],vs,hv=>by simp [Orr.evp] at hv; subst hv; simp
  |
   (i,x)::r,vs,hv=>by
   simp only [Orr.evp] at hv
   split at hv
   · cases hv
   · rename_i v hx
     split at hv
     · cases hv
     · rename_i us hr
       injection hv with hv; subst hv
       have h1:=h.ev hx
       have h2:=h.evp hr
       simp at h2 ⊢
       exact ⟨h1,h2⟩
theorem St.put (h:St K Ob w0 w a n L Fs Bs) {d:Nat} (v:Value) (hd:Nat.blt d n=true):St K Ob w0 w (a.put (some d) v) n ((d,v)::L) Fs Bs:=by
  have hd':d<n:=by rwa [Nat.blt_eq] at hd
  refine { h with size:=?_,defers:=h.defers,slots:=?_ }
  · simp [Act.put,h.size]
  · intro t u hu
    simp only [Z0] at hu
    simp only [Act.put]
    split at hu
    · rename_i e
      have e:t=d:=Nat.eq_of_beq_eq_true e
      subst e
      injection hu with hu; subst hu
      simp [h.size,hd']
    · rename_i e
      have e:t≠d:=Nat.ne_of_beq_eq_false e
      rw [Array.getElem?_setIfInBounds_ne (by omega)]
      exact h.slots t u hu
theorem St.nilL (h:St K Ob w0 w a n L Fs Bs):St K Ob w0 w a n [] Fs Bs:={ h with slots:=fun _ _ hu=>by simp [Z0] at hu }
theorem St.consL {L':List (Nat×Value)} (h:St K Ob w0 w a n L Fs Bs) {t:Nat} {v:Value} (hv:Z0 L t=some v) (h':St K Ob w0 w a n L' Fs Bs):St K Ob w0 w a n ((t,v)::L') Fs Bs:=by
  refine { h' with slots:=fun s u hu=>?_ }
  simp only [Z0] at hu
  split at hu
  · rename_i e
    have e:s=t:=Nat.eq_of_beq_eq_true e
    subst e
    exact hu ▸ h.slots s v hv
  · exact h'.slots s u hu
theorem St.fact (h:St K Ob w0 w a n L Fs Bs) {f:Fact} (i:Nat) (hi:Fs[i]? = some f):f.holds w (Q3 Ob Bs) :=
  h.facts f (List.mem_of_getElem? hi)
theorem St.out (h:St K Ob w0 w a n L Fs Bs) {f:Fact} (i:Nat) (hi:Fs[i]? = some f):f.holds w Ob :=
  f.keep ⟨Nat.le_refl _,fun _ _ _=>rfl,fun _ _ ho=>.inl ho⟩ (h.fact i hi)
theorem St.add (h:St K Ob w0 w a n L Fs Bs) {f:Fact} (hf:f.holds w (Q3 Ob Bs)):St K Ob w0 w a n L (f::Fs) Bs:=by
  refine { h with facts:=fun g hg=>?_ }
  cases List.mem_cons.1 hg with
  | inl e=>subst e; exact hf
  | inr e=>exact h.facts g e
theorem St.noFacts (h:St K Ob w0 w a n L Fs Bs):St K Ob w0 w a n L [] Bs:={ h with facts:=fun g hg=>by cases hg }
theorem St.owns_lt (h:St K Ob w0 w a n L Fs Bs) {b:Nat} (hb:Q3 Ob Bs b):b<w.heap.size:=by
  rcases hb with hb | hb
  · exact Nat.lt_of_lt_of_le (h.obase b hb) h.wsize
  obtain ⟨⟨g,T,cs⟩,hm,rfl⟩:=List.mem_map.1 hb
  exact (h.own g T cs hm).2.1
theorem St.grown (h:St K Ob w0 w a n L Fs Bs) {w':World} (hg:Grow w w'):St K Ob w0 w' a n L Fs Bs:=by
  refine { h with io:=⟨hg.io.1.trans h.io.1,hg.io.2.trans h.io.2⟩,wsize:=Nat.le_trans h.wsize hg.1,grow:=fun b hb=>?_,own:=fun g T cs hm=>?_,facts:=fun f hf=>f.keep (hg.le _) (h.facts f hf) }
  · exact (hg.2 b (Nat.lt_of_lt_of_le (h.base b hb) h.wsize)).trans (h.grow b hb)
  · obtain ⟨h1,h2,h3⟩:=h.own g T cs hm
    exact ⟨h1,Nat.lt_of_lt_of_le h2 hg.1,(hg.2 g h2).trans h3⟩
theorem St.allocT (h:St K Ob w0 w a n L Fs Bs) (T:Tag) (cs:List Value):St K Ob w0 (w.alloc (D1 T cs)) a n L Fs ((w.heap.size,T,cs)::Bs):=by
  have hs:(w.alloc (D1 T cs)).heap.size=w.heap.size+1:=by
    show (w.heap.push _).size=_
    simp
  have hold:∀ b,b<w.heap.size→(w.alloc (D1 T cs)).heap[b]? = w.heap[b]? := fun b hb=>by
    show (w.heap.push _)[b]? = _
    simp [Array.getElem?_push,Nat.ne_of_lt hb]
  refine { h with wsize:=by rw [hs]; exact Nat.le_succ_of_le h.wsize,grow:=?_,own:=?_,nodup:=?_,facts:=?_,ownO:=?_ }
  · intro b hb
    rw [hold b (Nat.lt_of_lt_of_le (h.base b hb) h.wsize)]
    exact h.grow b hb
  · intro g T' cs' hm
    cases List.mem_cons.1 hm with
    |
     inl e =>
     injection e with e1 e2; injection e2 with e2 e3; subst e1; subst e2; subst e3
     refine ⟨fun hk=>?_,by rw [hs]; exact Nat.lt_succ_self _,by show (w.heap.push _)[w.heap.size]? = _; simp⟩
     have:=h.base _ hk
     have:=h.wsize
     omega
    |
     inr e =>
     obtain ⟨h1,h2,h3⟩:=h.own g T' cs' e
     exact ⟨h1,by rw [hs]; omega,(hold g h2).trans h3⟩
  · simp only [List.map_cons,List.nodup_cons]
    refine ⟨fun hm=>?_,h.nodup⟩
    have:=h.owns_lt (.inr hm)
    omega
  · intro f hf
    refine f.keep ⟨by rw [hs]; omega,fun b hb _=>hold b hb,fun b hb ho=>?_⟩ (h.facts f hf)
    simp only [Q3,List.map_cons,List.mem_cons] at ho
    rcases ho with e | e | e
    · exact .inl e
    · omega
    · exact .inr e
  · intro b hb ho
    rcases List.mem_cons.1 hb with e | e
    · have h1:=h.obase b ho
      have h2:=h.wsize
      have e:b=w.heap.size:=e
      omega
    · exact h.ownO b e ho
theorem St.alloc (h:St K Ob w0 w a n L Fs Bs) (T:TypeId) (cs:List Value):St K Ob w0 (w.alloc (.cells cs.toArray T)) a n L Fs ((w.heap.size,T,cs)::Bs):=h.allocT (.ty T) cs
theorem St.publish {B:Va} (h:St K Ob w0 w a n L Fs (B::Bs)):St K Ob w0 w a n L Fs Bs:=by
  refine { h with own:=fun g T cs hm=>h.own g T cs (List.mem_cons_of_mem _ hm),nodup:=(List.nodup_cons.1 h.nodup).2,facts:=fun f hf=>?_,ownO:=fun b hb=>h.ownO b (List.mem_cons_of_mem _ hb) }
  exact f.keep ⟨Nat.le_refl _,fun _ _ _=>rfl,fun b _ ho=>ho.imp id (List.mem_cons_of_mem _)⟩ (h.facts f hf)
theorem St.perm {Bs':List Va} (h:St K Ob w0 w a n L Fs Bs) (hp:Bs'.Perm Bs):St K Ob w0 w a n L Fs Bs':=by
  refine { h with own:=fun g T cs hm=>h.own g T cs (hp.mem_iff.1 hm),nodup:=((hp.map _).nodup_iff).2 h.nodup,facts:=fun f hf=>?_,ownO:=fun b hb=>h.ownO b (((hp.map _).mem_iff).1 hb) }
  exact f.keep ⟨Nat.le_refl _,fun _ _ _=>rfl,fun b _ ho=>ho.imp id ((hp.map _).mem_iff).1⟩ (h.facts f hf)
theorem St.grow0 (h:St (· < w0.heap.size) Ob w0 w a n L Fs Bs):Grow w0 w:=⟨h.wsize,fun b hb=>h.grow b hb,h.io⟩
end
abbrev Zr := @List.length_map
abbrev Xx := @List.getElem?_eq_getElem
abbrev Xd := @Nat.le_trans
abbrev Y0 := @List.take_of_length_le
abbrev V6 := @List.getD_eq_getElem?_getD
abbrev Vo := @List.mem_of_getElem?
abbrev X2 := @Nat.le_refl
abbrev Vb := @Bool.not_eq_false'
abbrev Vc := @Bool.not_eq_true'
abbrev Uy := @List.getElem?_eq_some_iff
abbrev Y7 := @List.mem_append
abbrev Kd := @List.length_take
abbrev Fj := @Nat.eq_of_beq_eq_true
abbrev Vw := @List.mem_cons
abbrev Vl := @Nat.zero_add
abbrev Ge := @List.mem_cons_of_mem
abbrev Fl := @List.length_append
abbrev Fm := @List.mem_cons_self
abbrev P5 := @List.eq_nil_of_length_eq_zero
abbrev Hl := @Nat.eq_zero_or_pos
abbrev K6 := @Nat.zero_le
abbrev Ww := @List.mem_map
abbrev F6 := @List.map_append
abbrev Rx := @List.mem_of_mem_take
abbrev Pr := @List.mem_of_mem_drop
abbrev H6 := @List.length_set
abbrev S1 := @List.getElem?_map
abbrev P6 := @List.append_assoc
abbrev Ll := @List.drop_eq_nil_of_le
abbrev Tu := @List.mem_range
abbrev Eh := @List.getElem?_eq_none
abbrev Na := @List.length_drop
abbrev Iy := @List.take_append_drop
abbrev No := @List.not_mem_nil
abbrev Nb := @Nat.min_eq_left
abbrev C4 := @List.all_eq_true
abbrev Ei := @List.getElem?_take
abbrev O8 := @Nat.mul_le_mul_right
abbrev Lm := @List.cons_append
abbrev qZn := @List.length_replicate
abbrev Mp := @Nat.add_zero
abbrev Mq := @Nat.lt_or_ge
abbrev Tv := @Nat.mod_lt
abbrev qZr := @List.mem_iff_getElem?
abbrev Nc := @Nat.pow_succ
abbrev qZt := @List.mem_singleton
abbrev qZu := @Nat.lt_of_le_of_lt
abbrev qZv := @Nat.lt_of_lt_of_le
abbrev qZw := @List.drop_eq_getElem_cons
abbrev qZx := @List.eq_of_mem_replicate
abbrev qZy := @List.getElem?_append_left
abbrev Ln := @List.map_cons
abbrev qXa := @Nat.mul_le_mul_left
abbrev Mo := @Nat.blt_eq
abbrev Ix := @List.map_take
abbrev qXd := @Bool.false_eq_true
abbrev qXe := @List.length_cons
abbrev qXf := @List.drop_zero
abbrev qXg := @List.append_nil
abbrev qXh := @List.getElem?_append_right
abbrev qXi := @Nat.div_add_mod
abbrev qXj := @List.getElem?_drop
abbrev qXk := @Nat.le_of_ble_eq_true
abbrev O7 := @Nat.mul_comm
abbrev qXm := @List.filter_cons_of_neg
abbrev qXn := @List.filter_cons_of_pos
abbrev qXo := @Option.isNone_iff_eq_none
abbrev qXp := @Bool.and_eq_true
abbrev qXq := @List.take_succ
abbrev qXr := @List.getElem?_set_self
abbrev qXs := @Int.emod_lt_of_pos
abbrev qXt := @Nat.pow_pos
abbrev qXu := @List.pairwise_cons
abbrev qXv := @Rat.num_divInt_den
abbrev qXw := @Int.mul_ediv_cancel_left
abbrev qXx := @Nat.mul_lt_mul_of_pos_right
abbrev qXy := @Int.emod_nonneg
abbrev qXz := @Nat.mul_zero
abbrev qJa := @List.getElem_mem
abbrev qJb := @Nat.mul_add
abbrev qJc := @List.flatten_append
abbrev qJd := @Nat.mul_le_mul
abbrev qJe := @List.getElem?_cons_succ
abbrev qJf := @List.getElem?_set_ne
abbrev qJg := @Nat.mod_eq_of_lt
abbrev qJh := @Int.sign_eq_neg_one_of_neg
abbrev qJi := @Nat.ne_of_beq_eq_false
abbrev qJj := @List.getElem?_range
abbrev qJk := @List.mem_filter
abbrev qJl := @Nat.succ_mul
abbrev qJm := @List.map_drop
abbrev qJn := @Nat.pow_add
abbrev qJo := @Nat.add_sub_cancel_left
abbrev qJp := @List.nodup_cons
abbrev qJq := @Rat.intCast_mul
abbrev qJr := @List.map_congr_left
abbrev qJs := @List.replicate_succ
abbrev qJt := @Int.sign_eq_one_of_pos
abbrev qJu := @List.take_length
abbrev qJv := @Nat.min_eq_right
abbrev qJw := @Nat.lt_of_lt_of_eq
abbrev qJx := @Nat.add_mul
abbrev qJy := @Nat.pow_le_pow_right
abbrev qJz := @Nat.sub_self
abbrev qYa := @Int.lt_trichotomy
abbrev qYb := @List.ext_getElem?
abbrev qYc := @Int.emod_eq_zero_of_dvd
abbrev qYd := @BitVec.toNat_ofInt
abbrev qYe := @Int.lt_or_gt_of_ne
abbrev qYf := @Int.natCast_nonneg
abbrev qYg := @Nat.sub_zero
abbrev qYh := @Option.toList_some
abbrev qYi := @Int.natCast_mul
abbrev qYj := @List.contains_iff_mem
abbrev qYk := @Nat.div_le_self
abbrev qYl := @Nat.add_assoc
abbrev qYm := @List.flatten_cons
abbrev qYn := @List.nodup_append
abbrev qYo := @List.mem_or_eq_of_mem_set
abbrev qYp := @Nat.mul_one
abbrev qYq := @List.take_take
abbrev qYr := @Nat.zero_mul
abbrev qYs := @Int.dvd_of_emod_eq_zero
abbrev qYt := @List.getElem?_cons_zero
abbrev qYu := @List.getElem?_replicate
abbrev qYv := @Nat.le_mul_of_pos_right
abbrev qYw := @Int.mul_ne_zero
abbrev qYx := @List.eq_nil_iff_forall_not_mem
abbrev qYy := @List.foldl_cons
abbrev qYz := @Nat.add_sub_cancel
abbrev qVa := @Int.neg_mul
abbrev qVb := @List.take_append_of_le_length
abbrev qVc := @Int.gcd_dvd_right
abbrev qVd := @List.getElem?_set
abbrev qVe := @Bool.not_false
abbrev qVf := @Int.natAbs_dvd_natAbs
abbrev qVg := @List.getElem?_toArray
abbrev qVh := @List.nodup_nil
abbrev qVi := @List.set_append_right
abbrev qVj := @Nat.add_comm
abbrev qVk := @Nat.div_lt_iff_lt_mul
abbrev qVl := @Nat.gcd_comm
abbrev qVm := @List.ext_getElem
abbrev qVn := @List.pairwise_append
abbrev qVo := @List.perm_middle
abbrev qVp := @Array.getElem?_append_left
abbrev qVq := @Array.getElem?_eq_some_iff
abbrev qVr := @Nat.mul_pos
abbrev qVs := @List.drop_succ_cons
abbrev qVt := @List.filter_eq_self
abbrev qVu := @List.take_succ_cons
abbrev qVv := @List.nil_append
abbrev qVw := @List.range_succ
abbrev qVx := @Nat.not_lt_zero
abbrev qVy := @Option.map_some
abbrev qVz := @Int.natAbs_natCast
abbrev qKa := @List.mem_replicate
abbrev qKb := @Nat.le_of_lt
abbrev qKc := @Int.natAbs_mul
end Orr

namespace Orr
open Go
variable {P:Program} {ops:Array Oper} {Q:Exit→Act→World→Prop}
variable {K Ob:Nat→Prop} {w0 w:World} {a:Act} {n:Nat} {L:List (Nat×Value)} {Fs:List Fact} {Bs:List Va} {rest:List Oper}
theorem Yl {o:Oper} {v:Value} {w':World} (hg:o.guard=none) (hrun:(execOp a.eval o).run P w=.ok (.value v) w')
    (k:wpList P ops Q rest (a.put o.dst v) w'):wpList P ops Q (o::rest) a w:=by
  refine wpList_plain hg fun K' hK=>?_
  unfold Oper.wp
  rw [hrun]
  exact hK _ _ k
theorem Qmu {o:Oper} {w':World} (hg:o.guard=none) (hd:o.dst=none) (hrun:(execOp a.eval o).run P w=.ok .skip w')
    (k:wpList P ops Q rest a w'):wpList P ops Q (o::rest) a w:=by
  refine wpList_plain hg fun K' hK=>?_
  unfold Oper.wp
  rw [hrun]
  simp only [Oper.upon,hd]
  exact hK _ _ k
section
variable {d:Nat} {ty:TypeId} {pos:String} {after:Array Edge}
theorem Je {op:Op} {v:Value} (h:St K Ob w0 w a n L Fs Bs) (hd:Nat.blt d n=true)
    (hrun:(execOp a.eval { dst:=some d,op:=op,type:=ty,pos:=pos,after:=after,guard:=none }).run P w=.ok (.value v) w)
    (k:∀ a',St K Ob w0 w a' n ((d,v)::L) Fs Bs→wpList P ops Q rest a' w) :
    wpList P ops Q ({ dst:=some d,op:=op,type:=ty,pos:=pos,after:=after,guard:=none }::rest) a w :=
  Yl rfl hrun (k _ (h.put v hd))
theorem Qa {x:Operand} {v:Value} (h:St K Ob w0 w a n L Fs Bs) (hx:ev L x=some v) (hd:Nat.blt d n=true)
    (k:∀ a',St K Ob w0 w a' n ((d,v)::L) Fs Bs→wpList P ops Q rest a' w) :
    wpList P ops Q ({ dst:=some d,op:=.move x,type:=ty,pos:=pos,after:=after,guard:=none }::rest) a w :=
  Je h hd (by simp only [execOp,h.ev hx]; rfl) k
theorem Qd {x:Operand} {v:Value} (h:St K Ob w0 w a n L Fs Bs) (hx:ev L x=some v) (hd:Nat.blt d n=true)
    (k:∀ a',St K Ob w0 w a' n ((d,v)::L) Fs Bs→wpList P ops Q rest a' w) :
    wpList P ops Q ({ dst:=some d,op:=.assign x,type:=ty,pos:=pos,after:=after,guard:=none }::rest) a w :=
  Je h hd (by simp only [execOp,h.ev hx]; rfl) k
theorem Qi5 {x:Operand} {b:Bool} {t:TypeId} (h:St K Ob w0 w a n L Fs Bs) (hx:ev L x=some (.bool b)) (hd:Nat.blt d n=true)
    (k:∀ a',St K Ob w0 w a' n ((d,.bool (!b))::L) Fs Bs→wpList P ops Q rest a' w) :
    wpList P ops Q ({ dst:=some d,op:=.unOp .not t x,type:=ty,pos:=pos,after:=after,guard:=none }::rest) a w :=
  Je h hd (by simp only [execOp,h.ev hx,Op.unary,Sem.run_bind,Sem.run_pure,Result.andThen_ok]) k
theorem Qpz {x:Operand} {kd:IntKind} {m:Int} {t:TypeId} (h:St K Ob w0 w a n L Fs Bs) (hx:ev L x=some (.int kd m)) (hd:Nat.blt d n=true)
    (k:∀ a',St K Ob w0 w a' n ((d,.int kd (kd.wrap (-m)))::L) Fs Bs→wpList P ops Q rest a' w) :
    wpList P ops Q ({ dst:=some d,op:=.unOp .neg t x,type:=ty,pos:=pos,after:=after,guard:=none }::rest) a w :=
  Je h hd (by simp [execOp,h.ev hx,Op.unary,Op.intArith]) k
theorem Qgm {x:Operand} {p:Addr} (h:St K Ob w0 w a n L Fs Bs) (hx:ev L x=some (.pointer (some p))) (hd:Nat.blt d n=true)
    (k:∀ a',St K Ob w0 w a' n ((d,.pointer (some p))::L) Fs Bs→wpList P ops Q rest a' w) :
    wpList P ops Q ({ dst:=some d,op:=.nilCheck x,type:=ty,pos:=pos,after:=after,guard:=none }::rest) a w :=
  Je h hd (by simp only [execOp,h.ev hx,Sem.run_bind,Sem.run_pure,Result.andThen_ok]) k
theorem Z5 {x:Operand} {vs:List Value} {i:Nat} {v:Value} (h:St K Ob w0 w a n L Fs Bs) (hx:ev L x=some (.tuple vs.toArray)) (hi:vs[i]? = some v) (hd:Nat.blt d n=true)
    (k:∀ a',St K Ob w0 w a' n ((d,v)::L) Fs Bs→wpList P ops Q rest a' w) :
    wpList P ops Q ({ dst:=some d,op:=.extract x i,type:=ty,pos:=pos,after:=after,guard:=none }::rest) a w :=
  Je h hd (by simp [execOp,h.ev hx,Instr.extract,hi]) k
def Qjq:BinOp→Int→Int→Option Bool
  | .lss,x,y=>some (decide (x<y))
  | .leq,x,y=>some (decide (x≤y))
  | .gtr,x,y=>some (decide (y<x))
  | .geq,x,y=>some (decide (y≤x))
  | .eql,x,y=>some (decide (x=y))
  | .neq,x,y=>some (decide (x≠y))
  | _,_,_=>none
theorem Zk {op:BinOp} {x y:Operand} {kd:IntKind} {p q:Int} {b:Bool} {t t':TypeId} (h:St K Ob w0 w a n L Fs Bs) (hx:ev L x=some (.int kd p)) (hy:ev L y=some (.int kd q))
    (hb:Qjq op p q=some b) (hd:Nat.blt d n=true)
    (k:∀ a',St K Ob w0 w a' n ((d,.bool b)::L) Fs Bs→wpList P ops Q rest a' w) :
    wpList P ops Q ({ dst:=some d,op:=.binOp op t x y t',type:=ty,pos:=pos,after:=after,guard:=none }::rest) a w :=
  Je h hd (by
    cases op <;> simp only [Qjq,Option.some.injEq,reduceCtorEq] at hb <;> subst hb <;>
      simp [execOp,h.ev hx,h.ev hy,eqGuard,Go.binOp,Op.intCmp] <;> first | rfl | (rw [Bool.eq_iff_iff]; simp)) k
theorem Qdu {x y:Operand} {kd:IntKind} {p q:Int} {t t':TypeId} (h:St K Ob w0 w a n L Fs Bs) (hx:ev L x=some (.int kd p)) (hy:ev L y=some (.int kd q)) (hd:Nat.blt d n=true)
    (k:∀ a',St K Ob w0 w a' n ((d,.int kd (kd.wrap (p+q)))::L) Fs Bs→wpList P ops Q rest a' w) :
    wpList P ops Q ({ dst:=some d,op:=.binOp .add t x y t',type:=ty,pos:=pos,after:=after,guard:=none }::rest) a w :=
  Je h hd (by simp [execOp,h.ev hx,h.ev hy,eqGuard,Go.binOp,Op.intArith]) k
theorem Qdz {x y:Operand} {kd:IntKind} {p q:Int} {t t':TypeId} (h:St K Ob w0 w a n L Fs Bs) (hx:ev L x=some (.int kd p)) (hy:ev L y=some (.int kd q)) (hd:Nat.blt d n=true)
    (k:∀ a',St K Ob w0 w a' n ((d,.int kd (kd.wrap (p-q)))::L) Fs Bs→wpList P ops Q rest a' w) :
    wpList P ops Q ({ dst:=some d,op:=.binOp .sub t x y t',type:=ty,pos:=pos,after:=after,guard:=none }::rest) a w :=
  Je h hd (by simp [execOp,h.ev hx,h.ev hy,eqGuard,Go.binOp,Op.intArith]) k
theorem Qi4 {x y:Operand} {kd:IntKind} {p q:Int} {t t':TypeId} (h:St K Ob w0 w a n L Fs Bs) (hx:ev L x=some (.int kd p)) (hy:ev L y=some (.int kd q)) (hd:Nat.blt d n=true)
    (k:∀ a',St K Ob w0 w a' n ((d,.int kd (kd.wrap (p*q)))::L) Fs Bs→wpList P ops Q rest a' w) :
    wpList P ops Q ({ dst:=some d,op:=.binOp .mul t x y t',type:=ty,pos:=pos,after:=after,guard:=none }::rest) a w :=
  Je h hd (by simp [execOp,h.ev hx,h.ev hy,eqGuard,Go.binOp,Op.intArith]) k
theorem Qdw {x y:Operand} {kd:IntKind} {p q:Int} {t t':TypeId} (h:St K Ob w0 w a n L Fs Bs) (hx:ev L x=some (.int kd p)) (hy:ev L y=some (.int kd q)) (hq:q≠0) (hd:Nat.blt d n=true)
    (k:∀ a',St K Ob w0 w a' n ((d,.int kd (kd.wrap (p.tdiv q)))::L) Fs Bs→wpList P ops Q rest a' w) :
    wpList P ops Q ({ dst:=some d,op:=.binOp .quo t x y t',type:=ty,pos:=pos,after:=after,guard:=none }::rest) a w :=
  Je h hd (by simp [execOp,h.ev hx,h.ev hy,eqGuard,Go.binOp,Op.intDiv,hq]) k
theorem Qdx {x y:Operand} {kd:IntKind} {p q:Int} {t t':TypeId} (h:St K Ob w0 w a n L Fs Bs) (hx:ev L x=some (.int kd p)) (hy:ev L y=some (.int kd q)) (hq:q≠0) (hd:Nat.blt d n=true)
    (k:∀ a',St K Ob w0 w a' n ((d,.int kd (p.tmod q))::L) Fs Bs→wpList P ops Q rest a' w) :
    wpList P ops Q ({ dst:=some d,op:=.binOp .rem t x y t',type:=ty,pos:=pos,after:=after,guard:=none }::rest) a w :=
  Je h hd (by simp [execOp,h.ev hx,h.ev hy,eqGuard,Go.binOp,Op.intDiv,hq]) k
theorem Qi1 {x y:Operand} {p q:Bool} {t t':TypeId} (h:St K Ob w0 w a n L Fs Bs) (hx:ev L x=some (.bool p)) (hy:ev L y=some (.bool q)) (hu:P.underlying t=some .bool) (hd:Nat.blt d n=true)
    (k:∀ a',St K Ob w0 w a' n ((d,.bool (p == q))::L) Fs Bs→wpList P ops Q rest a' w) :
    wpList P ops Q ({ dst:=some d,op:=.binOp .eql t x y t',type:=ty,pos:=pos,after:=after,guard:=none }::rest) a w :=
  Je h hd (by simp only [execOp,h.ev hx,h.ev hy]; simp [go_sem,run_eql_bool,hu]) k
theorem Dc {x y:Operand} {p q:Bool} {t t':TypeId} (h:St K Ob w0 w a n L Fs Bs) (hx:ev L x=some (.bool p)) (hy:ev L y=some (.bool q)) (hu:P.underlying t=some .bool) (hd:Nat.blt d n=true)
    (k:∀ a',St K Ob w0 w a' n ((d,.bool (!(p == q)))::L) Fs Bs→wpList P ops Q rest a' w) :
    wpList P ops Q ({ dst:=some d,op:=.binOp .neq t x y t',type:=ty,pos:=pos,after:=after,guard:=none }::rest) a w :=
  Je h hd (by simp only [execOp,h.ev hx,h.ev hy]; simp [go_sem,run_neq_bool,hu]) k
theorem F1 {x:Operand} {kd kd':IntKind} {p:Int} {s t:TypeId} (h:St K Ob w0 w a n L Fs Bs) (hx:ev L x=some (.int kd p))
    (hs:∀ w,(underlying s).run P w=.ok (.int kd) w) (ht:∀ w,(underlying t).run P w=.ok (.int kd') w) (hd:Nat.blt d n=true)
    (k:∀ a',St K Ob w0 w a' n ((d,.int kd' (kd'.wrap p))::L) Fs Bs→wpList P ops Q rest a' w) :
    wpList P ops Q ({ dst:=some d,op:=.convert s t x,type:=ty,pos:=pos,after:=after,guard:=none }::rest) a w :=
  Je h hd (by simp [execOp,h.ev hx,Go.convert,hs,ht,Conv.intToInt]) k
theorem Qvw {x y:Operand} {kd kd':IntKind} {p:Int} {m:Nat} {t t':TypeId} (h:St K Ob w0 w a n L Fs Bs) (hx:ev L x=some (.int kd p)) (hy:ev L y=some (.int kd' (m:Int))) (hm:m≤kd.bits) (hd:Nat.blt d n=true)
    (k:∀ a',St K Ob w0 w a' n ((d,.int kd (kd.wrap (p*2^m)))::L) Fs Bs→wpList P ops Q rest a' w) :
    wpList P ops Q ({ dst:=some d,op:=.binOp .shl t x y t',type:=ty,pos:=pos,after:=after,guard:=none }::rest) a w :=
  Je h hd (by
    have h0:¬((m:Int)<0):=by omega
    simp [execOp,h.ev hx,h.ev hy,eqGuard,Go.binOp,Op.shift,h0,Nb hm]) k
theorem Qp0 {x y:Operand} {kd kd':IntKind} {p:Int} {m:Nat} {t t':TypeId} (h:St K Ob w0 w a n L Fs Bs) (hx:ev L x=some (.int kd p)) (hy:ev L y=some (.int kd' (m:Int))) (hm:m≤kd.bits) (hd:Nat.blt d n=true)
    (k:∀ a',St K Ob w0 w a' n ((d,.int kd (p / 2^m))::L) Fs Bs→wpList P ops Q rest a' w) :
    wpList P ops Q ({ dst:=some d,op:=.binOp .shr t x y t',type:=ty,pos:=pos,after:=after,guard:=none }::rest) a w :=
  Je h hd (by
    have h0:¬((m:Int)<0):=by omega
    simp [execOp,h.ev hx,h.ev hy,eqGuard,Go.binOp,Op.shift,h0,Nb hm]
    exact Int.fdiv_eq_ediv_of_nonneg _ (by have:=qYf (2^m); simpa using this)) k
theorem Zz {x:Operand} {A:Option Addr} {m c:Nat} {E t:TypeId} (h:St K Ob w0 w a n L Fs Bs) (hx:ev L x=some (.slice A m c)) (hu:∀ w,(underlying t).run P w=.ok (.slice E) w) (hd:Nat.blt d n=true)
    (k:∀ a',St K Ob w0 w a' n ((d,.int .i64 (m:Int))::L) Fs Bs→wpList P ops Q rest a' w) :
    wpList P ops Q ({ dst:=some d,op:=.call { callee:=.builtin .len,args := #[x],argTypes := #[t] },type:=ty,pos:=pos,after:=after,guard:=none }::rest) a w :=
  Je h hd (by simp [execOp,resolve,invoke,h.ev hx,builtin,Builtin.len_,hu,goInt]) k
theorem Qpx {x y:Operand} {b o m c i sz:Nat} {E t:TypeId} {kd:IntKind} (h:St K Ob w0 w a n L Fs Bs) (hx:ev L x=some (.slice (some ⟨b,o,none⟩) m c)) (hy:ev L y=some (.int kd (i:Int)))
    (hu:∀ w,(underlying t).run P w=.ok (.slice E) w) (hs:∀ w,(Go.sizeOf E).run P w=.ok sz w) (hi:i<m) (hd:Nat.blt d n=true)
    (k:∀ a',St K Ob w0 w a' n ((d,.pointer (some ⟨b,o+i*sz,none⟩))::L) Fs Bs→wpList P ops Q rest a' w) :
    wpList P ops Q ({ dst:=some d,op:=.indexAddr t x y,type:=ty,pos:=pos,after:=after,guard:=none }::rest) a w :=
  Je h hd (by
    have:(⟨b,o,none⟩:Addr).add (i*sz)=⟨b,o+i*sz,none⟩:=by
      unfold Addr.add
      split
      · rename_i e; rw [e]; rfl
      · rfl
    simp [execOp,h.ev hx,h.ev hy,Instr.indexAt,asIntOf,hu,hs,hi,this]) k
end
end Orr

namespace Orr
open Go
variable {P:Program} {ops:Array Oper} {Q:Exit→Act→World→Prop}
variable {K Ob:Nat→Prop} {w0 w:World} {a:Act} {n:Nat} {L:List (Nat×Value)} {Fs:List Fact} {Bs:List Va} {rest:List Oper}
def upd:List Value→Nat→List Value→List Value
  | l,_,[]=>l
  | [],_,_::_=>[]
  | _::l,0,v::vs=>v::upd l 0 vs
  | u::l,i+1,vs=>u::upd l i vs
def sub (l:List Value) (off k:Nat):Option (List Value) :=
  if off+k≤l.length then some ((l.drop off).take k) else none
theorem K5 (w:World) (p:Addr) (v:Value) (b:Nat) (hb:b≠p.block):(w.setCell p v).heap[b]? = w.heap[b]? := by
  unfold World.setCell
  rw [Array.getElem?_modify]
  split
  · rename_i e; exact absurd e.symm hb
  · rfl
theorem Bj (w:World) (g off:Nat) (v:Value) (cs:List Value) (T:TypeId) (h:w.heap[g]? = some (.cells cs.toArray T (0,0))) :
    (w.setCell ⟨g,off,none⟩ v).heap[g]? = some (.cells (cs.set off v).toArray T (0,0)):=by
  unfold World.setCell
  rw [Array.getElem?_modify]
  simp [h]
theorem Tm (w:World) (p:Addr) (v:Value):(w.setCell p v).heap.size=w.heap.size:=by
  unfold World.setCell; simp
theorem St.setCell {g T:Nat} {cs:List Value} (h:St K Ob w0 w a n L Fs Bs) {i:Nat} (hi:Bs[i]? = some (g,Tag.ty T,cs)) (off:Nat) (v:Value) :
    St K Ob w0 (w.setCell ⟨g,off,none⟩ v) a n L Fs (Bs.set i (g,T,cs.set off v)):=by
  have hm:=Vo hi
  obtain ⟨hg1,hg2,hg3⟩:=h.own g T cs hm
  have hil:i<Bs.length:=(Uy.1 hi).1
  have hbi:Bs[i]=(g,Tag.ty T,cs):=(Uy.1 hi).2
  have hmap:(Bs.set i (g,T,cs.set off v)).map (·.1)=Bs.map (·.1):=by
    rw [List.map_set]
    apply qYb
    intro k
    rw [qVd]
    split
    · rename_i e; subst e
      split
      · rw [S1,hi]; rfl
      · rename_i hx; simp at hx; omega
    · rfl
  refine { h with wsize:=by rw [Tm]; exact h.wsize,grow:=?_,own:=?_,nodup:=by rw [hmap]; exact h.nodup,facts:=?_,ownO:=by rw [hmap]; exact h.ownO }
  · intro b hb
    rw [K5 _ _ _ _ (fun e=>by subst e; exact hg1 hb)]
    exact h.grow b hb
  · intro g' T' cs' hm'
    rw [Tm]
    obtain ⟨k,hk⟩:=qZr.1 hm'
    rw [qVd] at hk
    split at hk
    · injection hk with hk
      injection hk with e1 e2; injection e2 with e2 e3
      subst e1; subst e2; subst e3
      exact ⟨hg1,hg2,Bj w g off v cs T hg3⟩
    · rename_i hne
      have hkm:=Vo hk
      obtain ⟨h1,h2,h3⟩:=h.own g' T' cs' hkm
      refine ⟨h1,h2,?_⟩
      rw [K5 _ _ _ _ ?_]
      · exact h3
      · intro e
        have e:g'=g:=e
        subst e
        have hkl:k<Bs.length:=(Uy.1 hk).1
        have hbk:Bs[k]=(g',T',cs'):=(Uy.1 hk).2
        have:=(List.getElem_inj (xs:=Bs.map (·.1)) (i:=i) (j:=k) (h₀:=by simpa using hil) (h₁:=by simpa using hkl) h.nodup).1 (by simp [hbi,hbk])
        exact hne this
  · intro f hf
    have ho:Q3 Ob (Bs.set i (g,T,cs.set off v))=Q3 Ob Bs:=by funext b; simp only [Q3,hmap]
    rw [ho]
    refine f.keep ⟨by rw [Tm]; exact X2 _,fun b _ hno=>?_,fun b _ h=>h⟩ (h.facts f hf)
    exact K5 _ _ _ _ (fun e=>hno (by
      have e:b=g:=e
      subst e
      exact .inr (Ww.2 ⟨_,hm,rfl⟩)))
theorem St.own_cell {g T:Nat} {cs:List Value} (h:St K Ob w0 w a n L Fs Bs) {i:Nat} (hi:Bs[i]? = some (g,Tag.ty T,cs)) (off:Nat):w.cell? ⟨g,off,none⟩=cs[off]? := by
  obtain ⟨_,_,h3⟩:=h.own g T cs (Vo hi)
  simp [World.cell?,h3,D1]
theorem St.own_frozen {g T:Nat} {cs:List Value} (h:St K Ob w0 w a n L Fs Bs) {i:Nat} (hi:Bs[i]? = some (g,Tag.ty T,cs)) (off:Nat):w.frozen? ⟨g,off,none⟩=false:=by
  obtain ⟨_,_,h3⟩:=h.own g T cs (Vo hi)
  simp [World.frozen?,h3,D1]
def one:Value→Bool
  | .agg _=>false
  | .tuple _=>false
  | _=>true
theorem H8 {α:Type} (m:Mode) (p:Addr) (v:Value) (k:Value→Sem α) (w:World) (h:w.cell? p=some v):(Sem.load m p k).run P w=(k v).run P w:=by
  simp [Sem.run,h]
theorem U4 (b o i:Nat):(⟨b,o,none⟩:Addr).add i=⟨b,o+i,none⟩:=by
  unfold Addr.add
  split
  · rename_i e; subst e; rfl
  · rfl
theorem Hu (b o:Nat) (w:World):∀ (k i:Nat) (vs:List Value) (acc:Array Value),vs.length=k→(∀ j v,vs[j]? = some v→w.cell? ⟨b,o+(i+j),none⟩=some v) →
    (loadCellsFrom ⟨b,o,none⟩ i k acc).run P w=.ok (acc++vs.toArray) w
  |
   0,i,vs,acc,hl,_=>by
   have:vs=[]:=P5 hl
   subst this
   simp [loadCellsFrom]
  |
   k+1,i,v::vs,acc,hl,hc=>by
   have h0:=hc 0 v rfl
   simp only [loadCellsFrom]
   rw [Sem.run_bind]
   have e:(load ((⟨b,o,none⟩:Addr).add i)).run P w=.ok v w:=by
     rw [U4]
     unfold load
     rw [H8 _ _ v _ _ (by simpa using h0)]
     rfl
   rw [e]
   simp only [Result.andThen_ok]
   rw [Hu b o w k (i+1) vs (acc.push v) (by simpa using hl) (fun j u hj=>by
     have:=hc (j+1) u (by simpa using hj)
     rw [show i+1+j=i+(j+1) from by omega]; exact this)]
   simp
theorem F7 (b o:Nat) (w:World) (vs:List Value) (hc:∀ j v,vs[j]? = some v→w.cell? ⟨b,o+j,none⟩=some v) :
    (loadCells ⟨b,o,none⟩ vs.length).run P w=.ok vs.toArray w:=by
  unfold loadCells
  rw [Hu b o w vs.length 0 vs #[] rfl (fun j v hj=>by simpa using hc j v hj)]
  simp
section
variable {d:Nat} {ty:TypeId} {pos:String} {after:Array Edge}
theorem V1 (o:Obj) (w:World):(newObj o).run P w=.ok w.heap.size (w.alloc o):=rfl
theorem Jl {T:TypeId} {z:Value} (h:St K Ob w0 w a n L Fs Bs) (hz:∀ w,(zeroValue T).run P w=.ok z w) (hd:Nat.blt d n=true)
    (k:∀ g w' a',St K Ob w0 w' a' n ((d,.pointer (some ⟨g,0,none⟩))::L) Fs ((g,T,z.cells.toList)::Bs)→wpList P ops Q rest a' w') :
    wpList P ops Q ({ dst:=some d,op:=.alloc T,type:=ty,pos:=pos,after:=after,guard:=none }::rest) a w :=
  Yl (w':=w.alloc (.cells z.cells T)) (v:=.pointer (some ⟨w.heap.size,0,none⟩)) rfl
    (by simp [execOp,Instr.alloc,hz,newVar,newRow,V1])
    (k _ _ _ ((by simpa using h.alloc T z.cells.toList:St K Ob w0 (w.alloc (.cells z.cells T)) a n L Fs ((w.heap.size,T,z.cells.toList)::Bs)).put _ hd))
theorem V2 {T:TypeId} {x:Operand} {v:Value} (h:St K Ob w0 w a n L Fs Bs) (hx:ev L x=some v) (hd:Nat.blt d n=true)
    (k:∀ g w' a',St K Ob w0 w' a' n ((d,.pointer (some ⟨g,0,none⟩))::L) Fs ((g,T,v.cells.toList)::Bs)→wpList P ops Q rest a' w') :
    wpList P ops Q ({ dst:=some d,op:=.box T x,type:=ty,pos:=pos,after:=after,guard:=none }::rest) a w :=
  Yl (w':=w.alloc (.cells v.cells T)) (v:=.pointer (some ⟨w.heap.size,0,none⟩)) rfl
    (by simp [execOp,Instr.box,h.ev hx,newVar,newRow,V1])
    (k _ _ _ ((by simpa using h.alloc T v.cells.toList:St K Ob w0 (w.alloc (.cells v.cells T)) a n L Fs ((w.heap.size,T,v.cells.toList)::Bs)).put _ hd))
theorem Od {T:TypeId} {ps:List (Nat×Operand)} {vs:List (Nat×Value)} {v:Value} (h:St K Ob w0 w a n L Fs Bs) (hx:evp L ps=some vs)
    (hrun:∀ w,(Instr.build T vs.toArray).run P w=.ok v w) (hd:Nat.blt d n=true)
    (k:∀ a',St K Ob w0 w a' n ((d,v)::L) Fs Bs→wpList P ops Q rest a' w) :
    wpList P ops Q ({ dst:=some d,op:=.build T ps.toArray,type:=ty,pos:=pos,after:=after,guard:=none }::rest) a w :=
  Je h hd (by
    have:=h.evp hx
    simp only [execOp]
    rw [show (Array.map (fun x=>match x with | (i,x)=>(i,a.eval x)) ps.toArray)=vs.toArray from this,Sem.run_bind,hrun]
    rfl) k
theorem V3 {T E:TypeId} {m:Nat} {ps:List (Nat×Operand)} {vs:List (Nat×Value)} {cs:List Value} (h:St K Ob w0 w a n L Fs Bs) (hx:evp L ps=some vs)
    (hrun:∀ w,(Instr.buildSlice T m vs.toArray).run P w=.ok (.slice (some ⟨w.heap.size,0,none⟩) m m) (w.alloc (.cells cs.toArray E))) (hd:Nat.blt d n=true)
    (k:∀ g w' a',St K Ob w0 w' a' n ((d,.slice (some ⟨g,0,none⟩) m m)::L) Fs ((g,E,cs)::Bs)→wpList P ops Q rest a' w') :
    wpList P ops Q ({ dst:=some d,op:=.buildSlice T m ps.toArray,type:=ty,pos:=pos,after:=after,guard:=none }::rest) a w :=
  Yl (w':=w.alloc (.cells cs.toArray E)) (v:=.slice (some ⟨w.heap.size,0,none⟩) m m) rfl
    (by
      have:=h.evp hx
      simp only [execOp]
      rw [show (Array.map (fun x=>match x with | (i,x)=>(i,a.eval x)) ps.toArray)=vs.toArray from this,Sem.run_bind,hrun]
      rfl)
    (k _ _ _ ((h.alloc E cs).put _ hd))
theorem Qu {S:TypeId} {x:Operand} {f b o off:Nat} (h:St K Ob w0 w a n L Fs Bs) (hx:ev L x=some (.pointer (some ⟨b,o,none⟩)))
    (hrun:∀ b o w,(Instr.fieldAt S (.pointer (some ⟨b,o,none⟩)) f).run P w=.ok (.pointer (some ⟨b,o+off,none⟩)) w) (hd:Nat.blt d n=true)
    (k:∀ a',St K Ob w0 w a' n ((d,.pointer (some ⟨b,o+off,none⟩))::L) Fs Bs→wpList P ops Q rest a' w) :
    wpList P ops Q ({ dst:=some d,op:=.fieldAddr S x f,type:=ty,pos:=pos,after:=after,guard:=none }::rest) a w :=
  Je h hd (by simp only [execOp,h.ev hx]; rw [Sem.run_bind,hrun]; rfl) k
theorem Qgl {S:TypeId} {x:Operand} {f:Nat} {v u:Value} (h:St K Ob w0 w a n L Fs Bs) (hx:ev L x=some v)
    (hrun:∀ w,(Instr.field S v f).run P w=.ok u w) (hd:Nat.blt d n=true)
    (k:∀ a',St K Ob w0 w a' n ((d,u)::L) Fs Bs→wpList P ops Q rest a' w) :
    wpList P ops Q ({ dst:=some d,op:=.field S x f,type:=ty,pos:=pos,after:=after,guard:=none }::rest) a w :=
  Je h hd (by simp only [execOp,h.ev hx]; rw [Sem.run_bind,hrun]; rfl) k
theorem Xc {T:TypeId} {x:Operand} {p:Addr} {v:Value} (h:St K Ob w0 w a n L Fs Bs) (hx:ev L x=some (.pointer (some p)))
    (ht:∀ w,(isAgg T).run P w=.ok false w) (hc:w.cell? p=some v) (hd:Nat.blt d n=true)
    (k:∀ a',St K Ob w0 w a' n ((d,v)::L) Fs Bs→wpList P ops Q rest a' w) :
    wpList P ops Q ({ dst:=some d,op:=.load T x,type:=ty,pos:=pos,after:=after,guard:=none }::rest) a w :=
  Je h hd (by
    simp only [execOp,h.ev hx,Instr.loadAt,Instr.sureAddr,loadVar,Sem.run_bind,Sem.run_pure,Result.andThen_ok,ht,qXd,if_false]
    unfold load
    rw [H8 _ _ v _ _ hc]
    rfl) k
theorem S8 {T:TypeId} {x:Operand} {b o m:Nat} {vs:List Value} (h:St K Ob w0 w a n L Fs Bs) (hx:ev L x=some (.pointer (some ⟨b,o,none⟩)))
    (ht:∀ w,(isAgg T).run P w=.ok true w) (hs:∀ w,(Go.sizeOf T).run P w=.ok m w) (hl:vs.length=m) (hc:∀ j v,vs[j]? = some v→w.cell? ⟨b,o+j,none⟩=some v) (hd:Nat.blt d n=true)
    (k:∀ a',St K Ob w0 w a' n ((d,.agg vs.toArray)::L) Fs Bs→wpList P ops Q rest a' w) :
    wpList P ops Q ({ dst:=some d,op:=.load T x,type:=ty,pos:=pos,after:=after,guard:=none }::rest) a w :=
  Je h hd (by
    subst hl
    simp only [execOp,h.ev hx,Instr.loadAt,Instr.sureAddr,loadVar,Sem.run_bind,Sem.run_pure,Result.andThen_ok,ht,hs,if_true]
    rw [F7 b o w vs hc]
    rfl) k
theorem Zh {T:TypeId} {x:Operand} {g o T':Nat} {cs:List Value} {v:Value} (h:St K Ob w0 w a n L Fs Bs) (i:Nat) (hi:Bs[i]? = some (g,Tag.ty T',cs)) (hx:ev L x=some (.pointer (some ⟨g,o,none⟩)))
    (ht:∀ w,(isAgg T).run P w=.ok false w) (hc:cs[o]? = some v) (hd:Nat.blt d n=true)
    (k:∀ a',St K Ob w0 w a' n ((d,v)::L) Fs Bs→wpList P ops Q rest a' w) :
    wpList P ops Q ({ dst:=some d,op:=.load T x,type:=ty,pos:=pos,after:=after,guard:=none }::rest) a w :=
  Xc h hx ht ((h.own_cell hi o).trans hc) hd k
theorem Y9 {T:TypeId} {x:Operand} {g o m T':Nat} {cs vs:List Value} (h:St K Ob w0 w a n L Fs Bs) (i:Nat) (hi:Bs[i]? = some (g,Tag.ty T',cs)) (hx:ev L x=some (.pointer (some ⟨g,o,none⟩)))
    (ht:∀ w,(isAgg T).run P w=.ok true w) (hs:∀ w,(Go.sizeOf T).run P w=.ok m w) (hc:sub cs o m=some vs) (hd:Nat.blt d n=true)
    (k:∀ a',St K Ob w0 w a' n ((d,.agg vs.toArray)::L) Fs Bs→wpList P ops Q rest a' w) :
    wpList P ops Q ({ dst:=some d,op:=.load T x,type:=ty,pos:=pos,after:=after,guard:=none }::rest) a w:=by
  have hsub:o+m≤cs.length∧vs=(cs.drop o).take m:=by
    unfold sub at hc
    split at hc
    · injection hc with hc; exact ⟨by assumption,hc.symm⟩
    · cases hc
  refine S8 h hx ht hs (by rw [hsub.2]; simp; omega) (fun j v hj=>?_) hd k
  rw [h.own_cell hi]
  rw [hsub.2,Ei] at hj
  split at hj
  · rwa [qXj] at hj
  · cases hj
end
end Orr

namespace Orr
open Go
variable {P:Program} {ops:Array Oper} {Q:Exit→Act→World→Prop}
variable {K Ob:Nat→Prop} {w0 w:World} {a:Act} {n:Nat} {L:List (Nat×Value)} {Fs:List Fact} {Bs:List Va} {rest:List Oper}
variable {d:Nat} {ty:TypeId} {pos:String} {after:Array Edge}
theorem Qaa {α:Type} (m:Mode) (p:Addr) (v u:Value) (k:Sem α) (w:World) (hv:one v=true) (h:w.cell? p=some u) (hf:w.frozen? p=false) :
    (Sem.store m p v k).run P w=k.run P (w.setCell p v):=by
  cases v <;> simp [one] at hv <;> simp [Sem.run,h,hf]
theorem Qgw (cs:List Value) (off:Nat) (v:Value) (vs:List Value) (hl:off+(vs.length+1)≤cs.length):upd cs off (v::vs)=upd (cs.set off v) (off+1) vs:=by
  induction cs generalizing off v vs with
  | nil=>simp at hl
  |
   cons c cs ih =>
   cases off with
   | zero =>
    simp [upd]
    cases vs <;> simp [upd]
   |
    succ off =>
    simp only [upd,List.set_cons_succ]
    cases vs with
    |
     nil =>
     have:=ih off v [] (by simp at hl ⊢; omega)
     simp only [upd] at this ⊢
     rw [this]
    |
     cons u us =>
     simp only [upd]
     rw [ih off v (u::us) (by simp at hl ⊢; omega)]
theorem If (cs:List Value) (off:Nat) (vs:List Value):(upd cs off vs).length=cs.length:=by
  induction cs generalizing off vs with
  | nil=>cases vs <;> simp [upd]
  |
   cons c cs ih =>
   cases vs with
   | nil=>simp [upd]
   | cons v vs=>cases off <;> simp [upd,ih]
theorem St.storeCells {g T:Nat}:∀ (vs:List Value) (cs:List Value) (off j:Nat) (w:World) (Bs:List Va) (i:Nat),St K Ob w0 w a n L Fs Bs→Bs[i]? = some (g,Tag.ty T,cs)→off+j+vs.length≤cs.length→(∀ v∈vs,one v=true) →
    ∃ w',(storeCells ⟨g,off,none⟩ vs j).run P w=.ok () w'∧St K Ob w0 w' a n L Fs (Bs.set i (g,T,upd cs (off+j) vs))
  |
   [],cs,off,j,w,Bs,i,h,hi,_,_=>by
   refine ⟨w,by simp [Go.storeCells],?_⟩
   have:upd cs (off+j) []=cs:=by cases cs <;> simp [upd]
   rw [this]
   have hset:Bs.set i (g,T,cs)=Bs:=by
     obtain ⟨hl,hb⟩:=Uy.1 hi
     rw [←hb]; exact List.set_getElem_self hl
   rw [hset]; exact h
  |
   v::vs,cs,off,j,w,Bs,i,h,hi,hl,h1=>by
   have hil:=(Uy.1 hi).1
   have hjl:off+j<cs.length:=by simp at hl; omega
   have hc:w.cell? ⟨g,off+j,none⟩=some (cs[off+j]):=(h.own_cell hi _).trans (Xx hjl)
   have hst:(store ((⟨g,off,none⟩:Addr).add j) v).run P w=.ok () (w.setCell ⟨g,off+j,none⟩ v):=by
     rw [U4]
     unfold store
     rw [Qaa _ _ v _ _ _ (h1 v (Fm ..)) hc (h.own_frozen hi _)]
     rfl
   have h':=h.setCell hi (off+j) v
   obtain ⟨w',hr,hw⟩:=St.storeCells vs (cs.set (off+j) v) off (j+1) _ _ i h' (qXr hil) (by simp at hl ⊢; omega) (fun u hu=>h1 u (Ge _ hu))
   refine ⟨w',?_,?_⟩
   · simp only [Go.storeCells]
     rw [Sem.run_bind,hst]
     exact hr
   · rw [Qgw _ _ _ _ (by simp at hl; omega)]
     rw [List.set_set] at hw
     exact hw
theorem Z3 {T:TypeId} {x y:Operand} {g o m T':Nat} {cs vs:List Value} {v:Value} (h:St K Ob w0 w a n L Fs Bs) (i:Nat) (hi:Bs[i]? = some (g,Tag.ty T',cs)) (hx:ev L x=some (.pointer (some ⟨g,o,none⟩)))
    (hy:ev L y=some v) (hs:∀ w,(Go.sizeOf T).run P w=.ok m w) (hv:v.cells.toList=vs) (hm:vs.length=m) (hl:Nat.ble (o+m) cs.length=true) (h1:vs.all one=true)
    (k:∀ w',St K Ob w0 w' a n L Fs (Bs.set i (g,T',upd cs o vs))→wpList P ops Q rest a w') :
    wpList P ops Q ({ dst:=none,op:=.store T x y,type:=ty,pos:=pos,after:=after,guard:=none }::rest) a w:=by
  obtain ⟨w',hr,hw⟩:=St.storeCells (P:=P) vs cs o 0 w Bs i h hi (by have:=qXk hl; omega) (fun u hu=>C4.1 h1 u hu)
  refine Qmu (w':=w') rfl rfl ?_ (k w' hw)
  have hsz:v.cells.size=m:=by rw [←hm,←hv]; simp
  simp only [execOp,h.ev hx,h.ev hy,Instr.storeAt,Instr.sureAddr,storeVar,Sem.run_bind,Sem.run_pure,Result.andThen_ok,hs,hsz,ne_eq,not_true_eq_false,if_false,hv,hr]
def Up:Nat→List Value→List Value
  | 0,_=>[]
  | m+1,zs=>zs++Up m zs
theorem Sq (m:Nat) (zs:List Value):(Up m zs).length=m*zs.length:=by
  induction m with
  | zero=>simp [Up]
  | succ m ih=>simp [Up,ih,qJl,qVj]
theorem O6 (m:Nat) (zs:List Value) (i:Nat) (hi:i<m*zs.length):(Up m zs)[i]? = zs[i % zs.length]? := by
  induction m generalizing i with
  | zero=>simp at hi
  |
   succ m ih =>
   simp only [Up]
   by_cases h:i<zs.length
   · rw [qZy h,qJg h]
   · have e:i % zs.length=(i-zs.length) % zs.length:=Nat.mod_eq_sub_mod (by omega)
     have h2:(m+1)*zs.length=m*zs.length+zs.length:=qJl _ _
     rw [qXh (by omega),ih (i-zs.length) (by omega),e]
theorem Tg (m:Nat) (zs:List Value) (hz:0<zs.length) :
    ((Array.range (m*zs.length)).map fun i=>(zs.toArray)[i % zs.length]!)=(Up m zs).toArray:=by
  apply Array.ext
  · simp [Sq]
  · intro i h1 h2
    have hi:i<m*zs.length:=by simpa using h1
    have hm:i % zs.length<zs.length:=Tv _ hz
    have h3:=O6 m zs i hi
    simp at h2 ⊢
    rw [Xx h2,Xx hm] at h3
    injection h3 with h3
    rw [h3,Xx hm]
    rfl
theorem Ol (m:Nat) (hm:m<2^40):IntKind.i64.wrap (m:Int)=(m:Int):=by
  have:(2:Nat)^40=1099511627776:=by decide
  simp [IntKind.wrap,IntKind.bits,IntKind.signed]; omega
theorem O9 {T E:TypeId} {m:Nat} {zs:List Value} {z:Value} {info:TypeInfo} (w:World)
    (hu:∀ w,(underlying T).run P w=.ok (.slice E) w) (hi:∀ w,(typeInfo E).run P w=.ok info w) (hb:Nat.ble info.bytes 256=true) (hs:∀ w,(Go.sizeOf E).run P w=.ok zs.length w)
    (hz:∀ w,(zeroValue E).run P w=.ok z w) (hz1:z.cells=zs.toArray) (hz0:0<zs.length) (hm:m<2^38) :
    (Instr.makeSlice T (.int .i64 (m:Int)) (.int .i64 (m:Int))).run P w=.ok (.slice (some ⟨w.heap.size,0,none⟩) m m) (w.alloc (.cells (Up m zs).toArray E)):=by
  have h38:(2:Nat)^38=274877906944:=by decide
  have hw:=Ol m (by
   have:(2:Nat)^40=1099511627776:=by decide
   omega)
  have hb':info.bytes≤256:=qXk hb
  have hle:m*info.bytes≤274877906944*256:=qJd (by omega) hb'
  have e1:¬((m:Int)<0):=by omega
  have e:(info.bytes:Int)*(m:Int)=((m*info.bytes:Nat):Int):=by push_cast; exact Int.mul_comm _ _
  have e2:¬((info.bytes:Int)*(m:Int)>2^48):=by
    rw [e]
    have:(2:Int)^48=281474976710656:=by decide
    omega
  have e3:¬(m*info.bytes>roomBytes):=by
    unfold roomBytes
    have:(2:Nat)^47=140737488355328:=by decide
    omega
  unfold Instr.makeSlice
  simp only [hu,hi,hs,asInt,asIntOf,Sem.run_bind,Sem.run_pure,Result.andThen_ok,hw,Int.toNat_natCast,e1,e2,decide_false,Bool.or_false,Int.lt_irrefl,gt_iff_lt,qXd,if_false,askRoom,e3]
  rcases Hl m with h0 | h0
  · subst h0
    simp only [qYr,if_true,Sem.run_pure,Result.andThen_ok,newRow,Sem.run_bind,V1,Up]
    have h0:∀ f:Nat→Value,Array.map f (Array.range 0) = #[]:=fun f=>by apply Array.ext <;> simp
    rw [h0]
  · have hne:¬(m*zs.length=0):=by
      have:=qVr h0 hz0; omega
    simp only [hne,if_false,Sem.run_bind,Sem.run_pure,Result.andThen_ok,hz,newRow,V1,hz1]
    have:=Tg m zs hz0
    simp only [List.size_toArray]
    rw [this]
theorem F8 {T E:TypeId} {x y:Operand} {m:Nat} {zs:List Value} {z:Value} {info:TypeInfo} (h:St K Ob w0 w a n L Fs Bs) (hx:ev L x=some (.int .i64 (m:Int))) (hy:ev L y=some (.int .i64 (m:Int)))
    (hu:∀ w,(underlying T).run P w=.ok (.slice E) w) (hi:∀ w,(typeInfo E).run P w=.ok info w) (hb:Nat.ble info.bytes 256=true) (hs:∀ w,(Go.sizeOf E).run P w=.ok zs.length w)
    (hz:∀ w,(zeroValue E).run P w=.ok z w) (hz1:z.cells=zs.toArray) (hz0:Nat.blt 0 zs.length=true) (hm:m<2^38) (hd:Nat.blt d n=true)
    (k:∀ g w' a',St K Ob w0 w' a' n ((d,.slice (some ⟨g,0,none⟩) m m)::L) Fs ((g,E,Up m zs)::Bs)→wpList P ops Q rest a' w') :
    wpList P ops Q ({ dst:=some d,op:=.makeSlice T x y,type:=ty,pos:=pos,after:=after,guard:=none }::rest) a w :=
  Yl (w':=w.alloc (.cells (Up m zs).toArray E)) (v:=.slice (some ⟨w.heap.size,0,none⟩) m m) rfl
    (by
      simp only [execOp,h.ev hx,h.ev hy,Sem.run_bind]
      rw [O9 w hu hi hb hs hz hz1 (by rwa [Mo] at hz0) hm]
      rfl)
    (k _ _ _ ((h.alloc E (Up m zs)).put _ hd))
theorem Fg {f:FuncId} {fn:Func} {args:Array Value} (w:World) (hf:P.funcs[f]? = some fn) (hn:(fn.name == "runtime.NumGoroutine")=false) (hb:fn.body.isNone=false) :
    (callFunc f args).run P w=.ok (.enter f args) w:=by
  simp only [callFunc,Sem.run_bind,run_program,Result.andThen_ok,hf,hn,hb,qXd,if_false,Sem.run_pure]
theorem Q9 {f:FuncId} {fn:Func} {xs:List Operand} {vs:List Value} {ats:Array TypeId} {Φ:Value→World→Prop} (h:St K Ob w0 w a n L Fs Bs)
    (hf:P.funcs[f]? = some fn) (hn:(fn.name == "runtime.NumGoroutine")=false) (hb:fn.body.isNone=false) (hx:evl L xs=some vs)
    (hc:Calls P f vs.toArray w fun e w'=>∃ r,e=.returned r∧Grow w w'∧Φ r w') (hd:Nat.blt d n=true)
    (k:∀ r w' a',Grow w w'→Φ r w'→St K Ob w0 w' a' n ((d,r)::L) Fs Bs→wpList P ops Q rest a' w') :
    wpList P ops Q ({ dst:=some d,op:=.call { callee:=.value (.func f),args:=xs.toArray,argTypes:=ats },type:=ty,pos:=pos,after:=after,guard:=none }::rest) a w:=by
  refine wpList_plain rfl fun K' hK=>?_
  unfold Oper.wp
  have e:(execOp a.eval { dst:=some d,op:=.call { callee:=.value (.func f),args:=xs.toArray,argTypes:=ats },type:=ty,pos:=pos,after:=after,guard:=none }).run P w=.ok (.enter f vs.toArray) w:=by
    have hxs:=h.evl hx
    have he:a.eval (.func f)=.func (.func f) #[] #[]:=rfl
    simp only [execOp,resolve,he,Deferred.ofValue,hxs,Sem.run_bind,Sem.run_pure,Result.andThen_ok,invoke]
    rw [show (#[]:Array Value)++vs.toArray ++ #[]=vs.toArray from by simp]
    exact Fg w hf hn hb
  rw [e]
  simp only [Oper.upon]
  refine hc.mono fun e' w' hr=>?_
  obtain ⟨r,rfl,hg,hΦ⟩:=hr
  exact hK _ _ (k r w' _ hg hΦ ((h.grown hg).put r hd))
end Orr

namespace Orr
open Go
variable {P:Program} {ops:Array Oper} {Q:Exit→Act→World→Prop}
variable {K Ob:Nat→Prop} {w0 w:World} {a:Act} {n:Nat} {L:List (Nat×Value)} {Fs:List Fact} {Bs:List Va} {rest:List Oper}
def P9:Nat→List Value→List (Nat×Value)
  | _,[]=>[]
  | i,v::vs=>(i,v)::P9 (i+1) vs
theorem M8 (i:Nat) (vs:List Value) (t:Nat) (v:Value) (h:Z0 (P9 i vs) t=some v):i≤t∧vs[t-i]? = some v:=by
  induction vs generalizing i with
  | nil=>simp [P9,Z0] at h
  |
   cons u us ih =>
   simp only [P9,Z0] at h
   split at h
   · rename_i e
     have e:t=i:=Fj e
     subst e
     exact ⟨X2 _,by simpa using h⟩
   · rename_i e
     have e:t≠i:=qJi e
     obtain ⟨h1,h2⟩:=ih (i+1) h
     refine ⟨by omega,?_⟩
     rw [show t-i=(t-(i+1))+1 from by omega,qJe]
     exact h2
theorem enter {f:FuncId} {fn:Func} {c:Code} {vs:List Value} {R:Ending→World→Prop} (hf:P.funcs[f]? = some fn) (hb:fn.body=some c) (hn:fn.ntmps=n) (hl:Nat.ble vs.length n=true)
    (hK:∀ b,K b→b<w.heap.size) (hO:∀ b,Ob b→b<w.heap.size) (hfs:∀ f∈Fs,f.holds w Ob)
    (k:∀ a,St K Ob w w a n (P9 0 vs) Fs []→c.wp P (bodyPost P fn R) a w):Calls P f vs.toArray w R:=by
  have hl':=qXk hl
  refine calls_of_wp hf hb (k _ ?_)
  refine ⟨by simp [hn]; omega,rfl,fun t v hv=>?_,X2 _,fun _ _=>rfl,fun _ _ _ hm=>(by cases hm),qVh,fun f hf=>?_,hK,hO,fun b hb=>(by cases hb),rfl,rfl⟩
  · obtain ⟨_,h2⟩:=M8 0 vs t v hv
    have ht:t<vs.length:=by
      have:=(Uy.1 h2).1; simpa using this
    simp only [qYg] at h2
    rw [qVp (by simpa using ht)]
    simpa using h2
  · exact f.keep ⟨X2 _,fun _ _ _=>rfl,fun b _ ho=>ho.elim id (fun x=>by cases x)⟩ (hfs f hf)
theorem Ql {x y:Code} (h:x.wp P (Exit.then (y.wp P Q) Q) a w):(Code.seq x y).wp P Q a w:=wp_seq h
theorem Qt {id:Nat} {l:List Oper} (h:wpList P l.toArray Q l a w):(Code.region id l.toArray false).wp P Q a w:=wp_region_lit h
theorem Yo {c:Operand} {x y:Code} {b:Bool} (h:St K Ob w0 w a n L Fs Bs) (hc:ev L c=some (.bool b)) (ht:b=true→x.wp P Q a w) (hf:b=false→y.wp P Q a w):(Code.cond c x y).wp P Q a w :=
  wp_cond_split (h.ev hc) ht hf
theorem K3 {c:Operand} {x y:Code} {b:Bool} (h:St K Ob w0 w a n L Fs Bs) (hc:ev L c=some (.bool b)) (hb:b=true) (ht:x.wp P Q a w):(Code.cond c x y).wp P Q a w :=
  Yo h hc (fun _=>ht) (fun e=>by rw [hb] at e; cases e)
theorem Yp {c:Operand} {x y:Code} {b:Bool} (h:St K Ob w0 w a n L Fs Bs) (hc:ev L c=some (.bool b)) (hb:b=false) (hf:y.wp P Q a w):(Code.cond c x y).wp P Q a w :=
  Yo h hc (fun e=>by rw [hb] at e; cases e) (fun _=>hf)
theorem Gc {c:Code} (I:Nat→Act→World→Prop) {m:Nat} (h0:I m a w)
    (round:∀ m a w,I m a w→c.wp P (Exit.then (fun a' w'=>∃ m',m'<m∧I m' a' w') Q) a w):(Code.loop c).wp P Q a w:=by
  have key:∀ m a w,I m a w→∀ (b:Frame) (k:List Item) (cs:List Frame),
      ∃ e a' w',Q e a' w'∧Arrives P (lone (b.at a (.code c::.inLoop c::k)) cs w) b k cs e a' w':=by
    intro m
    induction m using Nat.strongRecOn with
    |
     _ m ih =>
     intro a w hI b k cs
     obtain ⟨e,a₁,w₁,hq,harr⟩:=round m a w hI b (.inLoop c::k) cs
     have past:∀ e':Exit,e'≠.normal→Q e' a₁ w₁→Arrives P (lone (b.at a (.code c::.inLoop c::k)) cs w) b (.inLoop c::k) cs e' a₁ w₁ →
         ∃ e a' w',Q e a' w'∧Arrives P (lone (b.at a (.code c::.inLoop c::k)) cs w) b k cs e a' w':=fun e' hne hq harr =>
       ⟨e',a₁,w₁,hq,.pass (x:=.inLoop c) rfl (fun _ _=>.inl hne) harr⟩
     cases e with
     |
      normal =>
      obtain ⟨m',hlt,hI'⟩:=hq
      obtain ⟨e₂,a₂,w₂,hq₂,harr₂⟩:=ih m' hlt a₁ w₁ hI' b k cs
      exact ⟨e₂,a₂,w₂,hq₂,.of_steps (Steps.trans harr (.one step_inLoop)) harr₂⟩
     | exit id=>exact past _ (by simp) hq harr
     | goto l=>exact past _ (by simp) hq harr
     | ret=>exact past _ (by simp) hq harr
     | panic ch=>exact past _ (by simp) hq harr
     | outgrown=>exact past _ (by simp) hq harr
  intro b k cs
  obtain ⟨e,a',w',hq,harr⟩:=key m a w h0 b k cs
  exact ⟨e,a',w',hq,.of_steps (.one step_loop) harr⟩
def B7 (P:Program) (w:World) (a:Act):ResultVar→Value→Prop
  | .tmp t,v=>a.eval (.tmp t)=v
  | .cell t T,v=>(do loadVar T (←asAddr (a.eval (.tmp t)))).run P w=.ok v w
theorem Zj {t:Nat} {v:Value} (h:St K Ob w0 w a n L Fs Bs) (hv:Z0 L t=some v):B7 P w a (.tmp t) v:=h.tmp hv
theorem Qmm {t T g T':Nat} {cs:List Value} {v:Value} (h:St K Ob w0 w a n L Fs Bs) (i:Nat) (hi:Bs[i]? = some (g,Tag.ty T',cs)) (hv:Z0 L t=some (.pointer (some ⟨g,0,none⟩)))
    (ht:∀ w,(isAgg T).run P w=.ok false w) (hc:cs[0]? = some v):B7 P w a (.cell t T) v:=by
  unfold B7
  simp only [h.tmp hv,asAddr,Sem.run_bind,Sem.run_pure,Result.andThen_ok,loadVar,ht,qXd,if_false]
  unfold load
  rw [H8 _ _ v _ _ ((h.own_cell hi 0).trans hc)]
  rfl
theorem Ju {t T g m T':Nat} {cs:List Value} (h:St K Ob w0 w a n L Fs Bs) (i:Nat) (hi:Bs[i]? = some (g,Tag.ty T',cs)) (hv:Z0 L t=some (.pointer (some ⟨g,0,none⟩)))
    (ht:∀ w,(isAgg T).run P w=.ok true w) (hs:∀ w,(Go.sizeOf T).run P w=.ok m w) (hm:cs.length=m):B7 P w a (.cell t T) (.agg cs.toArray):=by
  unfold B7
  subst hm
  simp only [h.tmp hv,asAddr,Sem.run_bind,Sem.run_pure,Result.andThen_ok,loadVar,ht,hs,if_true]
  rw [F7 g 0 w cs (fun j v hj=>by rw [h.own_cell hi]; simpa using hj)]
  rfl
def Qbo (tmps:Array Value):ResultVar→Sem Value
  | .tmp t=>pure (tmps.getD t undef)
  | .cell a t=>do loadVar t (←asAddr (tmps.getD a undef))
theorem Th (fn:Func) (tmps:Array Value):results fn tmps=(do
    let vs ←fn.results.mapM (Qbo tmps)
    pure (if h:vs.size=1 then vs[0] else .tuple vs)):=by
  unfold results
  congr 1
theorem F0 {r:ResultVar} {v:Value} (h:B7 P w a r v):(Qbo a.tmps r).run P w=.ok v w:=by
  cases r with
  |
   tmp t =>
   simp only [B7,Act.eval] at h
   simp only [Qbo,h,Sem.run_pure]
  | cell p t=>exact h
theorem Vp {fn:Func} {r:ResultVar} {v:Value} {R:Ending→World→Prop} (hr:fn.results = #[r]) (h:St K Ob w0 w a n L Fs Bs) (h1:B7 P w a r v) (hR:R (.returned v) w):bodyPost P fn R .ret a w:=by
  refine ⟨h.defers,v,?_,hR⟩
  have e1:=F0 h1
  simp [Th,hr,e1]
theorem Qsm {fn:Func} {r s:ResultVar} {v u:Value} {R:Ending→World→Prop} (hr:fn.results = #[r,s]) (h:St K Ob w0 w a n L Fs Bs) (h1:B7 P w a r v) (h2:B7 P w a s u) (hR:R (.returned (.tuple #[v,u])) w):bodyPost P fn R .ret a w:=by
  refine ⟨h.defers,_,?_,hR⟩
  have e1:=F0 h1
  have e2:=F0 h2
  simp [Th,hr,e1,e2]
theorem Qmn {fn:Func} {r s t:ResultVar} {v u x:Value} {R:Ending→World→Prop} (hr:fn.results = #[r,s,t]) (h:St K Ob w0 w a n L Fs Bs) (h1:B7 P w a r v) (h2:B7 P w a s u) (h3:B7 P w a t x) (hR:R (.returned (.tuple #[v,u,x])) w):bodyPost P fn R .ret a w:=by
  refine ⟨h.defers,_,?_,hR⟩
  have e1:=F0 h1
  have e2:=F0 h2
  have e3:=F0 h3
  simp [Th,hr,e1,e2,e3]
theorem Xt {id:Nat} {N:Act→World→Prop} (h:Q (.exit id) a w):Exit.then N Q (.exit id) a w:=h
theorem Z6 {id:Nat} (h:Q .normal a w):Exit.inBlock id Q (.exit id) a w:=by
  simp only [Exit.inBlock,if_true]; exact h
theorem H2 {id id':Nat} (hne:(id == id')=false) (h:Q (.exit id) a w):Exit.inBlock id' Q (.exit id) a w:=by
  have:id≠id':=by simpa using hne
  simp only [Exit.inBlock,this,if_false]; exact h
theorem Zx {d:Option Nat} {op:Op} {ty:TypeId} {pos:String} {after:Array Edge} {j t:Nat} {want b:Bool} (h:St K Ob w0 w a n L Fs Bs) (hj:(ops[j]?).bind (·.dst)=some t) (hv:Z0 L t=some (.bool b)) (hb:b=want)
    (k:wpList P ops Q ({ dst:=d,op:=op,type:=ty,pos:=pos,after:=after,guard:=none }::rest) a w) :
    wpList P ops Q ({ dst:=d,op:=op,type:=ty,pos:=pos,after:=after,guard:=some (j,want) }::rest) a w:=by
  have hs:=h.slots t _ hv
  have hw:Region.wanted { dst:=d,op:=op,type:=ty,pos:=pos,after:=after,guard:=some (j,want) } (yielded ops a.tmps)=true:=by
    simp [Region.wanted,yielded,hj,hs,hb]
  have hw':Region.wanted { dst:=d,op:=op,type:=ty,pos:=pos,after:=after,guard:=none } (yielded ops a.tmps)=true:=rfl
  unfold wpList at k ⊢
  rw [if_pos hw]
  rw [if_pos hw'] at k
  exact k
theorem Zv {d:Nat} {op:Op} {ty:TypeId} {pos:String} {after:Array Edge} {j t:Nat} {want b:Bool} (h:St K Ob w0 w a n L Fs Bs) (hj:(ops[j]?).bind (·.dst)=some t) (hv:Z0 L t=some (.bool b)) (hb:b = !want) (hd:Nat.blt d n=true)
    (k:∀ a',St K Ob w0 w a' n ((d,undef)::L) Fs Bs→wpList P ops Q rest a' w) :
    wpList P ops Q ({ dst:=some d,op:=op,type:=ty,pos:=pos,after:=after,guard:=some (j,want) }::rest) a w:=by
  have hs:=h.slots t _ hv
  have hw:Region.wanted { dst:=some d,op:=op,type:=ty,pos:=pos,after:=after,guard:=some (j,want) } (yielded ops a.tmps)=false:=by
    simp [Region.wanted,yielded,hj,hs,hb]
  unfold wpList
  rw [if_neg (by rw [hw]; simp)]
  exact k _ (h.put undef hd)
theorem Hg {d:Nat} {ty:TypeId} {pos:String} {after:Array Edge} {c x y:Operand} {b:Bool} {v:Value} (h:St K Ob w0 w a n L Fs Bs) (hc:ev L c=some (.bool b)) (hb:b=true) (hx:ev L x=some v) (hd:Nat.blt d n=true)
    (k:∀ a',St K Ob w0 w a' n ((d,v)::L) Fs Bs→wpList P ops Q rest a' w) :
    wpList P ops Q ({ dst:=some d,op:=.pick c x y,type:=ty,pos:=pos,after:=after,guard:=none }::rest) a w :=
  Je h hd (by simp only [execOp,h.ev hc,h.ev hx,hb,asBool,Sem.run_bind,Sem.run_pure,Result.andThen_ok,if_true]) k
theorem Rt {d:Nat} {ty:TypeId} {pos:String} {after:Array Edge} {c x y:Operand} {b:Bool} {v:Value} (h:St K Ob w0 w a n L Fs Bs) (hc:ev L c=some (.bool b)) (hb:b=false) (hx:ev L y=some v) (hd:Nat.blt d n=true)
    (k:∀ a',St K Ob w0 w a' n ((d,v)::L) Fs Bs→wpList P ops Q rest a' w) :
    wpList P ops Q ({ dst:=some d,op:=.pick c x y,type:=ty,pos:=pos,after:=after,guard:=none }::rest) a w :=
  Je h hd (by simp only [execOp,h.ev hc,h.ev hx,hb,asBool,Sem.run_bind,Sem.run_pure,Result.andThen_ok,qXd,if_false]) k
theorem Xq {x:Int} (h1:-9223372036854775808≤x) (h2:x≤9223372036854775807):IntKind.i64.wrap x=x:=by
  simp [IntKind.wrap,IntKind.bits,IntKind.signed]; omega
theorem Nm {x:Int} (h1:0≤x) (h2:x≤18446744073709551615):IntKind.u64.wrap x=x:=by
  simp [IntKind.wrap,IntKind.bits,IntKind.signed]; omega
theorem Nl {x:Int}:IntKind.u32.wrap x=x % 4294967296:=by
  simp [IntKind.wrap,IntKind.bits,IntKind.signed]
theorem Ur {x:Int}:IntKind.u64.wrap x=x % 18446744073709551616:=by
  simp [IntKind.wrap,IntKind.bits,IntKind.signed]
section
variable {d:Nat} {ty:TypeId} {pos:String} {after:Array Edge}
theorem St.respell {d:Nat} {v u:Value} (h:St K Ob w0 w a n ((d,v)::L) Fs Bs) (e:v=u):St K Ob w0 w a n ((d,u)::L) Fs Bs:=e ▸ h
theorem Z2 {x y:Operand} {p q:Int} {t t':TypeId} (h:St K Ob w0 w a n L Fs Bs) (hx:ev L x=some (.int .i64 p)) (hy:ev L y=some (.int .i64 q)) (h1:-9223372036854775808≤p+q∧p+q≤9223372036854775807) (hd:Nat.blt d n=true)
    (k:∀ a',St K Ob w0 w a' n ((d,.int .i64 (p+q))::L) Fs Bs→wpList P ops Q rest a' w) :
    wpList P ops Q ({ dst:=some d,op:=.binOp .add t x y t',type:=ty,pos:=pos,after:=after,guard:=none }::rest) a w :=
  Qdu h hx hy hd fun a' h'=>k a' (h'.respell (by rw [Xq h1.1 h1.2]))
theorem Vk {x y:Operand} {p q:Int} {t t':TypeId} (h:St K Ob w0 w a n L Fs Bs) (hx:ev L x=some (.int .i64 p)) (hy:ev L y=some (.int .i64 q)) (h1:-9223372036854775808≤p-q∧p-q≤9223372036854775807) (hd:Nat.blt d n=true)
    (k:∀ a',St K Ob w0 w a' n ((d,.int .i64 (p-q))::L) Fs Bs→wpList P ops Q rest a' w) :
    wpList P ops Q ({ dst:=some d,op:=.binOp .sub t x y t',type:=ty,pos:=pos,after:=after,guard:=none }::rest) a w :=
  Qdz h hx hy hd fun a' h'=>k a' (h'.respell (by rw [Xq h1.1 h1.2]))
theorem Qs5 {x y:Operand} {p q:Int} {t t':TypeId} (h:St K Ob w0 w a n L Fs Bs) (hx:ev L x=some (.int .i64 p)) (hy:ev L y=some (.int .i64 q)) (h1:-9223372036854775808≤p*q∧p*q≤9223372036854775807) (hd:Nat.blt d n=true)
    (k:∀ a',St K Ob w0 w a' n ((d,.int .i64 (p*q))::L) Fs Bs→wpList P ops Q rest a' w) :
    wpList P ops Q ({ dst:=some d,op:=.binOp .mul t x y t',type:=ty,pos:=pos,after:=after,guard:=none }::rest) a w :=
  Qi4 h hx hy hd fun a' h'=>k a' (h'.respell (by rw [Xq h1.1 h1.2]))
theorem Q5 {x y:Operand} {b o m c sz:Nat} {p:Int} {E t:TypeId} {kd:IntKind} (i:Nat) (h:St K Ob w0 w a n L Fs Bs) (hx:ev L x=some (.slice (some ⟨b,o,none⟩) m c)) (hy:ev L y=some (.int kd p))
    (hu:∀ w,(underlying t).run P w=.ok (.slice E) w) (hs:∀ w,(Go.sizeOf E).run P w=.ok sz w) (hp:p=(i:Int)) (hi:i<m) (hd:Nat.blt d n=true)
    (k:∀ a',St K Ob w0 w a' n ((d,.pointer (some ⟨b,o+i*sz,none⟩))::L) Fs Bs→wpList P ops Q rest a' w) :
    wpList P ops Q ({ dst:=some d,op:=.indexAddr t x y,type:=ty,pos:=pos,after:=after,guard:=none }::rest) a w:=by
  subst hp
  exact Qpx h hx hy hu hs hi hd k
end
section
variable {d:Nat} {ty:TypeId} {pos:String} {after:Array Edge}
theorem Jd {kd:IntKind} {i y:Nat} (c:BoundsCode) (h:i≤y) (w:World):(Instr.sliceBound (.int kd (i:Int)) y c).run P w=.ok i w:=by
  simp [Instr.sliceBound,asIntOf,h]
theorem Of {T E:TypeId} {x y:Operand} {A:Option Addr} {m c i sz:Nat} {kd:IntKind} (h:St K Ob w0 w a n L Fs Bs) (hx:ev L x=some (.slice A m c)) (hy:ev L y=some (.int kd (i:Int)))
    (hu:∀ w,(underlying T).run P w=.ok (.slice E) w) (hs:∀ w,(Go.sizeOf E).run P w=.ok sz w) (hi:i≤c) (hd:Nat.blt d n=true)
    (k:∀ a',St K Ob w0 w a' n ((d,.slice (if c=0 then A else A.map (·.add (0*sz))) i c)::L) Fs Bs→wpList P ops Q rest a' w) :
    wpList P ops Q ({ dst:=some d,op:=.slice T x none (some y) none,type:=ty,pos:=pos,after:=after,guard:=none }::rest) a w :=
  Je h hd (by simp [execOp,h.ev hx,h.ev hy,Instr.sliceAt,Instr.slice,Instr.sliceBounds,hu,hs,Jd _ hi]) k
end
end Orr

namespace Orr
open Go
variable {P:Program} {ops:Array Oper} {Q:Exit→Act→World→Prop}
variable {K Ob:Nat→Prop} {w0 w:World} {a:Act} {n:Nat} {L:List (Nat×Value)} {Fs:List Fact} {Bs:List Va} {rest:List Oper}
def Ry (v:Value) (E:TypeId) (size m:Nat) (cs:List Value) (Bo:List Va):Prop :=
  cs.length=m*size∧((v=.slice none 0 0∧m=0∧Bo=[]) ∨
    ∃ g c ex,v=.slice (some ⟨g,0,none⟩) m c∧Bo=[(g,Tag.ty E,cs++ex)]∧(cs++ex).length=c*size∧m≤c∧c<2^63)
def Src (w:World) (x:Value) (size m:Nat) (news:List Value):Prop :=
  news.length=m*size∧∃ A c,x=.slice A m c∧(0<m→∃ b o,A=some ⟨b,o,none⟩∧∀ (j:Nat) (v:Value),news[j]? = some v→w.cell? ⟨b,o+j,none⟩=some v)
theorem Vh {size m:Nat} {x:Value} {news:List Value} (h:Src w x size m news):(Builtin.firstCells size m x).run P w=.ok news.toArray w:=by
  obtain ⟨hl,A,c,rfl,hA⟩:=h
  rcases Hl m with h0 | h0
  · subst h0
    have:news=[]:=P5 (by simpa using hl)
    subst this
    cases A with
    | none=>rfl
    | some p=>simp [Builtin.firstCells,loadCells,loadCellsFrom]
  · obtain ⟨b,o,rfl,hc⟩:=hA h0
    simp only [Builtin.firstCells]
    rw [←hl]
    exact F7 b o w news hc
theorem Src.keep {x:Value} {size m:Nat} {news:List Value} (h:Src w x size m news) {w':World} (hk:∀ p v,w.cell? p=some v→w'.cell? p=some v):Src w' x size m news:=by
  obtain ⟨hl,A,c,rfl,hA⟩:=h
  refine ⟨hl,A,c,rfl,fun h0=>?_⟩
  obtain ⟨b,o,rfl,hc⟩:=hA h0
  exact ⟨b,o,rfl,fun j v hj=>hk _ _ (hc j v hj)⟩
theorem Ts (need old:Nat) (h:old<need):Builtin.nextslicecap need old≤4*need+2048:=by
  unfold Builtin.nextslicecap
  split
  · omega
  · split
    · omega
    · simp only [Builtin.growBy]
      repeat' split
      all_goals omega
theorem Qje (cs ex news:List Value):upd (cs++ex) cs.length news=cs++upd ex 0 news:=by
  induction cs with
  | nil=>rfl
  |
   cons c cs ih =>
   cases news with
   | nil=>simp [upd]
   |
    cons v vs =>
    simp only [Lm,qXe,upd]
    rw [ih]
theorem Qqf (ex news:List Value) (h:news.length≤ex.length):upd ex 0 news=news++ex.drop news.length:=by
  induction news generalizing ex with
  | nil=>cases ex <;> simp [upd]
  |
   cons v vs ih =>
   cases ex with
   | nil=>simp at h
   | cons e ex=>simp only [upd,Lm,qXe,qVs]; rw [ih ex (by simpa using h)]
theorem St.same {w':World} (h:St K Ob w0 w a n L Fs Bs) (he:w'.heap=w.heap) (hio:w'.os=w.os∧w'.output=w.output:=by exact ⟨rfl,rfl⟩):St K Ob w0 w' a n L Fs Bs :=
  h.grown ⟨by rw [he]; exact X2 _,fun b _=>by rw [he],hio⟩
theorem St.tailB {Bo:List Va} (h:St K Ob w0 w a n L Fs (Bo++Bs)):St K Ob w0 w a n L Fs Bs:=by
  induction Bo with
  | nil=>exact h
  | cons B Bo ih=>exact ih h.publish
theorem I4 {E:TypeId} {size m k c bytes:Nat} {zs:List Value} {z:Value} {info:TypeInfo} {v x:Value} {cs news:List Value} {Bs:List Va} (h:St K Ob w0 w a n L Fs Bs)
    (hi:∀ w,(typeInfo E).run P w=.ok info w) (hb:info.bytes=bytes) (hz:∀ w,(zeroValue E).run P w=.ok z w) (hz1:z.cells=zs.toArray) (hz0:zs.length=size)
    (hold:∀ w',w'.heap=w.heap→(Builtin.firstCells size m v).run P w'=.ok cs.toArray w') (hx:Src w x size k news) (hcl:cs.length=m*size) (hm:m+k<2^33) :
    ∃ v' w' Bo',(do
        let newCap ←choose (.appendCap (m+k) c E)
        askRoom (newCap*(←typeInfo E).bytes)
        let old ←Builtin.firstCells size m v
        let new ←Builtin.firstCells size k x
        let rest:=Builtin.zeroCells (←zeroValue E).cells (newCap-(m+k))
        pure (.slice (some (←newRow E (old++new++rest))) (m+k) newCap):Sem Value).run P w=.ok v' w'∧Ry v' E size (m+k) (cs++news) Bo'∧St K Ob w0 w' a n L Fs (Bo'++Bs):=by
  have h33:(2:Nat)^33=8589934592:=by decide
  have h63:(2:Nat)^63=9223372036854775808:=by decide
  let w1:World:={ w with drawn:=w.drawn+1 }
  let cap:=(m+k)+(w.tape w.drawn (.appendCap (m+k) c E)) % (2^63-(m+k))
  have hcap:m+k≤cap∧cap<2^63:=by
    have:=Tv (w.tape w.drawn (.appendCap (m+k) c E)) (show 0<2^63-(m+k) by omega)
    constructor
    · exact Nat.le_add_right _ _
    · show (m+k)+_<_
      omega
  have hch:(choose (.appendCap (m+k) c E)).run P w=.ok cap w1:=rfl
  have hnews:=Vh (P:=P) (hx.keep (w':=w1) (fun p v hp=>hp))
  have hroom:∀ b w,(askRoom b).run P w=.ok () w:=by
    intro b w
    unfold askRoom
    split <;> rfl
  have hzero:Builtin.zeroCells zs.toArray (cap-(m+k))=(Up (cap-(m+k)) zs).toArray:=by
    unfold Builtin.zeroCells
    rcases Hl zs.length with hz | hz
    · have:zs=[]:=P5 hz
      subst this
      have:(Up (cap-(m+k)) ([]:List Value))=[]:=P5 (by simp [Sq])
      rw [this]
      apply Array.ext <;> simp
    · have:=Tg (cap-(m+k)) zs hz
      simpa using this
  refine ⟨.slice (some ⟨w1.heap.size,0,none⟩) (m+k) cap,w1.alloc (.cells ((cs++news)++Up (cap-(m+k)) zs).toArray E),[(w1.heap.size,E,(cs++news)++Up (cap-(m+k)) zs)],?_,⟨?_,.inr ⟨_,cap,Up (cap-(m+k)) zs,rfl,rfl,?_,hcap.1,hcap.2⟩⟩,?_⟩
  · simp only [Sem.run_bind,hch,Result.andThen_ok,hi,hroom,hold w1 rfl,hnews,hz,hz1,hzero,newRow,V1,Sem.run_pure]
    simp
  · have:=hx.1
    simp [hcl,this,qJx]
  · have:=hx.1
    simp only [Fl,Sq,hcl,this,hz0]
    rw [←qJx,←qJx]
    congr 1
    omega
  · have:=(h.same (w':=w1) rfl).alloc E ((cs++news)++Up (cap-(m+k)) zs)
    exact this
section
variable {d:Nat} {ty:TypeId} {pos:String} {after:Array Edge}
theorem Qiu {T E T2 E2:TypeId} {size m k bytes:Nat} {zs:List Value} {z:Value} {info:TypeInfo} {v x:Value} {cs news:List Value} {Bo:List Va} (h:St K Ob w0 w a n L Fs (Bo++Bs))
    (hu:∀ w,(underlying T).run P w=.ok (.slice E) w) (hu2:∀ w,(underlying T2).run P w=.ok (.slice E2) w) (hi:∀ w,(typeInfo E).run P w=.ok info w) (hb:info.bytes=bytes) (hb2:Nat.ble bytes 4096=true) (hb3:Nat.blt 0 bytes=true) (hs:∀ w,(Go.sizeOf E).run P w=.ok size w)
    (hz:∀ w,(zeroValue E).run P w=.ok z w) (hz1:z.cells=zs.toArray) (hz0:zs.length=size)
    (hv:Ry v E size m cs Bo) (hx:Src w x size k news) (h1:∀ u∈news,one u=true) (hm:m+k<2^33) :
    ∃ v' w' Bo',(Builtin.append_ #[T,T2] ty #[v,x]).run P w=.ok v' w'∧Ry v' E size (m+k) (cs++news) Bo'∧St K Ob w0 w' a n L Fs (Bo'++Bs):=by
  subst hb
  have h33:(2:Nat)^33=8589934592:=by decide
  have hb2':=qXk hb2
  have hb3':0<info.bytes:=by rwa [Mo] at hb3
  have hbig:∀ c,c<m+k→¬(Builtin.nextslicecap (m+k) c*info.bytes>2^48):=fun c hc=>by
    have:=Ts (m+k) c hc
    have h2:Builtin.nextslicecap (m+k) c*info.bytes≤(4*(m+k)+2048)*4096:=qJd this hb2'
    have h48:(2:Nat)^48=281474976710656:=by decide
    omega
  obtain ⟨A',c',rfl,hA'⟩:=hx.2
  have hlen:∀ w,(Builtin.lenOf (.slice A' k c')).run P w=.ok k w:=fun _=>rfl
  obtain ⟨hcl,⟨rfl,rfl,rfl⟩ | ⟨g,c,ex,rfl,rfl,hl,hmc,hc63⟩⟩:=hv
  · have hcs:cs=[]:=P5 (by simpa using hcl)
    subst hcs
    rcases Hl k with h0 | h0
    · subst h0
      have hn:news=[]:=P5 (by simpa using hx.1)
      subst hn
      refine ⟨.slice none 0 0,w,[],?_,⟨by simp,.inl ⟨rfl,rfl,rfl⟩⟩,h⟩
      have hf:=Vh (P:=P) hx
      simp [Builtin.append_,hu,hu2,hs,hlen,hf]
    · obtain ⟨v',w',Bo',hr,ho,hst⟩:=I4 (P:=P) (v:=.slice none 0 0) (c:=0) (cs:=[]) h hi rfl hz hz1 hz0 (fun w' _=>rfl) hx hcl hm
      refine ⟨v',w',Bo',?_,ho,hst⟩
      rw [←hr]
      have hne:¬(0+k≤0):=by omega
      have hb':=hbig 0 (by omega)
      have hbb:¬(info.bytes=0):=by omega
      simp only [Builtin.append_,hu,hu2,hs,hlen,hi,Sem.run_bind,Sem.run_pure,Result.andThen_ok,qVg,qYt,qJe,hne,if_false,qXd,false_or,hbb,and_false,hb',qVe,if_true]
  · have h0:(([(g,Tag.ty E,cs++ex)]:List Va)++Bs)[0]? = some (g,Tag.ty E,cs++ex):=rfl
    have hold:∀ w',w'.heap=w.heap→(Builtin.firstCells size m (.slice (some ⟨g,0,none⟩) m c)).run P w'=.ok cs.toArray w':=fun w' he=>by
      simp only [Builtin.firstCells]
      rw [←hcl]
      refine F7 g 0 w' cs fun j u hj=>?_
      rw [show ∀ p,w'.cell? p=w.cell? p from fun p=>by simp only [World.cell?,he],h.own_cell h0,Vl,qZy (Uy.1 hj).1]
      exact hj
    by_cases hroom:m+k≤c
    · have hexl:news.length≤ex.length:=by
        have e1:=hx.1
        rw [Fl,hcl] at hl
        have:(m+k)*size≤c*size:=O8 _ hroom
        rw [qJx] at this
        omega
      obtain ⟨w',hr,hst⟩:=St.storeCells (P:=P) news (cs++ex) (m*size) 0 w _ 0 h h0 (by rw [Fl,hcl]; omega) h1
      have he:upd (cs++ex) (m*size+0) news=(cs++news)++ex.drop news.length:=by
        rw [Mp,←hcl,Qje,Qqf ex news hexl,P6]
      rw [he] at hst
      refine ⟨.slice (some ⟨g,0,none⟩) (m+k) c,w',[(g,Tag.ty E,(cs++news)++ex.drop news.length)],?_,⟨by have:=hx.1; simp [hcl,this,qJx],.inr ⟨g,c,ex.drop news.length,rfl,rfl,?_,hroom,hc63⟩⟩,?_⟩
      · have hf:=Vh (P:=P) hx
        simp only [Builtin.append_,hu,hu2,hs,hlen,Sem.run_bind,Sem.run_pure,Result.andThen_ok,qVg,qYt,qJe,hroom,if_true,qXd,if_false,qVe,hf]
        rw [show ((⟨g,0,none⟩:Addr).add (m*size))=⟨g,m*size,none⟩ from by rw [U4,Vl]]
        rw [hr]
        rfl
      · rw [←hl]; simp; omega
      · simpa using hst
    · obtain ⟨v',w',Bo',hr,ho,hst⟩:=I4 (P:=P) (v:=.slice (some ⟨g,0,none⟩) m c) (c:=c) (cs:=cs) (m:=m) h.tailB hi rfl hz hz1 hz0 hold hx hcl hm
      refine ⟨v',w',Bo',?_,ho,hst⟩
      rw [←hr]
      have hb':=hbig c (by omega)
      have hbb:¬(info.bytes=0):=by omega
      simp only [Builtin.append_,hu,hu2,hs,hlen,hi,Sem.run_bind,Sem.run_pure,Result.andThen_ok,qVg,qYt,qJe,hroom,if_false,qXd,false_or,hbb,and_false,hb',qVe,if_true]
theorem Oc {T E T2 E2:TypeId} {x y:Operand} {size m k:Nat} {zs:List Value} {z:Value} {info:TypeInfo} {v u:Value} {cs news:List Value} {Bo:List Va} (h:St K Ob w0 w a n L Fs (Bo++Bs)) (hv:ev L x=some v) (hu':ev L y=some u)
    (hu:∀ w,(underlying T).run P w=.ok (.slice E) w) (hu2:∀ w,(underlying T2).run P w=.ok (.slice E2) w) (hi:∀ w,(typeInfo E).run P w=.ok info w) (hb2:Nat.ble info.bytes 4096=true) (hb3:Nat.blt 0 info.bytes=true) (hs:∀ w,(Go.sizeOf E).run P w=.ok size w)
    (hz:∀ w,(zeroValue E).run P w=.ok z w) (hz1:z.cells=zs.toArray) (hz0:zs.length=size)
    (ho:Ry v E size m cs Bo) (hx:Src w u size k news) (h1:∀ u∈news,one u=true) (hm:m+k<2^33) (hd:Nat.blt d n=true)
    (kk:∀ v' w' Bo' a',Ry v' E size (m+k) (cs++news) Bo'→St K Ob w0 w' a' n ((d,v')::L) Fs (Bo'++Bs)→wpList P ops Q rest a' w') :
    wpList P ops Q ({ dst:=some d,op:=.call { callee:=.builtin .append,args := #[x,y],argTypes := #[T,T2] },type:=ty,pos:=pos,after:=after,guard:=none }::rest) a w:=by
  obtain ⟨v',w',Bo',hr,ho',hst⟩:=Qiu (P:=P) (ty:=ty) h hu hu2 hi rfl hb2 hb3 hs hz hz1 hz0 ho hx h1 hm
  refine Yl (w':=w') (v:=v') rfl ?_ (kk v' w' Bo' _ ho' (hst.put v' hd))
  simp [execOp,resolve,invoke,h.ev hv,h.ev hu',builtin,hr]
theorem Qmt {T E:TypeId} {x y:Operand} {size m k:Nat} {zs:List Value} {z:Value} {info:TypeInfo} {v u:Value} {cs news:List Value} {Bo:List Va} (h:St K Ob w0 w a n L Fs (Bo++Bs)) (hv:ev L x=some v) (hu':ev L y=some u)
    (hu:∀ w,(underlying T).run P w=.ok (.slice E) w) (hi:∀ w,(typeInfo E).run P w=.ok info w) (hb2:Nat.ble info.bytes 4096=true) (hb3:Nat.blt 0 info.bytes=true) (hs:∀ w,(Go.sizeOf E).run P w=.ok size w)
    (hz:∀ w,(zeroValue E).run P w=.ok z w) (hz1:z.cells=zs.toArray) (hz0:zs.length=size)
    (ho:Ry v E size m cs Bo) (hx:Src w u size k news) (h1:∀ u∈news,one u=true) (hm:m+k<2^33) (hd:Nat.blt d n=true)
    (kk:∀ v' w' Bo' a',Ry v' E size (m+k) (cs++news) Bo'→St K Ob w0 w' a' n ((d,v')::L) Fs (Bo'++Bs)→wpList P ops Q rest a' w') :
    wpList P ops Q ({ dst:=some d,op:=.call { callee:=.builtin .append,args := #[x,y],argTypes := #[T,T] },type:=ty,pos:=pos,after:=after,guard:=none }::rest) a w :=
  Oc h hv hu' hu hu hi hb2 hb3 hs hz hz1 hz0 ho hx h1 hm hd kk
end
end Orr

namespace Orr
open Go
structure Rel (α:Type) where
  size:Nat
  at_:World→(Nat→Prop)→List Value→α→Prop
  len:∀ {w O cs x},at_ w O cs x→cs.length=size
  keep:∀ {w w':World} {O O':Nat→Prop} {cs x},Le w O w' O'→at_ w O cs x→at_ w' O' cs x
def Rel.fact {α:Type} (R:Rel α) (cs:List Value) (x:α):Fact:=⟨fun w O=>R.at_ w O cs x,fun h=>R.keep h⟩
def Rel.num (kd:IntKind):Rel Int where
  size:=1
  at_:=fun _ _ cs x=>cs=[.int kd x]
  len:=fun h=>by rw [h]; rfl
  keep:=fun _ h=>h
def Rel.bool:Rel Bool where
  size:=1
  at_:=fun _ _ cs x=>cs=[.bool x]
  len:=fun h=>by rw [h]; rfl
  keep:=fun _ h=>h
def Qx7 {α:Type} (R:Rel α) (w:World) (O:Nat→Prop) (A:Option Addr) (xs:List α):Prop :=
  0<xs.length→∃ b o,A=some ⟨b,o,none⟩∧b<w.heap.size∧¬O b ∧
    ∀ i x,xs[i]? = some x→∃ cs,R.at_ w O cs x∧∀ j v,cs[j]? = some v→w.cell? ⟨b,o+i*R.size+j,none⟩=some v
def Rel.slice {α:Type} (R:Rel α):Rel (List α) where
  size:=1
  at_:=fun w O cs xs=>∃ A c,cs=[.slice A xs.length c]∧xs.length≤c∧c<2^63∧xs.length<2^47∧Qx7 R w O A xs
  len:=fun ⟨_,_,h,_⟩=>by rw [h]; rfl
  keep:=fun {w w' O O' cs xs} hle ⟨A,c,h,hc,hb,hb',hr⟩=>⟨A,c,h,hc,hb,hb',fun h0=>by
    obtain ⟨b,o,hA,hlt,hno,hi⟩:=hr h0
    refine ⟨b,o,hA,qZv hlt hle.1,fun ho=>hno (hle.2.2 b hlt ho),fun i x hx=>?_⟩
    obtain ⟨cs,hx',hc⟩:=hi i x hx
    refine ⟨cs,R.keep hle hx',fun j v hj=>?_⟩
    have:=hc j v hj
    simp only [World.cell?] at this ⊢
    rw [hle.2.1 b hlt hno]
    exact this⟩
def Rel.prod {α β:Type} (R:Rel α) (S:Rel β):Rel (α×β) where
  size:=R.size+S.size
  at_:=fun w O cs x=>∃ c1 c2,cs=c1++c2∧R.at_ w O c1 x.1∧S.at_ w O c2 x.2
  len:=fun ⟨c1,c2,h,h1,h2⟩=>by rw [h,Fl,R.len h1,S.len h2]
  keep:=fun hle ⟨c1,c2,h,h1,h2⟩=>⟨c1,c2,h,R.keep hle h1,S.keep hle h2⟩
def Rel.view {α β:Type} (R:Rel α) (p:α→β→Prop):Rel β where
  size:=R.size
  at_:=fun w O cs y=>∃ x,R.at_ w O cs x∧p x y
  len:=fun ⟨_,h,_⟩=>R.len h
  keep:=fun hle ⟨x,h,hp⟩=>⟨x,R.keep hle h,hp⟩
def Rel.sliceF {α:Type} (R:Rel α) (x:α) (v:Value):Fact:=⟨fun w O=>∃ A n c,v=.slice A n c∧R.at_ w O [.slice A n c] x,fun hle ⟨A,n,c,e,h⟩=>⟨A,n,c,e,R.keep hle h⟩⟩
def Rel.aggF {α:Type} (R:Rel α) (x:α) (v:Value):Fact:=⟨fun w O=>∃ cs:List Value,v=.agg cs.toArray∧R.at_ w O cs x,fun hle ⟨cs,e,h⟩=>⟨cs,e,R.keep hle h⟩⟩
def Qjd (f g:Value→Fact) (v:Value):Fact:=⟨fun w O=>∃ x y,v=.tuple #[x,y]∧(f x).holds w O∧(g y).holds w O,fun hle ⟨x,y,e,h1,h2⟩=>⟨x,y,e,(f x).keep hle h1,(g y).keep hle h2⟩⟩
def Qzb (f g k:Value→Fact) (v:Value):Fact:=⟨fun w O=>∃ x y z,v=.tuple #[x,y,z]∧(f x).holds w O∧(g y).holds w O∧(k z).holds w O,fun hle ⟨x,y,z,e,h1,h2,h3⟩=>⟨x,y,z,e,(f x).keep hle h1,(g y).keep hle h2,(k z).keep hle h3⟩⟩
def Yg (c v:Value):Fact:=⟨fun _ _=>v=c,fun _ h=>h⟩
def U2 (_:Value):Fact:=⟨fun _ _=>True,fun _ h=>h⟩
def Ms (W:World) (Ob:Nat→Prop) (F:Value→Fact) (e:Ending) (w':World):Prop:=∃ r,e=.returned r∧Grow W w'∧(F r).holds w' Ob
def Rel.row:Rel (List Int):=(Rel.num .u32).slice
end Orr

namespace Orr
open Go
variable {P:Program} {Q:Exit→Act→World→Prop}
variable {K Ob:Nat→Prop} {w0 w:World} {a:Act} {n:Nat} {L:List (Nat×Value)} {Fs:List Fact} {Bs:List Va}
def Wa (ops:List Oper) (i:Nat):List Nat:=match ops[i]? with
  | none=>[]
  | some o=>o.after.toList.filterMap fun e=>if Region.binds .any e then some e.on else none
def De (ops:List Oper):Nat→Nat→List Nat
  | 0,_=>[]
  | f+1,i=>(Wa ops i).flatMap fun j=>j::De ops f j
def dd (D:List (Option Nat)) (j:Nat):Nat:=(D.getD j none).getD 0
def dE (D:List (Option Nat)) (j:Nat):Bool:=(D.getD j none).isSome
def dL (D:List (Option Nat)) (v:Nat→Value) (ls:List Nat):List (Nat×Value):=(ls.filter (dE D)).map fun j=>(dd D j,v j)
def K7 (ops:List Oper) (m:Nat) (D:List (Option Nat)) (deps:List (List Nat)):Bool :=
  Nat.ble m ops.length && Nat.beq D.length m && Nat.beq deps.length m &&
  (List.range ops.length).all (fun i=>(Wa ops i).all fun j=>Nat.blt j i) &&
  (List.range m).all (fun i=>match ops[i]? with
    | none=>false
    | some o=>(o.dst == D.getD i none) && (deps.getD i []).all fun j=>(Wa ops i).contains j && Nat.blt j i) &&
  (List.range m).all (fun i=>(List.range m).all fun j=>i == j || !(dE D i) || !(dE D j) || !(dd D i == dd D j)) &&
  (List.range ops.length).all (fun i=>Nat.blt i m || (List.range i).all fun j=>(De ops (i+1) i).contains j)
def Qb6 (P:Program) (ops:Array Oper) (K Ob:Nat→Prop) (w0:World) (n:Nat) (L:List (Nat×Value)) (Fs:List Fact) (BF:(Nat→Bool)→(Nat→Value)→List Va) (D:List (Option Nat)) (S:List (Value→Fact)) (i:Nat) (dep:List Nat) (o:Oper):Prop :=
  ∀ (p:Nat→Bool) (_:p i=false) (_:∀ j∈dep,p j=true) (v:Nat→Value) (Fx:List Fact) (a:Act) (w:World),St K Ob w0 w a n (dL D v dep++L) (dep.map (fun j=>(S.getD j U2) (v j))++(Fs++Fx)) (BF p v) →
    wpList P ops (fun e a' w'=>e=.normal∧∃ u,St K Ob w0 w' a' n (if dE D i then [(dd D i,u)] else []) ((S.getD i U2) u::(Fs++Fx)) (BF (fun j=>j == i || p j) (fun j=>if j=i then u else v j))) [o] a w
def DrawOps (P:Program) (ops:Array Oper) (K Ob:Nat→Prop) (w0:World) (n:Nat) (L:List (Nat×Value)) (Fs:List Fact) (BF:(Nat→Bool)→(Nat→Value)→List Va) (D:List (Option Nat)) (S:List (Value→Fact)):Nat→List (List Nat)→List Oper→Prop
  | i,dep::deps,o::os=>Qb6 P ops K Ob w0 n L Fs BF D S i dep o∧DrawOps P ops K Ob w0 n L Fs BF D S (i+1) deps os
  | _,_,_=>True
theorem DrawOps.get {ops:Array Oper} {BF:(Nat→Bool)→(Nat→Value)→List Va} {D:List (Option Nat)} {S:List (Value→Fact)}:∀ {k:Nat} {deps:List (List Nat)} {os:List Oper},DrawOps P ops K Ob w0 n L Fs BF D S k deps os →
    ∀ (i:Nat) (dep:List Nat) (o:Oper),deps[i]? = some dep→os[i]? = some o→Qb6 P ops K Ob w0 n L Fs BF D S (k+i) dep o
  | k,[],os,_,i,dep,o,hd,_=>by simp at hd
  | k,d::deps,[],_,i,dep,o,_,ho=>by simp at ho
  |
   k,d::deps,p::os,h,i,dep,o,hd,ho=>by
   cases i with
   | zero=>simp at hd ho; subst hd; subst ho; exact h.1
   |
    succ i =>
    have:=DrawOps.get h.2 i dep o (by simpa using hd) (by simpa using ho)
    rw [show k+(i+1)=k+1+i from by omega]
    exact this
def Mid (K Ob:Nat→Prop) (w0:World) (n:Nat) (L:List (Nat×Value)) (Fs:List Fact) (BF:(Nat→Bool)→(Nat→Value)→List Va) (D:List (Option Nat)) (S:List (Value→Fact)) (ls:List Nat) (a:Act) (w:World):Prop :=
  ∃ v:Nat→Value,St K Ob w0 w a n (dL D v ls++L) (Fs++ls.map (fun j=>(S.getD j U2) (v j))) (BF (fun j=>decide (j∈ls)) v)
theorem St.spellE {L':List (Nat×Value)} {t:Nat} {x c:Value} (h:St K Ob w0 w a n L Fs Bs) (e:x=c) (hx:Z0 L t=some x) (h':St K Ob w0 w a n L' Fs Bs):St K Ob w0 w a n ((t,c)::L') Fs Bs :=
  h.consL (by rw [hx,e]) h'
theorem St.drawEnd0 {F' F:List Fact} {f:Fact} (h:St K Ob w0 w a n L (F'++F) Bs) (hf:f.holds w (Q3 Ob Bs)):St K Ob w0 w a n [] (f::F) Bs:=by
  have h1:St K Ob w0 w a n [] (F'++F) Bs:=h.nilL
  refine { h1 with facts:=fun g hg=>?_ }
  rcases Vw.1 hg with rfl | hg
  · exact hf
  · exact h1.facts g (Y7.2 (.inr hg))
theorem St.drawEnd {F' F:List Fact} {d:Nat} {u:Value} {f:Fact} (h:St K Ob w0 w a n L (F'++F) Bs) (hl:Z0 L d=some u) (hf:f.holds w (Q3 Ob Bs)):St K Ob w0 w a n [(d,u)] (f::F) Bs:=by
  have h1:St K Ob w0 w a n [(d,u)] (F'++F) Bs:=h.consL hl h.nilL
  refine { h1 with facts:=fun g hg=>?_ }
  rcases Vw.1 hg with rfl | hg
  · exact hf
  · exact h1.facts g (Y7.2 (.inr hg))
theorem Wf {D:Nat→Nat} {v:Nat→Value}:∀ {ls:List Nat} {L:List (Nat×Value)} {j:Nat},j∈ls→(∀ i∈ls,∀ k∈ls,D i=D k→i=k)→Z0 (ls.map (fun j=>(D j,v j))++L) (D j)=some (v j)
  | [],_,_,h,_=>by cases h
  |
   i::ls,L,j,h,hinj=>by
   simp only [Ln,Lm,Z0]
   cases e:Nat.beq (D j) (D i)
   · simp only []
     have hne:j≠i:=fun e'=>by subst e'; simp at e
     have hm:j∈ls:=(Vw.1 h).resolve_left hne
     exact Wf hm fun a ha b hb=>hinj a (Ge _ ha) b (Ge _ hb)
   · simp only []
     have:=hinj j h i (Fm ..) (Fj e)
     rw [this]
theorem Hb {D:Nat→Nat} {v:Nat→Value} {t:Nat} {u:Value}:∀ {ls:List Nat} {L:List (Nat×Value)},(∀ i∈ls,D i≠t)→Z0 L t=some u→Z0 (ls.map (fun j=>(D j,v j))++L) t=some u
  | [],_,_,h=>h
  |
   i::ls,L,hne,h=>by
   simp only [Ln,Lm,Z0]
   have h0:=hne i (Fm ..)
   cases e:Nat.beq t (D i)
   · exact Hb (fun k hk=>hne k (Ge _ hk)) h
   · exact absurd (Fj e).symm h0
theorem Hc {D:Nat→Nat} {v:Nat→Value} {t:Nat} {u:Value}:∀ {ls:List Nat} {L:List (Nat×Value)},Z0 (ls.map (fun j=>(D j,v j))++L) t=some u→(∃ j∈ls,D j=t)∨Z0 L t=some u
  | [],_,h=>.inr h
  |
   i::ls,L,h=>by
   simp only [Ln,Lm,Z0] at h
   cases e:Nat.beq t (D i)
   · rw [e] at h
     rcases Hc h with ⟨j,hj,hd⟩ | h
     · exact .inl ⟨j,Ge _ hj,hd⟩
     · exact .inr h
   · exact .inl ⟨i,Fm ..,(Fj e).symm⟩
theorem Qec {o:Oper} {a:Act} {w:World} {K1 K2:Act→World→Prop} {Q1 Q2:Exit→Act→World→Prop} (hd:a.defers=[])
    (hK:∀ a' w',K1 a' w'→a'.defers=[]∧((∃ v,a'=a.put o.dst v)→K2 a' w')) (hp:∀ c a w,¬Q1 (.panic c) a w) (ho:¬LetsOut Q1) (h:o.wp P a w K1 Q1):o.wp P a w K2 Q2:=by
  unfold Oper.wp at *
  generalize (execOp a.eval o).run P w=r at *
  cases r with
  |
   ok nx w' =>
   cases nx <;> simp only [Oper.upon] at h ⊢
   case value v=>exact (hK _ _ h).2 ⟨v,rfl⟩
   case skip=>exact (hK _ _ h).2 ⟨_,rfl⟩
   case defer d =>
     have:=(hK _ _ h).1
     cases hdst:o.dst <;> simp [Act.put,hdst] at this
   case enter f args =>
     refine Calls.mono h fun e w'' he=>?_
     cases e with
     | returned v=>exact (hK _ _ he).2 ⟨v,rfl⟩
     | panicked c=>exact absurd he (hp _ _ _)
     | outgrown=>exact absurd he ho
   case row row args=>exact Rows.mono h fun v w'' he=>(hK _ _ he).2 ⟨v,rfl⟩
  |
   halt x w' =>
   cases x <;> simp only [Oper.upon] at h ⊢
   case panic v=>exact absurd h (hp _ _ _)
theorem Vg {l:List Oper} {listed:Array Bool} {i:Nat} (h:i∈Region.ready .any l.toArray listed):listed.getD i true=false∧i<l.length∧∀ j∈Wa l i,listed.getD j false=true:=by
  obtain ⟨h0,o,ho,hall⟩:=mem_ready.1 h
  have ho':l[i]? = some o:=by simpa using ho
  refine ⟨h0,(Uy.1 ho').1,fun j hj=>?_⟩
  simp only [Wa,ho',List.mem_filterMap] at hj
  obtain ⟨e,he,hb⟩:=hj
  split at hb
  · rename_i hbind
    injection hb with hb; subst hb
    exact hall e (by simpa using he) hbind
  · cases hb
theorem Hf {l:List Oper} {listed:Array Bool} {i:Nat} (hi:i<l.length) (h0:listed.getD i true=false) (hp:∀ j∈Wa l i,listed.getD j false=true):i∈Region.ready .any l.toArray listed:=by
  refine mem_ready.2 ⟨h0,l[i],by simp [hi],fun e he hb=>hp _ ?_⟩
  simp only [Wa,Xx hi,List.mem_filterMap]
  exact ⟨e,by simpa using he,by simp [hb]⟩
theorem F9 {l:List Oper} {p:Nat→Prop} (hc:∀ i,p i→∀ j∈Wa l i,p j):∀ (f i:Nat),(∀ j∈Wa l i,p j)→∀ j∈De l f i,p j
  | 0,_,_,j,hj=>by simp [De] at hj
  |
   f+1,i,hi,j,hj=>by
   simp only [De,List.mem_flatMap,Vw] at hj
   obtain ⟨k,hk,rfl | hj⟩:=hj
   · exact hi _ hk
   · exact F9 hc f k (hc k (hi k hk)) j hj
structure Chk (l:List Oper) (m:Nat) (D:List (Option Nat)) (deps:List (List Nat)):Prop where
  le:m≤l.length
  dlen:D.length=m
  deplen:deps.length=m
  down:∀ i,i<l.length→∀ j∈Wa l i,j<i
  op:∀ i,i<m→∃ o,l[i]? = some o∧o.dst=D.getD i none∧∀ j∈deps.getD i [],j∈Wa l i∧j<i
  inj:∀ i,i<m→∀ j,j<m→dE D i=true→dE D j=true→dd D i=dd D j→i=j
  late:∀ i,i<l.length→m≤i→∀ j,j<i→j∈De l (i+1) i
theorem Hz {l:List Oper} {m:Nat} {D:List (Option Nat)} {deps:List (List Nat)} (h:K7 l m D deps=true):Chk l m D deps:=by
  simp only [K7,qXp,C4,Tu,Bool.or_eq_true] at h
  obtain ⟨⟨⟨⟨⟨⟨h1,h2⟩,h3⟩,h4⟩,h5⟩,h6⟩,h7⟩:=h
  refine ⟨qXk h1,Fj h2,Fj h3,fun i hi j hj=>?_,fun i hi=>?_,fun i hi j hj e1 e2 e3=>?_,fun i hi hm j hj=>?_⟩
  · have:=h4 i hi j hj; rwa [Mo] at this
  · have h:=h5 i hi
    split at h
    · cases h
    · rename_i o ho
      simp only [qXp,beq_iff_eq,C4,qYj] at h
      obtain ⟨hd,hp⟩:=h
      refine ⟨o,ho,hd,fun j hj=>?_⟩
      have:=hp j hj
      exact ⟨this.1,by have:=this.2; rwa [Mo] at this⟩
  · have:=h6 i hi j hj
    simp [e1,e2,e3] at this
    exact this
  · have:=h7 i hi
    rcases this with h | h
    · rw [Mo] at h; omega
    · simpa using h j hj
theorem Pv:∀ {m:Nat} {ls:List Nat},ls.Nodup→(∀ j∈ls,j<m)→ls.length≤m
  |
   0,ls,_,h=>by
   cases ls with
   | nil=>simp
   | cons x ls=>have:=h x (Fm ..); omega
  |
   m+1,ls,hn,h=>by
   have:=Pv (m:=m) (ls:=ls.erase m) (hn.erase m) (fun j hj=>by
     have h1:=h j (List.mem_of_mem_erase hj)
     have h2:j≠m:=fun e=>by subst e; exact (List.Nodup.not_mem_erase hn) hj
     omega)
   have h2:=List.le_length_erase (a:=m) (l:=ls)
   omega
theorem Du {ls:List Nat} {m:Nat} (hn:ls.Nodup) (h:∀ j∈ls,j<m) (hl:m≤ls.length):∀ j,j<m→j∈ls:=by
  intro j hj
  apply Classical.byContradiction
  intro hno
  have h1:(j::ls).Nodup:=qJp.2 ⟨hno,hn⟩
  have:=Pv h1 (m:=m) (fun k hk=>by
    rcases Vw.1 hk with rfl | hk
    · exact hj
    · exact h k hk)
  simp at this
  omega
section
variable {l:List Oper} {m:Nat} {BF:(Nat→Bool)→(Nat→Value)→List Va} {D:List (Option Nat)} {S:List (Value→Fact)} {deps:List (List Nat)}
theorem Xf {ls:List Nat} {j:Nat} (h:j∈ls.filter (dE D)):j∈ls∧dE D j=true:=qJk.1 h
theorem Qoj (hc:Chk l m D deps) (hL:∀ j,j<m→dE D j=true→Z0 L (dd D j)=none) (hops:DrawOps P l.toArray K Ob w0 n L Fs BF D S 0 deps l)
    {ls:List Nat} (hls:∀ j∈ls,j<m) {i:Nat} (hi:i<m) (hni:i∉ls) (hp:∀ j∈Wa l i,j∈ls) {a:Act} {w:World} (h:Mid K Ob w0 n L Fs BF D S ls a w)
    {N:Act→World→Prop} (hN:∀ a w,Mid K Ob w0 n L Fs BF D S (i::ls) a w→N a w):wpOp P l.toArray Q i N a w:=by
  obtain ⟨v,hst⟩:=h
  obtain ⟨o,ho,hd,hdep⟩:=hc.op i hi
  have hdepsi:deps[i]? = some (deps.getD i []):=by
    have:i<deps.length:=by rw [hc.deplen]; exact hi
    rw [V6,Xx this]; rfl
  have hinj:∀ ls':List Nat,(∀ j∈ls',j<m)→∀ x∈ls'.filter (dE D),∀ y∈ls'.filter (dE D),dd D x=dd D y→x=y:=fun ls' hl' x hx y hy e =>
    hc.inj x (hl' x (Xf hx).1) y (hl' y (Xf hy).1) (Xf hx).2 (Xf hy).2 e
  have hop:=hops.get i (deps.getD i []) o hdepsi ho
  rw [Vl] at hop
  have hdl:∀ j∈deps.getD i [],j∈ls:=fun j hj=>hp j (hdep j hj).1
  have hstart:St K Ob w0 w a n (dL D v (deps.getD i [])++L) ((deps.getD i []).map (fun j=>(S.getD j U2) (v j))++(Fs++ls.map (fun j=>(S.getD j U2) (v j)))) (BF (fun j=>decide (j∈ls)) v):=by
    refine { hst with slots:=fun t u hu=>?_,facts:=fun f hf=>?_ }
    · rcases Hc (D:=dd D) hu with ⟨j,hj,rfl⟩ | hu'
      · have hj':=Xf hj
        have hjls:=hdl j hj'.1
        have e1:=Wf (D:=dd D) (v:=v) (L:=L) hj (hinj _ (fun x hx=>hls x (hdl x hx)))
        unfold dL at hu
        rw [e1] at hu; injection hu with hu; subst hu
        exact hst.slots _ _ (Wf (D:=dd D) (v:=v) (L:=L) (qJk.2 ⟨hjls,hj'.2⟩) (hinj _ hls))
      · refine hst.slots _ _ (Hb (D:=dd D) (fun x hx e=>?_) hu')
        have:=hL x (hls x (Xf hx).1) (Xf hx).2
        rw [e,hu'] at this; cases this
    · rcases Y7.1 hf with hf | hf
      · obtain ⟨j,hj,rfl⟩:=Ww.1 hf
        exact hst.facts _ (Y7.2 (.inr (Ww.2 ⟨j,hdl j hj,rfl⟩)))
      · exact hst.facts _ hf
  have hwp:=hop (fun j=>decide (j∈ls)) (by simpa using hni) (fun j hj=>by simpa using hdl j hj) v (ls.map (fun j=>(S.getD j U2) (v j))) a w hstart
  have hBF:(fun j=>j == i || decide (j∈ls))=fun j=>decide (j∈i::ls):=by
    funext j; simp only [Vw]; by_cases e:j=i <;> simp [e]
  rw [hBF] at hwp
  -- what is known behind the operation
  have key:∀ a' w',(∃ x,a'=a.put o.dst x)→(∃ u,St K Ob w0 w' a' n (if dE D i then [(dd D i,u)] else []) ((S.getD i U2) u::(Fs++ls.map (fun j=>(S.getD j U2) (v j)))) (BF (fun j=>decide (j∈i::ls)) (fun j=>if j=i then u else v j)))→N a' w':=by
    intro a' w' ⟨x,hx⟩ ⟨u,hst'⟩
    refine hN a' w' ⟨fun j=>if j=i then u else v j,{ hst' with slots:=fun t y hy=>?_,facts:=fun f hf=>?_ }⟩
    · have hcongr:(ls.filter (dE D)).map (fun j=>(dd D j,if j=i then u else v j))=(ls.filter (dE D)).map (fun j=>(dd D j,v j)):=qJr fun j hj=>by
        have:j≠i:=fun e=>hni (e ▸ (Xf hj).1)
        simp [this]
      have hold:∀ {y},Z0 (dL D v ls++L) t=some y→(dE D i=true→t≠dd D i)→a'.tmps[t]? = some y:=fun {y} hy hne=>by
        have hsame:a'.tmps[t]? = a.tmps[t]? := by
          rw [hx,hd]
          cases e:D.getD i none with
          | none=>rfl
          |
           some d =>
           have h1:dE D i=true:=by unfold dE; rw [e]; rfl
           have h2:dd D i=d:=by unfold dd; rw [e]; rfl
           have:=hne h1
           rw [h2] at this
           simp only [Act.put]
           rw [Array.getElem?_setIfInBounds_ne (fun e=>this e.symm)]
        rw [hsame]
        exact hst.slots t y hy
      by_cases hE:dE D i=true
      · unfold dL at hy
        rw [qXn hE] at hy
        simp only [Ln,Lm,Z0,hcongr] at hy
        cases e:Nat.beq t (dd D i)
        · rw [e] at hy
          exact hold hy fun _=>qJi e
        · rw [e] at hy
          simp only [if_true] at hy
          injection hy with hy; subst hy
          have e':=Fj e
          subst e'
          refine hst'.slots _ _ ?_
          simp [Z0,hE]
      · unfold dL at hy
        rw [qXm hE,hcongr] at hy
        exact hold hy fun h=>absurd h hE
    · rcases Y7.1 hf with hf | hf
      · exact hst'.facts f (Ge _ (Y7.2 (.inl hf)))
      · rcases Ww.1 hf with ⟨j,hj,rfl⟩
        rcases Vw.1 hj with rfl | hj
        · simp only [if_true]
          exact hst'.facts _ (Fm ..)
        · have hne:j≠i:=fun e=>hni (e ▸ hj)
          simp only [hne,if_false]
          exact hst'.facts _ (Ge _ (Y7.2 (.inr (Ww.2 ⟨j,hj,rfl⟩))))
  unfold wpOp
  have hoa:l.toArray[i]? = some o:=by simpa using ho
  simp only [hoa]
  have hno:¬LetsOut (fun (e:Exit) (a':Act) (w':World)=>e=.normal∧∃ u,St K Ob w0 w' a' n (if dE D i then [(dd D i,u)] else []) ((S.getD i U2) u::(Fs++ls.map (fun j=>(S.getD j U2) (v j)))) (BF (fun j=>decide (j∈i::ls)) (fun j=>if j=i then u else v j))):=by
    rintro ⟨_,_,h,_⟩; cases h
  by_cases hw:Region.wanted o (yielded l.toArray a.tmps)=true
  · rw [if_pos hw]
    simp only [wpList,hw,if_true] at hwp
    have hwp:=hwp.resolve_right (fun h=>hno h.2)
    refine .inl (Qec hst.defers (fun a' w' hk=>?_) (fun c a w h=>by cases h.1) hno hwp)
    obtain ⟨_,hk⟩:=hk
    exact ⟨by obtain ⟨u,hu⟩:=hk; exact hu.defers,fun hx=>key a' w' hx hk⟩
  · rw [if_neg hw]
    simp only [wpList,hw] at hwp
    exact key _ _ ⟨_,rfl⟩ hwp.2
theorem Pm {listed:Array Bool} {j:Nat} (hj:j<listed.size):listed.getD j true=listed.getD j false:=by
  simp [Array.getD,hj]
theorem Qtg (hc:Chk l m D deps):∀ (fuel i:Nat) (listed:Array Bool) (a:Act) (w:World),listed.size=l.length→(∀ j,j<l.length→(listed.getD j true=true↔j<i))→m≤i→l.length≤i+fuel →
    wpList P l.toArray Q (l.drop i) a w→wpAny P .any l.toArray Q fuel listed a w:=by
  intro fuel
  induction fuel with
  |
   zero =>
   intro i listed a w hs hlisted hmi hf h
   rw [Ll (by omega)] at h
   refine ⟨?_,h⟩
   apply qYx.2
   intro j hj
   obtain ⟨h0,hjl,_⟩:=Vg hj
   have:=(hlisted j hjl).2 (by omega)
   rw [h0] at this; cases this
  |
   succ fuel ih =>
   intro i listed a w hs hlisted hmi hf h
   have hready:∀ j,j∈Region.ready .any l.toArray listed→j=i:=by
     intro j hj
     obtain ⟨h0,hjl,hp⟩:=Vg hj
     have hji:¬j<i:=fun h=>by have:=(hlisted j hjl).2 h; rw [h0] at this; cases this
     apply Classical.byContradiction
     intro hne
     have hmem:=hc.late j hjl (by omega) i (by omega)
     have hcl:∀ x,(x<i)→∀ y∈Wa l x,y<i:=fun x hx y hy=>by
       have:=hc.down x (by omega) y hy
       omega
     have:=F9 (p:=fun x=>x<i) hcl (j+1) j (fun x hx=>by
       have hxl:x<l.length:=by have:=hc.down j hjl x hx; omega
       exact (hlisted x hxl).1 (by rw [Pm (by omega)]; exact hp x hx)) i hmem
     omega
   refine ⟨fun hnil=>?_,fun j hj=>?_⟩
   · have hil:¬i<l.length:=fun hil=>by
       have:i∈Region.ready .any l.toArray listed:=Hf hil (by
         cases e:listed.getD i true
         · rfl
         · have:=(hlisted i hil).1 e; omega) (fun x hx=>by
         have hxi:=hc.down i hil x hx
         rw [←Pm (by omega)]
         exact (hlisted x (by omega)).2 hxi)
       rw [hnil] at this; cases this
     rw [Ll (by omega)] at h
     exact h
   · have e:=hready j hj
     subst e
     obtain ⟨h0,hjl,hp⟩:=Vg hj
     rw [qZw hjl] at h
     unfold wpOp
     have hoa:l.toArray[j]? = some l[j]:=by simp [hjl]
     simp only [hoa]
     simp only [wpList] at h
     have hnext:∀ a w,wpList P l.toArray Q (l.drop (j+1)) a w→wpAny P .any l.toArray Q fuel (listed.setIfInBounds j true) a w:=fun a w h=>by
       refine ih (j+1) _ a w (by simp [hs]) (fun x hx=>?_) (by omega) (by omega) h
       by_cases hxj:j=x
       · subst hxj
         simp [hs,hjl]
       · rw [getD_set_ne true hxj,hlisted x hx]
         omega
     split
     · rename_i hw
       rw [if_pos hw] at h
       exact h.imp (Oper.wp_mono hnext) id
     · rename_i hw
       rw [if_neg hw] at h
       exact hnext _ _ h
theorem Qud (hc:Chk l m D deps) (hL:∀ j,j<m→dE D j=true→Z0 L (dd D j)=none) (hops:DrawOps P l.toArray K Ob w0 n L Fs BF D S 0 deps l)
    (hfin:∀ (p:Nat→Bool),(∀ j,j<m→p j=true)→∀ (v:Nat→Value) a w,St K Ob w0 w a n (dL D v (List.range m)++L) ((List.range m).map (fun j=>(S.getD j U2) (v j))++Fs) (BF p v)→wpList P l.toArray Q (l.drop m) a w) :
    ∀ (fuel:Nat) (listed:Array Bool) (ls:List Nat) (a:Act) (w:World),listed.size=l.length→(∀ j,j<l.length→(listed.getD j true=true↔j∈ls))→(∀ j∈ls,j<m)→ls.Nodup→(∀ i∈ls,∀ j∈Wa l i,j∈ls) →
      l.length≤ls.length+fuel→Mid K Ob w0 n L Fs BF D S ls a w→wpAny P .any l.toArray Q fuel listed a w:=by
  have hall:∀ (ls:List Nat) (a:Act) (w:World),(∀ j∈ls,j<m)→(∀ j,j<m→j∈ls)→Mid K Ob w0 n L Fs BF D S ls a w→wpList P l.toArray Q (l.drop m) a w:=by
    intro ls a w hls hfull ⟨v,h⟩
    have hinj:∀ ls':List Nat,(∀ j∈ls',j<m)→∀ x∈ls'.filter (dE D),∀ y∈ls'.filter (dE D),dd D x=dd D y→x=y:=fun ls' hl' x hx y hy e =>
      hc.inj x (hl' x (Xf hx).1) y (hl' y (Xf hy).1) (Xf hx).2 (Xf hy).2 e
    refine hfin (fun j=>decide (j∈ls)) (fun j hj=>by simpa using hfull j hj) v a w { h with slots:=fun t u hu=>?_,facts:=fun f hf=>?_ }
    · rcases Hc (D:=dd D) hu with ⟨j,hj,rfl⟩ | hu'
      · have hj':=Xf hj
        have hjm:j<m:=Tu.1 hj'.1
        have e1:=Wf (D:=dd D) (v:=v) (L:=L) hj (hinj _ (fun x hx=>Tu.1 hx))
        unfold dL at hu
        rw [e1] at hu; injection hu with hu; subst hu
        exact h.slots _ _ (Wf (D:=dd D) (v:=v) (L:=L) (qJk.2 ⟨hfull j hjm,hj'.2⟩) (hinj _ hls))
      · refine h.slots _ _ (Hb (D:=dd D) (fun x hx e=>?_) hu')
        have:=hL x (hls x (Xf hx).1) (Xf hx).2
        rw [e,hu'] at this; cases this
    · rcases Y7.1 hf with hf | hf
      · obtain ⟨j,hj,rfl⟩:=Ww.1 hf
        exact h.facts _ (Y7.2 (.inr (Ww.2 ⟨j,hfull j (Tu.1 hj),rfl⟩)))
      · exact h.facts _ (Y7.2 (.inl hf))
  intro fuel
  induction fuel with
  |
   zero =>
   intro listed ls a w hs hlisted hls hn hcl hf h
   have h1:=Pv hn hls
   have h2:=hc.le
   have hfull:=Du hn hls (by omega)
   have hm:m=l.length:=by omega
   have hw:=hall ls a w hls hfull h
   rw [Ll (by omega)] at hw
   refine ⟨?_,hw⟩
   apply qYx.2
   intro j hj
   obtain ⟨h0,hjl,_⟩:=Vg hj
   have:=(hlisted j hjl).2 (hfull j (by omega))
   rw [h0] at this; cases this
  |
   succ fuel ih =>
   intro listed ls a w hs hlisted hls hn hcl hf h
   have hunl:∀ j,j<l.length→j∉ls→listed.getD j true=false:=fun j hj hno=>by
     cases e:listed.getD j true
     · rfl
     · exact absurd ((hlisted j hj).1 e) hno
   refine ⟨fun hnil=>?_,fun i hi=>?_⟩
   · -- nothing is ready: all has been done
     have hdone:∀ j,j<l.length→j∈ls:=by
       intro j
       induction j using Nat.strongRecOn with
       |
        _ j ihj =>
        intro hj
        apply Classical.byContradiction
        intro hno
        have:j∈Region.ready .any l.toArray listed:=Hf hj (hunl j hj hno) (fun x hx=>by
          have hxj:=hc.down j hj x hx
          rw [←Pm (by omega)]
          exact (hlisted x (by omega)).2 (ihj x hxj (by omega)))
        rw [hnil] at this; cases this
     have hm:l.length≤m:=by
       rcases Mq m l.length with hlt | hge
       · have:=hls m (hdone m hlt); omega
       · exact hge
     have hw:=hall ls a w hls (fun j hj=>hdone j (by have:=hc.le; omega)) h
     rw [Ll hm] at hw
     exact hw
   · obtain ⟨h0,hil,hp⟩:=Vg hi
     have hni:i∉ls:=fun hin=>by have:=(hlisted i hil).2 hin; rw [h0] at this; cases this
     have hpl:∀ j∈Wa l i,j∈ls:=fun j hj=>by
       have hji:=hc.down i hil j hj
       exact (hlisted j (by omega)).1 (by rw [Pm (by omega)]; exact hp j hj)
     by_cases him:i<m
     · refine Qoj hc hL hops hls him hni hpl h fun a' w' h'=>?_
       refine ih _ (i::ls) a' w' (by simp [hs]) (fun x hx=>?_) (fun j hj=>?_) (qJp.2 ⟨hni,hn⟩) (fun x hx j hj=>?_) (by simp; omega) h'
       · by_cases hxi:i=x
         · subst hxi; simp [hs,hil]
         · rw [getD_set_ne true hxi,hlisted x hx]
           simp only [Vw]
           exact ⟨.inr,fun h=>h.resolve_left (fun e=>hxi e.symm)⟩
       · rcases Vw.1 hj with rfl | hj
         · exact him
         · exact hls j hj
       · rcases Vw.1 hx with rfl | hx
         · exact Ge _ (hpl j hj)
         · exact Ge _ (hcl x hx j hj)
     · have hmi:m≤i:=Nat.le_of_not_lt him
       have hin:∀ j,j<i→j∈ls:=fun j hj=>F9 (p:=fun x=>x∈ls) (fun x hx y hy=>hcl x hx y hy) (i+1) i hpl j (hc.late i hil hmi j hj)
       have him':i=m:=by
         rcases Mq m i with hlt | hge
         · have:=hls m (hin m hlt); omega
         · omega
       subst him'
       have hw:=hall ls a w hls hin h
       have hlate:=Qtg (P:=P) (Q:=Q) hc (fuel+1) i listed a w hs (fun j hj=>by
         rw [hlisted j hj]
         exact ⟨hls j,hin j⟩) (X2 _) (by
           have:=Pv hn hls
           omega) hw
       exact hlate.2 i hi
theorem Qao {id:Nat} (hm:P.follows .mixedOrders=true) (m:Nat) (D:List (Option Nat)) (deps:List (List Nat)) (S:List (Value→Fact)) (BF:(Nat→Bool)→(Nat→Value)→List Va) (hchk:K7 l m D deps=true) (h:St K Ob w0 w a n L Fs Bs) (hB:∀ v,BF (fun _=>false) v=Bs)
    (hL:(List.range m).all (fun j => !(dE D j) || (Z0 L (dd D j)).isNone)=true) (hops:DrawOps P l.toArray K Ob w0 n L Fs BF D S 0 deps l)
    (hfin:∀ (p:Nat→Bool),(∀ j,j<m→p j=true)→∀ (v:Nat→Value) a w,St K Ob w0 w a n (dL D v (List.range m)++L) ((List.range m).map (fun j=>(S.getD j U2) (v j))++Fs) (BF p v)→wpList P l.toArray Q (l.drop m) a w) :
    (Code.region id l.toArray true).wp P Q a w:=by
  refine wp_region_any hm ?_
  have hL':∀ j,j<m→dE D j=true→Z0 L (dd D j)=none:=fun j hj hE=>by
    have:=C4.1 hL j (Tu.2 hj)
    simpa [hE] using this
  refine Qud (Hz hchk) hL' hops hfin l.toArray.size _ [] a _ (by simp) (fun j hj=>?_) (by simp) qVh (by simp) (by simp) ⟨fun _=>undef,?_⟩
  · have hj':j<(Array.replicate l.toArray.size false).size:=by simpa using hj
    simp [Array.getD,hj]
  · have hB':=hB fun _=>undef
    subst hB'
    simpa [dL] using h.same (w':={ w with drawn:=w.drawn+1 }) rfl
theorem Gf {id:Nat} (hm:P.follows .mixedOrders=true) (m:Nat) (D:List (Option Nat)) (deps:List (List Nat)) (S:List (Value→Fact)) (hchk:K7 l m D deps=true) (h:St K Ob w0 w a n L Fs Bs)
    (hL:(List.range m).all (fun j => !(dE D j) || (Z0 L (dd D j)).isNone)=true) (hops:DrawOps P l.toArray K Ob w0 n L Fs (fun _ _=>Bs) D S 0 deps l)
    (hfin:∀ (v:Nat→Value) a w,St K Ob w0 w a n (dL D v (List.range m)++L) ((List.range m).map (fun j=>(S.getD j U2) (v j))++Fs) Bs→wpList P l.toArray Q (l.drop m) a w) :
    (Code.region id l.toArray true).wp P Q a w :=
  Qao hm m D deps S (fun _ _=>Bs) hchk h (fun _=>rfl) hL hops fun _ _ v a w h=>hfin v a w h
end
end Orr

namespace Orr
open Go
def Rel.u32:Rel Nat where
  size:=1
  at_:=fun _ _ cs x=>cs=[.int .u32 (x:Int)]∧x<4294967296
  len:=fun h=>by rw [h.1]; rfl
  keep:=fun _ h=>h
abbrev Rel.row32:Rel (List Nat):=Rel.u32.slice
theorem Jv {w:World} {O:Nat→Prop} {A:Option Addr} {m c:Nat} {l:List Nat} (h:Rel.row32.at_ w O [.slice A m c] l):m=l.length∧l.length≤c∧l.length<140737488355328:=by
  obtain ⟨A',c',h1,h2,_,h3,_⟩:=h
  simp at h1; obtain ⟨rfl,rfl,rfl⟩:=h1
  exact ⟨rfl,h2,h3⟩
theorem Qmq {w:World} {O:Nat→Prop} {cs:List Value} {l:List Nat} (h:Rel.row32.at_ w O cs l):∃ A c,cs=[.slice A l.length c]:=by
  obtain ⟨A',c',h1,_⟩:=h
  exact ⟨A',c',h1⟩
theorem Yn {w:World} {O:Nat→Prop} {A:Option Addr} {m c:Nat} {l:List Nat} (h:Rel.row32.at_ w O [.slice A m c] l) {i:Nat} (hi:i<l.length) :
    ∃ b o,A=some ⟨b,o,none⟩∧b<w.heap.size∧¬O b∧∀ (i:Nat) (x:Nat),l[i]? = some x→w.cell? ⟨b,o+i*1,none⟩=some (.int .u32 (x:Int)):=by
  obtain ⟨A',c',h1,h2,h3,h4,hr⟩:=h
  simp at h1; obtain ⟨rfl,rfl,rfl⟩:=h1
  obtain ⟨b,o,hA,hlt,hno,hc⟩:=hr (by omega)
  refine ⟨b,o,hA,hlt,hno,fun i x hx=>?_⟩
  obtain ⟨cs,⟨rfl,_⟩,h2⟩:=hc i x hx
  have:=h2 0 _ rfl
  exact this
theorem X8 {w:World} {O:Nat→Prop} {b o m c:Nat} {l:List Nat} (h:Rel.row32.at_ w O [.slice (some ⟨b,o,none⟩) m c] l) {i x:Nat} (hx:l[i]? = some x):w.cell? ⟨b,o+i*1,none⟩=some (.int .u32 (x:Int)):=by
  obtain ⟨b',o',e,_,_,hc⟩:=Yn h (i:=i) (Uy.1 hx).1
  injection e with e
  injection e with e1 e2
  subst e1; subst e2
  exact hc i x hx
theorem Wh {w:World} {O:Nat→Prop} {A:Option Addr} {m c:Nat} {l:List Nat} (h:Rel.row32.at_ w O [.slice A m c] l):∀ x∈l,x<4294967296:=by
  intro x hx
  obtain ⟨A',c',h1,h2,h3,h4,hr⟩:=h
  obtain ⟨i,hi⟩:=qZr.1 hx
  have hpos:0<l.length:=List.length_pos_of_mem hx
  obtain ⟨b,o,hA,hlt,hno,hc⟩:=hr hpos
  obtain ⟨cs,⟨_,h⟩,_⟩:=hc i x hi
  exact h
theorem Qgf {w:World} {O:Nat→Prop} {A:Option Addr} {m c:Nat} {l:List Nat} (h:Rel.row32.at_ w O [.slice A m c] l) (k:Nat) (hk:k≤l.length) :
    Rel.row32.at_ w O [.slice (if c=0 then A else A.map (·.add (0*1))) k c] (l.take k):=by
  obtain ⟨A',c',h1,h2,h3,h4,hr⟩:=h
  simp at h1; obtain ⟨rfl,rfl,rfl⟩:=h1
  have hl:(l.take k).length=k:=by simp; omega
  refine ⟨_,c,by rw [hl],by omega,h3,by omega,fun h0=>?_⟩
  obtain ⟨b,o,hA,hlt,hno,hc⟩:=hr (by omega)
  subst hA
  refine ⟨b,o,by rw [if_neg (by omega)]; simp [U4],hlt,hno,fun i x hx=>hc i x ?_⟩
  rw [Ei] at hx
  split at hx
  · exact hx
  · cases hx
def Cut (l:List Nat) (m:Nat):Prop:=m≤l.length∧(∀ j,m≤j→j<l.length→l[j]? = some 0)∧(0<m→∃ x,l[m-1]? = some x∧x≠0)
def val:List Nat→Nat
  | []=>0
  | x::l=>x+4294967296*val l
def Nrm (l:List Nat):Prop:=(∀ x∈l,x<4294967296)∧(l≠[]→∃ x,l[l.length-1]? = some x∧x≠0)
theorem Yd {P:Program} {S f off T:Nat} {fs:Array Field} {k:Nat} (hu:∀ w,(underlying S).run P w=.ok (.struct fs) w) (hf:(fs[f]?).map (fun fl=>(fl.type,fl.offset))=some (T,off)) (hs:∀ w,(Go.sizeOf T).run P w=.ok k w) (hk:k≠0) (b o:Nat) (w:World) :
    (Instr.fieldAt S (.pointer (some ⟨b,o,none⟩)) f).run P w=.ok (.pointer (some ⟨b,o+off,none⟩)) w:=by
  cases h:fs[f]? with
  | none=>rw [h] at hf; cases hf
  |
   some fl =>
   rw [h] at hf
   simp only [qVy,Option.some.injEq,Prod.mk.injEq] at hf
   obtain ⟨rfl,rfl⟩:=hf
   simp [Instr.fieldAt,hu,h,Instr.sureAddr,fieldPlace,hs,hk,U4]
def Ro (fs:List Field) (sizes:List Nat):List (Nat×Nat):=(fs.map (·.offset)).zip sizes
def Qot (l:List (Nat×Nat)) (i:Nat):Option (Nat×Nat):=l[i]?
def FieldSizes (P:Program):List Field→List Nat→Prop
  | [],[]=>True
  | f::fs,k::ks=>(∀ w,(Go.sizeOf f.type).run P w=.ok k w)∧FieldSizes P fs ks
  | _,_=>False
theorem D6 {P:Program}:∀ (fs:List Field) (sizes:List Nat) (w:World),FieldSizes P fs sizes →
    (fs.mapM fun f=>do pure (f.offset,←Go.sizeOf f.type):Sem (List (Nat×Nat))).run P w=.ok (Ro fs sizes) w
  | [],[],w,_=>rfl
  | [],_::_,w,h=>h.elim
  | _::_,[],w,h=>h.elim
  |
   f::fs,k::sizes,w,⟨h0,h⟩=>by
   have ih:=D6 fs sizes w h
   simp only [List.mapM_cons,Sem.run_bind,h0,Result.andThen_ok,Sem.run_pure]
   rw [ih]
   rfl
theorem Cl {P:Program} {T:Nat} {fs:Array Field} {sizes:List Nat} {z:Value} {vs:List (Nat×Value)} {cs:Array Value} (hu:∀ w,(underlying T).run P w=.ok (.struct fs) w) (hz:∀ w,(zeroValue T).run P w=.ok z w)
    (hs:FieldSizes P fs.toList sizes)
    (hf:Instr.fill ((Ro fs.toList sizes)[·]?) z.cells vs=some cs) (w:World):(Instr.build T vs.toArray).run P w=.ok (.agg cs) w:=by
  have hp:=D6 (P:=P) fs.toList sizes w hs
  have hm:(fs.mapM fun f=>do pure (f.offset,←Go.sizeOf f.type):Sem (Array (Nat×Nat))).run P w=.ok (Ro fs.toList sizes).toArray w:=by
    cases fs with
    |
     mk l =>
     rw [List.mapM_toArray,map_eq_pure_bind,Sem.run_bind,show (List.mapM (fun f:Field=>do pure (f.offset,←Go.sizeOf f.type):Field→Sem (Nat×Nat)) l).run P w=_ from hp]
     rfl
  simp only [Instr.build,Sem.run_bind,hz,hu,Result.andThen_ok,hm]
  have e:(fun x:Nat=>(Ro fs.toList sizes).toArray[x]?)=fun x=>(Ro fs.toList sizes)[x]? := by funext x; simp
  rw [e,hf]
  rfl
theorem Mw {P:Program} {T E m k:Nat} {z:Value} {vs:List (Nat×Value)} {cs:Array Value} (hu:∀ w,(underlying T).run P w=.ok (.array m E) w) (hz:∀ w,(zeroValue T).run P w=.ok z w)
    (hs:∀ w,(Go.sizeOf E).run P w=.ok k w)
    (hf:Instr.fill (fun i=>some (i*k,k)) z.cells vs=some cs) (w:World):(Instr.build T vs.toArray).run P w=.ok (.agg cs) w:=by
  simp only [Instr.build,Sem.run_bind,hz,hu,Result.andThen_ok,hs,hf]
  rfl
theorem Vd {P:Program} {T E size len:Nat} {z:Value} {zs:List Value} {vs:List (Nat×Value)} {cs:List Value} (hu:∀ w,(underlying T).run P w=.ok (.slice E) w) (hs:∀ w,(Go.sizeOf E).run P w=.ok size w) (hz:∀ w,(zeroValue E).run P w=.ok z w) (hz1:z.cells=zs.toArray) (hz0:zs.length=size) (hsz:0<size)
    (hl:len*size≤16777216) (hl0:0<len) (hf:Instr.fill (fun i=>some (i*size,size)) (Up len zs).toArray vs=some cs.toArray) (w:World) :
    (Instr.buildSlice T len vs.toArray).run P w=.ok (.slice (some ⟨w.heap.size,0,none⟩) len len) (w.alloc (.cells cs.toArray E)):=by
  have h1:¬(len*size>2^24):=by
    have:(2:Nat)^24=16777216:=by decide
    omega
  have h2:¬(len*size=0):=by
    have:=qVr hl0 hsz; omega
  have h3:=Tg len zs (by omega)
  rw [hz0] at h3
  simp only [Instr.buildSlice,Sem.run_bind,hu,hs,Result.andThen_ok,h1,h2,if_false,hz,Sem.run_pure,hz1]
  simp only [List.size_toArray,hz0,h3,hf,Sem.run_bind,newRow,V1,Result.andThen_ok,Sem.run_pure]
end Orr

namespace Orr
open Go
def sz (x:Nat):Nat:=if x=0 then 0 else x.log2+1
theorem Ks {x k:Nat}:sz x≤k↔x<2^k:=by
  unfold sz
  split
  · rename_i h; subst h; simp [qXt]
  · rename_i h
    rw [Nat.succ_le_iff,Nat.log2_lt h]
theorem Mm (x:Nat):x<2^sz x:=Ks.1 (X2 _)
theorem J9 {x y:Nat} (h:x≤y):sz x≤sz y:=Ks.2 (qZu h (Mm y))
theorem Qd2 (x y:Nat):sz (x+y)≤max (sz x) (sz y)+1:=by
  rw [Ks,Nc]
  have h1:x<2^max (sz x) (sz y):=Ks.1 (Nat.le_max_left _ _)
  have h2:y<2^max (sz x) (sz y):=Ks.1 (Nat.le_max_right _ _)
  omega
theorem Qi9 (x y:Nat):sz (x*y)≤sz x+sz y:=by
  rw [Ks,qJn]
  rcases Hl y with h | h
  · subst h; simp [qXt]
  · exact Nat.mul_lt_mul_of_lt_of_le (Mm x) (qKb (Mm y)) (by exact qXt (by decide))
theorem Qv1 {x:Nat} (h:0<x):0<sz x:=by
  unfold sz; split
  · omega
  · omega
theorem Uq (l r:List Nat):val (l++r)=val l+4294967296^l.length*val r:=by
  induction l with
  | nil=>simp [val]
  | cons x l ih=>simp only [Lm,val,qXe,ih,Nc]; grind
theorem Qb4 (k:Nat):val (List.replicate k 0)=0:=by
  induction k with
  | zero=>rfl
  | succ k ih=>simp [qJs,val,ih]
theorem F3 (l:List Nat) (h:∀ x∈l,x<4294967296):val l<4294967296^l.length:=by
  induction l with
  | nil=>simp [val]
  |
   cons x l ih =>
   have h1:=h x (Fm ..)
   have h2:=ih fun y hy=>h y (Ge _ hy)
   simp only [val,qXe,Nc]
   omega
theorem Xi (l:List Nat) (i x:Nat) (h:l[i]? = some x):val (l.take (i+1))=val (l.take i)+4294967296^i*x:=by
  have hi:i<l.length:=(Uy.1 h).1
  rw [List.take_add_one,h,Uq]
  simp only [Option.toList,Kd,Nb (qKb hi),val]
  simp
theorem Qlg {l:List Nat} {m:Nat} (h:Cut l m):l.drop m=List.replicate (l.length-m) 0:=by
  apply qYb
  intro i
  rw [qXj,qYu]
  split
  · rename_i hi
    exact h.2.1 (m+i) (by omega) (by omega)
  · rw [Eh (by have:=h.1; omega)]
theorem Qq8 {l:List Nat} {m:Nat} (h:Cut l m):val (l.take m)=val l:=by
  have:l=l.take m++l.drop m:=(Iy m l).symm
  conv=>rhs; rw [this,Qlg h,Uq,Qb4]
  simp
theorem Qq7 {l:List Nat} {m:Nat} (h:Cut l m) (hl:∀ x∈l,x<4294967296):Nrm (l.take m):=by
  refine ⟨fun x hx=>hl x (Rx hx),fun hne=>?_⟩
  have hm:0<m:=by
    rcases Hl m with e | e
    · subst e; simp at hne
    · exact e
  obtain ⟨x,hx,hx0⟩:=h.2.2 hm
  have hlen:(l.take m).length=m:=by rw [Kd]; have:=h.1; omega
  refine ⟨x,?_,hx0⟩
  rw [hlen,Ei,if_pos (by omega),hx]
theorem Qdb {l:List Nat} (h:Nrm l) (hne:l≠[]):4294967296^(l.length-1)≤val l:=by
  obtain ⟨x,hx,hx0⟩:=h.2 hne
  have hlen:0<l.length:=List.length_pos_iff.2 hne
  have:=Xi l (l.length-1) x hx
  rw [show l.length-1+1=l.length from by omega,qJu] at this
  rw [this]
  calc 4294967296^(l.length-1)=4294967296^(l.length-1)*1:=by rw [qYp]
    _≤4294967296^(l.length-1)*x:=qXa _ (by omega)
    _≤_:=Nat.le_add_left _ _
theorem K9 {l:List Nat} (h:Nrm l):32*l.length≤sz (val l)+31:=by
  rcases l with _ | ⟨x,l⟩
  · simp
  · have h1:=Qdb h (by simp)
    have h2:=Mm (val (x::l))
    have h3:(4294967296:Nat)^((x::l).length-1)<2^sz (val (x::l)):=qZu h1 h2
    rw [show (4294967296:Nat)=2^32 from by decide,←Nat.pow_mul] at h3
    have:=(Nat.pow_lt_pow_iff_right (by decide:1<2)).1 h3
    omega
theorem Fe {l:List Nat} (h:Nrm l):val l=0↔l=[]:=by
  constructor
  · intro h0
    apply Classical.byContradiction
    intro hne
    have:=Qdb h hne
    have:0<4294967296^(l.length-1):=qXt (by decide)
    omega
  · rintro rfl; rfl
theorem Qka:∀ {l r:List Nat},Nrm l→Nrm r→val l=val r→l=r
  | [],r,_,hr,h=>((Fe hr).1 h.symm).symm
  | x::l,[],hl,_,h=>(Fe hl).1 h
  |
   x::l,y::r,hl,hr,h=>by
   have hx:=hl.1 x (Fm ..)
   have hy:=hr.1 y (Fm ..)
   simp only [val] at h
   have h1:x=y:=by omega
   have h2:val l=val r:=by omega
   have tail:∀ {z:Nat} {l:List Nat},Nrm (z::l)→Nrm l:=fun {z l} hl=>⟨fun u hu=>hl.1 u (Ge _ hu),fun hne=>by
     obtain ⟨u,hu,hu0⟩:=hl.2 (by simp)
     refine ⟨u,?_,hu0⟩
     have:=List.length_pos_iff.2 hne
     rw [qXe,show l.length+1-1=(l.length-1)+1 from by omega,qJe] at hu
     exact hu⟩
   rw [h1,Qka (tail hl) (tail hr) h2]
theorem F4 {l r:List Nat} (hl:Nrm l) (hr:Nrm r) (h:l.length<r.length):val l<val r:=by
  have h1:=F3 l hl.1
  have h2:=Qdb hr (by rintro rfl; simp at h)
  have:(4294967296:Nat)^l.length≤4294967296^(r.length-1):=qJy (by decide) (by omega)
  omega
theorem Rv (l:List Nat) (k x:Nat) (hx:l[k]? = some x):val l=val (l.take k)+4294967296^k*(x+4294967296*val (l.drop (k+1))):=by
  have hk:k<l.length:=(Uy.1 hx).1
  have e:l=l.take k++(x::l.drop (k+1)):=by
    have h2:l[k]=x:=(Uy.1 hx).2
    rw [←h2,←qZw hk,Iy]
  have h1:(l.take k).length=k:=by rw [Kd]; omega
  conv=>lhs; rw [e,Uq,h1]
  rfl
theorem Qk4 {l r:List Nat} {k x y:Nat} (hl:∀ x∈l,x<4294967296) (hd:l.drop (k+1)=r.drop (k+1)) (hx:l[k]? = some x) (hy:r[k]? = some y) (h:x<y):val l<val r:=by
  rw [Rv l k x hx,Rv r k y hy,hd]
  have h1:=F3 (l.take k) (fun x hx=>hl x (Rx hx))
  have h2:(l.take k).length≤k:=by rw [Kd]; omega
  have h3:(4294967296:Nat)^(l.take k).length≤4294967296^k:=qJy (by decide) h2
  have h4:4294967296^k*(x+1+4294967296*val (r.drop (k+1)))≤4294967296^k*(y+4294967296*val (r.drop (k+1))):=qXa _ (by omega)
  rw [show x+1+4294967296*val (r.drop (k+1))=(x+4294967296*val (r.drop (k+1)))+1 from by omega,qJb,qYp] at h4
  omega
theorem Qls {l r:List Nat} {k x:Nat} (hd:l.drop (k+1)=r.drop (k+1)) (hx:l[k]? = some x) (hy:r[k]? = some x):l.drop k=r.drop k:=by
  obtain ⟨h1,e1⟩:=Uy.1 hx
  obtain ⟨h2,e2⟩:=Uy.1 hy
  rw [qZw h1,qZw h2,hd,e1,e2]
def Tx (x y:Nat):Int:=if x<y then -1 else if y<x then 1 else 0
theorem Lv {x y:Nat} (h:x<y):Tx x y=-1:=by unfold Tx; rw [if_pos h]
theorem Lu {x y:Nat} (h:y<x):Tx x y=1:=by unfold Tx; rw [if_neg (by omega),if_pos h]
theorem Qjn {x y:Nat} (h:x=y):Tx x y=0:=by unfold Tx; rw [if_neg (by omega),if_neg (by omega)]
def Rel.natA:Rel Nat:=Rel.row32.view fun l x=>(∀ y∈l,y<4294967296)∧val l=x
def Rel.natN:Rel Nat:=Rel.row32.view fun l x=>Nrm l∧val l=x
theorem J7 {w:World} {O:Nat→Prop} {cs:List Value} {x:Nat} (h:Rel.natN.at_ w O cs x):Rel.natA.at_ w O cs x:=by
  obtain ⟨l,h1,h2,h3⟩:=h
  exact ⟨l,h1,h2.1,h3⟩
def Y1 (l:List Nat):List Value:=l.map fun (x:Nat)=>.int .u32 (x:Int)
theorem We (l:List Nat):(Y1 l).length=l.length:=by simp [Y1]
theorem W7 (l:List Nat) (i:Nat):(Y1 l)[i]? = l[i]?.map fun (x:Nat)=>.int .u32 (x:Int):=by simp [Y1]
theorem Ws (m:Nat):Up m [.int .u32 0]=Y1 (List.replicate m 0):=by
  induction m with
  | zero=>rfl
  | succ m ih=>simp [Up,ih,Y1,qJs]
theorem Qqe (l:List Nat) (i x:Nat) (h:i<l.length):upd (Y1 l) i [.int .u32 (x:Int)]=Y1 (l.set i x):=by
  induction l generalizing i with
  | nil=>simp at h
  |
   cons y l ih =>
   cases i with
   | zero=>simp [Y1,upd]
   |
    succ i =>
    have:=ih i (by simpa using h)
    simp only [Y1,Ln,upd,List.set_cons_succ] at this ⊢
    rw [this]
section
variable {K Ob:Nat→Prop} {w0 w:World} {a:Act} {n:Nat} {L:List (Nat×Value)} {Fs:List Fact} {Bs:List Va}
theorem C3 {g T:Nat} {cs:List Value} (h:St K Ob w0 w a n L Fs ((g,T,cs)::Bs)):¬Q3 Ob Bs g:=by
  rintro (ho | ho)
  · exact h.ownO g (by simp) ho
  · have:=(qJp.1 h.nodup).1
    exact this ho
theorem Yj {g T:Nat} {cs:List Value} {r:List Nat} (c:Nat) (h:St K Ob w0 w a n L Fs ((g,T,cs)::Bs)) (hc:∀ i,i<r.length→cs[i]? = (Y1 r)[i]?) (hr:∀ x∈r,x<4294967296) (hl:r.length<2^47) (hrc:r.length≤c) (hc63:c<2^63) :
    Rel.row32.at_ w (Q3 Ob Bs) [.slice (some ⟨g,0,none⟩) r.length c] r:=by
  refine ⟨_,c,rfl,hrc,hc63,hl,fun h0=>⟨g,0,rfl,(h.own g T cs (by simp)).2.1,C3 h,fun i x hx=>⟨[.int .u32 (x:Int)],⟨rfl,hr x (Vo hx)⟩,fun j v hj=>?_⟩⟩⟩
  have hi:i<r.length:=(Uy.1 hx).1
  rcases j with _ | j
  · simp at hj; subst hj
    rw [h.own_cell (i:=0) rfl]
    show cs[0+i*1+0]? = _
    rw [Vl,qYp,Mp,hc i hi,W7,hx]; rfl
  · simp at hj
theorem St.respellB {g T:Nat} {cs cs':List Value} (h:St K Ob w0 w a n L Fs ((g,T,cs)::Bs)) (e:cs=cs'):St K Ob w0 w a n L Fs ((g,T,cs')::Bs):=e ▸ h
theorem Qbx {O:Nat→Prop} {A:Option Addr} {m c:Nat} {r:List Nat} (h:Rel.row32.at_ w O [.slice A m c] r):Src w (.slice A m c) 1 m (Y1 r):=by
  obtain ⟨e,_,_⟩:=Jv h
  subst e
  refine ⟨by rw [We,qYp],A,c,rfl,fun h0=>?_⟩
  obtain ⟨b,o,hA,_,_,hc⟩:=Yn h (i:=0) h0
  refine ⟨b,o,hA,fun j v hj=>?_⟩
  rw [W7] at hj
  cases hx:r[j]? with
  | none=>rw [hx] at hj; cases hj
  |
   some x =>
   rw [hx] at hj
   injection hj with hj; subst hj
   have:=hc j x hx
   rwa [qYp] at this
theorem Qde {v:Value} {E m:Nat} {r:List Nat} {Bo:List Va} (h:St K Ob w0 w a n L Fs (Bo++Bs)) (ho:Ry v E 1 m (Y1 r) Bo) (hr:∀ x∈r,x<4294967296) (hl:r.length<2^47) :
    ∃ A c,v=.slice A r.length c∧Rel.row32.at_ w (Q3 Ob Bs) [.slice A r.length c] r:=by
  obtain ⟨hlen,⟨rfl,rfl,rfl⟩ | ⟨g,c,ex,rfl,rfl,hl2,hmc,hc63⟩⟩:=ho
  · have:r=[]:=P5 (by simpa [We] using hlen)
    subst this
    exact ⟨none,0,rfl,none,0,rfl,X2 _,by decide,by decide,fun h0=>absurd h0 (by simp)⟩
  · rw [We,qYp] at hlen
    subst hlen
    exact ⟨_,c,rfl,Yj c h (fun i hi=>by rw [qZy (by rw [We]; exact hi)]) hr hl hmc hc63⟩
theorem Qgv (r:List Nat):∀ u∈Y1 r,one u=true:=by
  intro u hu
  obtain ⟨x,_,rfl⟩:=Ww.1 hu
  rfl
end
end Orr

namespace Orr
open Go
variable {P:Program} {ops:Array Oper} {Q:Exit→Act→World→Prop}
variable {K Ob:Nat→Prop} {w0 w:World} {a:Act} {n:Nat} {L:List (Nat×Value)} {Fs:List Fact} {Bs:List Va} {rest:List Oper}
variable {d:Nat} {ty:TypeId} {pos:String} {after:Array Edge}
theorem X9 {x:Operand} {kd:IntKind} {p:Nat} {s t:TypeId} (h:St K Ob w0 w a n L Fs Bs) (hx:ev L x=some (.int kd (p:Int))) (hp:p<18446744073709551616)
    (hs:∀ w,(underlying s).run P w=.ok (.int kd) w) (ht:∀ w,(underlying t).run P w=.ok (.int .u64) w) (hd:Nat.blt d n=true)
    (k:∀ a',St K Ob w0 w a' n ((d,.int .u64 (p:Int))::L) Fs Bs→wpList P ops Q rest a' w) :
    wpList P ops Q ({ dst:=some d,op:=.convert s t x,type:=ty,pos:=pos,after:=after,guard:=none }::rest) a w :=
  F1 h hx hs ht hd fun a' h'=>k a' (h'.respell (by rw [Ur]; congr 1; omega))
theorem Jh {x:Operand} {kd:IntKind} {p:Nat} {s t:TypeId} (h:St K Ob w0 w a n L Fs Bs) (hx:ev L x=some (.int kd (p:Int)))
    (hs:∀ w,(underlying s).run P w=.ok (.int kd) w) (ht:∀ w,(underlying t).run P w=.ok (.int .u32) w) (hd:Nat.blt d n=true)
    (k:∀ a',St K Ob w0 w a' n ((d,.int .u32 ((p % 4294967296:Nat):Int))::L) Fs Bs→wpList P ops Q rest a' w) :
    wpList P ops Q ({ dst:=some d,op:=.convert s t x,type:=ty,pos:=pos,after:=after,guard:=none }::rest) a w :=
  F1 h hx hs ht hd fun a' h'=>k a' (h'.respell (by rw [Nl]; congr 1))
theorem Cd {x:Operand} {kd:IntKind} {p:Nat} {s t:TypeId} (h:St K Ob w0 w a n L Fs Bs) (hx:ev L x=some (.int kd (p:Int))) (hp:p<9223372036854775808)
    (hs:∀ w,(underlying s).run P w=.ok (.int kd) w) (ht:∀ w,(underlying t).run P w=.ok (.int .i64) w) (hd:Nat.blt d n=true)
    (k:∀ a',St K Ob w0 w a' n ((d,.int .i64 (p:Int))::L) Fs Bs→wpList P ops Q rest a' w) :
    wpList P ops Q ({ dst:=some d,op:=.convert s t x,type:=ty,pos:=pos,after:=after,guard:=none }::rest) a w :=
  F1 h hx hs ht hd fun a' h'=>k a' (h'.respell (by rw [Xq (by omega) (by omega)]))
theorem Fh {x y:Operand} {p q:Nat} {t t':TypeId} (h:St K Ob w0 w a n L Fs Bs) (hx:ev L x=some (.int .u64 (p:Int))) (hy:ev L y=some (.int .u64 (q:Int))) (hb:p+q<18446744073709551616) (hd:Nat.blt d n=true)
    (k:∀ a',St K Ob w0 w a' n ((d,.int .u64 ((p+q:Nat):Int))::L) Fs Bs→wpList P ops Q rest a' w) :
    wpList P ops Q ({ dst:=some d,op:=.binOp .add t x y t',type:=ty,pos:=pos,after:=after,guard:=none }::rest) a w :=
  Qdu h hx hy hd fun a' h'=>k a' (h'.respell (by rw [Ur]; congr 1; omega))
theorem Qdv {x y:Operand} {p q:Nat} {t t':TypeId} (h:St K Ob w0 w a n L Fs Bs) (hx:ev L x=some (.int .u64 (p:Int))) (hy:ev L y=some (.int .u64 (q:Int))) (hb:p*q<18446744073709551616) (hd:Nat.blt d n=true)
    (k:∀ a',St K Ob w0 w a' n ((d,.int .u64 ((p*q:Nat):Int))::L) Fs Bs→wpList P ops Q rest a' w) :
    wpList P ops Q ({ dst:=some d,op:=.binOp .mul t x y t',type:=ty,pos:=pos,after:=after,guard:=none }::rest) a w :=
  Qi4 h hx hy hd fun a' h'=>k a' (h'.respell (by rw [Ur,←qYi]; congr 1; omega))
theorem Hw {x y:Operand} {p q:Nat} {t t':TypeId} (h:St K Ob w0 w a n L Fs Bs) (hx:ev L x=some (.int .u64 (p:Int))) (hy:ev L y=some (.int .u64 (q:Int))) (hq:q≤18446744073709551616) (hd:Nat.blt d n=true)
    (k:∀ a',St K Ob w0 w a' n ((d,.int .u64 (((p+18446744073709551616-q) % 18446744073709551616:Nat):Int))::L) Fs Bs→wpList P ops Q rest a' w) :
    wpList P ops Q ({ dst:=some d,op:=.binOp .sub t x y t',type:=ty,pos:=pos,after:=after,guard:=none }::rest) a w :=
  Qdz h hx hy hd fun a' h'=>k a' (h'.respell (by rw [Ur]; congr 1; omega))
theorem V7 {x y:Operand} {kd:IntKind} {p m:Nat} {t t':TypeId} (h:St K Ob w0 w a n L Fs Bs) (hx:ev L x=some (.int .u64 (p:Int))) (hy:ev L y=some (.int kd (m:Int))) (hm:m≤64) (hd:Nat.blt d n=true)
    (k:∀ a',St K Ob w0 w a' n ((d,.int .u64 ((p / 2^m:Nat):Int))::L) Fs Bs→wpList P ops Q rest a' w) :
    wpList P ops Q ({ dst:=some d,op:=.binOp .shr t x y t',type:=ty,pos:=pos,after:=after,guard:=none }::rest) a w :=
  Qp0 h hx hy hm hd fun a' h'=>k a' (h'.respell (by congr 1))
theorem Qkx {x y:Operand} {p q:Nat} {t t':TypeId} (h:St K Ob w0 w a n L Fs Bs) (hx:ev L x=some (.int .u64 (p:Int))) (hy:ev L y=some (.int .u64 (q:Int))) (hp:p<18446744073709551616) (hq:0<q) (hd:Nat.blt d n=true)
    (k:∀ a',St K Ob w0 w a' n ((d,.int .u64 ((p / q:Nat):Int))::L) Fs Bs→wpList P ops Q rest a' w) :
    wpList P ops Q ({ dst:=some d,op:=.binOp .quo t x y t',type:=ty,pos:=pos,after:=after,guard:=none }::rest) a w :=
  Qdw h hx hy (by omega) hd fun a' h'=>k a' (h'.respell (by
    have h1:p / q≤p:=qYk _ _
    rw [←Int.ofNat_tdiv]
    generalize p / q=z at *
    rw [Nm (by omega) (by omega)]))
theorem Qky {x y:Operand} {p q:Nat} {t t':TypeId} (h:St K Ob w0 w a n L Fs Bs) (hx:ev L x=some (.int .u64 (p:Int))) (hy:ev L y=some (.int .u64 (q:Int))) (hq:0<q) (hd:Nat.blt d n=true)
    (k:∀ a',St K Ob w0 w a' n ((d,.int .u64 ((p % q:Nat):Int))::L) Fs Bs→wpList P ops Q rest a' w) :
    wpList P ops Q ({ dst:=some d,op:=.binOp .rem t x y t',type:=ty,pos:=pos,after:=after,guard:=none }::rest) a w :=
  Qdx h hx hy (by omega) hd fun a' h'=>k a' (h'.respell (by rw [←Int.ofNat_tmod]))
theorem Cc {x y:Operand} {kd:IntKind} {p m:Nat} {t t':TypeId} (h:St K Ob w0 w a n L Fs Bs) (hx:ev L x=some (.int .u64 (p:Int))) (hy:ev L y=some (.int kd (m:Int))) (hm:m≤64) (hb:p*2^m<18446744073709551616) (hd:Nat.blt d n=true)
    (k:∀ a',St K Ob w0 w a' n ((d,.int .u64 ((p*2^m:Nat):Int))::L) Fs Bs→wpList P ops Q rest a' w) :
    wpList P ops Q ({ dst:=some d,op:=.binOp .shl t x y t',type:=ty,pos:=pos,after:=after,guard:=none }::rest) a w :=
  Qvw h hx hy hm hd fun a' h'=>k a' (h'.respell (by
    rw [Ur,show ((p:Int)*2^m)=((p*2^m:Nat):Int) from by push_cast; rfl]; congr 1; omega))
theorem Qoq {k q:Nat} (hq:q<4294967296):(4294967296*k) ||| q=4294967296*k+q:=by
  have:=Nat.two_pow_add_eq_or_of_lt (i:=32) (b:=q) (by omega) k
  simpa using this.symm
theorem Qi6 {x y:Operand} {k' p q:Nat} {t t':TypeId} (h:St K Ob w0 w a n L Fs Bs) (hx:ev L x=some (.int .u64 (p:Int))) (hy:ev L y=some (.int .u64 (q:Int))) (hk:p=4294967296*k') (hq:q<4294967296) (hp:p<18446744073709551616) (hd:Nat.blt d n=true)
    (k:∀ a',St K Ob w0 w a' n ((d,.int .u64 ((p+q:Nat):Int))::L) Fs Bs→wpList P ops Q rest a' w) :
    wpList P ops Q ({ dst:=some d,op:=.binOp .or t x y t',type:=ty,pos:=pos,after:=after,guard:=none }::rest) a w :=
  Je h hd (by
    have e1:(BitVec.ofInt 64 (p:Int)).toNat=p:=by rw [qYd]; omega
    have e2:(BitVec.ofInt 64 (q:Int)).toNat=q:=by rw [qYd]; omega
    have e3:IntKind.u64.wrap ((BitVec.ofInt 64 (p:Int) ||| BitVec.ofInt 64 (q:Int)).toNat:Int)=((p+q:Nat):Int):=by
      rw [BitVec.toNat_or,e1,e2,hk,Qoq hq,←hk,Nm (by omega) (by omega)]
    simp only [execOp,h.ev hx,h.ev hy,eqGuard,Go.binOp,Op.intBits,Sem.run_bind,Sem.run_pure,Result.andThen_ok,ne_eq,not_true_eq_false,if_false]
    simp [Op.intBits]
    exact e3) k
theorem J1 {T:TypeId} {x y:Operand} {g i v E:Nat} {o:List Nat} (h:St K Ob w0 w a n L Fs ((g,E,Y1 o)::Bs)) (hx:ev L x=some (.pointer (some ⟨g,0+i*1,none⟩)))
    (hy:ev L y=some (.int .u32 (v:Int))) (hs:∀ w,(Go.sizeOf T).run P w=.ok 1 w) (hi:i<o.length)
    (k:∀ w',St K Ob w0 w' a n L Fs ((g,E,Y1 (o.set i v))::Bs)→wpList P ops Q rest a w') :
    wpList P ops Q ({ dst:=none,op:=.store T x y,type:=ty,pos:=pos,after:=after,guard:=none }::rest) a w:=by
  have e:0+i*1=i:=by omega
  rw [e] at hx
  refine Z3 h 0 rfl hx hy hs rfl rfl (by rw [We]; rw [Nat.ble_eq]; exact hi) rfl fun w' h'=>k w' ?_
  have e2:upd (Y1 o) i (Value.int .u32 (v:Int)).cells.toList=Y1 (o.set i v):=Qqe o i v hi
  rw [e2] at h'
  exact h'
theorem St.u32s_cell {g E i x:Nat} {o:List Nat} (h:St K Ob w0 w a n L Fs ((g,E,Y1 o)::Bs)) (hx:o[i]? = some x):w.cell? ⟨g,0+i*1,none⟩=some (.int .u32 (x:Int)):=by
  rw [h.own_cell (i:=0) rfl,W7,show 0+i*1=i from by omega,hx]
  rfl
end Orr

namespace Orr
theorem Ub (o:List Nat) (i v:Nat):(o.set i v).take i=o.take i:=by
  apply qYb
  intro j
  rw [Ei,Ei]
  split
  · rw [qJf (by omega)]
  · rfl
theorem Hy (o:List Nat) (i v:Nat) (h:i<o.length):val ((o.set i v).take (i+1))=val (o.take i)+4294967296^i*v:=by
  rw [Xi (o.set i v) i v (by rw [qXr h]),Ub]
theorem Qjb (r:List Nat) (i:Nat) (h:r.length≤i):r.take (i+1)=r.take i:=by
  rw [Y0 (by omega),Y0 h]
theorem Qgx {r:List Nat} {i y:Nat} (hy:r[i]? = some y∨(r.length≤i∧y=0)):val (r.take (i+1))=val (r.take i)+4294967296^i*y:=by
  rcases hy with hy | ⟨h,rfl⟩
  · exact Xi r i y hy
  · rw [Qjb r i h]; omega
theorem T5 {o l r:List Nat} {i x y s cy:Nat} (ho:i<o.length) (hx:l[i]? = some x) (hy:r[i]? = some y∨(r.length≤i∧y=0))
    (h:val (o.take i)+cy*4294967296^i=val (l.take i)+val (r.take i)) (hs:s=x+cy+y) :
    val ((o.set i (s % 4294967296)).take (i+1))+(s / 4294967296)*4294967296^(i+1)=val (l.take (i+1))+val (r.take (i+1)):=by
  rw [Hy o i _ ho,Xi l i x hx,Qgx hy,Nc]
  have e:s=4294967296*(s / 4294967296)+s % 4294967296:=(qXi s 4294967296).symm
  generalize s / 4294967296=q at *
  generalize s % 4294967296=m at *
  generalize 4294967296^i=p at *
  grind
theorem Vi {o:List Nat} (h:∀ x∈o,x<4294967296) (i v:Nat) (hv:v<4294967296):∀ x∈o.set i v,x<4294967296:=by
  intro x hx
  rcases qYo hx with h' | h'
  · exact h x h'
  · omega
theorem Qgq {o l r:List Nat} {i x y s b:Nat} (ho:i<o.length) (hx:l[i]? = some x) (hy:r[i]? = some y∨(r.length≤i∧y=0)) (hxb:x<4294967296) (hyb:y<4294967296) (hb:b≤1)
    (h:val (o.take i)+val (r.take i)=val (l.take i)+b*4294967296^i) (hs:s=(x+18446744073709551616-b-y) % 18446744073709551616) :
    val ((o.set i (s % 4294967296)).take (i+1))+val (r.take (i+1))=val (l.take (i+1))+(s / 9223372036854775808)*4294967296^(i+1)∧s / 9223372036854775808≤1:=by
  rw [Hy o i _ ho,Xi l i x hx,Qgx hy,Nc]
  by_cases hlt:x<b+y
  · have e1:s=18446744073709551616+x-b-y:=by omega
    have e2:s / 9223372036854775808=1:=by omega
    have e3:s % 4294967296+b+y=x+4294967296:=by omega
    rw [e2]
    generalize s % 4294967296=m at *
    generalize 4294967296^i=p at *
    exact ⟨by grind,by omega⟩
  · have e1:s=x-b-y:=by omega
    have e2:s / 9223372036854775808=0:=by omega
    have e3:s % 4294967296+b+y=x:=by omega
    rw [e2]
    generalize s % 4294967296=m at *
    generalize 4294967296^i=p at *
    exact ⟨by grind,by omega⟩
theorem Oi (o:List Nat) (i v z:Nat) (hz:o[i]? = some z):val (o.set i v)+4294967296^i*z=val o+4294967296^i*v:=by
  have hi:i<o.length:=(Uy.1 hz).1
  have h1:=Rv o i z hz
  have h2:=Rv (o.set i v) i v (by rw [qXr hi])
  have e:(o.set i v).drop (i+1)=o.drop (i+1):=by
    apply qYb
    intro j
    rw [qXj,qXj,qJf (by omega)]
  rw [Ub,e] at h2
  rw [h1,h2]
  generalize 4294967296^i=p
  grind
theorem Su {x y:Nat} (hx:x<4294967296) (hy:y<4294967296):x*y≤18446744065119617025:=by
  have:=qJd (show x≤4294967295 by omega) (show y≤4294967295 by omega)
  omega
theorem Qon {o' r:List Nat} {i k x y z s cy V:Nat} (hz:o'[i+k]? = some z) (hy:r[k]? = some y)
    (h:val o'+cy*4294967296^(i+k)=V+4294967296^i*x*val (r.take k)) (hs:s=x*y+z+cy) :
    val (o'.set (i+k) (s % 4294967296))+(s / 4294967296)*4294967296^(i+(k+1))=V+4294967296^i*x*val (r.take (k+1)):=by
  have h1:=Oi o' (i+k) (s % 4294967296) z hz
  rw [Xi r k y hy,show i+(k+1)=(i+k)+1 from by omega,Nc]
  have e:s=4294967296*(s / 4294967296)+s % 4294967296:=(qXi s 4294967296).symm
  have hp:(4294967296:Nat)^(i+k)=4294967296^i*4294967296^k:=qJn _ _ _
  generalize s / 4294967296=q at *
  generalize s % 4294967296=m at *
  generalize val (o'.set (i+k) m)=A at *
  rw [hp] at h h1 ⊢
  clear hz hy hp
  generalize val (r.take k)=R at *
  generalize val o'=O at *
  generalize (4294967296:Nat)^i=pi at *
  generalize (4294967296:Nat)^k=pk at *
  grind
theorem Qom {o' l r:List Nat} {i x cy V:Nat} (hz:o'[i+r.length]? = some 0) (hx:l[i]? = some x) (hcy:cy<4294967296) (hV:V=val (l.take i)*val r)
    (h:val o'+cy*4294967296^(i+r.length)=V+4294967296^i*x*val (r.take r.length)) :
    val (o'.set (i+r.length) (cy % 4294967296))=val (l.take (i+1))*val r:=by
  have h1:=Oi o' (i+r.length) (cy % 4294967296) 0 hz
  rw [qJg hcy] at *
  rw [qJu] at h
  rw [Xi l i x hx]
  clear hz hx
  generalize (4294967296:Nat)^(i+r.length)=p at *
  generalize (4294967296:Nat)^i=pi at *
  grind
end Orr
namespace Orr
theorem Pd (l:List Nat) (k x:Nat) (hx:l[k]? = some x):val (l.drop k)=x+4294967296*val (l.drop (k+1)):=by
  obtain ⟨h,e⟩:=Uy.1 hx
  rw [qZw h,e]; rfl
theorem Av (o:List Nat) (i v k:Nat) (h:i<k):(o.set i v).drop k=o.drop k:=by
  apply qYb
  intro j
  rw [qXj,qXj,qJf (by omega)]
theorem Qop {l o:List Nat} {k x w r s:Nat} (hx:l[k]? = some x) (hxb:x<4294967296) (ho:k<o.length) (hw:0<w) (hr:r<w)
    (h:val (l.drop (k+1))=w*val (o.drop (k+1))+r) (hs:s=r*4294967296+x) :
    s / w<4294967296∧s % w<w∧val (l.drop k)=w*val ((o.set k (s / w % 4294967296)).drop k)+s % w:=by
  have h1:s<w*4294967296:=by
    have:(r+1)*4294967296≤w*4294967296:=O8 _ hr
    omega
  have h2:s / w<4294967296:=Nat.div_lt_of_lt_mul h1
  refine ⟨h2,Tv _ hw,?_⟩
  rw [qJg h2,Pd l k x hx,Pd (o.set k (s / w)) k (s / w) (qXr ho),Av o k _ (k+1) (by omega),h]
  have e:=qXi s w
  generalize s / w=q at *
  generalize s % w=m at *
  clear hx h
  grind
end Orr

namespace Orr
open Go
def Rel.intA:Rel Int:=(Rel.bool.prod Rel.natA).view fun p z=>z=if p.1=true then -(p.2:Int) else (p.2:Int)
def Rel.intN:Rel Int:=(Rel.bool.prod Rel.natN).view fun p z=>p.2=z.natAbs∧p.1=decide (z<0)
section
variable {w:World} {O:Nat→Prop} {cs:List Value} {z:Int}
theorem Qh8 {x:Nat} (h:Rel.natA.at_ w O cs x):∃ A n c,cs=[.slice A n c]:=by
  obtain ⟨l,h1,_⟩:=h
  obtain ⟨A,c,e⟩:=Qmq h1
  exact ⟨A,l.length,c,e⟩
theorem Ib (h:Rel.intA.at_ w O cs z):∃ b A n c,cs=[.bool b,.slice A n c]:=by
  obtain ⟨p,⟨c1,c2,rfl,h1,h2⟩,_⟩:=h
  obtain ⟨A,n,c,rfl⟩:=Qh8 h2
  have h1:c1=[.bool p.1]:=h1
  subst h1
  exact ⟨_,A,n,c,rfl⟩
theorem Qc2 (h:Rel.intN.at_ w O cs z):Rel.intA.at_ w O cs z:=by
  obtain ⟨p,⟨c1,c2,rfl,h1,h2⟩,h3,h4⟩:=h
  refine ⟨p,⟨c1,c2,rfl,h1,J7 h2⟩,?_⟩
  show z=if p.1=true then -(p.2:Int) else (p.2:Int)
  rw [h4,h3]
  split <;> rename_i hc <;> simp at hc <;> omega
theorem Xk (h:Rel.intN.at_ w O cs z):∃ b A n c,cs=[.bool b,.slice A n c]:=Ib (Qc2 h)
theorem Yb {b:Bool} {A:Option Addr} {n c:Nat} (h:Rel.intA.at_ w O [.bool b,.slice A n c] z):Rel.natA.at_ w O [.slice A n c] z.natAbs∧z=if b=true then -(z.natAbs:Int) else (z.natAbs:Int):=by
  obtain ⟨p,⟨c1,c2,e,h1,h2⟩,hz⟩:=h
  have h1:c1=[.bool p.1]:=h1
  subst h1
  simp only [Lm,qVv,List.cons.injEq,Value.bool.injEq] at e
  obtain ⟨e1,e2⟩:=e
  rw [e1,e2]
  have:z.natAbs=p.2:=by rw [hz]; split <;> omega
  rw [this]
  exact ⟨h2,hz⟩
theorem Qa1 {b:Bool} {A:Option Addr} {n c:Nat} (h:Rel.intN.at_ w O [.bool b,.slice A n c] z):Rel.natN.at_ w O [.slice A n c] z.natAbs∧b=decide (z<0):=by
  obtain ⟨p,⟨c1,c2,e,h1,h2⟩,h3,h4⟩:=h
  have h1:c1=[.bool p.1]:=h1
  subst h1
  simp only [Lm,qVv,List.cons.injEq,Value.bool.injEq] at e
  obtain ⟨e1,e2⟩:=e
  rw [e1,e2,←h3]
  exact ⟨h2,h4⟩
theorem Qjx {b:Bool} {A:Option Addr} {n c:Nat} (h:Rel.natN.at_ w O [.slice A n c] z.natAbs) (hb:b=decide (z<0)):Rel.intN.at_ w O [.bool b,.slice A n c] z :=
  ⟨(b,z.natAbs),⟨[.bool b],[.slice A n c],rfl,rfl,h⟩,rfl,hb⟩
theorem Bu:Rel.natN.at_ w O [.slice none 0 0] 0 :=
  ⟨[],⟨none,0,rfl,X2 _,by decide,by decide,fun h=>absurd h (by simp)⟩,⟨by simp,fun h=>absurd rfl h⟩,rfl⟩
theorem Sv {A:Option Addr} {n c x:Nat} (h:Rel.natN.at_ w O [.slice A n c] x):(n=0↔x=0)∧32*n≤sz x+31:=by
  obtain ⟨l,h1,h2,rfl⟩:=h
  obtain ⟨e,_,_⟩:=Jv h1
  subst e
  refine ⟨?_,K9 h2⟩
  rw [Fe h2]
  exact List.length_eq_zero_iff
end
def Q4 (b:Bool) (m:Nat):Int:=if b=true then -(m:Int) else (m:Int)
theorem H5 (b:Bool) (m:Nat):(Q4 b m).natAbs=m:=by unfold Q4; split <;> omega
theorem M9 (b:Bool) (m:Nat):decide (Q4 b m<0)=(b && decide (0<m)):=by
  unfold Q4
  cases b <;> simp <;> omega
def Xj (z:Int):Nat:=sz z.natAbs
theorem Xl (x y:Int):Xj (x*y)≤Xj x+Xj y:=by unfold Xj; rw [qKc]; exact Qi9 _ _
theorem L7 (x y:Int):Xj (x+y)≤max (Xj x) (Xj y)+1:=by
  unfold Xj
  exact Xd (J9 (Int.natAbs_add_le x y)) (Qd2 _ _)
theorem Xg (x:Int):Xj (-x)=Xj x:=by unfold Xj; rw [Int.natAbs_neg]
theorem L9 (x y:Int):Xj (x-y)≤max (Xj x) (Xj y)+1:=by
  rw [Int.sub_eq_add_neg]
  have:=L7 x (-y)
  rwa [Xg] at this
theorem Gg {x:Int} {k:Nat}:Xj x≤k↔x.natAbs<2^k:=Ks
theorem Qh7 {x y:Int} {b d:Bool} (hx:x=if b=true then -(x.natAbs:Int) else (x.natAbs:Int)) (hy:y=if d=true then -(y.natAbs:Int) else (y.natAbs:Int)) :
    x*y=Q4 (!(b == d)) (x.natAbs*y.natAbs):=by
  generalize x.natAbs=m at *
  generalize y.natAbs=k at *
  subst hx hy
  unfold Q4
  cases b <;> cases d <;> simp [qVa,Int.mul_neg]
end Orr

namespace Orr
open Go
variable {P:Program} {ops:Array Oper} {Q:Exit→Act→World→Prop}
variable {K Ob:Nat→Prop} {w0 w:World} {a:Act} {n:Nat} {L:List (Nat×Value)} {Fs:List Fact} {Bs:List Va} {rest:List Oper}
variable {d:Nat} {ty:TypeId} {pos:String} {after:Array Edge}
theorem Kc {x k:Nat} (h:2^k≤x):sz x=k+sz (x / 2^k):=by
  have e:∀ m,sz x≤m↔k+sz (x / 2^k)≤m:=by
    intro m
    by_cases hm:k≤m
    · obtain ⟨j,rfl⟩:=Nat.le.dest hm
      rw [Nat.add_le_add_iff_left,Ks,Ks,qVk (qXt (by decide)),←qJn,qVj j k]
    · constructor
      · intro h1
        rw [Ks] at h1
        have:=Nat.pow_lt_pow_right (a:=2) (by decide) (Nat.lt_of_not_le hm)
        omega
      · intro h1
        omega
  exact Nat.le_antisymm ((e _).2 (X2 _)) ((e _).1 (X2 _))
theorem Qja:∀ {l:List Nat} {y:Nat},Nrm l→l[l.length-1]? = some y→sz (val l)=32*(l.length-1)+sz y
  | [],y,_,h=>by simp at h
  |
   [x],y,_,h=>by
   simp at h
   subst h
   simp [val]
  |
   x::z::l,y,hn,h=>by
   have h32:(4294967296:Nat)=2^32:=by decide
   have hn':Nrm (z::l):=⟨fun u hu=>hn.1 u (Ge _ hu),fun _=>by
     obtain ⟨u,hu,h0⟩:=hn.2 (by simp)
     exact ⟨u,by simpa using hu,h0⟩⟩
   have ih:=Qja hn' (y:=y) (by simpa using h)
   have hx:=hn.1 x (by simp)
   have hp:0<val (z::l):=by
     rcases Hl (val (z::l)) with h0 | h0
     · exact absurd ((Fe hn').1 h0) (by simp)
     · exact h0
   have e:val (x::z::l)=x+4294967296*val (z::l):=rfl
   rw [Kc (k:=32) (by rw [e,←h32]; omega),show val (x::z::l) / 2^32=val (z::l) from by rw [e,←h32]; omega,ih]
   simp only [qXe]
   omega
theorem Ek {x y:Operand} {s:ByteArray} {i v:Nat} {t:TypeId} {kd:IntKind} (h:St K Ob w0 w a n L Fs Bs) (hx:ev L x=some (.string s)) (hy:ev L y=some (.int kd (i:Int)))
    (hu:∀ w,(underlying t).run P w=.ok .string w) (hi:(s[i]?).map (·.toNat)=some v) (hd:Nat.blt d n=true)
    (k:∀ a',St K Ob w0 w a' n ((d,.int .u8 (v:Int))::L) Fs Bs→wpList P ops Q rest a' w) :
    wpList P ops Q ({ dst:=some d,op:=.index t x y,type:=ty,pos:=pos,after:=after,guard:=none }::rest) a w :=
  Je h hd (by
    cases hs:s[i]? with
    | none=>rw [hs] at hi; cases hi
    |
     some b =>
     rw [hs] at hi
     simp only [qVy,Option.some.injEq] at hi
     subst hi
     simp [execOp,h.ev hx,h.ev hy,Instr.index,asIntOf,hu,hs]) k
theorem Qdy {x y:Operand} {kd kd':IntKind} {p m:Nat} {t t':TypeId} (h:St K Ob w0 w a n L Fs Bs) (hx:ev L x=some (.int kd (p:Int))) (hy:ev L y=some (.int kd' (m:Int))) (hm:m≤kd.bits) (hd:Nat.blt d n=true)
    (k:∀ a',St K Ob w0 w a' n ((d,.int kd ((p / 2^m:Nat):Int))::L) Fs Bs→wpList P ops Q rest a' w) :
    wpList P ops Q ({ dst:=some d,op:=.binOp .shr t x y t',type:=ty,pos:=pos,after:=after,guard:=none }::rest) a w :=
  Qp0 h hx hy hm hd fun a' h'=>k a' (by simpa using h')
theorem Qd0 {x:Operand} {kd:IntKind} {p:Nat} {s t:TypeId} (h:St K Ob w0 w a n L Fs Bs) (hx:ev L x=some (.int kd (p:Int))) (hp:p<256)
    (hus:∀ w,(underlying s).run P w=.ok (.int kd) w) (hut:∀ w,(underlying t).run P w=.ok (.int .u8) w) (hd:Nat.blt d n=true)
    (k:∀ a',St K Ob w0 w a' n ((d,.int .u8 (p:Int))::L) Fs Bs→wpList P ops Q rest a' w) :
    wpList P ops Q ({ dst:=some d,op:=.convert s t x,type:=ty,pos:=pos,after:=after,guard:=none }::rest) a w :=
  F1 h hx hus hut hd fun a' h'=>k a' (h'.respell (by
    have:IntKind.u8.wrap (p:Int)=(p:Int):=by
      simp [IntKind.wrap,IntKind.bits,IntKind.signed]
      omega
    rw [this]))
theorem Rz {x y:Int} {b d:Bool} (hx:x=if b=true then -(x.natAbs:Int) else (x.natAbs:Int)) (hy:y=if d=true then -(y.natAbs:Int) else (y.natAbs:Int)) (h:(b == d)=true) :
    x+y=Q4 b (x.natAbs+y.natAbs):=by
  unfold Q4
  cases b <;> cases d <;> simp at h hx hy ⊢ <;> omega
theorem To {x y:Int} {b d:Bool} (hx:x=if b=true then -(x.natAbs:Int) else (x.natAbs:Int)) (hy:y=if d=true then -(y.natAbs:Int) else (y.natAbs:Int)) (h:(b == d)=false) (hl:y.natAbs≤x.natAbs) :
    x+y=Q4 b (x.natAbs-y.natAbs):=by
  unfold Q4
  cases b <;> cases d <;> simp at h hx hy ⊢ <;> omega
theorem Hx {x y:Int} {b d:Bool} (hx:x=if b=true then -(x.natAbs:Int) else (x.natAbs:Int)) (hy:y=if d=true then -(y.natAbs:Int) else (y.natAbs:Int)) (h:(b == d)=false) (hl:x.natAbs<y.natAbs) :
    x+y=Q4 d (y.natAbs-x.natAbs):=by
  unfold Q4
  cases b <;> cases d <;> simp at h hx hy ⊢ <;> omega
def Mx (x y:Int):Int:=if x<y then -1 else if y<x then 1 else 0
theorem Qrj {w:World} {O:Nat→Prop} {b:Bool} {A:Option Addr} {n c:Nat} {z:Int} {x:Nat} (h:Rel.natA.at_ w O [.slice A n c] x) (hz:z=Q4 b x):Rel.intA.at_ w O [.bool b,.slice A n c] z :=
  ⟨(b,x),⟨[.bool b],[.slice A n c],rfl,rfl,h⟩,hz⟩
theorem Qfi {b:Bool} {z:Int} (hz:z=if b=true then -(z.natAbs:Int) else (z.natAbs:Int)):-z=Q4 (!b) z.natAbs:=by
  unfold Q4
  cases b <;> simp at hz ⊢ <;> omega
end Orr
namespace Orr
theorem Nh {x:Nat}:sz x=0↔x=0:=by
  constructor
  · intro h
    have:=Mm x
    rw [h] at this
    simpa using this
  · rintro rfl; rfl
theorem Qs0 (z:Int):Int.sign z=if sz z.natAbs=0 then 0 else if z<0 then -1 else 1:=by
  rcases qYa z 0 with h | h | h
  · rw [qJh h,if_neg (by rw [Nh]; omega),if_pos h]
  · subst h; rfl
  · rw [qJt h,if_neg (by rw [Nh]; omega),if_neg (by omega)]
theorem Nf (z:Int):(z<0∧Int.sign z=-1)∨(z=0∧Int.sign z=0)∨(0<z∧Int.sign z=1):=by
  rcases qYa z 0 with h | h | h
  · exact .inl ⟨h,qJh h⟩
  · subst h; exact .inr (.inl ⟨rfl,rfl⟩)
  · exact .inr (.inr ⟨h,qJt h⟩)
end Orr
namespace Orr
open Go
variable {P:Program} {ops:Array Oper} {Q:Exit→Act→World→Prop}
variable {K Ob:Nat→Prop} {w0 w:World} {a:Act} {n:Nat} {L:List (Nat×Value)} {Fs:List Fact} {Bs:List Va} {rest:List Oper}
variable {d:Nat} {ty:TypeId} {pos:String} {after:Array Edge}
theorem Qi3 {x y:Operand} {kd:IntKind} {p q r:Int} {ats:Array TypeId} (h:St K Ob w0 w a n L Fs Bs) (hx:ev L x=some (.int kd p)) (hy:ev L y=some (.int kd q)) (hr:(if q<p then q else p)=r) (hd:Nat.blt d n=true)
    (k:∀ a',St K Ob w0 w a' n ((d,.int kd r)::L) Fs Bs→wpList P ops Q rest a' w) :
    wpList P ops Q ({ dst:=some d,op:=.call { callee:=.builtin .min,args := #[x,y],argTypes:=ats },type:=ty,pos:=pos,after:=after,guard:=none }::rest) a w :=
  Je h hd (by subst hr; simp [execOp,resolve,invoke,h.ev hx,h.ev hy,builtin,Builtin.min_,Builtin.min2]) k
theorem Qi2 {x y:Operand} {kd:IntKind} {p q r:Int} {ats:Array TypeId} (h:St K Ob w0 w a n L Fs Bs) (hx:ev L x=some (.int kd p)) (hy:ev L y=some (.int kd q)) (hr:(if q>p then q else p)=r) (hd:Nat.blt d n=true)
    (k:∀ a',St K Ob w0 w a' n ((d,.int kd r)::L) Fs Bs→wpList P ops Q rest a' w) :
    wpList P ops Q ({ dst:=some d,op:=.call { callee:=.builtin .max,args := #[x,y],argTypes:=ats },type:=ty,pos:=pos,after:=after,guard:=none }::rest) a w :=
  Je h hd (by subst hr; simp [execOp,resolve,invoke,h.ev hx,h.ev hy,builtin,Builtin.max_,Builtin.max2]) k
theorem Qs4 {x y:Operand} {g o m c m' k' sz T T' E:Nat} {v:Value} {cs zs:List Value} {ats:Array TypeId} (h:St K Ob w0 w a n L Fs Bs) (i:Nat) (hi:Bs[i]? = some (g,Tag.ty T',cs)) (hx:ev L x=some (.slice (some ⟨g,o,none⟩) m c)) (hy:ev L y=some v)
    (hu:∀ w,(underlying T).run P w=.ok (.slice E) w) (hs:∀ w,(Go.sizeOf E).run P w=.ok sz w) (hat:ats[0]? = some T) (hlen:∀ w,(Builtin.lenOf v).run P w=.ok k' w) (hm':Nat.min k' m=m')
    (hsrc:Src w v sz m' zs) (hl:o+zs.length≤cs.length) (h1:∀ u∈zs,one u=true) (hd:Nat.blt d n=true)
    (k:∀ w' a',St K Ob w0 w' a' n ((d,.int .i64 (m':Int))::L) Fs (Bs.set i (g,T',upd cs o zs))→wpList P ops Q rest a' w') :
    wpList P ops Q ({ dst:=some d,op:=.call { callee:=.builtin .copy,args := #[x,y],argTypes:=ats },type:=ty,pos:=pos,after:=after,guard:=none }::rest) a w:=by
  obtain ⟨w',hr,hw⟩:=St.storeCells (P:=P) zs cs o 0 w Bs i h hi (by omega) h1
  refine Yl (w':=w') (v:=.int .i64 (m':Int)) rfl ?_ (k _ _ (hw.put _ hd))
  have hf:=Vh (P:=P) hsrc
  simp only [execOp,resolve,invoke,builtin,Builtin.copy_,Sem.run_bind,Sem.run_pure,Result.andThen_ok]
  simp [h.ev hx,h.ev hy,hat,hu,hs,hlen,hm',hf,hr,goInt,Sem.run_bind]
end Orr
namespace Orr
theorem Qn0 {a b q r:Int} (hb:0<b) (h:r+b*q=a) (h0:0≤r) (h1:r<b):a / b=q∧a % b=r:=(Int.ediv_emod_unique hb).2 ⟨h,h0,h1⟩
theorem Qcx {a b q r:Int} (hb:b≠0) (h:r+b*q=a) (h0:0≤r) (h1:r<b.natAbs):a / b=q∧a % b=r:=by
  rcases qYe hb with h' | h'
  · have:=Qn0 (a:=a) (b:=-b) (q:=-q) (r:=r) (by omega) (by rw [Int.neg_mul_neg]; exact h) h0 (by omega)
    rw [Int.ediv_neg,Int.emod_neg] at this
    exact ⟨by omega,this.2⟩
  · exact Qn0 h' h h0 (by omega)
section
variable {x y:Int} {d:Bool} (hy:y=if d=true then -(y.natAbs:Int) else (y.natAbs:Int)) (hp:0<y.natAbs)
include hy hp
theorem At (hx:x=if false=true then -(x.natAbs:Int) else (x.natAbs:Int)) :
    x / y=Q4 (!(false == d)) (x.natAbs / y.natAbs)∧x % y=Q4 false (x.natAbs % y.natAbs):=by
  have e:=qXi x.natAbs y.natAbs
  have hl:=Tv x.natAbs hp
  refine Qcx (by omega) ?_ ?_ ?_
  · generalize x.natAbs / y.natAbs=q at *
    generalize x.natAbs % y.natAbs=r at *
    generalize y.natAbs=n at *
    generalize x.natAbs=m at *
    subst hx hy e
    unfold Q4
    cases d <;> simp [qVa,Int.mul_neg] <;> omega
  · unfold Q4; simp only [qXd,if_false]; exact qYf _
  · unfold Q4; simp; omega
theorem Lh (hx:x=if true=true then -(x.natAbs:Int) else (x.natAbs:Int)) (h0:x.natAbs % y.natAbs=0) :
    x / y=Q4 (!(true == d)) (x.natAbs / y.natAbs)∧x % y=Q4 false (x.natAbs % y.natAbs):=by
  have e:=qXi x.natAbs y.natAbs
  refine Qcx (by omega) ?_ ?_ ?_
  · rw [h0] at e ⊢
    generalize x.natAbs / y.natAbs=q at *
    generalize y.natAbs=n at *
    generalize x.natAbs=m at *
    subst hx hy e
    unfold Q4
    cases d <;> simp [qVa,Int.mul_neg]
  · unfold Q4; simp only [qXd,if_false]; exact qYf _
  · unfold Q4; simp; omega
theorem Ar (hx:x=if true=true then -(x.natAbs:Int) else (x.natAbs:Int)) (h0:0<x.natAbs % y.natAbs) :
    x / y=Q4 (!(true == d)) (x.natAbs / y.natAbs+1)∧x % y=Q4 false (y.natAbs-x.natAbs % y.natAbs):=by
  have e:=qXi x.natAbs y.natAbs
  have hl:=Tv x.natAbs hp
  refine Qcx (by omega) ?_ ?_ ?_
  · generalize x.natAbs / y.natAbs=q at *
    generalize x.natAbs % y.natAbs=r at *
    generalize y.natAbs=n at *
    generalize x.natAbs=m at *
    subst hx hy e
    unfold Q4
    have e2:((n-r:Nat):Int)=(n:Int)-(r:Int):=by omega
    cases d <;> simp [qVa,Int.mul_neg,Int.mul_add,e2] <;> omega
  · unfold Q4; simp only [qXd,if_false]; exact qYf _
  · unfold Q4; simp; omega
end
end Orr
