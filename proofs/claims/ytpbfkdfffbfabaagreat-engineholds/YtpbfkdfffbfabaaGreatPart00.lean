import Derived.WalkKit
import Derived.MapKept
set_option linter.all false
theorem nmE{α : Sort _}(a : α) : ∃x, x = a := ⟨a, rfl⟩
theorem gxE{α : Type _}{l : List α}{i : Nat}(h : i < l.length) : ∃x, l[i]? = some x := ⟨_, List.getElem?_eq_getElem h⟩
abbrev Qa:=@Nat.le_trans
abbrev Qc:=@List.mem_of_getElem?
abbrev Qd:=@Option.bind_eq_some_iff
abbrev Qe:=@List.getD_eq_getElem?_getD
abbrev Qf:=@List.getElem?_eq_getElem
abbrev Qg:=@List.eq_nil_of_length_eq_zero
abbrev Qh:=@List.getElem?_eq_some_iff
abbrev Qi:=@List.mem_cons_of_mem
abbrev Qj:=@Nat.zero_le
abbrev Qk:=@List.mem_singleton
abbrev Ql:=@Nat.le_refl
abbrev Qm:=@List.mem_cons
abbrev Qn:=@List.mem_of_mem_take
abbrev Qo:=@List.take_of_length_le
abbrev Qp:=@Rat.le_refl
abbrev Qq:=@Rat.le_of_lt
abbrev Qr:=@List.mem_append
abbrev Qt:=@List.length_take
abbrev Qu:=@List.getElem?_eq_none
abbrev Qw:=@List.length_append
abbrev Qx:=@Nat.eq_of_beq_eq_true
abbrev Qy:=@List.mem_cons_self
abbrev Qz:=@Nat.mul_le_mul_right
abbrev Q0:=@Nat.eq_zero_or_pos
abbrev Q3:=@List.mem_of_mem_drop
abbrev Q4:=@List.getD_cons_succ
abbrev Q5:=@List.length_cons
abbrev Q6:=@List.take_length
abbrev Q7:=@Nat.lt_or_ge
abbrev Q8:=@List.mem_map
abbrev Q9:=@List.getElem?_map
abbrev Za:=@List.length_drop
abbrev Zb:=@Rat.mul_le_mul_of_nonneg_right
abbrev Zc:=@List.getElem?_append_left
abbrev Zd:=@Rat.natCast_le_natCast
abbrev Ze:=@List.length_map
abbrev Zf:=@Nat.mul_le_mul
abbrev Zg:=@Rat.div_mul_cancel
abbrev Zh:=@List.append_assoc
abbrev Zi:=@List.take_append_drop
abbrev Zj:=@Nat.le_of_ble_eq_true
abbrev Zk:=@List.pairwise_cons
abbrev Zl:=@Nat.mul_le_mul_left
abbrev Zm:=@List.mem_iff_getElem?
abbrev Zn:=@Rat.le_trans
abbrev Zo:=@List.drop_eq_getElem_cons
abbrev Zp:=@Nat.pow_le_pow_right
abbrev Zq:=@Nat.pow_succ
abbrev Zr:=@Bool.and_eq_true
abbrev Zs:=@List.mem_flatMap
abbrev Zt:=@Nat.mul_comm
abbrev Zu:=@List.getD_cons_zero
abbrev Zv:=@List.take_succ
abbrev Zw:=@Nat.zero_add
abbrev Zx:=@List.append_nil
abbrev Zy:=@List.getElem?_append_right
abbrev Zz:=@Nat.pow_pos
abbrev Z0:=@List.eq_of_mem_replicate
abbrev Z8:=@Nat.min_eq_left
abbrev Z9:=@Rat.num_divInt_den
abbrev Xa:=@List.map_cons
abbrev Xb:=@Rat.mul_le_mul_of_nonneg_left
abbrev Xc:=@Int.natAbs_natCast
abbrev Xd:=@List.length_set
abbrev Xe:=@Nat.lt_of_le_of_lt
abbrev Xf:=@Nat.mod_lt
abbrev Xg:=@List.cons_append
abbrev Xh:=@Nat.succ_mul
abbrev Xi:=@Rat.pow_succ
abbrev Xj:=@Nat.pow_add
abbrev Xk:=@Nat.lt_of_lt_of_le
abbrev Xl:=@Option.bind_some
abbrev Xm:=@Rat.natCast_nonneg
abbrev Xn:=@List.foldl_cons
abbrev Xo:=@Rat.pow_zero
abbrev Xp:=@List.getElem?_drop
abbrev Xq:=@Nat.div_add_mod
abbrev Xs:=@List.getElem_mem
abbrev Xt:=@List.length_nil
abbrev Xu:=@List.ext_getElem?
abbrev Xv:=@Int.natAbs_dvd_natAbs
abbrev Xw:=@Nat.mul_add
abbrev Xx:=@Rat.mul_pos
abbrev Xy:=@Nat.mul_assoc
abbrev Xz:=@List.getElem?_of_mem
abbrev X1:=@Nat.add_zero
abbrev X2:=@Nat.mul_lt_mul_of_pos_right
abbrev X3:=@List.flatten_append
abbrev X4:=@List.length_reverse
abbrev X5:=@List.map_congr_left
abbrev X6:=@Int.sign_eq_neg_one_of_neg
abbrev X7:=@Nat.mod_eq_of_lt
abbrev X8:=@List.map_nil
abbrev X9:=@List.mem_append_left
abbrev Ja:=@List.pairwise_append
abbrev Jb:=@Nat.blt_eq
abbrev Jc:=@Rat.intCast_lt_intCast
abbrev Jd:=@List.drop_zero
abbrev Je:=@Rat.intCast_mul
abbrev Jf:=@Int.mul_ediv_cancel_left
abbrev Jg:=@List.not_mem_nil
abbrev Jh:=@List.getElem?_range
abbrev Ji:=@List.length_replicate
abbrev Jj:=@Nat.add_mul
abbrev Jk:=@List.filter_cons_of_pos
abbrev Jl:=@List.getElem?_take
abbrev Jm:=@List.mem_filterMap
abbrev Jn:=@List.nil_append
abbrev Jo:=@Nat.div_lt_of_lt_mul
abbrev Jp:=@Rat.not_le
abbrev Jq:=@Int.sign_eq_one_of_pos
abbrev Jr:=@List.getElem?_set_self
abbrev Js:=@Option.map_eq_some_iff
abbrev Jt:=@Rat.intCast_le_intCast
abbrev Ju:=@List.getElem?_set
abbrev Jv:=@List.mem_append_right
abbrev Jw:=@Int.mul_ne_zero
abbrev Jx:=@List.map_append
abbrev Jy:=@Bool.false_eq_true
abbrev Jz:=@Rat.mul_lt_mul_of_pos_right
abbrev J0:=@List.getElem?_cons_succ
abbrev J1:=@Nat.add_sub_cancel_left
abbrev J3:=@List.mem_reverse
abbrev J4:=@List.replicate_succ
abbrev J5:=@Int.mul_eq_zero
abbrev J6:=@List.getElem?_eq_none_iff
abbrev J7:=@List.mem_or_eq_of_mem_set
abbrev J8:=@Nat.div_le_self
abbrev J9:=@Int.emod_lt_of_pos
abbrev Ya:=@List.all_eq_true
abbrev Yb:=@Nat.add_comm
abbrev Yc:=@Nat.le_of_not_lt
abbrev Yd:=@List.map_take
abbrev Ye:=@Nat.mul_one
abbrev Yf:=@Int.natAbs_mul
abbrev Yg:=@List.drop_drop
abbrev Yh:=@Int.emod_eq_zero_of_dvd
abbrev Yi:=@List.filter_cons_of_neg
abbrev Yj:=@List.getElem?_replicate
abbrev Yk:=@List.getLast?_cons_cons
abbrev Yl:=@Nat.le_mul_of_pos_right
abbrev Ym:=@Int.lt_trichotomy
abbrev Yn:=@List.flatMap_cons
abbrev Yo:=@Rat.mul_eq_zero
abbrev Yp:=@List.length_pos_iff
abbrev Yq:=@List.drop_eq_nil_of_le
abbrev Ys:=@Nat.le_of_lt
abbrev Yt:=@Nat.mul_pos
abbrev Yu:=@Nat.pow_zero
abbrev Yv:=@Nat.zero_mul
abbrev Yw:=@Rat.div_def
abbrev Yx:=@List.getElem?_toArray
abbrev Yy:=@Nat.add_sub_cancel
abbrev Yz:=@List.pairwise_iff_getElem
abbrev Y0:=@Int.le_refl
abbrev Y3:=@Int.emod_nonneg
abbrev Y4:=@Int.zero_mul
abbrev Y5:=@List.getElem?_set_ne
abbrev Y6:=@List.length_filterMap_le
abbrev Y7:=@List.mem_filter
abbrev Y8:=@Option.map_some
abbrev Y9:=@List.reverse_cons
abbrev Vb:=@List.take_add_one
abbrev Vd:=@Nat.add_assoc
abbrev Ve:=@List.getLast?_eq_some_getLast
abbrev Vf:=@List.drop_length
abbrev Vg:=@Nat.mul_zero
abbrev Vh:=@List.length_filter_le
abbrev Vi:=@Int.eq_of_mul_eq_mul_right
abbrev Vj:=@Int.tmod_eq_emod_of_nonneg
abbrev Vk:=@List.flatten_cons
abbrev Vl:=@Int.mul_neg_of_pos_of_neg
abbrev Vm:=@List.getLast?_eq_some_iff
abbrev Vn:=@Int.one_mul
abbrev Vo:=@Int.dvd_mul_left
abbrev Vp:=@List.getElem?_take_of_lt
abbrev Vq:=@Rat.le_total
abbrev Vr:=@List.take_succ_cons
abbrev Vs:=@Int.dvd_of_emod_eq_zero
abbrev Vu:=@List.getElem?_cons_zero
abbrev Vv:=@List.map_drop
abbrev Vw:=@Int.natCast_mul
abbrev Vx:=@List.filter_append
abbrev Vy:=@Nat.eq_or_lt_of_le
abbrev Vz:=@Nat.le_antisymm
abbrev V0:=@Nat.lt_or_eq_of_le
abbrev V1:=@Rat.intCast_neg
abbrev V2:=@Int.mul_neg
abbrev V3:=@List.length_eq_one_iff
abbrev V4:=@Nat.ne_of_beq_eq_false
abbrev V5:=@Rat.natCast_lt_natCast
abbrev V6:=@List.take_append_of_le_length
abbrev V7:=@Int.dvd_mul_right
abbrev V8:=@List.foldl_append
abbrev V9:=@Nat.lt_trichotomy
abbrev Ka:=@Int.ediv_one
abbrev Kb:=@Int.mul_comm
abbrev Kc:=@List.length_singleton
abbrev Kd:=@List.map_set
abbrev Ke:=@List.take_zero
abbrev Kf:=@Nat.div_lt_iff_lt_mul
abbrev Kg:=@Rat.mul_nonneg
abbrev Kh:=@List.dropLast_concat
abbrev Ki:=@List.mem_iff_getElem
abbrev Kj:=@List.mem_of_getLast?
abbrev Kk:=@Nat.div_eq_of_lt
abbrev Kl:=@Nat.min_eq_right
abbrev Km:=@Option.getD_some
abbrev Kn:=@Int.dvd_trans
abbrev Ko:=@Int.tdiv_eq_ediv_of_nonneg
abbrev Kq:=@Int.neg_mul
abbrev Kr:=@List.mem_map_of_mem
abbrev Ks:=@Int.mul_pos_of_neg_of_neg
abbrev Kt:=@Nat.add_mul_mod_self_left
abbrev Ku:=@Rat.intCast_add
abbrev Kv:=@Int.lt_or_le
abbrev Kw:=@Int.lt_or_lt_of_ne
abbrev Kx:=@Int.mul_zero
abbrev Ky:=@List.set_cons_succ
abbrev Kz:=@Nat.lt_of_lt_of_eq
abbrev K0:=@Nat.sub_self
abbrev K6:=@Nat.succ_pos
abbrev K7:=@List.mem_range
abbrev K8:=@Int.eq_ofNat_of_zero_le
abbrev K9:=@List.pairwise_singleton
abbrev Wa:=@Nat.le_mul_of_pos_left
abbrev Wb:=@Nat.pow_mul
abbrev Wc:=@List.getD_nil
abbrev Wd:=@List.sum_cons
abbrev We:=@Nat.le_of_dvd
abbrev Wg:=@Nat.le_add_right
abbrev Wh:=@Option.getD_none
abbrev Wi:=@List.filterMap_append
abbrev Wj:=@List.pairwise_reverse
abbrev Wl:=@Nat.le_div_iff_mul_le
abbrev Wm:=@List.replicate_append_replicate
abbrev Wn:=@Bool.or_eq_true
abbrev Wo:=@Int.dvd_refl
abbrev Wp:=@Int.mul_ediv_cancel'
abbrev Wq:=@List.range_succ
abbrev Ws:=@Nat.add_mul_div_left
abbrev Wu:=@Nat.le_add_left
abbrev Wv:=@Nat.mod_add_div
abbrev Ww:=@Nat.sub_zero
abbrev Wx:=@List.drop_append_of_le_length
abbrev Wy:=@List.drop_succ_cons
abbrev Wz:=@List.replicate_zero
abbrev W0:=@Nat.pow_le_pow_left
abbrev W3:=@Rat.le_iff_lt_or_eq
abbrev W4:=@Bool.not_false
abbrev W5:=@Rat.den_divInt
abbrev W6:=@Int.mul_one
abbrev W7:=@Int.mul_pos
abbrev W8:=@Nat.one_mul
abbrev W9:=@Int.lt_or_gt_of_ne
abbrev Ua:=@Int.ofNat_dvd_left
abbrev Ub:=@Nat.two_pow_add_eq_or_of_lt
abbrev Uc:=@Rat.mul_inv_cancel
abbrev Ud:=@Bool.eq_false_iff
abbrev Ue:=@Int.gcd_dvd_right
abbrev Uf:=@List.size_toArray
abbrev Ug:=@Rat.not_lt
abbrev Uh:=@Int.pow_succ
abbrev Ui:=@Int.pow_zero
abbrev Uj:=@List.length_tail
abbrev Uk:=@Nat.gcd_dvd_left
abbrev Ul:=@Nat.le_max_right
abbrev Um:=@Nat.lt_of_not_le
abbrev Un:=@Nat.min_le_right
abbrev Uo:=@Nat.mul_succ
abbrev Up:=@Rat.mul_comm
abbrev Uq:=@Int.neg_mul_neg
abbrev Ur:=@Nat.mul_add_div
abbrev Us:=@Nat.mul_add_mod
abbrev Ut:=@Nat.not_lt_zero
abbrev Uu:=@Int.dvd_neg
abbrev Uv:=@Int.neg_dvd
abbrev Uw:=@Int.one_dvd
theorem U6{p : Prop}[Decidable p](h : ¬p := by omega) : decide p = false := decide_eq_false h
theorem U7{p : Prop}[Decidable p](h : p := by omega) : decide p = true := decide_eq_true h
abbrev U8:=List Int
abbrev U9:=List (List Int)
abbrev Fa:=List Nat
abbrev Fb:=List Rat
abbrev Fc:=List (List Rat)
abbrev Fi:Fa:=[0,1,2,3,4,5,6]
abbrev Fj:Fa:=[9,10,11,12,13,14,15]
abbrev Fl:Fa:=[0,1,2,3,4,5,6,9,10,11,12,13,14,15]
variable{p:Prop}
theorem Fo(h : p := by omega): p := h
theorem Fp(h : p := by decide): p := h
theorem Fq(h : p := by simp;omega): p := h
theorem Ft(h : p := by simp): p := h
theorem Fu(h : p := by grind): p := h
theorem Fv(h : p := by dsimp only;omega): p := h
namespace Orr
open Go
inductive F2 {α β:Type} (R:α->β->Prop):List α->List β->Prop
 |nil:F2 R [] []
 |cons {a:α} {b:β} {l:List α} {r:List β}:R a b->F2 R l r->F2 R (a::l) (b::r)
def upd{α:Type}:List α->Nat->List α->List α
 |l,_,[]=>l
 | [],_,_::_=>[]
 |_::l,0,v::vs=>v::upd l 0 vs
 |u::l,i+1,vs=>u::upd l i vs
theorem GB{α:Type}(cs:List α)(off:Nat)(vs:List α):(upd cs off vs).length=cs.length:=by
 induction cs generalizing off vs with
 |nil=>cases vs <;> simp[upd]
 |
  cons c cs ih=>cases vs with
  |nil=>simp[upd]
  |cons v vs=>cases off <;> simp[upd,ih]
namespace F2
variable{α β:Type}{R S:α->β->Prop}
variable{l:List α}{r:List β}
theorem len(h:F2 R l r):l.length=r.length:=by induction h <;> simp[*]
theorem imp(h:F2 R l r)(f:∀a b,b∈r->R a b->S a b):F2 S l r:=by
 induction h with
 |nil=>exact .nil
 |cons h0 _ c=>exact .cons (f _ _ (.head _) h0) (c λa b hb=>f a b (.tail _ hb))
theorem get(h:F2 R l r):∀{j:Nat} {b:β},r[j]? = some b->∃a,l[j]? = some a/\R a b:=by
 induction h with
 |nil=>intro j b h;simp at h
 |
  cons h0 _ ih =>
  intro j b h;cases j with
  |zero=>simp at h;subst h;exact⟨_,rfl,h0⟩
  |succ j=>simpa using ih (by simpa using h)
theorem get'(h:F2 R l r){j:Nat}{a:α}{b:β}(ha:l[j]? = some a)(hb:r[j]? = some b):R a b:=by
 obtain⟨c,h1,h2⟩:=h.get hb;rw[ha]at h1;injection h1 with h1;subst h1;exact h2
theorem of:∀{l:List α} {r:List β},l.length=r.length->(∀(j:Nat) (a:α) (b:β),l[j]? = some a->r[j]? = some b->R a b)->F2 R l r
 | [],[],_,_=>.nil
 |_::_,_::_,hl,h=>.cons (h 0 _ _ rfl rfl) (of (by simpa using hl) λj a b ha hb=>h (j+1) a b (by simpa using ha) (by simpa using hb))
 | [],_::_,hl,_=>by simp at hl
 |_::_,[],hl,_=>by simp at hl
theorem append{l':List α}{a:List β}(h:F2 R l r)(c:F2 R l' a):F2 R (l++l') (r++a):=by
 induction h with
 |nil=>exact c
 |cons h0 _ b=>exact .cons h0 b
theorem drop(k:Nat)(h:F2 R l r):F2 R (l.drop k) (r.drop k):=by
 induction h generalizing k with
 |nil=>simp;exact .nil
 |
  cons h0 h ih=>cases k with
  |zero=>exact .cons h0 h
  |succ k=>exact ih k
theorem take(k:Nat)(h:F2 R l r):F2 R (l.take k) (r.take k):=by
 induction h generalizing k with
 |nil=>simp;exact .nil
 |
  cons h0 h ih=>cases k with
  |zero=>exact .nil
  |succ k=>exact .cons h0 (ih k)
variable{cs:List α}{xs:List β}
theorem upd(h:F2 R cs xs):∀{vs:List α} {a:List β} (off:Nat),F2 R vs a->F2 R (Orr.upd cs off vs) (Orr.upd xs off a):=by
 induction h with
 |nil=>intro vs a off b;cases b <;> exact .nil
 |
  cons h0 h ih =>
  intro vs a off b;cases b with
  |nil=>exact .cons h0 h
  |
   cons g0 g=>cases off with
   |zero=>exact .cons g0 (ih 0 g)
   |succ off=>exact .cons h0 (ih off (.cons g0 g))
theorem set(h:F2 R cs xs){a:α}{b:β}(c:R a b)(k:Nat):F2 R (cs.set k a) (xs.set k b):=by
 induction h generalizing k with
 |nil=>exact .nil
 |
  cons h0 h ih=>cases k with
  |zero=>exact .cons c h
  |succ k=>exact .cons h0 (ih k)
end F2
inductive LV where
 |int (k:IntKind) (n:Int)
 |bool (b:Bool)
 |str (s:ByteArray)
 |nilp
 |nils
 |any
 |row (l:List (List LV))
 |frow (l:List (List LV))
 |sh (l:List LV)
 |fn (f:Nat) (pre post:List LV)
 |ow (i off:Nat)
 |orow (i sz:Nat) (p:Option (Nat×Nat))
 |oel (i sz k off:Nat)
 |ofn (f:Nat) (pre post:List LV)
 |omap (i:Nat)
 |oif (t i off:Nat)
def one:Value->Bool
 | .agg _=>false
 | .tuple _=>false
 |_=>true
inductive LRep (w:World) (M:Nat->Prop):Value->LV->Prop
 |any (v:Value) (h:Orr.one v=true):LRep w M v .any
 |int (k:IntKind) (n:Int):LRep w M (.int k n) (.int k n)
 |bool (b:Bool):LRep w M (.bool b) (.bool b)
 |str (s:ByteArray):LRep w M (.string s) (.str s)
 |nilp:LRep w M (.pointer none) .nilp
 |nils:LRep w M (.slice none 0 0) .nils
 |row (A:Option Addr) (c sz b o:Nat) (l:List (List LV)) (f:Nat->Nat->Value) (hc:l.length≤c) (hc63:c<2^63) (hs:∀cs∈l,cs.length=sz)
  (hA:0<l.length->A=some ⟨b,o,none⟩/\b<w.heap.size/\¬M b)
  (hcell:∀(i:Nat) (cs:List LV),l[i]? = some cs->∀j,j<cs.length->w.cell? ⟨b,o+i*sz+j,none⟩=some (f i j))
  (hrep:∀(i:Nat) (cs:List LV),l[i]? = some cs->∀(j:Nat) (x:LV),cs[j]? = some x->LRep w M (f i j) x) :
  LRep w M (.slice A l.length c) (.row l)
 |frow (A:Option Addr) (l:List (List LV)) (h:LRep w M (.slice A l.length l.length) (.row l)):LRep w M (.slice A l.length l.length) (.frow l)
 |sh (b o:Nat) (l:List LV) (f:Nat->Value) (hb:b<w.heap.size) (hM:¬M b)
  (hcell:∀j,j<l.length->w.cell? ⟨b,o+j,none⟩=some (f j)) (hrep:∀(j:Nat) (x:LV),l[j]? = some x->LRep w M (f j) x) :
  LRep w M (.pointer (some ⟨b,o,none⟩)) (.sh l)
 |fn (f:Nat) (pre post:List LV) (vs us:List Value) (h1:vs.length=pre.length) (h2:us.length=post.length)
  (h3:∀(j:Nat) (v:Value) (x:LV),vs[j]? = some v->pre[j]? = some x->LRep w M v x)
  (h4:∀(j:Nat) (v:Value) (x:LV),us[j]? = some v->post[j]? = some x->LRep w M v x) :
  LRep w M (.func (.func f) vs.toArray us.toArray) (.fn f pre post)
def Le(w:World)(M:Nat->Prop)(w':World)(M':Nat->Prop):Prop :=
 w.heap.size<=w'.heap.size/\(∀b,b<w.heap.size->¬M b->w'.heap[b]? = w.heap[b]?)/\(∀b,b<w.heap.size->M' b->M b)
theorem Le.refl(w:World)(M:Nat->Prop):Le w M w M:=⟨Ql _,λ_ _ _=>rfl,λ_ _ h=>h⟩
structure Grow(w w':World):Prop where
 size:w.heap.size<=w'.heap.size
 keep:∀b,b<w.heap.size->w'.heap[b]? = w.heap[b]?
 io:w'.os=w.os/\w'.output=w.output
theorem Grow.le{w w':World}(h:Grow w w')(M:Nat->Prop):Le w M w' M:=⟨h.1,λb hb _=>h.2 b hb,λ_ _ h=>h⟩
theorem jL{w w':World}{M M':Nat->Prop}(a:Le w M w' M'){b o:Nat}(hb:b<w.heap.size)(hM:¬M b):w'.cell? ⟨b,o,none⟩=w.cell? ⟨b,o,none⟩:=by
 simp only[World.cell?];rw[a.2.1 b hb hM]
section
variable{w w':World}{M M':Nat->Prop}
variable{v:Value}
theorem LRep.keep(a:Le w M w' M'){x:LV}(h:LRep w M v x):LRep w' M' v x:=by
 induction h with
 |any v h=>exact .any v h
 |int k n=>exact .int k n
 |bool b=>exact .bool b
 |str s=>exact .str s
 |nilp=>exact .nilp
 |nils=>exact .nils
 |
  row A c sz b o l f hc hc63 hs hA hcell hrep d =>
  refine .row A c sz b o l f hc hc63 hs (λh0=>?_) (λi cs hi j e=>?_) d
  .obtain⟨h1,h2,h3⟩:=hA h0;exact⟨h1,Xk h2 a.1,λm=>h3 (a.2.2 b h2 m)⟩
  .obtain⟨_,h2,h3⟩:=hA (Xe (Qj _) (Qh.1 hi).1);rw[jL a h2 h3];exact hcell i cs hi j e
 |frow A l h d=>exact .frow A l d
 |
  sh b o l f hb hM hcell hrep d =>
  refine .sh b o l f (Xk hb a.1) (λm=>hM (a.2.2 b hb m)) (λj e=>?_) d;rw[jL a hb hM];exact hcell j e
 |fn f pre post vs us h1 h2 h3 h4 p g=>exact .fn f pre post vs us h1 h2 p g
theorem LRep.one{v:Value}{x:LV}(h:LRep w M v x):Orr.one v=true:=by cases h <;> first|rfl|assumption
theorem KD(h:LRep w M v .nils):LRep w M v (.row []):=by
 cases h;exact .row none 0 0 0 0 [] (λ_ _=>undef) (Ql _) Fp Ft (λh=>absurd h Ft) (λi cs hi=>by simp at hi) (λi cs hi=>by simp at hi)
end
abbrev Li:=Nat->Option (Option (Nat×Nat)×Nat)
def YRep(w:World)(M:Nat->Prop)(E:Li)(v:Value):LV->Prop
 | .ow i off=>∃g c m,E i=some (some (g,c),m)/\v=.pointer (some ⟨g,off,none⟩)
 |x=>LRep w M v x
def dZ(v:Value)(sz lo len:Nat):Option (Nat×Nat)->Prop
 |none=>v=.slice none 0 0/\lo=0/\len=0
 |some (g,c)=>lo+len<=c/\∃a,v=.slice (some ⟨g,a,none⟩) len (c-lo)/\(lo=0\/lo<c->a=lo*sz)
def XRep(w:World)(M:Nat->Prop)(E:Li)(v:Value):LV->Prop
 | .ow i off=>∃g c m,E i=some (some (g,c),m)/\v=.pointer (some ⟨g,off,none⟩)
 | .orow i sz p=>∃q m,E i=some (q,m)/\(p.getD (0,m)).1+(p.getD (0,m)).2<=m/\dZ v sz (p.getD (0,m)).1 (p.getD (0,m)).2 q
 | .oel i sz k off=>∃g c m,E i=some (some (g,c),m)/\v=.pointer (some ⟨g,k*sz+off,none⟩)
 | .omap i=>∃g c m,E i=some (some (g,c),m)/\v=.map (some g)
 | .oif t i off=>∃g c m,E i=some (some (g,c),m)/\v=.iface t (.pointer (some ⟨g,off,none⟩))
 | .ofn f pre post=>∃vs us:List Value,v=.func (.func f) vs.toArray us.toArray/\F2 (YRep w M E) vs pre/\F2 (YRep w M E) us post
 |x=>LRep w M v x
def LV.free:LV->Bool
 | .ow .. => false
 | .orow .. => false
 | .oel .. => false
 | .ofn .. => false
 | .omap _=>false
 | .oif .. => false
 |_=>true
def VJ:List LV->List Nat
 | []=>[]
 | .ow i _::l=>i::VJ l
 |_::l=>VJ l
def LV.ids:LV->List Nat
 | .ow i _=>[i]
 | .orow i _ _=>[i]
 | .oel i _ _ _=>[i]
 | .omap i=>[i]
 | .oif _ i _=>[i]
 | .ofn _ a b=>VJ a++VJ b
 |_=>[]
section
variable{w w':World}{M M':Nat->Prop}{E E':Li}
variable{v:Value}
theorem XRep.free{x:LV}(h:XRep w M E v x)(hx:x.free=true):LRep w M v x:=by cases x <;> first|exact h|cases hx
theorem LRep.x{v:Value}{x:LV}(h:LRep w M v x):XRep w M E v x:=by cases x <;> first|exact h|cases h
theorem YRep.keep(a:Le w M w' M'):∀{vs:List Value} {xs:List LV},F2 (YRep w M E) vs xs->(∀i∈VJ xs,E i≠none->E' i=E i)->F2 (YRep w' M' E') vs xs
 |_,_,.nil,_=>.nil
 |
  _,x::_,.cons h0 h,hE=>by
  refine .cons ?_ (YRep.keep a h λi hi=>hE i (by cases x <;> first|exact hi|exact .tail _ hi));cases x <;> first|exact LRep.keep a h0|skip
  obtain⟨g,c,m,e,rfl⟩:=h0;exact⟨g,c,m,(hE _ (.head _) (by simp[e])).trans e,rfl⟩
theorem XRep.keep(b:Le w M w' M'){x:LV}(h:XRep w M E v x)(a:∀i∈x.ids,E i≠none->E' i=E i):XRep w' M' E' v x:=by
 cases x <;> first|exact LRep.keep b h|skip
 .obtain⟨g,c,m,e,rfl⟩:=h;exact⟨g,c,m,(a _ (.head _) (by simp[e])).trans e,rfl⟩
 .obtain⟨q,m,e,h⟩:=h;exact⟨q,m,(a _ (.head _) (by simp[e])).trans e,h⟩
 .obtain⟨g,c,m,e,rfl⟩:=h;exact⟨g,c,m,(a _ (.head _) (by simp[e])).trans e,rfl⟩
 .obtain⟨vs,us,rfl,h1,h2⟩:=h;exact⟨vs,us,rfl,YRep.keep b h1 λi hi=>a i (Qr.2 (.inl hi)),YRep.keep b h2 λi hi=>a i (Qr.2 (.inr hi))⟩
 .obtain⟨g,c,m,e,rfl⟩:=h;exact⟨g,c,m,(a _ (.head _) (by simp[e])).trans e,rfl⟩
 .obtain⟨g,c,m,e,rfl⟩:=h;exact⟨g,c,m,(a _ (.head _) (by simp[e])).trans e,rfl⟩
theorem XRep.one{v:Value}{x:LV}(h:XRep w M E v x):Orr.one v=true:=by
 cases x <;> first|exact LRep.one h|skip
 .obtain⟨g,c,m,e,rfl⟩:=h;rfl
 .obtain⟨q,m,e,_,h⟩:=h;rcases q with _|⟨g,c⟩
  .rw[h.1];rfl
  .obtain⟨_,a,e,_⟩:=h;rw[e];rfl
 .obtain⟨g,c,m,e,rfl⟩:=h;rfl
 .obtain⟨vs,us,rfl,_⟩:=h;rfl
 .obtain⟨g,c,m,e,rfl⟩:=h;rfl
 .obtain⟨g,c,m,e,rfl⟩:=h;rfl
theorem F2.xone{vs:List Value}{xs:List LV}(h:F2 (XRep w M E) vs xs):∀u∈vs,Orr.one u=true:=by
 intro u hu;obtain⟨j,a⟩:=Zm.1 hu;have hl:j<xs.length:=by rw[<-h.len];exact(Qh.1 a).1
 exact(h.get' a (Qf hl)).one
end
inductive TV where
 |one (x:LV)
 |agg (xs:List LV)
def TV.ids:TV->List Nat
 | .one x=>x.ids
 | .agg xs=>xs.flatMap LV.ids
def TRep(w:World)(M:Nat->Prop)(E:Li)(v:Value):TV->Prop
 | .one x=>XRep w M E v x
 | .agg xs=>∃vs:List Value,v=.agg vs.toArray/\F2 (XRep w M E) vs xs
inductive AV where
 |v (t:TV)
 |tup (l:List TV)
 |cnd (b:Bool) (t:TV)
def AV.ids:AV->List Nat
 | .v t=>t.ids
 | .tup l=>l.flatMap TV.ids
 | .cnd _ t=>t.ids
def ARep(w:World)(M:Nat->Prop)(E:Li)(v:Value):AV->Prop
 | .v t=>TRep w M E v t
 | .tup l=>∃vs:List Value,v=.tuple vs.toArray/\F2 (TRep w M E) vs l
 | .cnd b t=>(b=true->TRep w M E v t)/\(b=false->v=undef)
section
variable{w w':World}{M M':Nat->Prop}{E E':Li}
theorem F2.xkeep(a:Le w M w' M'){vs:List Value}{xs:List LV}(h:F2 (XRep w M E) vs xs)(c:∀i∈xs.flatMap LV.ids,E i≠none->E' i=E i):F2 (XRep w' M' E') vs xs :=
 h.imp λ_ b hb h=>h.keep a λi hi=>c i (Zs.2 ⟨b,hb,hi⟩)
variable{v:Value}
theorem TRep.keep(a:Le w M w' M'){x:TV}(h:TRep w M E v x)(b:∀i∈x.ids,E i≠none->E' i=E i):TRep w' M' E' v x:=by
 cases x with
 |one x=>exact XRep.keep a h b
 |agg xs=>obtain⟨vs,e,h⟩:=h;exact⟨vs,e,h.xkeep a b⟩
theorem ARep.keep(a:Le w M w' M'){x:AV}(h:ARep w M E v x)(c:∀i∈x.ids,E i≠none->E' i=E i):ARep w' M' E' v x:=by
 cases x with
 |v t=>exact TRep.keep a h c
 |tup l=>obtain⟨vs,e,h⟩:=h;exact⟨vs,e,h.imp λ_ b hb h=>h.keep a λi hi=>c i (Zs.2 ⟨b,hb,hi⟩)⟩
 |cnd b t=>exact⟨λhb=>TRep.keep a (h.1 hb) c,h.2⟩
end
inductive OB where
 |gone
 |blk (T:TypeId) (xs:List LV)
 |row (fx:Bool) (T:TypeId) (sz:Nat) (ls:List (List LV))
 |mpb (es:List (List Int×LV))
def DG:LV->Value
 | .int k n=>.int k n
 | .bool b=>.bool b
 |_=>undef
def Dw(es:List (List Int×LV)):List (Value×Value):=es.map λe=>(.agg (e.1.map (Value.int .i64)).toArray,DG e.2)
def OB.lv:OB->Bool
 | .gone=>false
 |_=>true
def OB.ids:OB->List Nat
 | .blk _ xs=>xs.flatMap LV.ids
 |_=>[]
def OB.mv:OB->Bool
 | .row fx _ _ _ => !fx
 |_=>false
def Q6h(w:World)(M:Nat->Prop)(T sz:Nat)(ls:List (List LV)):Option (Nat×Nat)->Prop
 |none=>ls=[]
 |some (g,c)=>∃(vss:List (List Value)) (ex:List Value),F2 (F2 (LRep w M)) vss ls/\w.heap[g]? = some (.cells (vss.flatten++ex).toArray T (0,0))/\(vss.flatten++ex).length=c*sz/\ls.length<=c/\c<2^63
def OBRep(w:World)(M:Nat->Prop)(E:Li)(i:Nat):OB->Prop
 | .gone=>True
 | .blk T xs=>∃g c m,E i=some (some (g,c),m)/\∃cs:List Value,w.heap[g]? = some (.cells cs.toArray T (0,0))/\F2 (XRep w M E) cs xs
 | .row _ T sz ls=>0<sz/\(∀c∈ls,c.length=sz)/\∃e,E i=some (e,ls.length)/\Q6h w M T sz ls e
 | .mpb es=>(∀e∈es,e.1.length=3)/\∃g c m,E i=some (some (g,c),m)/\∃ents ck,w.heap[g]? = some (.map ents ck)/\ents.toList.map (λe=>(e.key,e.val))=Dw es
theorem OBRep.keep{w w':World}{M M':Nat->Prop}{E E':Li}{i f:Nat}{b:OB}(a:Le w M w' M')(h:OBRep w M E i b)(d:b.lv=true->∀g c m,E i=some (some (g,c),m)->w'.heap[g]? = w.heap[g]?)(hi:b.lv=true->E' f=E i)(l:∀j∈b.ids,E j≠none->E' j=E j):OBRep w' M' E' f b:=by
 cases b with
 |gone=>trivial
 |
  blk T xs =>
  obtain⟨g,c,m,e,cs,h1,h2⟩:=h;exact⟨g,c,m,(hi rfl).trans e,cs,(d rfl g c m e).trans h1,h2.xkeep a l⟩
 |
  row fx T sz ls =>
  obtain⟨h1,h2,e,h3,h4⟩:=h;refine⟨h1,h2,e,(hi rfl).trans h3,?_⟩;rcases e with _|⟨g,c⟩
  .exact h4
  .obtain⟨vss,ex,h5,k,n⟩:=h4;exact⟨vss,ex,h5.imp λ_ _ _ h=>h.imp λ_ _ _ h=>h.keep a,(d rfl g c _ h3).trans k,n⟩
 |
  mpb es =>
  obtain⟨h1,g,c,m,e,ents,ck,h2,h3⟩:=h;exact⟨h1,g,c,m,(hi rfl).trans e,ents,ck,(d rfl g c m e).trans h2,h3⟩
structure Fr where
 K:Nat->Prop
 J:Nat->Prop
 w:World
 M:Nat->Prop
 E:Li
structure HS(F:Fr)(bl:Nat->OB)(U:Nat->Prop)(E:Li)(M:Nat->Prop)(w:World):Prop where
 size:F.w.heap.size<=w.heap.size
 kept:∀b,F.K b->b<F.w.heap.size/\w.heap[b]? = F.w.heap[b]? /\ (M b↔F.M b)
 ids:∀i,F.J i->E i=F.E i
 nj:∀i,(bl i).mv=true->¬F.J i
 io:w.os=F.w.os/\w.output=F.w.output
 blk:∀i,OBRep w M E i (bl i)
 nk:∀i g c m,(bl i).lv=true->E i=some (some (g,c),m)->¬F.K g/\M g
 inj:∀i j g c m c' m',(bl i).lv=true->(bl j).lv=true->E i=some (some (g,c),m)->E j=some (some (g,c'),m')->i=j
 mlt:∀b,M b->b<w.heap.size
 m0:∀b,b<F.w.heap.size->M b->F.M b
 un:∀i,U i->E i=none/\bl i=.gone
 uj:∀i,U i->¬F.J i
section
variable{F:Fr}{bl:Nat->OB}{U:Nat->Prop}{E:Li}{M:Nat->Prop}{w w':World}
theorem HS.grow(h:HS F bl U E M w)(hg:Grow w w'):HS F bl U E M w' :=
 {h with
  size:=Qa h.size hg.1
  kept:=λb hb=>by
   obtain⟨h1,h2,h3⟩:=h.kept b hb;exact⟨h1,(hg.2 b (Xk h1 h.size)).trans h2,h3⟩
  io:=⟨hg.io.1.trans h.io.1,hg.io.2.trans h.io.2⟩
  blk:=λi=>(h.blk i).keep (hg.le _) (λhl g c m e=>hg.2 g (h.mlt g (h.nk i g c m hl e).2)) (λ_=>rfl) λ_ _ _=>rfl
  mlt:=λb hb=>Xk (h.mlt b hb) hg.1 }
def L6{α:Type}(f:Nat->α)(i:Nat)(x:α):Nat->α:=λj=>if j=i then x else f j
variable{α:Type}
theorem Gy(f:Nat->α)(i:Nat)(x:α):L6 f i x i=x:=if_pos rfl
theorem Hl(f:Nat->α){i j:Nat}(x:α)(h:j≠i):L6 f i x j=f j:=if_neg h
theorem HS.set(h:HS F bl U E M w){i g c m m':Nat}{b:OB}(hl:(bl i).lv=true)(he:E i=some (some (g,c),m))(hs:w'.heap.size=w.heap.size)(z:∀b,b≠g->w'.heap[b]? = w.heap[b]?)(u:w'.os=w.os/\w'.output=w.output)(hm:b.mv=(bl i).mv)(a:m'=m\/¬F.J i/\∀j,j≠i->i∉(bl j).ids)(hb:Le w M w' M->OBRep w' M (L6 E i (some (some (g,c),m'))) i b):HS F (L6 bl i b) U (L6 E i (some (some (g,c),m'))) M w':=by
 have p:=h.nk i g c m hl he;have r:Le w M w' M:=⟨by rw[hs];exact Ql _,λb _ hb=>z b λe=>hb (e ▸ p.2),λ_ _ h=>h⟩;have o:∀j,(L6 bl i b j).lv=true->(bl j).lv=true:=λj a=>by
  by_cases e:j=i
  .subst e;exact hl
  .rwa[Hl _ _ e]at a
 have v:∀j,j≠i->L6 E i (some (some (g,c),m')) j=E j:=λj e=>Hl _ _ e
 have l:∀j n f t,L6 E i (some (some (g,c),m')) j=some (some (n,f),t)->∃x,E j=some (some (n,f),x):=λj n f t e=>by
  by_cases e':j=i
  .subst e';rw[Gy]at e;injection e with e;injection e with q _;rw[<-q];exact⟨m,he⟩
  .rw[v j e']at e;exact⟨t,e⟩
 exact
 {h with
  size:=by rw[hs];exact h.size
  ids:=λj A=>by
   by_cases e:j=i
   .subst e;rcases a with rfl|⟨a,_⟩
    .rw[Gy,<-he];exact h.ids j A
    .exact absurd A a
   .rw[v j e];exact h.ids j A
  kept:=λb hb=>by
   obtain⟨h1,h2,h3⟩:=h.kept b hb;exact⟨h1,(z b λe=>p.1 (e ▸ hb)).trans h2,h3⟩
  nj:=λj a=>by
   by_cases e:j=i
   .subst e;rw[Gy,hm]at a;exact h.nj j a
   .rw[Hl _ _ e]at a;exact h.nj j a
  io:=⟨u.1.trans h.io.1,u.2.trans h.io.2⟩
  blk:=λj=>by
   by_cases e:j=i
   .subst e;rw[Gy];exact hb r
   .rw[Hl _ _ e];refine(h.blk j).keep r (λy B c' m' e'=>z B λd=>e (h.inj j i B c' m' c m y hl e' (d ▸ he))) (λ_=>v j e) λk p _=>?_
    by_cases d:k=i
    .subst d;rcases a with rfl|⟨_,a⟩
     .rw[Gy,he]
     .exact absurd p (a j e)
    .exact v k d
  nk:=λj n f t a e=>by obtain⟨x,e⟩:=l _ _ _ _ e;exact h.nk j n f x (o j a) e
  inj:=λj k n f t C x a p q d=>by obtain⟨D,q⟩:=l _ _ _ _ q;obtain⟨G,d⟩:=l _ _ _ _ d;exact h.inj j k n f D C G (o j a) (o k p) q d
  mlt:=λb hb=>by rw[hs];exact h.mlt b hb
  un:=λj a=>by
   have h1:=h.un j a;have s:j≠i:=λe=>by subst e;rw[h1.2]at hl;cases hl
   rw[v j s,Hl _ _ s];exact h1 }
theorem HS.gone(h:HS F bl U E M w)(i:Nat):HS F (L6 bl i .gone) U E M w:=by
 have hg:∀j,L6 bl i .gone j=.gone\/L6 bl i .gone j=bl j:=λj=>by
  by_cases e:j=i
  .exact .inl (e ▸ Gy ..)
  .exact .inr (Hl _ _ e)
 have b:∀j,(L6 bl i .gone j).lv=true->(bl j).lv=true:=λj a=>by rcases hg j with e|e <;> rw[e]at a <;> first|exact a|cases a
 exact
 {h with
  nj:=λj a=>by rcases hg j with e|e <;> rw[e]at a <;> first|exact h.nj j a|cases a
  blk:=λj=>by rcases hg j with e|e <;> rw[e] <;> first|exact h.blk j|trivial
  nk:=λj g c m a=>h.nk j g c m (b j a)
  inj:=λj k g c m c' m' a d=>h.inj j k g c m c' m' (b j a) (b k d)
  un:=λj a=>⟨(h.un j a).1,by rcases hg j with e|e <;> rw[e];exact(h.un j a).2⟩ }
theorem HS.pub(h:HS F bl U E M w){i g c m:Nat}(hl:(bl i).lv=true)(he:E i=some (some (g,c),m)):HS F (L6 bl i .gone) U E (λb=>M b/\b≠g) w:=by
 have d:=h.gone i;have f:Le w M w (λb=>M b/\b≠g):=⟨Ql _,λ_ _ _=>rfl,λ_ _ h=>h.1⟩;have k:∀j,(L6 bl i .gone j).lv=true->j≠i:=λj a e=>by subst e;rw[Gy]at a;cases a
 exact
 {d with
  kept:=λb hb=>by
   obtain⟨h1,h2,h3⟩:=h.kept b hb;exact⟨h1,h2,λh=>h3.1 h.1,λh4=>⟨h3.2 h4,λe=>(h.nk i g c m hl he).1 (e ▸ hb)⟩⟩
  blk:=λj=>(d.blk j).keep f (λ_ _ _ _ _=>rfl) (λ_=>rfl) λ_ _ _=>rfl
  nk:=λj l c' m' a e'=>⟨(d.nk j l c' m' a e').1,(d.nk j l c' m' a e').2,λe=>by
   have hn:=k j a;rw[Hl _ _ hn]at a;exact hn (h.inj j i l c' m' c m a hl e' (e ▸ he))⟩
  mlt:=λb hb=>h.mlt b hb.1
  m0:=λb hb hm=>h.m0 b hb hm.1 }
theorem HS.new(h:HS F bl U E M w)(hg:Grow w w'){k m:Nat}{b:OB}{q:Option (Nat×Nat)}(x:¬F.J k)(p:∀g c,q=some (g,c)->w.heap.size<=g/\g<w'.heap.size)
 (o:∀j,j≠k->k∈(bl j).ids->E k=none)
 (hb:Le w M w' (λb=>M b\/(∃c,q=some (b,c)))->OBRep w' (λb=>M b\/(∃c,q=some (b,c))) (L6 E k (some (q,m))) k b):HS F (L6 bl k b) (λi=>U i/\i≠k) (L6 E k (some (q,m))) (λb=>M b\/(∃c,q=some (b,c))) w':=by
 have t:=h.grow hg;have s:Le w M w' (λb=>M b\/(∃c,q=some (b,c))):=⟨hg.1,λb hb _=>hg.2 b hb,λb hb hm=>hm.resolve_right λ⟨c,e⟩=>by have:=(p b c e).1;omega⟩;have l:∀j,j≠k->∀g c m,(bl j).lv=true->E j=some (some (g,c),m)->∀c',q≠some (g,c'):=λj _ g c m hl e c' e'=>by
  have h1:=h.mlt g (h.nk j g c m hl e).2;have h2:=(p g c' e').1;omega
 refine
 {t with
  kept:=λb hb=>?_
  ids:=λi hi=>by rw[Hl _ _ (λe=>by subst e;exact x hi)];exact h.ids i hi
  nj:=λj a=>?_
  blk:=λj=>?_
  nk:=λj g c m' a e=>?_
  inj:=λi j g c v c' u hi a d f=>?_
  mlt:=λb hb=>?_
  m0:=λb hb hm=>h.m0 b hb (hm.resolve_right λ⟨c,e⟩=>by have:=(p b c e).1;have:=h.size;omega)
  un:=λi hi=>?_
  uj:=λi hi=>h.uj i hi.1 }
 .obtain⟨h1,h2,h3⟩:=t.kept b hb;exact⟨h1,h2,λhm=>h3.1 (hm.resolve_right λ⟨c,e⟩=>by have:=(p b c e).1;have:=h.size;omega),λhm=>.inl (h3.2 hm)⟩
 .by_cases e:j=k
  .subst e;exact x
  .rw[Hl _ _ e]at a;exact h.nj j a
 .by_cases e:j=k
  .subst e;rw[Gy];exact hb s
  .rw[Hl _ _ e];refine(h.blk j).keep s (λhl g c m e'=>hg.2 g (h.mlt g (h.nk j g c m hl e').2)) (λ_=>Hl _ _ e) λi hi hn=>Hl _ _ λn=>?_
   subst n;exact hn (o j e hi)
 .by_cases e':j=k
  .subst e';rw[Gy]at e;injection e with e;injection e with e _;have h1:=p g c e;exact⟨λy=>by have:=(h.kept g y).1;have:=h.size;omega,.inr ⟨c,e⟩⟩
  .rw[Hl _ _ e']at e a;exact⟨(h.nk j g c m' a e).1,.inl (h.nk j g c m' a e).2⟩
 .by_cases r:i=k <;> by_cases n:j=k
  .rw[r,n]
  .subst r;rw[Gy]at d;injection d with d;injection d with d _;rw[Hl _ _ n]at f a;exact absurd d (l j n g c' u a f c)
  .subst n;rw[Gy]at f;injection f with f;injection f with f _;rw[Hl _ _ r]at d hi;exact absurd f (l i r g c v hi d c')
  .rw[Hl _ _ r]at d hi;rw[Hl _ _ n]at f a;exact h.inj i j g c v c' u hi a d f
 .rcases hb with hb|⟨c,e⟩
  .exact t.mlt b hb
  .exact(p b c e).2
 .rw[Hl _ _ hi.2,Hl _ _ hi.2];exact h.un i hi.1
end
def ob(B:List OB)(i:Nat):OB:=(B[i]?).getD .gone
variable{B:List OB}{i:Nat}{b:OB}
theorem Pa(h:B[i]? = some b):ob B i=b:=by simp[ob,h]
theorem KI{x:OB}(h:B[i]? = some x):ob (B.set i b)=L6 (ob B) i b:=by
 have hl:=(Qh.1 h).1;funext j;simp only[ob,L6,Ju];by_cases e:j=i
 .subst e;simp[hl]
 .simp[e,Ne.symm e]
theorem Quv:ob (B++[b])=L6 (ob B) B.length b:=by
 funext j;simp only[ob,L6];by_cases e:j=B.length
 .subst e;simp
 .rw[if_neg e];rcases Q7 j B.length with h|h
  .rw[Zc h]
  .rw[Qu Fq,Qu h]
def nw(B:List OB):Nat->Prop:=λi=>B.length<=i
abbrev Sg:=List (Nat×AV)
def lk:Sg->Nat->Option AV
 | [],_=>none
 |
  (t,v)::l,s=>match Nat.beq s t with
  |true=>some v
  |false=>lk l s
structure SA(F:Fr)(n:Nat)(L:Sg)(B:List OB)(E:Li)(M:Nat->Prop)(a:Act)(w:World):Prop where
 hs:HS F (ob B) (nw B) E M w
 size:a.tmps.size=n
 defers:a.defers=[]
 slots:∀t x,lk L t=some x->∃v,a.tmps[t]? = some v/\ARep w M E v x
@[match_pattern] abbrev TV.oi (x : Int) : TV := .one (.int .i64 x)
abbrev Fe:=List LV
abbrev Ff:=List (List LV)
abbrev Fg:=List OB
abbrev Fh:=List TV
end Orr
namespace Orr
open Go
variable{P:Program}{w:World}{e:Operand->Value}{o:Oper}
def Qlr:BinOp->Int->Int->Option Bool
 | .lss,x,y=>some (decide (x<y))
 | .leq,x,y=>some (decide (x<=y))
 | .gtr,x,y=>some (decide (y<x))
 | .geq,x,y=>some (decide (y<=x))
 | .eql,x,y=>some (decide (x=y))
 | .neq,x,y=>some (decide (x≠y))
 |_,_,_=>none
section
variable{x y c:Operand}{kd kd':IntKind}{p q:Int}{t t':TypeId}
variable{v:Value}
theorem Qbl(a:o.op=.move x\/o.op=.assign x)(hx:e x=v):(execOp e o).run P w=.ok (.value v) w:=by
 rcases a with a|a <;> simp only[execOp,a,hx] <;> rfl
variable{b:Bool}
theorem Qbm(a:o.op=.pick c x y)(hc:e c=.bool b):(execOp e o).run P w=.ok (.value (if b then e x else e y)) w:=by
 simp only[execOp,a,hc,asBool,Sem.run_bind,Sem.run_pure,Result.andThen_ok]
theorem Qq1{a:Addr}(b:o.op=.nilCheck x)(hx:e x=.pointer (some a)):(execOp e o).run P w=.ok (.value (.pointer (some a))) w:=by
 simp only[execOp,b,hx,Sem.run_bind,Sem.run_pure,Result.andThen_ok]
variable{vs:List Value}{i:Nat}
theorem Qiq(a:o.op=.extract x i)(hx:e x=.tuple vs.toArray)(hi:vs[i]? = some v):(execOp e o).run P w=.ok (.value v) w:=by
 simp[execOp,a,hx,Instr.extract,hi]
theorem Q49(a:o.op=.unOp .not t x)(hx:e x=.bool b):(execOp e o).run P w=.ok (.value (.bool (!b))) w:=by
 simp only[execOp,a,hx,Op.unary,Sem.run_bind,Sem.run_pure,Result.andThen_ok]
theorem Q48(a:o.op=.unOp .neg t x)(hx:e x=.int kd p):(execOp e o).run P w=.ok (.value (.int kd (kd.wrap (-p)))) w:=by
 simp[execOp,a,hx,Op.unary,Op.intArith]
variable{a:BinOp}
theorem Q41(d:o.op=.binOp a t x y t')(hx:e x=.int kd p)(f:e y=.int kd q)(hb:Qlr a p q=some b):(execOp e o).run P w=.ok (.value (.bool b)) w:=by
 cases a <;> simp only[Qlr,Option.some.injEq,reduceCtorEq]at hb <;> subst hb <;>
  simp[execOp,d,hx,f,eqGuard,Go.binOp,Op.intCmp] <;> first|rfl|(rw[Bool.eq_iff_iff];simp)
def Qi7:BinOp->Int->Int->Option Int
 | .add,x,y=>some (x+y)
 | .sub,x,y=>some (x-y)
 | .mul,x,y=>some (x*y)
 |_,_,_=>none
theorem Q4z{r:Int}(b:o.op=.binOp a t x y t')(hx:e x=.int kd p)(d:e y=.int kd q)(hr:Qi7 a p q=some r):(execOp e o).run P w=.ok (.value (.int kd (kd.wrap r))) w:=by
 cases a <;> simp only[Qi7,Option.some.injEq,reduceCtorEq]at hr <;> subst hr <;> simp[execOp,b,hx,d,eqGuard,Go.binOp,Op.intArith]
theorem Q2e{x y:Operand}{s:ByteArray}{v:Nat}{t:TypeId}{kd:IntKind}(a:o.op=.index t x y)(hx:e x=.string s)(d:e y=.int kd (i:Int))(hu:∀w,(underlying t).run P w=.ok .string w)(hi:(s[i]?).map (·.toNat)=some v):(execOp e o).run P w=.ok (.value (.int .u8 (v:Int))) w:=by
 cases hs:s[i]? with
 |none=>rw[hs]at hi;cases hi
 |
  some b =>
  rw[hs]at hi;simp only[Y8,Option.some.injEq]at hi;subst hi;simp[execOp,a,hx,d,Instr.index,asIntOf,hu,hs]
def orI(k:IntKind)(p q:Int):Int:=k.wrap ((BitVec.ofInt k.bits p ||| BitVec.ofInt k.bits q).toNat:Int)
theorem Q6m(a:o.op=.binOp .or t x y t')(hx:e x=.int kd p)(b:e y=.int kd q):(execOp e o).run P w=.ok (.value (.int kd (orI kd p q))) w:=by
 simp[execOp,a,hx,b,eqGuard,Go.binOp,Op.intBits,orI]
theorem Q5a(b:o.op=.binOp .quo t x y t')(hx:e x=.int kd p)(d:e y=.int kd q)(a:q≠0):(execOp e o).run P w=.ok (.value (.int kd (kd.wrap (p.tdiv q)))) w:=by
 simp[execOp,b,hx,d,eqGuard,Go.binOp,Op.intDiv,a]
theorem Q5b(b:o.op=.binOp .rem t x y t')(hx:e x=.int kd p)(d:e y=.int kd q)(a:q≠0):(execOp e o).run P w=.ok (.value (.int kd (p.tmod q))) w:=by
 simp[execOp,b,hx,d,eqGuard,Go.binOp,Op.intDiv,a]
theorem Q43{a:Bool}(d:o.op=.binOp .eql t x y t')(hx:e x=.bool a)(f:e y=.bool b)(hu:P.underlying t=some .bool):(execOp e o).run P w=.ok (.value (.bool (a == b))) w:=by
 simp only[execOp,d,hx,f];simp[go_sem,run_eql_bool,hu]
theorem Q47{a:Bool}(d:o.op=.binOp .neq t x y t')(hx:e x=.bool a)(f:e y=.bool b)(hu:P.underlying t=some .bool):(execOp e o).run P w=.ok (.value (.bool (!(a == b)))) w:=by
 simp only[execOp,d,hx,f];simp[go_sem,run_neq_bool,hu]
theorem Q2g{s u:TypeId}(a:o.op=.convert s u x)(hx:e x=.int kd p)(hs:∀w,(underlying s).run P w=.ok (.int kd) w)(ht:∀w,(underlying u).run P w=.ok (.int kd') w):(execOp e o).run P w=.ok (.value (.int kd' (kd'.wrap p))) w:=by
 simp[execOp,a,hx,Go.convert,hs,ht,Conv.intToInt]
variable{m:Nat}
theorem Q5c(a:o.op=.binOp .shl t x y t')(hx:e x=.int kd p)(b:e y=.int kd' (m:Int))(hm:m<=kd.bits):(execOp e o).run P w=.ok (.value (.int kd (kd.wrap (p*2^m)))) w:=by
 have h0:¬((m:Int)<0):=Fo;simp[execOp,a,hx,b,eqGuard,Go.binOp,Op.shift,h0,Z8 hm]
theorem Q5d(a:o.op=.binOp .shr t x y t')(hx:e x=.int kd p)(b:e y=.int kd' (m:Int))(hm:m<=kd.bits):(execOp e o).run P w=.ok (.value (.int kd (p / 2^m))) w:=by
 have h0:¬((m:Int)<0):=Fo;simp[execOp,a,hx,b,eqGuard,Go.binOp,Op.shift,h0,Z8 hm];exact Int.fdiv_eq_ediv_of_nonneg _ (by have:=Int.natCast_nonneg (2^m);simpa using this)
variable{E:TypeId}
theorem FZ{a:Option Addr}{b:BinOp}(f:b=.eql\/b=.neq)(h:o.op=.binOp b t x y t')(hu:∀w,(underlying t).run P w=.ok (.pointer E) w)(hx:e x=.pointer a)(i:e y=.pointer none):(execOp e o).run P w=.ok (.value (.bool (if b=.eql then a.isNone else !a.isNone))) w:=by
 have he:(Op.equal t (.pointer a) (.pointer none)).run P w=.ok a.isNone w:=by
  have g:∀d,(Op.equalIn (d+1) t (.pointer a) (.pointer none)).run P w=.ok a.isNone w:=λd=>by cases a <;> simp[Op.equalIn,hu]
  exact g 9999
 rcases f with rfl|rfl <;> simp[execOp,h,hx,i,eqGuard,Go.binOp,he]
theorem Q42{a b:U8}(d:o.op=.binOp .eql t x y t')(hx:e x=.agg (a.map (Value.int .i64)).toArray)(f:e y=.agg (b.map (Value.int .i64)).toArray)(hg:P.eqGuardType P.depth t=false)(he:∀w,(Op.equal t (.agg (a.map (Value.int .i64)).toArray) (.agg (b.map (Value.int .i64)).toArray)).run P w=.ok (decide (a=b)) w) :
 (execOp e o).run P w=.ok (.value (.bool (decide (a=b)))) w:=by
 simp[execOp,d,hx,f,eqGuard,run_program,hg,Go.binOp,he]
theorem Q46{a b:U8}(d:o.op=.binOp .neq t x y t')(hx:e x=.agg (a.map (Value.int .i64)).toArray)(f:e y=.agg (b.map (Value.int .i64)).toArray)(hg:P.eqGuardType P.depth t=false)(he:∀w,(Op.equal t (.agg (a.map (Value.int .i64)).toArray) (.agg (b.map (Value.int .i64)).toArray)).run P w=.ok (decide (a=b)) w) :
 (execOp e o).run P w=.ok (.value (.bool (!decide (a=b)))) w:=by
 simp[execOp,d,hx,f,eqGuard,run_program,hg,Go.binOp,he]
variable{A:Option Addr}
theorem Q44{c:Nat}{a:Array TypeId}(d:o.op=.call { callee:=.builtin .len,args := #[x],argTypes:=a })(b:a[0]? = some t)(hx:e x=.slice A m c)(hu:∀w,(underlying t).run P w=.ok (.slice E) w):(execOp e o).run P w=.ok (.value (.int .i64 (m:Int))) w:=by
 simp[execOp,d,resolve,invoke,hx,builtin,Builtin.len_,b,hu,goInt]
theorem Lm(b o i:Nat):(⟨b,o,none⟩:Addr).add i=⟨b,o+i,none⟩:=by
 unfold Addr.add
 split
 .rename_i e;subst e;rfl
 .rfl
theorem sX{b a c sz:Nat}(d:o.op=.indexAddr t x y)(hx:e x=.slice (some ⟨b,a,none⟩) m c)(f:e y=.int kd (i:Int))(hu:∀w,(underlying t).run P w=.ok (.slice E) w)(hs:∀w,(Go.sizeOf E).run P w=.ok sz w)(hi:i<m):
 (execOp e o).run P w=.ok (.value (.pointer (some ⟨b,a+i*sz,none⟩))) w:=by
 simp[execOp,d,hx,f,Instr.indexAt,asIntOf,hu,hs,hi,Lm]
theorem Qqy{b a sz:Nat}(d:o.op=.indexAddr t x y)(hx:e x=.pointer (some ⟨b,a,none⟩))(f:e y=.int kd (i:Int))(hu:∀w,(underlying t).run P w=.ok (.array m E) w)(hs:∀w,(Go.sizeOf E).run P w=.ok sz w)(hi:i<m):
 (execOp e o).run P w=.ok (.value (.pointer (some ⟨b,a+i*sz,none⟩))) w:=by
 simp[execOp,d,hx,f,Instr.indexAt,Instr.sureAddr,asIntOf,hu,hs,hi,Lm]
theorem Qqz{sz:Nat}{ag:Bool}(a:o.op=.index t x y)(hx:e x=.agg vs.toArray)(b:e y=.int kd (i:Int))(hu:∀w,(underlying t).run P w=.ok (.array m E) w)(hs:∀w,(Go.sizeOf E).run P w=.ok sz w)(ht:∀w,(isAgg E).run P w=.ok ag w)(hi:i<m)
 (hv:if ag=true then v=.agg ((vs.drop (i*sz)).take sz).toArray else vs[i*sz]? = some v) :
 (execOp e o).run P w=.ok (.value v) w:=by
 have h0:(0:Int)<=(i:Int)/\(i:Int)<(m:Int):=Fo;cases ag with
 |
  true =>
  simp only[if_true]at hv;subst hv;simp[execOp,a,hx,b,Instr.index,asIntOf,hu,hs,h0,hi,Go.part,ht,List.extract]
 |
  false =>
  simp at hv;simp[execOp,a,hx,b,Instr.index,asIntOf,hu,hs,h0,hi,Go.part,ht,hv]
theorem lG{S f b a off:Nat}(g:o.op=.fieldAddr S x f)(hx:e x=.pointer (some ⟨b,a,none⟩))(d:∀b o w,(Instr.fieldAt S (.pointer (some ⟨b,o,none⟩)) f).run P w=.ok (.pointer (some ⟨b,o+off,none⟩)) w) :
 (execOp e o).run P w=.ok (.value (.pointer (some ⟨b,a+off,none⟩))) w:=by
 simp only[execOp,g,hx];rw[Sem.run_bind,d];rfl
theorem Qwq{S f:Nat}{u:Value}(b:o.op=.field S x f)(hx:e x=v)(a:∀w,(Instr.field S v f).run P w=.ok u w):(execOp e o).run P w=.ok (.value u) w:=by
 simp only[execOp,b,hx];rw[Sem.run_bind,a];rfl
theorem Of{kd:IntKind}{y:Nat}(c:BoundsCode)(h:i<=y)(w:World):(Instr.sliceBound (.int kd (i:Int)) y c).run P w=.ok i w:=by simp[Instr.sliceBound,asIntOf,h]
def Qyu(e:Operand->Value)(k:Nat):Option Operand->Prop
 |none=>True
 |some x=>∃kd,e x=.int kd (k:Int)
theorem sJ{T:TypeId}{lo hi:Option Operand}{c l h sz:Nat}(f:o.op=.slice T x lo hi none)(hx:e x=.slice A m c)(hu:∀w,(underlying T).run P w=.ok (.slice E) w)(hs:∀w,(Go.sizeOf E).run P w=.ok sz w)
 (hl:Qyu e l lo) (a:Qyu e h hi) (h1:lo=none->l=0) (h2:hi=none->h=m) (b:l<=h) (d:hi≠none->h<=c) :
 (execOp e o).run P w=.ok (.value (.slice (if c=l then A else A.map (·.add (l*sz))) (h-l) (c-l))) w:=by
 rcases lo with _|lo <;> rcases hi with _|hi
 .obtain rfl:=h1 rfl;obtain rfl:=h2 rfl;simp[execOp,f,hx,Instr.sliceAt,Instr.slice,Instr.sliceBounds,hu,hs]
 .obtain rfl:=h1 rfl;obtain⟨_,a⟩:=a;simp[execOp,f,hx,a,Instr.sliceAt,Instr.slice,Instr.sliceBounds,hu,hs,Of _ (d Ft)]
 .obtain rfl:=h2 rfl;obtain⟨_,hl⟩:=hl;simp[execOp,f,hx,hl,Instr.sliceAt,Instr.slice,Instr.sliceBounds,hu,hs,Of _ b]
 .obtain⟨_,hl⟩:=hl;obtain⟨_,a⟩:=a;simp[execOp,f,hx,hl,a,Instr.sliceAt,Instr.slice,Instr.sliceBounds,hu,hs,Of _ b,Of _ (d Ft)]
theorem lH{T:TypeId}{y z:Operand}{k c sz:Nat}{kd kd':IntKind}(b:o.op=.slice T x none (some y) (some z))(hx:e x=.slice A m c)(d:e y=.int kd (k:Int))(hz:e z=.int kd' (k:Int))(a:k<=c)(hu:∀w,(underlying T).run P w=.ok (.slice E) w)(hs:∀w,(Go.sizeOf E).run P w=.ok sz w):
 (execOp e o).run P w=.ok (.value (.slice (if k=0 then A else A.map (·.add (0*sz))) k k)) w:=by
 simp[execOp,b,hx,d,hz,Instr.sliceAt,Instr.slice,Instr.sliceBounds,hu,hs,Of _ a,Of _ (Ql k)]
end
theorem D3(o:Obj)(w:World):(newObj o).run P w=.ok w.heap.size (w.alloc o):=rfl
theorem D5(o:Obj)(w:World):(w.alloc o).heap.size=w.heap.size+1:=by show(w.heap.push _).size=_;simp
theorem Bn(o:Obj)(w:World):Grow w (w.alloc o):=⟨by rw[D5];omega,λb hb=>by show(w.heap.push _)[b]? = _;simp[Array.getElem?_push,Nat.ne_of_lt hb],rfl,rfl⟩
theorem I9(o:Obj)(w:World):(w.alloc o).heap[w.heap.size]? = some o:=by show(w.heap.push _)[_]? = _;simp
variable{α:Type}
theorem FC(m:Mode)(p:Addr)(v:Value)(k:Value->Sem α)(w:World)(h:w.cell? p=some v):(Sem.load m p k).run P w=(k v).run P w:=by simp[Sem.run,h]
theorem ZX(b o:Nat)(w:World):∀(k i:Nat) (vs:List Value) (a:Array Value),vs.length=k->(∀j v,vs[j]? = some v->w.cell? ⟨b,o+(i+j),none⟩=some v) ->
 (loadCellsFrom ⟨b,o,none⟩ i k a).run P w=.ok (a++vs.toArray) w
 |
  0,i,vs,a,hl,_=>by
  have:vs=[]:=Qg hl;subst this;simp[loadCellsFrom]
 |
  k+1,i,v::vs,a,hl,hc=>by
  have h0:=hc 0 v rfl;simp only[loadCellsFrom];rw[Sem.run_bind];have e:(load ((⟨b,o,none⟩:Addr).add i)).run P w=.ok v w:=by
   rw[Lm];unfold load;rw[FC _ _ v _ _ (by simpa using h0)];rfl
  rw[e];simp only[Result.andThen_ok];rw[ZX b o w k (i+1) vs (a.push v) (by simpa using hl) (λj u d=>by
   have:=hc (j+1) u (by simpa using d);rw[show i+1+j=i+(j+1) from Fo];exact this)]
  simp
theorem ZM(b o:Nat)(w:World)(vs:List Value)(hc:∀j v,vs[j]? = some v->w.cell? ⟨b,o+j,none⟩=some v):(loadCells ⟨b,o,none⟩ vs.length).run P w=.ok vs.toArray w:=by
 unfold loadCells;rw[ZX b o w vs.length 0 vs #[] rfl (λj v a=>by simpa using hc j v a)];simp
variable{m:Nat}{ag:Bool}{vs:List Value}{v:Value}
theorem CN{T:Nat}{b a:Nat}(ht:∀w,(isAgg T).run P w=.ok ag w)(hs:∀w,(Go.sizeOf T).run P w=.ok m w)(hl:vs.length=m)(hc:∀j v,vs[j]? = some v->w.cell? ⟨b,a+j,none⟩=some v)
 (hv:if ag=true then v=.agg vs.toArray else vs=[v]):(loadVar T ⟨b,a,none⟩).run P w=.ok v w:=by
 subst hl;cases ag with
 |
  true =>
  simp only[if_true]at hv;subst hv;simp only[loadVar,Sem.run_bind,Sem.run_pure,Result.andThen_ok,ht,hs,if_true];rw[ZM b a w vs hc];rfl
 |
  false =>
  simp only[Jy,if_false]at hv;subst hv;simp only[loadVar,Sem.run_bind,Sem.run_pure,Result.andThen_ok,ht,Jy,if_false];unfold load;rw[FC _ _ v _ _ (by simpa using hc 0 v rfl)];rfl
variable{x:Operand}
theorem Qbk{T:Nat}{b a:Nat}(d:o.op=.load T x)(hx:e x=.pointer (some ⟨b,a,none⟩))(ht:∀w,(isAgg T).run P w=.ok ag w)(hs:∀w,(Go.sizeOf T).run P w=.ok m w)(hl:vs.length=m)(hc:∀j v,vs[j]? = some v->w.cell? ⟨b,a+j,none⟩=some v)
 (hv:if ag=true then v=.agg vs.toArray else vs=[v]):(execOp e o).run P w=.ok (.value v) w:=by
 simp only[execOp,d,hx,Instr.loadAt,Instr.sureAddr,Sem.run_bind,Sem.run_pure,Result.andThen_ok,CN ht hs hl hc hv]
theorem lK(cs:List α)(off:Nat)(v:α)(vs:List α)(hl:off+(vs.length+1)<=cs.length):upd cs off (v::vs)=upd (cs.set off v) (off+1) vs:=by
 induction cs generalizing off v vs with
 |nil=>simp at hl
 |
  cons c cs ih =>
  cases off with
  |
   zero =>
   simp[upd];cases vs <;> simp[upd]
  |
   succ off =>
   simp only[upd,Ky];cases vs with
   |
    nil =>
    have:=ih off v [] (by simp at hl ⊢;omega);simp only[upd]at this ⊢;rw[this]
   |
    cons u us =>
    simp only[upd];rw[ih off v (u::us) (by simp at hl ⊢;omega)]
theorem jY(m:Mode)(p:Addr)(v u:Value)(k:Sem α)(w:World)(hv:one v=true)(h:w.cell? p=some u)(a:w.frozen? p=false):(Sem.store m p v k).run P w=k.run P (w.setCell p v):=by
 cases v <;> simp[one]at hv <;> simp[Sem.run,h,a]
structure Wr(g:Nat)(T:TypeId)(cs:List Value)(w w':World):Prop where
 size:w'.heap.size=w.heap.size
 rest:∀b,b≠g->w'.heap[b]? = w.heap[b]?
 io:w'.os=w.os/\w'.output=w.output
 at_:w'.heap[g]? = some (.cells cs.toArray T (0,0))
theorem Ea{g T:Nat}:∀(vs:List Value) (cs:List Value) (off j:Nat) (w:World),w.heap[g]? = some (.cells cs.toArray T (0,0))->off+j+vs.length≤cs.length->(∀v∈vs,one v=true) ->
 ∃w',(storeCells ⟨g,off,none⟩ vs j).run P w=.ok () w'/\Wr g T (upd cs (off+j) vs) w w'
 |
  [],cs,off,j,w,h,_,_=>by
  refine⟨w,by simp[Go.storeCells],rfl,λ_ _=>rfl,⟨rfl,rfl⟩,?_⟩;have:upd cs (off+j) []=cs:=by cases cs <;> simp[upd]
  rw[this];exact h
 |
  v::vs,cs,off,j,w,h,hl,h1=>by
  have f:off+j<cs.length:=by simp at hl;omega
  have hc:w.cell? ⟨g,off+j,none⟩=some (cs[off+j]):=by simp[World.cell?,h,f]
  have k:w.frozen? ⟨g,off+j,none⟩=false:=by simp[World.frozen?,h]
  have d:(store ((⟨g,off,none⟩:Addr).add j) v).run P w=.ok () (w.setCell ⟨g,off+j,none⟩ v):=by
   rw[Lm];unfold store;rw[jY _ _ v _ _ _ (h1 v (Qy ..)) hc k];rfl
  have i:(w.setCell ⟨g,off+j,none⟩ v).heap[g]? = some (.cells (cs.set (off+j) v).toArray T (0,0)):=by
   unfold World.setCell;rw[Array.getElem?_modify];simp[h]
  obtain⟨w',hr,a⟩:=Ea vs (cs.set (off+j) v) off (j+1) _ i (by simp at hl ⊢;omega) (λu hu=>h1 u (Qi _ hu));refine⟨w',?_,a.size.trans (by unfold World.setCell;simp),λb hb=>(a.rest b hb).trans ?_,a.io,?_⟩
  .simp only[Go.storeCells];rw[Sem.run_bind,d];exact hr
  .unfold World.setCell;rw[Array.getElem?_modify]
   split
   .rename_i e;exact absurd e.symm hb
   .rfl
  .rw[lK _ _ _ _ (by simp at hl;omega)];exact a.at_
theorem Qfq{T g a b:Nat}{cs:List Value}{y:Operand}(f:o.op=.store T x y)(hx:e x=.pointer (some ⟨g,a,none⟩))(h:e y=v)(hs:∀w,(Go.sizeOf T).run P w=.ok m w)(hv:v.cells.toList=vs)(hm:vs.length=m)(hg:w.heap[g]? = some (.cells cs.toArray b (0,0)))(hl:a+m≤cs.length)(h1:∀v∈vs,one v=true):
 ∃w',(execOp e o).run P w=.ok .skip w'/\Wr g b (upd cs a vs) w w':=by
 obtain⟨w',hr,d⟩:=Ea (P:=P) vs cs a 0 w hg Fo h1;refine⟨w',?_,d⟩;have hsz:v.cells.size=m:=by rw[<-hm,<-hv];simp
 simp only[execOp,f,hx,h,Instr.storeAt,Instr.sureAddr,storeVar,Sem.run_bind,Sem.run_pure,Result.andThen_ok,hs,hsz,ne_eq,not_true_eq_false,if_false,hv,hr]
variable{T:TypeId}{z:Value}
theorem Qwn(a:o.op=.alloc T)(hz:∀w,(zeroValue T).run P w=.ok z w):(execOp e o).run P w=.ok (.value (.pointer (some ⟨w.heap.size,0,none⟩))) (w.alloc (.cells z.cells T)):=by
 simp[execOp,a,Instr.alloc,hz,newVar,newRow,D3]
theorem Q40(a:o.op=.box T x)(hx:e x=v):(execOp e o).run P w=.ok (.value (.pointer (some ⟨w.heap.size,0,none⟩))) (w.alloc (.cells v.cells T)):=by
 simp[execOp,a,Instr.box,hx,newVar,newRow,D3]
def ZP:Nat->List Value->List Value
 | 0,_=>[]
 |m+1,zs=>zs++ZP m zs
theorem KF(m:Nat)(zs:List Value):(ZP m zs).length=m*zs.length:=by
 induction m with
 |zero=>simp[ZP]
 |succ m a=>simp[ZP,a,Xh,Yb]
theorem xI(m:Nat)(zs:List Value)(i:Nat)(hi:i<m*zs.length):(ZP m zs)[i]? = zs[i % zs.length]? := by
 induction m generalizing i with
 |zero=>simp at hi
 |
  succ m ih =>
  simp only[ZP];by_cases h:i<zs.length
  .rw[Zc h,X7 h]
  .have e:i % zs.length=(i-zs.length) % zs.length:=Nat.mod_eq_sub_mod Fo;have h2:(m+1)*zs.length=m*zs.length+zs.length:=Xh _ _;rw[Zy Fo,ih (i-zs.length) Fo,e]
theorem HV(m:Nat)(zs:List Value)(hz:0<zs.length):((Array.range (m*zs.length)).map λi=>(zs.toArray)[i % zs.length]!)=(ZP m zs).toArray:=by
 apply Array.ext
 .simp[KF]
 .intro i h1 h2;have hi:i<m*zs.length:=by simpa using h1
  have hm:i % zs.length<zs.length:=Xf _ hz;have h3:=xI m zs i hi;simp at h2 ⊢;rw[Qf h2,Qf hm]at h3;injection h3 with h3;rw[h3,Qf hm];rfl
theorem Qh7(m:Nat)(zs:List Value):ZP m zs=(List.replicate m zs).flatten:=by
 induction m with
 |zero=>rfl
 |succ m a=>simp[ZP,a,J4]
theorem Pm{sz:Nat}:∀{vss:List (List Value)},(∀c∈vss,c.length=sz)->vss.flatten.length=vss.length*sz
 | [],_=>Ft
 |
  v::vss,h=>by
  rw[Vk,Qw,h v (.head _),Pm λc hc=>h c (.tail _ hc),Q5,Xh,Yb]
theorem TK{sz:Nat}:∀{vss:List (List Value)} {i j:Nat},(∀c∈vss,c.length=sz)->j<sz->vss.flatten[i*sz+j]? = (vss[i]?).bind (·[j]?)
 | [],i,j,_,_=>Ft
 |
  v::vss,0,j,h,hj=>by
  have:=h v (.head _);rw[Yv,Zw,Vk,Zc Fo];rfl
 |
  v::vss,i+1,j,h,hj=>by
  have e:=h v (.head _);rw[Vk,Zy (by rw[e,Xh];omega),e,show(i+1)*sz+j-sz=i*sz+j from by rw[Xh];omega,TK (λc hc=>h c (.tail _ hc)) hj];simp
theorem lF(m:Nat)(hm:m<2^40):IntKind.i64.wrap (m:Int)=(m:Int):=by
 have:(2:Nat)^40=1099511627776:=Fp;simp[IntKind.wrap,IntKind.bits,IntKind.signed];omega
theorem Qpr(b:Nat)(w:World):(askRoom b).run P w=.ok () w:=by unfold askRoom;split <;> rfl
variable{zs:List Value}{info:TypeInfo}
theorem Q2i{E:TypeId}{y:Operand}{k:Nat}(A:o.op=.makeSlice T x y)(hx:e x=.int .i64 (m:Int))(s:e y=.int .i64 (k:Int))
 (hu:∀w,(underlying T).run P w=.ok (.slice E) w) (hi:∀w,(typeInfo E).run P w=.ok info w) (hb:info.bytes<=256) (hs:∀w,(Go.sizeOf E).run P w=.ok zs.length w)
 (hz:∀w,(zeroValue E).run P w=.ok z w) (d:z.cells=zs.toArray) (a:0<zs.length) (i:m<=k) (hm:k<274877906944) :
 (execOp e o).run P w=.ok (.value (.slice (some ⟨w.heap.size,0,none⟩) m k)) (w.alloc (.cells (ZP k zs).toArray E)):=by
 have u:=lF m (by
  have:(2:Nat)^40=1099511627776:=Fp;omega)
 have l:=lF k (by
  have:(2:Nat)^40=1099511627776:=Fp;omega)
 have B:k*info.bytes<=274877906944*256:=Zf Fo hb;have b:m*info.bytes<=k*info.bytes:=Zf i (Ql _);have v:¬((m:Int)<0):=Fo;have g:¬((k:Int)<0):=Fo;have em:¬((k:Int)<(m:Int)):=Fo;have C:∀m:Nat,(info.bytes:Int)*(m:Int)=((m*info.bytes:Nat):Int):=λm=>by push_cast;exact Kb _ _
 have n:∀m:Nat,m*info.bytes<=k*info.bytes->¬((info.bytes:Int)*(m:Int)>2^48):=λm hm=>by
  rw[C];have:(2:Int)^48=281474976710656:=Fp;omega
 have r:¬(k*info.bytes>roomBytes):=by
  unfold roomBytes;have:(2:Nat)^47=140737488355328:=Fp;omega
 have h:(Instr.makeSlice T (.int .i64 (m:Int)) (.int .i64 (k:Int))).run P w=.ok (.slice (some ⟨w.heap.size,0,none⟩) m k) (w.alloc (.cells (ZP k zs).toArray E)):=by
  unfold Instr.makeSlice;have h1:=n m b;have h2:=n k (Ql _);simp only[hu,hi,hs,asInt,asIntOf,Sem.run_bind,Sem.run_pure,Result.andThen_ok,u,l,Int.toNat_natCast,v,g,em,h1,h2,decide_false,Bool.or_false,Int.lt_irrefl,gt_iff_lt,Jy,if_false,askRoom,r];rcases Q0 k with h0|h0
  .subst h0;simp only[Yv,if_true,Sem.run_pure,Result.andThen_ok,newRow,Sem.run_bind,D3,ZP];have h0:∀f:Nat->Value,Array.map f (Array.range 0) = #[]:=λf=>by apply Array.ext <;> simp
   rw[h0]
  .have j:¬(k*zs.length=0):=by
    have:=Yt h0 a;omega
   simp only[j,if_false,Sem.run_bind,Sem.run_pure,Result.andThen_ok,hz,newRow,D3,d];have:=HV k zs a;simp only[Uf];rw[this]
 simp only[execOp,A,hx,s,Sem.run_bind];rw[h];rfl
def Src(w:World)(x:Value)(size m:Nat)(news:List Value):Prop :=
 news.length=m*size/\∃A c,x=.slice A m c/\(0<m->∃b o,A=some ⟨b,o,none⟩/\∀(j:Nat) (v:Value),news[j]? = some v->w.cell? ⟨b,o+j,none⟩=some v)
variable{size:Nat}{news:List Value}
theorem Bv{x:Value}(h:Src w x size m news):(Builtin.firstCells size m x).run P w=.ok news.toArray w:=by
 obtain⟨hl,A,c,rfl,hA⟩:=h;rcases Q0 m with h0|h0
 .subst h0;have:news=[]:=Qg (by simpa using hl);subst this;cases A with
  |none=>rfl
  |some p=>simp[Builtin.firstCells,loadCells,loadCellsFrom]
 .obtain⟨b,o,rfl,hc⟩:=hA h0;simp only[Builtin.firstCells];rw[<-hl];exact ZM b o w news hc
theorem Src.keep{x:Value}(h:Src w x size m news){w':World}(d:∀p v,w.cell? p=some v->w'.cell? p=some v):Src w' x size m news:=by
 obtain⟨hl,A,c,rfl,hA⟩:=h;refine⟨hl,A,c,rfl,λh0=>?_⟩;obtain⟨b,o,rfl,hc⟩:=hA h0;exact⟨b,o,rfl,λj v a=>d _ _ (hc j v a)⟩
theorem YB(a b:Nat)(h:b<a):Builtin.nextslicecap a b<=4*a+2048:=by
 unfold Builtin.nextslicecap
 split
 .omega
 .split
  .omega
  .simp only[Builtin.growBy]
   repeat' split
   all_goals omega
theorem Qbi(cs ex news:List α):upd (cs++ex) cs.length news=cs++upd ex 0 news:=by
 induction cs with
 |nil=>rfl
 |
  cons c cs ih=>cases news with
  |nil=>simp[upd]
  |
   cons v vs =>
   simp only[Xg,Q5,upd];rw[ih]
theorem Qqq(ex news:List α)(h:news.length<=ex.length):upd ex 0 news=news++ex.drop news.length:=by
 induction news generalizing ex with
 |nil=>cases ex <;> simp[upd]
 |
  cons v vs ih=>cases ex with
  |nil=>simp at h
  |cons e ex=>simp only[upd,Xg,Q5,Wy];rw[ih ex (by simpa using h)]
theorem Qqx{E:TypeId}{k c':Nat}{s:Option Addr}{cs:List Value}(hi:∀w,(typeInfo E).run P w=.ok info w)
 (hz:∀w,(zeroValue E).run P w=.ok z w) (j:z.cells=zs.toArray) (r:zs.length=size) (n:cs.length=m*size)
 (d:Src w (.slice s k c') size k news) (hm:m+k<8589934592) (c:Nat) (i:∀w',w'.heap=w.heap->(Builtin.firstCells size m v).run P w'=.ok cs.toArray w') :
 ∃w' g c0 ex,(do
  let newCap <-choose (.appendCap (m+k) c E)
  askRoom (newCap*(<-typeInfo E).bytes)
  let old <-Builtin.firstCells size m v
  let new <-Builtin.firstCells size k (.slice s k c')
  let rest:=Builtin.zeroCells (<-zeroValue E).cells (newCap-(m+k))
  pure (.slice (some (<-newRow E (old++new++rest))) (m+k) newCap):Sem Value).run P w=.ok (.slice (some ⟨g,0,none⟩) (m+k) c0) w'/\Grow w w'/\w.heap.size<=g/\g<w'.heap.size/\m+k<=c0/\c0<2^63/\w'.heap[g]? = some (.cells ((cs++news)++ex).toArray E (0,0))/\((cs++news)++ex).length=c0*size:=by
 have u:(2:Nat)^63=9223372036854775808:=Fp
 let w1:World:={ w with drawn:=w.drawn+1 }
 let a:=(m+k)+(w.tape w.drawn (.appendCap (m+k) c E)) % (2^63-(m+k))
 have b:m+k<=a/\a<2^63:=by
  have:=Xf (w.tape w.drawn (.appendCap (m+k) c E)) (show 0<2^63-(m+k) by omega);constructor
  .exact Wg _ _
  .show(m+k)+_<_;omega
 have l:(choose (.appendCap (m+k) c E)).run P w=.ok a w1:=rfl;have h:=Bv (P:=P) (d.keep (w':=w1) (λp v hp=>hp));have f:Builtin.zeroCells zs.toArray (a-(m+k))=(ZP (a-(m+k)) zs).toArray:=by
  unfold Builtin.zeroCells;rcases Q0 zs.length with hz|hz
  .have:zs=[]:=Qg hz;subst this;have:(ZP (a-(m+k)) ([]:List Value))=[]:=Qg (by simp[KF]);rw[this];apply Array.ext <;> simp
  .have:=HV (a-(m+k)) zs hz;simpa using this
 refine⟨w1.alloc (.cells ((cs++news)++ZP (a-(m+k)) zs).toArray E),w1.heap.size,a,ZP (a-(m+k)) zs,?_,⟨(Bn _ w1).1,(Bn _ w1).2,(Bn _ w1).3⟩,Ql _,by rw[D5];omega,b.1,b.2,I9 _ _,?_⟩
 .simp only[Sem.run_bind,l,Result.andThen_ok,hi,Qpr,i w1 rfl,h,hz,j,f,newRow,D3,Sem.run_pure];simp
 .have:=d.1;simp only[Qw,KF,n,this,r];rw[<-Jj,<-Jj];congr 1;omega
theorem Qqv{E O E2:TypeId}{y:Operand}{k:Nat}{u:Value}{cs:List Value}{q:Option (Nat×Nat)}{E':TypeId}{l:Array TypeId}(X:o.op=.call { callee:=.builtin .append,args := #[x,y],argTypes:=l })(n:l[0]? = some T/\l[1]? = some O)(hx:e x=v)(R:e y=u)
 (hu:∀w,(underlying T).run P w=.ok (.slice E) w) (r:∀w,(underlying O).run P w=.ok (.slice E2) w) (hi:∀w,(typeInfo E).run P w=.ok info w) (J:info.bytes<=4096) (U:0<info.bytes) (hs:∀w,(Go.sizeOf E).run P w=.ok size w)
 (hz:∀w,(zeroValue E).run P w=.ok z w) (D:z.cells=zs.toArray) (I:zs.length=size) (h:cs.length=m*size)
 (hv:match (generalizing:=false) q with
  |none=>v=.slice none 0 0/\m=0
  |some (g,c)=>v=.slice (some ⟨g,0,none⟩) m c/\(m<=c/\c<2^63)/\∃ex,w.heap[g]? = some (.cells (cs++ex).toArray E' (0,0))/\(cs++ex).length=c*size)
 (a:Src w u size k news) (h1:∀u∈news,one u=true) (hm:m+k<8589934592) :
 (∃w',(execOp e o).run P w=.ok (.value (match q with|none=>.slice none 0 0|some (g,c)=>.slice (some ⟨g,0,none⟩) (m+k) c)) w'/\(match q with
  |none=>w'=w/\k=0
  |some (g,c)=>m+k<=c/\∃ex,Wr g E' ((cs++news)++ex) w w'/\((cs++news)++ex).length=c*size)) \/
 (∃w' g c ex,(execOp e o).run P w=.ok (.value (.slice (some ⟨g,0,none⟩) (m+k) c)) w'/\Grow w w'/\w.heap.size<=g/\g<w'.heap.size/\m+k<=c/\c<2^63/\w'.heap[g]? = some (.cells ((cs++news)++ex).toArray E (0,0))/\((cs++news)++ex).length=c*size):=by
 have s:∀c,c<m+k->¬(Builtin.nextslicecap (m+k) c*info.bytes>2^48):=λc hc=>by
  have:=YB (m+k) c hc;have h2:Builtin.nextslicecap (m+k) c*info.bytes<=(4*(m+k)+2048)*4096:=Zf this J;have W:(2:Nat)^48=281474976710656:=Fp;omega
 obtain⟨Q,c',rfl,S⟩:=a.2;have f:∀w,(Builtin.lenOf (.slice Q k c')).run P w=.ok k w:=λ_=>rfl
 have d:∀L w',(Builtin.append_ l o.type #[v,.slice Q k c']).run P w=.ok L w'->(execOp e o).run P w=.ok (.value L) w':=λL w' hr=>by simp[execOp,X,resolve,invoke,hx,R,builtin,hr]
 have B:¬(info.bytes=0):=Fo;have i:=Qqx (P:=P) (w:=w) (v:=v) hi hz D I h a hm;rcases q with _|⟨g,c⟩
 .obtain⟨rfl,rfl⟩:=hv;have H:cs=[]:=Qg (by simpa using h);subst H;rcases Q0 k with h0|h0
  .subst h0;have hn:news=[]:=Qg (by simpa using a.1);subst hn;have G:=Bv (P:=P) a;exact .inl ⟨w,d _ _ (by simp[Builtin.append_,n,hu,r,hs,f,G]),rfl,rfl⟩
  .obtain⟨w',g,c,ex,hr,h2⟩:=i 0 λw' _=>rfl
   refine .inr ⟨w',g,c,ex,d _ _ ?_,h2⟩;rw[<-hr];have K:¬(0+k<=0):=Fo;have A:=s 0 Fo;simp only[Builtin.append_,n,hu,r,hs,f,hi,Sem.run_bind,Sem.run_pure,Result.andThen_ok,Yx,Vu,J0,K,if_false,Jy,false_or,B,and_false,A,W4,if_true]
 .obtain⟨rfl,⟨Y,hc63⟩,ex,hg,hl⟩:=hv;have hcell:∀w',w'.heap=w.heap->(Builtin.firstCells size m (.slice (some ⟨g,0,none⟩) m c)).run P w'=.ok cs.toArray w':=λw' he=>by
   simp only[Builtin.firstCells];rw[<-h];refine ZM g 0 w' cs λj u N=>?_
   have:=(Qh.1 N).1;simp[World.cell?,he,hg,Zc this,N]
  by_cases b:m+k<=c
  .have C:news.length<=ex.length:=by
    have Z:=a.1;rw[Qw,h]at hl;have:(m+k)*size<=c*size:=Qz _ b;rw[Jj]at this;omega
   obtain⟨w',hr,M⟩:=Ea (P:=P) news (cs++ex) (m*size) 0 w hg (by rw[Qw,h];omega) h1;have he:upd (cs++ex) (m*size+0) news=(cs++news)++ex.drop news.length:=by
    rw[X1,<-h,Qbi,Qqq ex news C,Zh]
   rw[he]at M;refine .inl ⟨w',d _ _ ?_,b,ex.drop news.length,M,?_⟩
   .have G:=Bv (P:=P) a;simp only[Builtin.append_,n,hu,r,hs,f,Sem.run_bind,Sem.run_pure,Result.andThen_ok,Yx,Vu,J0,b,if_true,Jy,if_false,W4,G];rw[show((⟨g,0,none⟩:Addr).add (m*size))=⟨g,m*size,none⟩ from by rw[Lm,Zw]];rw[hr];rfl
   .rw[<-hl];simp;omega
  .obtain⟨w',V,c',F,hr,h2⟩:=i c hcell;refine .inr ⟨w',V,c',F,d _ _ ?_,h2⟩;rw[<-hr];have A:=s c Fo;simp only[Builtin.append_,n,hu,r,hs,f,hi,Sem.run_bind,Sem.run_pure,Result.andThen_ok,Yx,Vu,J0,b,if_false,Jy,false_or,B,and_false,A,W4,if_true]
theorem Qip{E F E2:TypeId}{y:Operand}{k:Nat}{u:Value}{A:Option Addr}{cs:List Value}{a:Array TypeId}(J:o.op=.call { callee:=.builtin .append,args := #[x,y],argTypes:=a })(s:a[0]? = some T/\a[1]? = some F)(hx:e x=.slice A m m)(K:e y=u)
 (hu:∀w,(underlying T).run P w=.ok (.slice E) w) (B:∀w,(underlying F).run P w=.ok (.slice E2) w) (hi:∀w,(typeInfo E).run P w=.ok info w) (r:info.bytes<=4096) (L:0<info.bytes) (hs:∀w,(Go.sizeOf E).run P w=.ok size w)
 (hz:∀w,(zeroValue E).run P w=.ok z w) (l:z.cells=zs.toArray) (C:zs.length=size) (h0:Src w (.slice A m m) size m cs) (b:Src w u size k news) (O:0<k) (hm:m+k<8589934592) :
 ∃w' g c ex,(execOp e o).run P w=.ok (.value (.slice (some ⟨g,0,none⟩) (m+k) c)) w'/\Grow w w'/\w.heap.size<=g/\g<w'.heap.size/\m+k<=c/\c<2^63/\w'.heap[g]? = some (.cells ((cs++news)++ex).toArray E (0,0))/\((cs++news)++ex).length=c*size:=by
 have h:¬(Builtin.nextslicecap (m+k) m*info.bytes>2^48):=by
  have:=YB (m+k) m Fo;have h2:Builtin.nextslicecap (m+k) m*info.bytes<=(4*(m+k)+2048)*4096:=Zf this r;have I:(2:Nat)^48=281474976710656:=Fp;omega
 obtain⟨G,c',rfl,M⟩:=b.2;have i:∀w,(Builtin.lenOf (.slice G k c')).run P w=.ok k w:=λ_=>rfl
 have f:∀D w',(Builtin.append_ a o.type #[.slice A m m,.slice G k c']).run P w=.ok D w'->(execOp e o).run P w=.ok (.value D) w':=λD w' hr=>by simp[execOp,J,resolve,invoke,hx,K,builtin,hr]
 have j:¬(info.bytes=0):=Fo;have d:¬(m+k<=m):=Fo;obtain⟨w',N,H,n,hr,h2⟩:=Qqx (P:=P) (w:=w) (v:=.slice A m m) hi hz l C h0.1 b hm m λw' he=>Bv (h0.keep λp v hp=>by simpa[World.cell?,he]using hp)
 refine⟨w',N,H,n,f _ _ ?_,h2⟩;rw[<-hr];simp only[Builtin.append_,s,hu,B,hs,i,hi,Sem.run_bind,Sem.run_pure,Result.andThen_ok,Yx,Vu,J0,d,if_false,Jy,false_or,j,and_false,h,W4,if_true]
end Orr
namespace Orr
open Go
def Oz(ks:U8):Value:=.agg (ks.map (Value.int .i64)).toArray
def Oy:List (U8×LV)->U8->Option LV
 | [],_=>none
 |e::es,k=>if k=e.1 then some e.2 else Oy es k
def Ig:List (U8×LV)->U8->LV->List (U8×LV)
 | [],k,x=>[(k,x)]
 |e::es,k,x=>if k=e.1 then(k,x)::es else e::Ig es k x
theorem cS{n:Nat}:∀{es:List (U8×LV)} {k:U8} {x:LV},(∀e∈es,e.1.length=n)->k.length=n->∀e∈Ig es k x,e.1.length=n
 | [],k,x,_,hk,e,he=>by simp[Ig]at he;subst he;exact hk
 |
  y::es,k,x,h,hk,e,he=>by
  simp only[Ig]at he
  split at he
  .rcases Qm.1 he with rfl|he
   .exact hk
   .exact h e (Qi _ he)
  .rcases Qm.1 he with rfl|he
   .exact h _ (Qy ..)
   .exact cS (λz hz=>h z (Qi _ hz)) hk e he
def Qdr:LV->Bool
 | .int _ _=>true
 | .bool _=>true
 |_=>false
theorem Q0v{w:World}{M:Nat->Prop}{E:Li}{x:LV}{v:Value}(h:Qdr x=true)(hr:XRep w M E v x):v=DG x:=by
 cases x <;> first|cases h|skip
 .have hr:LRep w M v (.int _ _):=hr;cases hr;rfl
 .have hr:LRep w M v (.bool _):=hr;cases hr;rfl
structure MapT(P:Program)(T KT ET:Nat)(d:LV):Prop where
 u:∀w,(underlying T).run P w=.ok (.map KT ET) w
 k:∃ds,(∀w,(underlying KT).run P w=.ok ds w)/\∀x y,Instr.sameNow ds x y=none
 c:∀(em:Bool) (ks:List Int),ks.length=3->∀w,(Instr.checkKey em 10000 KT (Oz ks)).run P w=.ok () w
 e:∀(x y:List Int),x.length=3->y.length=3->∀w,(Op.equal KT (Oz x) (Oz y)).run P w=.ok (decide (x=y)) w
 z:∀w,(zeroValue ET).run P w=.ok (DG d) w
 d:Qdr d=true
variable{P:Program}{T KT ET:Nat}{d:LV}{w:World}
def SG:List (U8×LV)->U8->Option Nat
 | [],_=>none
 |e::es,k=>if k=e.1 then some 0 else(SG es k).map (· + 1)
theorem WG(M:MapT P T KT ET d){k:U8}(b:k.length=3):∀(ents:List MapEntry) (es:List (U8×LV)) (i:Nat) (w:World),(∀e∈es,e.1.length=3)->ents.map (λe=>(e.key,e.val))=Dw es ->
 (Instr.findAsking KT (Oz k) ents i).run P w=.ok ((SG es k).map λj=>(i+j,DG ((Oy es k).getD d))) w
 | [],[],i,w,_,_=>rfl
 | [],_::_,i,w,_,h=>by simp[Dw]at h
 |_::_,[],i,w,_,h=>by simp[Dw]at h
 |
  x::ents,e::es,i,w,hl,h=>by
  simp only[Dw,Xa,List.cons.injEq,Prod.mk.injEq]at h;obtain⟨⟨h1,h2⟩,h3⟩:=h;have c:=WG M b ents es (i+1) w (λz hz=>hl z (Qi _ hz)) h3;have heq:=M.e k e.1 b (hl e (Qy ..)) w;have hx:x.key=Oz e.1:=h1;simp only[Instr.findAsking];rw[Sem.run_bind,hx,heq];simp only[Result.andThen_ok,SG,Oy];by_cases a:k=e.1
  .simp[a,h2]
  .simp only[a,decide_false,Jy,if_false];rw[c];cases SG es k with
   |none=>rfl
   |some j=>simp;omega
variable{k:U8}
theorem CM(M:MapT P T KT ET d)(a:k.length=3)(ents:List MapEntry)(es:List (U8×LV))(w:World)(hl:∀e∈es,e.1.length=3)(h:ents.map (λe=>(e.key,e.val))=Dw es):
 (Instr.findKey KT (Oz k) ents).run P w=.ok ((SG es k).map λj=>(j,DG ((Oy es k).getD d))) w:=by
 obtain⟨ds,hd,hs⟩:=M.k;unfold Instr.findKey;rw[Sem.run_bind,hd];simp only[Result.andThen_ok];cases ents with
 |
  nil =>
  cases es with
  |nil=>rfl
  |cons e es=>simp[Dw]at h
 |
  cons x ents =>
  simp only[Instr.findNow,hs];have:=WG M a (x::ents) es 0 w hl h;rw[this];cases SG es k <;> simp
theorem NH:∀{es:List (U8×LV)} {k:U8},SG es k=none->Oy es k=none/\∀x,Ig es k x=es++[(k,x)]
 | [],_,_=>⟨rfl,λ_=>rfl⟩
 |
  e::es,k,h=>by
  simp only[SG]at h
  split at h
  .cases h
  .rename_i a;have b:=NH (es:=es) (k:=k) (by cases hp:SG es k with|none=>rfl|some j=>rw[hp]at h;cases h);refine⟨by simp only[Oy,if_neg a];exact b.1,λx=>by simp only[Ig,if_neg a,b.2 x,Xg]⟩
theorem kJ:∀{es:List (U8×LV)} {k:U8} {j:Nat},SG es k=some j->∃x,es[j]? = some (k,x)/\Oy es k=some x/\∀y,Ig es k y=es.set j (k,y)
 | [],_,_,h=>by cases h
 |
  e::es,k,j,h=>by
  simp only[SG]at h
  split at h
  .rename_i a;injection h with h;subst h;exact⟨e.2,by simp[a],by simp[Oy,a],λy=>by simp[Ig,a]⟩
  .rename_i a;cases hp:SG es k with
   |none=>rw[hp]at h;cases h
   |
    some i =>
    rw[hp]at h;injection h with h;subst h;obtain⟨x,h1,h2,h3⟩:=kJ hp;exact⟨x,by simpa using h1,by simp only[Oy,if_neg a];exact h2,λy=>by simp only[Ig,if_neg a,h3 y,Ky]⟩
variable{ents:List MapEntry}{es:List (U8×LV)}
theorem Qav(M:MapT P T KT ET d)(a:k.length=3){g ck:Nat}(hl:∀e∈es,e.1.length=3)(h:ents.map (λe=>(e.key,e.val))=Dw es)(hg:w.heap[g]? = some (.map ents.toArray ck)):
 (Instr.lookup T (.map (some g)) (Oz k) false).run P w=.ok (DG ((Oy es k).getD d)) w:=by
 have b:=CM M a ents es w hl h;have hc:=λem=>M.c em k a w
 unfold Instr.lookup;simp only[Sem.run_bind,M.u,Result.andThen_ok,MapKept.run_getObj_map hg,Sem.run_pure,hc,b];cases hp:SG es k with
 |none=>simp[M.z,(NH hp).1]
 |some j=>simp
theorem Qps(e:k.length=3):Instr.sameBits 10000 (Oz k) (Oz k)=true:=by
 match k,e with
 | [a,b,c],_=>simp[Oz,Instr.sameBits]
theorem Qaw(M:MapT P T KT ET d)(o:k.length=3){g ck:Nat}(hl:∀e∈es,e.1.length=3)(h:ents.map (λe=>(e.key,e.val))=Dw es)(hg:w.heap[g]? = some (.map ents.toArray ck))(x:LV):
 ∃(b:List MapEntry) (q:Nat),(Instr.mapUpdate T (.map (some g)) (Oz k) (DG x)).run P w=.ok () { w with heap:=w.heap.setIfInBounds g (.map b.toArray q) }/\b.map (λe=>(e.key,e.val))=Dw (Ig es k x):=by
 have n:=CM M o ents es w hl h;have hc:=λem=>M.c em k o w
 have m:ents.length=es.length:=by have:=congrArg List.length h;simpa[Dw]using this
 cases hp:SG es k with
 |
  none =>
  rw[hp]at n;refine⟨ents++[{ key:=Oz k,val:=DG x,born:=ck }],ck+1,?_,?_⟩
  .unfold Instr.mapUpdate;simp only[Sem.run_bind,M.u,Result.andThen_ok,MapKept.run_getObj_map hg,Sem.run_pure,hc,n,Option.map_none];rw[MapKept.run_setObj_map _ hg];simp
  .rw[(NH hp).2 x,Jx,h];simp[Dw,Oz]
 |
  some j =>
  rw[hp]at n;obtain⟨y,h1,h2,h3⟩:=kJ hp;have a:j<ents.length:=by rw[m];exact(Qh.1 h1).1
  have f:(ents[j]'a).key=Oz k:=by
   have:=congrArg (·[j]?) h;simp only[Dw,Q9,h1,Qf a,Y8,Option.some.injEq,Prod.mk.injEq]at this;exact this.1
  refine⟨ents.set j { ents[j]'a with key:=Oz k,val:=DG x },ck,?_,?_⟩
  .unfold Instr.mapUpdate;simp only[Sem.run_bind,M.u,Result.andThen_ok,MapKept.run_getObj_map hg,Sem.run_pure,hc,n,Y8];have p:(Instr.keyThatStays (((ents.toArray[j]?).map (·.key)).getD (Oz k)) (Oz k)).run P w=.ok (Oz k) w:=by
    rw[Yx,Qf a];simp only[Y8,Km,f];unfold Instr.keyThatStays;rw[if_pos (Qps o)];rfl
   rw[p];simp only[Result.andThen_ok];rw[MapKept.run_setObj_map _ hg];have e:ents.toArray.modify j (λe=>{ e with key:=Oz k,val:=DG x })=(ents.set j { ents[j]'a with key:=Oz k,val:=DG x }).toArray:=by
    apply Array.ext_getElem?;intro i;rw[Array.getElem?_modify];simp only[Yx,Ju];by_cases l:j=i
    .subst l;simp[a]
    .simp[l]
   rw[e]
  .rw[h3 x,Kd,h];unfold Dw;rw[Kd];rfl
def YI(M:List (U8×LV))(k:U8):Int:=match Oy M k with
 |some (.int _ n)=>n
 |_=>0
def AG(M:List (U8×LV))(k:U8):Bool:=match Oy M k with
 |some (.bool b)=>b
 |_=>false
def Qrf(M:List (U8×LV)):Prop:=∀k,(Oy M k).getD (.int .i64 0)=.int .i64 (YI M k)
def Qix(M:List (U8×LV)):Prop:=∀k,(Oy M k).getD (.bool false)=.bool (AG M k)
end Orr
namespace Orr
open Go
variable{P:Program}
structure TI(P:Program) where
 t:TypeId
 ag:Bool
 sz:Nat
 un:TypeDesc
 z:Value
 by_:Nat
 fo:List Nat
 fv:List (Nat×Nat×Bool)
 bl:Option (List Value×(Nat->Option (Nat×Nat)))
 hag:∀w,(isAgg t).run P w=.ok ag w
 hsz:∀w,(Go.sizeOf t).run P w=.ok sz w
 hun:P.underlying t=some un
 hz:∀w,(zeroValue t).run P w=.ok z w
 hi:∃info:TypeInfo,(∀w,(typeInfo t).run P w=.ok info w)/\info.bytes=by_
 hfo:∀f off,fo[f]? = some off->∀b o w,(Instr.fieldAt t (.pointer (some ⟨b,o,none⟩)) f).run P w=.ok (.pointer (some ⟨b,o+off,none⟩)) w
 hfv:∀f off m ag,fv[f]? = some (off,m,ag)->∀(vs:List Value) (v:Value),(if ag=true then v=.agg ((vs.drop off).take m).toArray else vs[off]? = some v)->off+m<=vs.length->∀w,(Instr.field t (.agg vs.toArray) f).run P w=.ok v w
 eqn:Option Nat:=none
 heq:∀k,eqn=some k->P.eqGuardType P.depth t=false/\∀a b:List Int,a.length=k->b.length=k->∀w,(Op.equal t (.agg (a.map (Value.int .i64)).toArray) (.agg (b.map (Value.int .i64)).toArray)).run P w=.ok (decide (a=b)) w:=by intro k h;cases h
 md:Option LV:=none
 hmd:∀d,md=some d->∃KT ET,MapT P t KT ET d:=by intro d h;cases h
 ms:List (Nat×Nat×String):=[]
 hms:∀x∈ms,∀b o w,(method (P.types.size+Made.depth) t (.pointer (some ⟨b,o,none⟩)) x.2.2).run P w=.ok (x.1,.pointer (some ⟨b,o+x.2.1,none⟩)) w:=by intro x h;cases h
 hbl:∀zs pl,bl=some (zs,pl)->∀{vs:List (Nat×Value)} {cs:Array Value},Instr.fill pl zs.toArray vs=some cs->∀w,(Instr.build t vs.toArray).run P w=.ok (.agg cs) w
theorem CZ{t:TypeId}{un:TypeDesc}(h:P.underlying t=some un):∀w,(underlying t).run P w=.ok un w:=by
 intro w;simp only[underlying,Sem.run_bind,program]
 first
  |(simp[h];done)
  |(show((match P.underlying t with|some d=>pure d|none=>stuck "no such type" : Sem TypeDesc)).run P w=_;rw[h];rfl)
theorem TI.hu(i:TI P):∀w,(underlying i.t).run P w=.ok i.un w:=CZ i.hun
theorem TI.hu'{i:TI P}{d:TypeDesc}(h:i.un=d):∀w,(underlying i.t).run P w=.ok d w:=h ▸ i.hu
inductive TT (P:Program) where
 |nil
 |nd (l:TT P) (i:TI P) (r:TT P)
def TT.find:TT P->Nat->Option (TI P)
 | .nil,_=>none
 |
  .nd l i r,t=>match Nat.beq t i.t with
  |true=>some i
  |
   false=>match Nat.blt t i.t with
   |true=>l.find t
   |false=>r.find t
theorem TT.find_t:∀{T:TT P} {t:Nat} {i:TI P},T.find t=some i->i.t=t
 | .nil,_,_,h=>by cases h
 |
  .nd l j r,t,i,h=>by
  simp only[TT.find]at h
  split at h
  .rename_i e;injection h with h;subst h;exact(Qx e).symm
  .split at h
   .exact TT.find_t h
   .exact TT.find_t h
def lf:Value->Option LV
 | .int k n=>some (.int k n)
 | .bool b=>some (.bool b)
 | .string s=>some (.str s)
 | .pointer none=>some .nilp
 | .slice none 0 0=>some .nils
 | .agg _=>none
 | .tuple _=>none
 |_=>some .any
def lfs:List Value->Option Fe
 | []=>some []
 |
  v::vs=>match lf v with
  |
   some x=>match lfs vs with
   |some r=>some (x::r)
   |none=>none
  |none=>none
def zl:Value->Option Fe
 | .agg cs=>lfs cs.toList
 |
  v=>match lf v with
  |some x=>some [x]
  |none=>none
def cst:Value->Option TV
 |
  .agg cs=>match lfs cs.toList with
  |some l=>some (.agg l)
  |none=>none
 |
  v=>match lf v with
  |some x=>some (.one x)
  |none=>none
def evA(L:Sg):Operand->Option AV
 | .tmp t=>lk L t
 |
  .const v=>match cst v with
  |some t=>some (.v t)
  |none=>none
 | .func f=>some (.v (.one (.fn f [] [])))
 | .global _=>none
def evT(L:Sg)(x:Operand):Option TV:=match evA L x with
 |some (.v t)=>some t
 |some (.cnd true t)=>some t
 |_=>none
def evTs(L:Sg):List Operand->Option Fh
 | []=>some []
 |
  x::r=>match evT L x with
  |none=>none
  |
   some v=>match evTs L r with
   |none=>none
   |some vs=>some (v::vs)
def evTp(L:Sg):List (Nat×Operand)->Option (List (Nat×TV))
 | []=>some []
 |
  (i,x)::r=>match evT L x with
  |none=>none
  |
   some v=>match evTp L r with
   |none=>none
   |some vs=>some ((i,v)::vs)
section
variable{w:World}{M:Nat->Prop}{E:Li}
variable{v:Value}
theorem iI{x:LV}(h:lf v=some x):LRep w M v x:=by
 unfold lf at h
 split at h <;> first|cases h|(injection h with h;subst h)
 .exact .int _ _
 .exact .bool _
 .exact .str _
 .exact .nilp
 .exact .nils
 .refine .any v ?_;cases v <;> simp_all[Orr.one]
theorem EQ:∀{vs:List Value} {xs:Fe},lfs vs=some xs->F2 (LRep w M) vs xs
 | [],xs,h=>by simp[lfs]at h;subst h;exact .nil
 |
  v::vs,xs,h=>by
  simp only[lfs]at h
  split at h
  .rename_i x hx
   split at h
   .rename_i r hr;injection h with h;subst h;exact .cons (iI hx) (EQ hr)
   .cases h
  .cases h
variable{xs:Fe}
theorem F2.x{vs:List Value}(h:F2 (LRep w M) vs xs):F2 (XRep w M E) vs xs:=h.imp λ_ _ _ h=>h.x
theorem BW(h:zl v=some xs):F2 (LRep w M) v.cells.toList xs:=by
 unfold zl at h
 split at h
 .exact EQ h
 .split at h
  .rename_i x hx;injection h with h;subst h;have hr:LRep w M v x:=iI hx;have h1:=hr.one;cases v <;> first|(simp[Orr.one]at h1;done)|exact .cons hr .nil
  .cases h
theorem Qtm{t:TV}(h:cst v=some t):TRep w M E v t:=by
 unfold cst at h
 split at h
 .split at h
  .rename_i l hl;injection h with h;subst h;exact⟨_,Ft,(EQ hl).x⟩
  .cases h
 .split at h
  .rename_i x hx;injection h with h;subst h;exact(iI hx).x
  .cases h
end
section
variable{F:Fr}{n:Nat}{L:Sg}{B:Fg}{E:Li}{M:Nat->Prop}{a:Act}{w:World}
variable{x:Operand}
theorem SA.ev(h:SA F n L B E M a w){u:AV}(hx:evA L x=some u):ARep w M E (a.eval x) u:=by
 cases x with
 |
  tmp t =>
  obtain⟨v,h1,h2⟩:=h.slots t u hx;simpa[Act.eval,Array.getD_eq_getD_getElem?,h1]using h2
 |
  const v =>
  simp only[evA]at hx
  split at hx
  .rename_i t ht;injection hx with hx;subst hx;exact Qtm ht
  .cases hx
 |
  func f =>
  simp only[evA,Option.some.injEq]at hx;subst hx;exact LRep.fn f [] [] [] [] rfl rfl (λj v x h=>by simp at h) (λj v x h=>by simp at h)
 |global g=>cases hx
theorem SA.evT(h:SA F n L B E M a w){t:TV}(hx:evT L x=some t):TRep w M E (a.eval x) t:=by
 unfold Orr.evT at hx
 split at hx
 .rename_i u hu;injection hx with hx;subst hx;exact h.ev hu
 .rename_i u hu;injection hx with hx;subst hx;exact(h.ev hu).1 rfl
 .cases hx
theorem SA.evTs(h:SA F n L B E M a w):∀{xs:List Operand} {us:Fh},evTs L xs=some us->F2 (TRep w M E) (xs.map a.eval) us
 | [],us,hx=>by simp[Orr.evTs]at hx;subst hx;exact .nil
 |
  x::r,us,hx=>by
  simp only[Orr.evTs]at hx
  split at hx
  .cases hx
  .rename_i v hv
   split at hx
   .cases hx
   .rename_i vs hr;injection hx with hx;subst hx;exact .cons (h.evT hv) (h.evTs hr)
theorem SA.evTp(h:SA F n L B E M a w):∀{xs:List (Nat×Operand)} {us:List (Nat×TV)},evTp L xs=some us->F2 (λ(p:Nat×Value) (q:Nat×TV)=>p.1=q.1/\TRep w M E p.2 q.2) (xs.map λp=>(p.1,a.eval p.2)) us
 | [],us,hx=>by simp[Orr.evTp]at hx;subst hx;exact .nil
 |
  (i,x)::r,us,hx=>by
  simp only[Orr.evTp]at hx
  split at hx
  .cases hx
  .rename_i v hv
   split at hx
   .cases hx
   .rename_i vs hr;injection hx with hx;subst hx;exact .cons ⟨rfl,h.evT hv⟩ (h.evTp hr)
end
inductive Qv where
 |t (x:TV)
 |o (b:OB)
 |l (l:List (List LV))
 |n (k:Nat)
 |z (k:Int)
 |s (x:String)
abbrev Ll:=List (Qv×Qv)
def EqOk(q:Ll):Prop:=∀p∈q,p.1=p.2
def Gi:List Prop->Prop
 | []=>True
 | [p]=>p
 |p::l=>p/\Gi l
variable{p:Prop}
theorem El{l:List Prop}:Gi (p::l)↔p/\Gi l:=by cases l <;> simp[Gi]
def inR:IntKind->Int->Prop
 | .i64,r=>-9223372036854775808<=r/\r<=9223372036854775807
 | .u64,r=>0<=r/\r<=18446744073709551615
 | .u32,r=>0<=r/\r<=4294967295
 | .u8,r=>0<=r/\r<=255
 |k,r=>k.wrap r=r
variable{k:IntKind}{r:Int}
theorem nW(h:inR k r):k.wrap r=r:=by
 cases k <;> first|exact h|(simp only[inR]at h;simp[IntKind.wrap,IntKind.bits,IntKind.signed];omega)
def Qt7:IntKind->Int->Option Prop
 | .i64,r=>some (-9223372036854775808<=r/\r<=9223372036854775807)
 | .u64,r=>some (0<=r/\r<=18446744073709551615)
 | .u32,r=>some (0<=r/\r<=4294967295)
 | .u8,r=>some (0<=r/\r<=255)
 |k,r=>some (k.wrap r=r)
theorem Qdp(h:Qt7 k r=some p)(hp:p):inR k r:=by
 cases k <;> simp only[Qt7,Option.some.injEq]at h <;> subst h <;> exact hp
def FM:Fe->Option U8
 | []=>some []
 |
  .int .i64 n::l=>match FM l with
  |some r=>some (n::r)
  |none=>none
 |_::_=>none
def CL:Nat->Fe->Option Fe
 | 0,_=>some []
 |
  k+1,x::l=>match CL k l with
  |some r=>some (x::r)
  |none=>none
 |_+1,[]=>none
def VB:Nat->Fe->Option Fe
 | 0,l=>some l
 |k+1,_::l=>VB k l
 |_+1,[]=>none
theorem PY:∀{k:Nat} {l r:Fe},CL k l=some r->r=l.take k/\k<=l.length
 | 0,l,r,h=>by simp[CL]at h;subst h;simp
 |k+1,[],r,h=>by simp[CL]at h
 |
  k+1,x::l,r,h=>by
  simp only[CL]at h
  split at h
  .rename_i q b;injection h with h;subst h;obtain⟨e,hl⟩:=PY b;subst e;exact⟨Ft,by simp;exact hl⟩
  .cases h
theorem VC:∀{k:Nat} {l r:Fe},VB k l=some r->r=l.drop k/\k<=l.length
 | 0,l,r,h=>by simp[VB]at h;subst h;simp
 |k+1,[],r,h=>by simp[VB]at h
 |
  k+1,x::l,r,h=>by
  obtain⟨e,hl⟩:=VC (k:=k) (l:=l) (by simpa[VB]using h);exact⟨by simpa using e,by simp;exact hl⟩
def dB(l:Fe)(off m:Nat):Option Fe:=match VB off l with
 |some r=>CL m r
 |none=>none
theorem UE{l r:Fe}{off m:Nat}(h:dB l off m=some r):r=(l.drop off).take m/\off+m<=l.length:=by
 unfold dB at h
 split at h
 .rename_i q b;obtain⟨rfl,h1⟩:=VC b;obtain⟨rfl,h2⟩:=PY h;rw[Za]at h2;exact⟨rfl,Fo⟩
 .cases h
def PH:Fe->Nat->Fe->Option Fe
 |l,0,[]=>some l
 | [],_,_=>none
 |
  _::l,0,y::ys=>match PH l 0 ys with
  |some r=>some (y::r)
  |none=>none
 |
  x::l,k+1,ys=>match PH l k ys with
  |some r=>some (x::r)
  |none=>none
theorem I5{α:Type}(l:List α)(k:Nat):upd l k []=l:=by cases l <;> simp[upd]
theorem YT:∀{xs b r:Fe} {off:Nat},PH xs off b=some r->r=upd xs off b/\off+b.length<=xs.length
 |xs,[],r,0,h=>by cases xs <;> simp[PH]at h <;> subst h <;> simp[upd]
 | [],[],r,k+1,h=>by simp[PH]at h
 | [],y::b,r,off,h=>by simp[PH]at h
 |
  x::xs,y::b,r,0,h=>by
  simp only[PH]at h
  split at h
  .rename_i q c;injection h with h;subst h;obtain⟨e,hl⟩:=YT c;subst e;exact⟨rfl,by simp at hl ⊢;omega⟩
  .cases h
 |
  x::xs,b,r,off+1,h=>by
  simp only[PH]at h
  split at h
  .rename_i q c;injection h with h;subst h;obtain⟨e,hl⟩:=YT c;subst e;refine⟨?_,by simp at hl ⊢;omega⟩;cases b <;> simp[upd,I5]
  .cases h
def JG:Bool->Fe->Option TV
 |true,l=>some (.agg l)
 |false,[x]=>some (.one x)
 |false,_=>none
def KU:TV->Option Fe
 | .one x=>some [x]
 | .agg xs=>some xs
section
variable{w:World}{M:Nat->Prop}{E:Li}
variable{vs:List Value}
theorem En{ag:Bool}{r:Fe}{t:TV}(h:JG ag r=some t)(hr:F2 (XRep w M E) vs r):∃v,(if ag=true then v=.agg vs.toArray else vs=[v])/\TRep w M E v t:=by
 cases ag with
 |true=>simp only[JG,Option.some.injEq]at h;subst h;exact⟨_,rfl,vs,rfl,hr⟩
 |
  false =>
  rcases r with _|⟨x,_|⟨y,r⟩⟩ <;> simp only[JG,Option.some.injEq,reduceCtorEq]at h
  subst h;cases hr with
  |cons h0 h=>cases h;exact⟨_,rfl,h0⟩
variable{v:Value}
theorem YX{t:TV}{xs:Fe}(h:TRep w M E v t)(hl:KU t=some xs):F2 (XRep w M E) v.cells.toList xs:=by
 cases t with
 |
  one x =>
  simp only[KU,Option.some.injEq]at hl;subst hl;have h:XRep w M E v x:=h;have h1:=h.one;cases v <;> first|(simp[Orr.one]at h1;done)|exact .cons h .nil
 |agg b=>simp only[KU,Option.some.injEq]at hl;subst hl;obtain⟨vs,rfl,h⟩:=h;simpa[Value.cells]using h
theorem Td{k:IntKind}{p:Int}(h:TRep w M E v (.one (.int k p))):v=.int k p:=by have h:LRep w M v _:=h;cases h;rfl
theorem Ld{b:Bool}(h:TRep w M E v (.one (.bool b))):v=.bool b:=by have h:LRep w M v _:=h;cases h;rfl
theorem wG(h:TRep w M E v (.one .nilp)):v=.pointer none:=by have h:LRep w M v _:=h;cases h;rfl
theorem SO{l:Fe}(h:LRep w M v (.sh l)):∃b o,v=.pointer (some ⟨b,o,none⟩)/\b<w.heap.size/\¬M b/\∃vs:List Value,F2 (LRep w M) vs l/\∀j v,vs[j]? = some v->w.cell? ⟨b,o+j,none⟩=some v:=by
 cases h with
 |
  sh b o l f hb hM hcell hrep =>
  refine⟨b,o,rfl,hb,hM,(List.range l.length).map f,F2.of Ft λj u x hu hx=>?_,λj v c=>?_⟩
  .have c:=(Qh.1 hx).1;simp[c]at hu;subst hu;exact hrep j x hx
  .have hl:=(Qh.1 c).1;simp at hl;simp[hl]at c;subst c;exact hcell j hl
theorem Qx8{b o:Nat}{l:Fe}(hb:b<w.heap.size)(hM:¬M b)(hv:F2 (LRep w M) vs l)(hc:∀j v,vs[j]? = some v->w.cell? ⟨b,o+j,none⟩=some v):LRep w M (.pointer (some ⟨b,o,none⟩)) (.sh l):=by
 refine .sh b o l (λj=>(vs[j]?).getD undef) hb hM (λj c=>?_) λj x hx=>?_
 .have:j<vs.length:=by rw[hv.len];exact c
  rw[hc j _ (Qf this),Qf this];rfl
 .obtain⟨v,h1,h2⟩:=hv.get hx;rw[h1];exact h2
theorem Qpl{l:Ff}{i:Nat}{z:Fe}(h:LRep w M v (.row l))(hz:l[i]? = some z):
 ∃b o c,v=.slice (some ⟨b,o,none⟩) l.length c/\LRep w M (.pointer (some ⟨b,o+i*z.length,none⟩)) (.sh z):=by
 cases h with
 |
  row A c sz b o l f hc hc63 hs hA hcell hrep =>
  have h0:0<l.length:=Xe (Qj _) (Qh.1 hz).1;obtain⟨rfl,h1,h2⟩:=hA h0;have d:=hs z (Qc hz);subst d;exact⟨b,o,c,rfl,.sh b _ z (f i) h1 h2 (λj e=>hcell i z hz j e) λj x hx=>hrep i z hz j x hx⟩
theorem ND{l:Ff}(h:LRep w M v (.row l)):∃A c,v=.slice A l.length c/\l.length<=c:=by cases h;exact⟨_,_,rfl,by assumption⟩
end
def QU:Fg->Nat->Option OB
 | [],_=>none
 |b::_,0=>some b
 |_::l,i+1=>QU l i
theorem Mx:∀{B:Fg} {i:Nat},QU B i=B[i]?
 | [],_=>by simp[QU]
 |_::_,0=>by simp[QU]
 |_::_,i+1=>by simp[QU,Mx]
def PV(P:Program)(op:Op)(t:TV)(L:Sg)(B:Fg):Prop:=∀(F:Fr) (n:Nat) (E:Li) (M:Nat->Prop) (a:Act) (w:World),SA F n L B E M a w->∀o:Oper,o.op=op->∃v,(execOp a.eval o).run P w=.ok (.value v) w/\TRep w M E v t
end Orr
namespace Orr
open Go
variable{P:Program}
def PD:Fh->AV
 | [t]=>.v t
 |l=>.tup l
def Qw0(P:Program)(f:Nat)(args:Fh)(Bin:Fg)(Post:Fh->Fg->Prop):Prop :=
 ∀(F:Fr) (E:Li) (M:Nat->Prop) (w:World) (vs:List Value),HS F (ob Bin) (nw Bin) E M w->F2 (TRep w M E) vs args ->
  Calls P f vs.toArray w λe w'=>∃r u Bo E' M',e=.returned r/\Post u Bo/\Bin.length<=Bo.length/\HS F (ob Bo) (nw Bo) E' M' w'/\ARep w' M' E' r (PD u)
def Qre(P:Program)(f:Nat):Prop:=∃fn,P.funcs[f]? = some fn/\(fn.name == "runtime.NumGoroutine")=false/\fn.body.isNone=false
def Ge(P:Program)(f:Nat)(args:Fh)(Bin:Fg)(res:Fh)(Bout:Fg):Prop:=Qre P f/\Qw0 P f args Bin λu B=>u=res/\B=Bout
abbrev xR(P:Program)(f:Nat)(args res:Fh):Prop:=Ge P f args [] res []
inductive H (P:Program) where
 |c {f:Nat} {args:List TV} {Bin:List OB} {res:List TV} {Bout:List OB} (is:List Nat) (h:Ge P f args Bin res Bout)
 |x {l:List (List LV)} {i:Nat} {xs:List LV} (h:l[i]? = some xs)
 |t {b:Bool} (h:b=true)
 |f {b:Bool} (h:b=false)
 |r (d:Nat) {u v:TV} (h:u=v)
 |y {s:ByteArray} {i v:Nat} (h:(s[i]?).map (·.toNat)=some v)
 |z (d:Nat)
 |lo
 |g (d:Nat) (v:Bool) {b:Bool} (h:b=v)
 |i (k:Nat)
 |w (n:Nat)
 |p (i:Nat)
 |o (d T sz:Nat)
 |oc (i off T sz:Nat)
 |s {l:List (List LV)} {sz:Nat} (h:∀c∈l,c.length=sz)
abbrev Pr(P:Program):=Option (TV×List (H P)×Ll×List Prop)
def fit(kd:IntKind)(r:Int)(q:Ll)(ps:List Prop)(h:List (H P)):Pr P:=match h with
 | .w 0::h=>some (.one (.int kd (kd.wrap r)),h,q,ps)
 |
  .w (k+1)::h=>match Qt7 kd r with
  |some p=>some (.one (.int kd r),.w k::h,q,p::ps)
  |none=>none
 |
  _=>match Qt7 kd r with
  |some p=>some (.one (.int kd r),h,q,p::ps)
  |none=>none
def Qo5(op:BinOp)(ti:TI P)(h:List (H P)):TV->TV->Pr P
 |
  .one (.int kd p),.one (.int kd' q)=>match op,h with
  | .shl,.i m::h=>fit kd (p*2^m) [(.z q,.z (m:Int))] [m<=kd.bits] h
  | .shr,.i m::h=>some (.one (.int kd (p / 2^m)),h,[(.z q,.z (m:Int))],[m<=kd.bits])
  | .shl,_=>none
  | .shr,_=>none
  |
   .quo,h=>match decide (kd=kd')with
   |true=>fit kd (p.tdiv q) [] [q≠0] h
   |false=>none
  |
   .or,h=>match decide (kd=kd')with
   |true=>some (.one (.int kd (orI kd p q)),h,[],[])
   |false=>none
  |
   .rem,h=>match decide (kd=kd')with
   |true=>some (.one (.int kd (p.tmod q)),h,[],[q≠0])
   |false=>none
  |
   op,h=>match decide (kd=kd')with
   |
    true=>match Qlr op p q with
    |some b=>some (.one (.bool b),h,[],[])
    |
     none=>match Qi7 op p q with
     |some r=>fit kd r [] [] h
     |none=>none
   |false=>none
 |
  .one (.bool p),.one (.bool q)=>match ti.un,op with
  | .bool,.eql=>some (.one (.bool (p == q)),h,[],[])
  | .bool,.neq=>some (.one (.bool (!(p == q))),h,[],[])
  |_,_=>none
 |
  .one u,.one .nilp=>match ti.un with
  |
   .pointer _=>match u with
   |
    .nilp=>match op with
    | .eql=>some (.one (.bool true),h,[],[])
    | .neq=>some (.one (.bool false),h,[],[])
    |_=>none
   |
    .sh _=>match op with
    | .eql=>some (.one (.bool false),h,[],[])
    | .neq=>some (.one (.bool true),h,[],[])
    |_=>none
   |
    .ow _ _=>match op with
    | .eql=>some (.one (.bool false),h,[],[])
    | .neq=>some (.one (.bool true),h,[],[])
    |_=>none
   |_=>none
  |_=>none
 |
  .agg xs,.agg ys=>match ti.eqn,FM xs,FM ys with
  |
   some k,some a,some b=>match Nat.beq a.length k && Nat.beq b.length k with
   |
    true=>match op with
    | .eql=>some (.one (.bool (decide (a=b))),h,[],[])
    | .neq=>some (.one (.bool (!decide (a=b))),h,[],[])
    |_=>none
   |false=>none
  |_,_,_=>none
 |_,_=>none
def bnd(L:Sg)(k:Nat)(h:List (H P)):Option Operand->Option (Nat×List (H P)×Ll)
 |none=>some (k,h,[])
 |
  some x=>match evT L x with
  |
   some (.one (.int _ z))=>match h with
   | .i m::h=>some (m,h,[(.z z,.z (m:Int))])
   |_=>none
  |_=>none
def Qz0(lo hi:Option Operand)(l h:Nat)(xs:Ff):Option Ff:=match lo,hi with
 |none,none=>some xs
 |none,some _=>some (xs.take h)
 |some _,none=>some (xs.drop l)
 |some _,some _=>some ((xs.take h).drop l)
def lE:Nat->Nat->Option Nat
 | 0,k=>some k
 |m,0=>some m
 |m,k=>some (m+k)
def loS(p:Option (Nat×Nat))(lo0 l:Nat)(lo:Option Operand):Option Nat:=match p with
 |none=>some l
 |
  some _=>match lo with
  |none=>some lo0
  |some _=>some (lo0+l)
def lnS(k l:Nat)(lo:Option Operand):Option Nat:=match lo with
 |none=>some k
 |some _=>some (k-l)
def Io(B:Fg)(i sz:Nat)(p:Option (Nat×Nat)):Option (Nat×Nat):=match p with
 |some (lo,len)=>some (lo,len)
 |
  none=>match QU B i with
  |
   some (.row _ _ sz' ls)=>match Nat.beq sz sz' with
   |true=>some (0,ls.length)
   |false=>none
  |_=>none
def rB(L:Sg)(B:Fg)(te:TI P)(lo hi:Option Operand)(h:List (H P)):TV->Pr P
 |
  .one (.row xs)=>match bnd L 0 h lo with
  |
   some (l,h,q)=>match bnd L xs.length h hi with
   |
    some (k,h,q')=>match Qz0 lo hi l k xs with
    |
     some r=>match lo with
     |none=>some (.one (.row r),h,q++q',[l<=k,k<=xs.length])
     |some _=>some (.one (.row r),h,q++q',[l≤k,k≤xs.length,∀z∈xs,z.length=te.sz])
    |none=>none
   |none=>none
  |none=>none
 |
  .one (.orow i sz p)=>match Nat.beq sz te.sz with
  |
   true=>match Io B i sz p with
   |
    some (lo0,len)=>match bnd L 0 h lo with
    |
     some (l,h,q)=>match bnd L len h hi with
     |
      some (k,h,q')=>match loS p lo0 l lo with
      |
       some s=>match lnS k l lo with
       |some m=>some (.one (.orow i sz (some (s,m))),h,q++q',[l<=k,k<=len])
       |none=>none
      |none=>none
     |none=>none
    |none=>none
   |none=>none
  |false=>none
 |_=>none
def rN(B:Fg)(te:TI P)(h:List (H P)):TV->TV->Pr P
 |
  .one (.row l),.one (.int _ z)=>match h with
  |
   .x (l:=l') (i:=k) (xs:=xs) _::h=>match Nat.beq xs.length te.sz with
   |true=>some (.one (.sh xs),h,[(.l l,.l l'),(.z z,.z (k:Int))],[])
   |false=>none
  |_=>none
 |
  .one (.orow i sz p),.one (.int _ z)=>match Nat.beq sz te.sz with
  |
   true=>match Io B i sz p with
   |
    some (lo,len)=>match h with
    |
     .i k::h=>match p with
     |none=>some (.one (.oel i sz k 0),h,[(.z z,.z (k:Int))],[k<len])
     |some _=>some (.one (.oel i sz (lo+k) 0),h,[(.z z,.z (k:Int))],[k<len])
    |_=>none
   |none=>none
  |false=>none
 |_,_=>none
def SB(off:Nat):TV->Option TV
 |
  .one (.sh l)=>match VB off l with
  |some r=>some (.one (.sh r))
  |none=>none
 |
  .one (.ow i o)=>match lE o off with
  |some s=>some (.one (.ow i s))
  |none=>none
 |
  .one (.oel i sz k o)=>match lE o off with
  |some s=>some (.one (.oel i sz k s))
  |none=>none
 |_=>none
def Qai(
 B:Fg) (ti:TI P) (h:List (H P)):TV->Pr P
  |
   .one (.sh l)=>match CL ti.sz l with
   |
    some r=>match JG ti.ag r with
    |some t=>some (t,h,[],[])
    |none=>none
   |none=>none
  |
   .one (.ow i o)=>match QU B i with
   |
    some (.blk _ xs)=>match dB xs o ti.sz with
    |
     some r=>match JG ti.ag r with
     |some t=>some (t,h,[],[])
     |none=>none
    |none=>none
   |_=>none
  |
   .one (.oel i sz k o)=>match QU B i with
   |
    some (.row _ _ sz' ls)=>match Nat.beq sz sz' with
    |
     true=>match h with
     |
      .x (l:=l') (i:=k') (xs:=xs) _::h=>match dB xs o ti.sz with
      |
       some r=>match JG ti.ag r with
       |some t=>some (t,h,[(.l ls,.l l'),(.n k,.n k')],[])
       |none=>none
      |none=>none
     |_=>none
    |false=>none
   |_=>none
  |_=>none
def Qo7(B:Fg):TV->Option Nat
 | .one (.row l)=>some l.length
 | .one .nils=>some 0
 |
  .one (.orow i sz p)=>match Io B i sz p with
  |some (_,len)=>some len
  |none=>none
 |_=>none
def OT(place:Nat->Option (Nat×Nat)):Fe->List (Nat×TV)->Option Fe
 |xs,[]=>some xs
 |
  xs,(i,u)::rest=>match place i with
  |none=>none
  |
   some (off,size)=>match KU u with
   |none=>none
   |
    some ys=>match Nat.beq ys.length size with
    |false=>none
    |
     true=>match PH xs off ys with
     |none=>none
     |some r=>OT place r rest
def ones:Fh->Option Fe
 | []=>some []
 |
  .one x::l=>match ones l with
  |some r=>some (x::r)
  |none=>none
 |_::_=>none
def Eg:Fe->Bool
 | []=>true
 |
  x::l=>match x.free with
  |true=>Eg l
  |false=>false
def oH:Fe->Bool
 | []=>true
 | .ow _ _::l=>oH l
 |
  x::l=>match x.free with
  |true=>oH l
  |false=>false
def mmL(mx:Bool):Fh->Option (IntKind×Int)
 | [.one (.int k p)]=>some (k,p)
 |
  .one (.int k p)::.one (.int k' q)::[]=>match decide (k=k')with
  |
   true=>match mx with
   |true=>some (k,max p q)
   |false=>some (k,min p q)
  |false=>none
 |
  .one (.int k p)::.one (.int k' q)::.one (.int k'' r)::[]=>match decide (k=k'),decide (k=k''),mx with
  |true,true,true=>some (k,max (max p q) r)
  |_,_,_=>none
 |_=>none
def pv(
 T:TT P) (
  L:Sg) (B:Fg) (h:List (H P)):Op->Pr P
  |
   .move x=>match evT L x with
   |some t=>some (t,h,[],[])
   |none=>none
  |
   .assign x=>match evT L x with
   |some t=>some (t,h,[],[])
   |none=>none
  |
   .nilCheck x=>match evT L x with
   |some (.one (.ow i o))=>some (.one (.ow i o),h,[],[])
   |some (.one (.sh l))=>some (.one (.sh l),h,[],[])
   |some (.one (.oel i sz k o))=>some (.one (.oel i sz k o),h,[],[])
   |_=>none
  |
   .extract x i=>match evA L x with
   |
    some (.tup l)=>match l[i]? with
    |some t=>some (t,h,[],[])
    |none=>none
   |_=>none
  |
   .pick c x y=>match evT L c with
   |
    some (.one (.bool b))=>match evA L x,evA L y with
    |some (.cnd b' (.one (.bool p))),some (.v (.one (.bool q)))=>some (.one (.bool (cond b p q)),h,[(.t (.one (.bool b)),.t (.one (.bool b')))],[])
    |some (.v (.one (.bool p))),some (.cnd b' (.one (.bool q)))=>some (.one (.bool (cond b p q)),h,[(.t (.one (.bool (!b))),.t (.one (.bool b')))],[])
    |some (.v (.one (.bool p))),some (.v (.one (.bool q)))=>some (.one (.bool (cond b p q)),h,[],[])
    |_,_=>none
   |_=>none
  |
   .fieldAddr S x f=>match T.find S with
   |
    some ti=>match ti.fo[f]? with
    |
     some off=>match evT L x with
     |
      some t=>match SB off t with
      |some u=>some (u,h,[],[])
      |none=>none
     |none=>none
    |none=>none
   |none=>none
  |
   .load t x=>match T.find t with
   |
    some ti=>match evT L x with
    |some u=>Qai B ti h u
    |none=>none
   |none=>none
  |
   .field S x f=>match T.find S with
   |
    some ti=>match ti.fv[f]? with
    |
     some (off,m,ag)=>match evT L x with
     |
      some (.agg xs)=>match dB xs off m with
      |
       some r=>match JG ag r with
       |some u=>some (u,h,[],[])
       |none=>none
      |none=>none
     |_=>none
    |none=>none
   |none=>none
  |
   .build S ps=>match T.find S with
   |
    some ti=>match ti.bl with
    |
     some (z,pl)=>match lfs z with
     |
      some zs=>match evTp L ps.toList with
      |
       some us=>match OT pl zs us with
       |some r=>some (.agg r,h,[],[])
       |none=>none
      |none=>none
     |none=>none
    |none=>none
   |none=>none
  |
   .unOp .not _ x=>match evT L x with
   |some (.one (.bool b))=>some (.one (.bool (!b)),h,[],[])
   |_=>none
  |
   .unOp .neg _ x=>match evT L x with
   |some (.one (.int kd p))=>fit kd (-p) [] [] h
   |_=>none
  |
   .binOp op t x y _=>match T.find t with
   |
    some ti=>match evT L x,evT L y with
    |some u,some v=>Qo5 op ti h u v
    |_,_=>none
   |none=>none
  |
   .convert s u x=>match T.find s,T.find u with
   |
    some ti,some tj=>match ti.un,tj.un with
    |
     .int kd,.int kd'=>match evT L x with
     |
      some (.one (.int kd2 p))=>match decide (kd=kd2)with
      |true=>fit kd' p [] [] h
      |false=>none
     |_=>none
    |_,_=>none
   |_,_=>none
  |
   .index t x y=>match T.find t with
   |
    some ti=>match ti.un with
    |
     .string=>match evT L x,evT L y with
     |
      some (.one (.str s)),some (.one (.int _ z))=>match h with
      | .y (s:=s') (i:=i) (v:=v) _::h=>some (.one (.int .u8 (v:Int)),h,[(.t (.one (.str s)),.t (.one (.str s'))),(.z z,.z (i:Int))],[])
      |_=>none
     |_,_=>none
    |
     .array m E=>match T.find E with
     |
      some te=>match evT L x,evT L y with
      |
       some (.agg xs),some (.one (.int _ z))=>match h with
       |
        .i k::h=>match Nat.blt k m with
        |
         true=>match dB xs (k*te.sz) te.sz with
         |
          some r=>match JG te.ag r with
          |some u=>some (u,h,[(.z z,.z (k:Int))],[])
          |none=>none
         |none=>none
        |false=>none
       |_=>none
      |_,_=>none
     |none=>none
    |_=>none
   |none=>none
  |
   .slice t x lo hi none=>match T.find t with
   |
    some ti=>match ti.un with
    |
     .slice E=>match T.find E with
     |
      some te=>match evT L x with
      |some u=>rB L B te lo hi h u
      |none=>none
     |none=>none
    |_=>none
   |none=>none
  |
   .slice t x none (some y) (some z)=>match T.find t with
   |
    some ti=>match ti.un with
    |
     .slice E=>match T.find E with
     |
      some _=>match evT L x,evT L y,evT L z with
      |
       some (.one (.row xs)),some (.one (.int _ p)),some (.one (.int _ q))=>match h with
       | .i k::h=>some (.one (.frow (xs.take k)),h,[(.z p,.z (k:Int)),(.z q,.z (k:Int))],[k<=xs.length])
       |h=>some (.one (.row xs),h,[(.z p,.z (xs.length:Int)),(.z q,.z (xs.length:Int))],[])
      |_,_,_=>none
     |none=>none
    |_=>none
   |none=>none
  |
   .indexAddr t x y=>match T.find t with
   |
    some ti=>match ti.un with
    |
     .slice E=>match T.find E with
     |
      some te=>match evT L x,evT L y with
      |some u,some v=>rN B te h u v
      |_,_=>none
     |none=>none
    |
     .array m E=>match T.find E with
     |
      some te=>match evT L x,evT L y with
      |
       some u,some (.one (.int _ z))=>match h with
       |
        .i k::h=>match Nat.blt k m with
        |
         true=>match SB (k*te.sz) u with
         |some r=>some (r,h,[(.z z,.z (k:Int))],[])
         |none=>none
        |false=>none
       |_=>none
      |_,_=>none
     |none=>none
    |_=>none
   |none=>none
  |
   .makeFunc (.func f) pre post=>match evTs L pre.toList with
   |
    some us=>match evTs L post.toList with
    |
     some ys=>match ones us with
     |
      some xs=>match ones ys with
      |
       some zs=>match Eg xs && Eg zs with
       |true=>some (.one (.fn f xs zs),h,[],[])
       |
        false=>match oH xs && oH zs with
        |true=>some (.one (.ofn f xs zs),h,[],[])
        |false=>none
      |none=>none
     |none=>none
    |none=>none
   |none=>none
  |
   .lookup t x y false=>match T.find t with
   |
    some ti=>match ti.md with
    |
     some d=>match evT L x,evT L y with
     |
      some (.one (.omap i)),some (.agg ys)=>match QU B i,FM ys with
      |
       some (.mpb es),some ks=>match Nat.beq ks.length 3 with
       |
        true=>match d with
        | .int .i64 (.ofNat 0)=>some (.one (.int .i64 (YI es ks)),h,[],[Qrf es])
        | .bool false=>some (.one (.bool (AG es ks)),h,[],[Qix es])
        |_=>none
       |false=>none
      |_,_=>none
     |_,_=>none
    |none=>none
   |none=>none
  |
   .makeInterface t x=>match T.find t with
   |
    some ti=>match ti.un with
    |
     .pointer _=>match evT L x with
     |some (.one (.ow i o))=>some (.one (.oif t i o),h,[],[])
     |_=>none
    |_=>none
   |none=>none
  |
   .call { callee:=.builtin .len,args:=xs,argTypes:=ts }=>match xs.toList with
   |
    [x]=>match ts[0]? with
    |
     some t=>match T.find t with
     |
      some ti=>match ti.un with
      |
       .slice _=>match evT L x with
       |
        some u=>match Qo7 B u with
        |some m=>some (.one (.int .i64 (m:Int)),h,[],[])
        |none=>none
       |none=>none
      |_=>none
     |none=>none
    |none=>none
   |_=>none
  |
   .call { callee:=.builtin .max,args:=xs,argTypes:=_ }=>match evTs L xs.toList with
   |
    some us=>match mmL true us with
    |some (k,p)=>some (.one (.int k p),h,[],[])
    |none=>none
   |none=>none
  |
   .call { callee:=.builtin .min,args:=xs,argTypes:=_ }=>match evTs L xs.toList with
   |
    some us=>match mmL false us with
    |some (k,p)=>some (.one (.int k p),h,[],[])
    |none=>none
   |none=>none
  |_=>none
abbrev H.k{P : Program}{f : Nat}{args : List TV}{Bin : List OB}{res : List TV}{Bout : List OB}(h : Ge P f args Bin res Bout) : H P := .c [] h
abbrev H.F{P : Program}{p : Prop}[Decidable p](h : ¬p := by omega) : H P := .f (decide_eq_false h)
abbrev H.T{P : Program}{p : Prop}[Decidable p](h : p := by omega) : H P := .t (decide_eq_true h)
end Orr
namespace Orr
open Go
variable{P:Program}{w:World}{M:Nat->Prop}{E:Li}{e:Operand->Value}{o:Oper}{hs h':List (H P)}{q:Ll}{ob:List Prop}{t:TV}
theorem EqOk.nil:EqOk []:=λ_ h=>by cases h
theorem EqOk.app{a b:Ll}(h:EqOk (a++b)):EqOk a/\EqOk b:=⟨λp hp=>h p (Qr.2 (.inl hp)),λp hp=>h p (Qr.2 (.inr hp))⟩
theorem EqOk.hd{a b:Qv}{l:Ll}(h:EqOk ((a,b)::l)):a=b:=h _ (.head _)
theorem EqOk.tl{p:Qv×Qv}{l:Ll}(h:EqOk (p::l)):EqOk l:=λx hx=>h x (.tail _ hx)
theorem OM{kd:IntKind}{r:Int}{qs:Ll}{ps:List Prop}(h:fit kd r qs ps hs=some (t,h',q,ob))(b:Gi ob):t=.one (.int kd (kd.wrap r))/\q=qs/\Gi ps:=by
 unfold fit at h
 split at h
 .injection h with h;injection h with h1 h;injection h with h2 h;injection h with h3 h4;subst h1;subst h3;subst h4;exact⟨rfl,rfl,b⟩
 .split at h
  .rename_i p hp;injection h with h;injection h with h1 h;injection h with h2 h;injection h with h3 h4;subst h1;subst h3;subst h4;obtain⟨h5,c⟩:=El.1 b;exact⟨by rw[nW (Qdp hp h5)],rfl,c⟩
  .cases h
 .split at h
  .rename_i p hp;injection h with h;injection h with h1 h;injection h with h2 h;injection h with h3 h4;subst h1;subst h3;subst h4;obtain⟨h5,c⟩:=El.1 b;exact⟨by rw[nW (Qdp hp h5)],rfl,c⟩
  .cases h
theorem H8{α β γ δ:Type}{a f:α}{b b':β}{c c':γ}{d d':δ}(h:some (a,b,c,d)=some (f,b',c',d')):a=f/\b=b'/\c=c'/\d=d':=by
 injection h with h;injection h with h1 h;injection h with h2 h;injection h with h3 h4;exact⟨h1,h2,h3,h4⟩
variable{v:Value}
theorem Qez{x:LV}(h:XRep w M E v x)(hx:(∃i o,x=.ow i o)\/(∃l,x=.sh l)\/(∃i sz k o,x=.oel i sz k o)):∃b o,v=.pointer (some ⟨b,o,none⟩):=by
 rcases hx with⟨i,o,rfl⟩|⟨l,rfl⟩|⟨i,sz,k,o,rfl⟩
 .obtain⟨g,c,m,e,rfl⟩:=h;exact⟨_,_,rfl⟩
 .obtain⟨b,o,rfl,_⟩:=SO h;exact⟨_,_,rfl⟩
 .obtain⟨g,c,m,e,rfl⟩:=h;exact⟨_,_,rfl⟩
theorem nF:∀{xs:Fe} {a:U8} {vs:List Value},FM xs=some a->F2 (XRep w M E) vs xs->vs=a.map (Value.int .i64)
 | [],_,_,h,.nil=>by simp[FM]at h;subst h;rfl
 |
  x::xs,_,_,h,.cons h0 hr=>by
  cases x <;> first|cases h|skip
  rename_i k n;cases k <;> first|cases h|skip
  simp only[FM]at h
  split at h
  .rename_i r b;injection h with h;subst h;have h0:LRep w M _ (.int .i64 n):=h0;cases h0;rw[nF b hr];rfl
  .cases h
theorem UK{xs:Fe}{a:U8}(h:FM xs=some a)(hr:TRep w M E v (.agg xs)):v=.agg (a.map (Value.int .i64)).toArray:=by
 obtain⟨vs,rfl,hr⟩:=hr;rw[nF h hr]
theorem Qo6{m:BinOp}{j:TI P}{x y:Operand}{s:TypeId}{u v:TV}(d:o.op=.binOp m j.t x y s)(h:Qo5 m j hs u v=some (t,h',q,ob))(l:EqOk q)(f:Gi ob)(hx:TRep w M E (e x) u)(c:TRep w M E (e y) v) :
 ∃r,(execOp e o).run P w=.ok (.value r) w/\TRep w M E r t:=by
 unfold Qo5 at h
 split at h
 .rename_i kd p z A;have hx:=Td hx;have c:=Td c
  split at h
  .obtain⟨rfl,rfl,h3⟩:=OM h f;have i:=l.hd;injection i with i;exact⟨_,Q5c d hx (i ▸ c) h3,LRep.int _ _⟩
  .obtain⟨rfl,rfl,rfl,rfl⟩:=H8 h;have i:=l.hd;injection i with i;exact⟨_,Q5d d hx (i ▸ c) f,LRep.int _ _⟩
  .cases h
  .cases h
  .split at h
   .rename_i g;obtain rfl:=of_decide_eq_true g;obtain⟨rfl,rfl,h3⟩:=OM h f;exact⟨_,Q5a d hx c h3,LRep.int _ _⟩
   .cases h
  .split at h
   .rename_i g;obtain rfl:=of_decide_eq_true g;obtain⟨rfl,rfl,rfl,rfl⟩:=H8 h;exact⟨_,Q6m d hx c,LRep.int _ _⟩
   .cases h
  .split at h
   .rename_i g;obtain rfl:=of_decide_eq_true g;obtain⟨rfl,rfl,rfl,rfl⟩:=H8 h;exact⟨_,Q5b d hx c f,LRep.int _ _⟩
   .cases h
  .split at h
   .rename_i g;obtain rfl:=of_decide_eq_true g
    split at h
    .rename_i b hb;obtain⟨rfl,rfl,rfl,rfl⟩:=H8 h;exact⟨_,Q41 d hx c hb,LRep.bool _⟩
    .split at h
     .rename_i r hr;obtain⟨rfl,rfl,h3⟩:=OM h f;exact⟨_,Q4z d hx c hr,LRep.int _ _⟩
     .cases h
   .cases h
 .have hx:=Ld hx;have c:=Ld c
  split at h
  .rename_i hu;obtain⟨rfl,rfl,rfl,rfl⟩:=H8 h;exact⟨_,Q43 d hx c (by rw[j.hun,hu]),LRep.bool _⟩
  .rename_i hu;obtain⟨rfl,rfl,rfl,rfl⟩:=H8 h;exact⟨_,Q47 d hx c (by rw[j.hun,hu]),LRep.bool _⟩
  .cases h
 .have c:=wG c
  split at h
  .rename_i E' hu;have hu:=TI.hu' hu
   split at h
   .have hx:=wG hx
    split at h <;> first|(cases h;done)|skip
    .obtain⟨rfl,rfl,rfl,rfl⟩:=H8 h;exact⟨_,FZ (.inl rfl) d hu hx c,LRep.bool _⟩
    .obtain⟨rfl,rfl,rfl,rfl⟩:=H8 h;exact⟨_,FZ (.inr rfl) d hu hx c,LRep.bool _⟩
   .obtain⟨b,a,hx⟩:=Qez (w:=w) (M:=M) (E:=E) (x:=.sh _) hx (.inr (.inl ⟨_,rfl⟩))
    split at h <;> first|(cases h;done)|skip
    .obtain⟨rfl,rfl,rfl,rfl⟩:=H8 h;exact⟨_,FZ (.inl rfl) d hu hx c,LRep.bool _⟩
    .obtain⟨rfl,rfl,rfl,rfl⟩:=H8 h;exact⟨_,FZ (.inr rfl) d hu hx c,LRep.bool _⟩
   .obtain⟨b,a,hx⟩:=Qez (w:=w) (M:=M) (E:=E) (x:=.ow _ _) hx (.inl ⟨_,_,rfl⟩)
    split at h <;> first|(cases h;done)|skip
    .obtain⟨rfl,rfl,rfl,rfl⟩:=H8 h;exact⟨_,FZ (.inl rfl) d hu hx c,LRep.bool _⟩
    .obtain⟨rfl,rfl,rfl,rfl⟩:=H8 h;exact⟨_,FZ (.inr rfl) d hu hx c,LRep.bool _⟩
   .cases h
  .cases h
 .split at h
  .rename_i k a b g ha hb
   split at h
   .rename_i hl;simp only[Zr]at hl;have la:=Qx hl.1;have lb:=Qx hl.2;obtain⟨hg,he⟩:=j.heq k g;have hx:=UK ha hx;have c:=UK hb c
    split at h
    .obtain⟨rfl,rfl,rfl,rfl⟩:=H8 h;exact⟨_,Q42 d hx c hg (he a b la lb),LRep.bool _⟩
    .obtain⟨rfl,rfl,rfl,rfl⟩:=H8 h;exact⟨_,Q46 d hx c hg (he a b la lb),LRep.bool _⟩
    .cases h
   .cases h
  .cases h
 .cases h
section
variable{F:Fr}{n:Nat}{L:Sg}{B:Fg}{a:Act}
theorem wN:∀{m k s:Nat},lE m k=some s->s=m+k
 | 0,k,s,h=>by simp[lE]at h;omega
 |m+1,0,s,h=>by simp[lE]at h;omega
 |m+1,k+1,s,h=>by simp[lE]at h;omega
theorem SA.blk(h:SA F n L B E M a w){i:Nat}{b:OB}(hb:QU B i=some b):OBRep w M E i b:=by
 have:=h.hs.blk i;rwa[Pa (Mx ▸ hb)]at this
variable{v:Value}
theorem SA.orow(h:SA F n L B E M a w){i sz lo len:Nat}{p:Option (Nat×Nat)}(hp:Io B i sz p=some (lo,len))(hv:XRep w M E v (.orow i sz p)):∃m q,E i=some (q,m)/\lo+len<=m/\dZ v sz lo len q:=by
 obtain⟨q,m,e,hr⟩:=hv;refine⟨m,q,e,?_⟩;rcases p with _|⟨lo',b⟩
 .simp only[Io]at hp
  split at hp
  .rename_i fx T c ls hb
   split at hp
   .injection hp with hp;injection hp with h1 h2;subst h1;subst h2;obtain⟨_,_,d,e',_⟩:=h.blk hb;rw[e]at e';injection e' with e';injection e' with e1 e2;subst e1;subst e2
    exact hr
   .cases hp
  .cases hp
 .simp only[Io]at hp;injection hp with hp;injection hp with h1 h2;subst h1;subst h2;exact hr
variable{k:Nat}
theorem SA.bnd(h:SA F n L B E M a w){k':Nat}{x:Option Operand}{c:Ll}(hb:bnd L k hs x=some (k',h',c))(d:EqOk c):Qyu a.eval k' x/\(x=none->k'=k):=by
 unfold Orr.bnd at hb
 split at hb
 .injection hb with hb;injection hb with h1 _;subst h1;exact⟨trivial,λ_=>rfl⟩
 .split at hb
  .rename_i x kd z hz
   split at hb
   .injection hb with hb;injection hb with h1 hb;injection hb with _ h2;subst h1;subst h2;have b:=d.hd;injection b with b;exact⟨⟨kd,by rw[Td (h.evT hz),b]⟩,λh=>by cases h⟩
   .cases hb
  .cases hb
variable{xs:Ff}
theorem Qtn{lo hi:Option Operand}{l:Nat}{r:Ff}(h:Qz0 lo hi l k xs=some r)(hl:lo=none->l=0)(b:hi=none->k=xs.length):r=(xs.take k).drop l:=by
 unfold Qz0 at h
 split at h <;> injection h with h <;> subst h
 .rw[hl rfl,b rfl];simp
 .rw[hl rfl];simp
 .rw[b rfl];simp
 .rfl
variable{A:Option Addr}
theorem Qvr{c l sz:Nat}(h:LRep w M v (.row xs))(hv:v=.slice A xs.length c)(hsz:l=0\/∀z∈xs,z.length=sz)(hl:l≤k)(y:k≤xs.length):LRep w M (.slice (if c=l then A else A.map (·.add (l*sz))) (k-l) (c-l)) (.row ((xs.take k).drop l)):=by
 cases h with
 |
  row A' c' sz' b o _ f hc hc63 hs hA hcell hrep =>
  injection hv with h1 h2 h3;subst h1;subst h3;have m:((xs.take k).drop l).length=k-l:=Fq;have d:∀(i:Nat) (cs:Fe),((xs.take k).drop l)[i]? = some cs->xs[l+i]? = some cs/\l+i<xs.length:=λi cs hi=>by
   rw[Xp,Jl]at hi
   split at hi
   .exact⟨hi,(Qh.1 hi).1⟩
   .cases hi
  have r:∀z∈xs,l*sz'=l*sz:=λz hz=>by
   rcases hsz with rfl|hsz
   .simp
   .rw[<-hs z hz,hsz z hz]
  have p:=LRep.row (w:=w) (M:=M) (if c'=l then A' else A'.map (·.add (l*sz))) (c'-l) sz' b (o+l*sz') ((xs.take k).drop l) (λi j=>f (l+i) j) Fo Fo (λz hz=>hs z (Qn (Q3 hz)))
   (λh0=>by
    have g:0<xs.length:=Fo;obtain⟨rfl,h2⟩:=hA g;refine⟨?_,h2⟩;rw[if_neg Fo,r _ (Xs g)];simp[Lm])
   (λi cs hi j s=>by
    obtain⟨h1,h2⟩:=d i cs hi;have u:=hcell (l+i) cs h1 j s;rw[<-u,Jj,Vd o]) (λi cs hi j x hx=>hrep (l+i) cs (d i cs hi).1 j x hx)
  rw[m]at p;exact p
theorem dX{c sz:Nat}(g:k<=xs.length)(h:LRep w M v (.row xs))(hv:v=.slice A xs.length c):LRep w M (.slice (if k=0 then A else A.map (·.add (0*sz))) k k) (.row (xs.take k)):=by
 cases h with
 |
  row A' c' sz' b o _ f hc hc63 hs hA hcell hrep =>
  injection hv with h1 h2 h3;subst h1;subst h3;have hg:∀(i:Nat) (cs:Fe),(xs.take k)[i]? = some cs->xs[i]? = some cs:=λi cs hi=>by
   rw[Jl]at hi
   split at hi
   .exact hi
   .cases hi
  have hl:(xs.take k).length=k:=by rw[Qt];omega
  have d:=LRep.row (w:=w) (M:=M) (if k=0 then A' else A'.map (·.add (0*sz))) k sz' b o (xs.take k) f Fo Fo (λz hz=>hs z (Qn hz)) (λh0=>by
   obtain⟨rfl,h2⟩:=hA Fo;refine⟨?_,h2⟩;rw[if_neg Fo];simp[Lm]) (λi cs hi=>hcell i cs (hg i cs hi)) (λi cs hi=>hrep i cs (hg i cs hi))
  rw[hl]at d;exact d
theorem Qaj(
 h:SA F n L B E M a w) {y:TI P} {T:TypeId} {x:Operand} {lo hi:Option Operand} {u:TV} (Q:o.op=.slice T x lo hi none) (hu:∀w,(underlying T).run P w=.ok (.slice y.t) w) (hx:evT L x=some u) (hp:rB L B y lo hi hs u=some (t,h',q,ob)) (W:EqOk q) (v:Gi ob) :
  ∃r,(execOp a.eval o).run P w=.ok (.value r) w/\TRep w M E r t:=by
  have hr:=h.evT hx;unfold rB at hp
  split at hp
  .rename_i xs
   split at hp
   .rename_i l h1 R G
    split at hp
    .rename_i k h2 S I
     split at hp
     .rename_i r hc;have O:t=.one (.row r)/\q=R++S/\l≤k/\k≤xs.length/\(lo=none\/∀z∈xs,z.length=y.sz):=by
       split at hp
       .obtain⟨rfl,rfl,rfl,rfl⟩:=H8 hp;exact⟨rfl,rfl,v.1,v.2,.inl rfl⟩
       .obtain⟨rfl,rfl,rfl,rfl⟩:=H8 hp;exact⟨rfl,rfl,v.1,v.2.1,.inr v.2.2⟩
      obtain⟨rfl,rfl,p1,p2,hz⟩:=O;obtain⟨C,D⟩:=W.app;obtain⟨b1,n1⟩:=h.bnd G C;obtain⟨N,n2⟩:=h.bnd I D;obtain⟨A,c,hv,V⟩:=ND hr;have hz:l=0\/∀z∈xs,z.length=y.sz:=hz.imp n1 id;have J:=Qtn hc n1 n2;subst J;exact⟨_,sJ Q hv hu y.hsz b1 N n1 n2 p1 (λ_=>Fo),Qvr hr hv hz p1 p2⟩
     .cases hp
    .cases hp
   .cases hp
  .rename_i i sz p
   split at hp
   .rename_i hsz;have hsz:=Qx hsz;subst hsz
    split at hp
    .rename_i f len b
     split at hp
     .rename_i l h1 R G
      split at hp
      .rename_i k h2 S I
       split at hp
       .rename_i s d
        split at hp
        .rename_i m j;obtain⟨rfl,rfl,rfl,rfl⟩:=H8 hp;obtain⟨C,D⟩:=W.app;obtain⟨b1,n1⟩:=h.bnd G C;obtain⟨N,n2⟩:=h.bnd I D;obtain⟨p1,p2⟩:=El.1 v;have p2:k<=len:=p2;obtain rfl:s=f+l:=by
          unfold loS at d
          split at d
          .injection d with d;simp only[Io]at b
           split at b
           .split at b
            .injection b with b;injection b with h1 _;omega
            .cases b
           .cases b
          .split at d
           .injection d with d;have:=n1 rfl;omega
           .injection d with d;exact d.symm
         obtain rfl:m=k-l:=by
          unfold lnS at j
          split at j
          .injection j with j;have:=n1 rfl;omega
          .injection j with j;exact j.symm
         obtain⟨m',qe,he,hml,hv⟩:=h.orow b hr;rcases qe with _|⟨g,c⟩
         .obtain⟨hv,J,U⟩:=hv;have Y:k=0:=Fo;have e4:l=0:=Fo;subst Y;subst e4;subst J;exact⟨_,sJ Q (hv.trans (by rw[U])) hu y.hsz b1 N n1 n2 p1 (λ_=>Fo),none,m',he,Ft,by simp[dZ,U]⟩
         .obtain⟨hle,a0,hv,ha⟩:=hv;refine⟨_,sJ Q hv hu y.hsz b1 N n1 n2 p1 (λ_=>Fo),some (g,c),m',he,Fq,?_⟩;refine⟨Fq,?_⟩;simp only[Km];by_cases K:c-f=l
          .refine⟨a0,?_,λZ=>?_⟩
           .rw[if_pos K,show c-f-l=c-(f+l) from Fo]
           .have X:f=0:=Fo;have J:l=0:=Fo;rw[ha (.inl X),X,J]
          .refine⟨a0+l*y.sz,?_,λZ=>?_⟩
           .rw[if_neg K,show c-f-l=c-(f+l) from Fo];simp[Lm]
           .rw[ha Fo,Jj]
        .cases hp
       .cases hp
      .cases hp
     .cases hp
    .cases hp
   .cases hp
  .cases hp
variable{x:Operand}{T:TypeId}{u:TV}
theorem Qah(h:SA F n L B E M a w){A:TI P}{y:Operand}{v:TV}(G:o.op=.indexAddr T x y)(hu:∀w,(underlying T).run P w=.ok (.slice A.t) w)(hx:evT L x=some u)(Q:evT L y=some v)(hp:rN B A hs u v=some (t,h',q,ob))(C:EqOk q)(f:Gi ob):
 ∃r,(execOp a.eval o).run P w=.ok (.value r) w/\TRep w M E r t:=by
 have hr:=h.evT hx;have m:=h.evT Q;unfold rN at hp
 split at hp
 .split at hp
  .rename_i l kd z _ l' k xs hk O
   split at hp
   .rename_i hsz;have hsz:=Qx hsz;obtain⟨rfl,rfl,rfl,rfl⟩:=H8 hp;have D:=C.hd;injection D with D;subst D;have j:=C.tl.hd;injection j with j;subst j;obtain⟨b,R,c,hv,s⟩:=Qpl hr hk;have h2:=Td m;rw[hsz]at s;exact⟨_,sX G hv h2 hu A.hsz (Qh.1 hk).1,s⟩
   .cases hp
  .cases hp
 .split at hp
  .rename_i i sz p kd z hsz;have hsz:=Qx hsz;subst hsz
   split at hp
   .rename_i lo len d
    split at hp
    .rename_i k O
     split at hp
     .obtain⟨rfl,rfl,rfl,rfl⟩:=H8 hp;have j:=C.hd;injection j with j;subst j;have f:k<len:=f;have J:lo=0:=by
       simp only[Io]at d
       split at d
       .split at d
        .injection d with d;injection d with h1 _;exact h1.symm
        .cases d
       .cases d
      obtain⟨m',K,he,N,hv⟩:=h.orow d hr;have h2:=Td m;rcases K with _|⟨g,c⟩
      .obtain⟨_,_,e⟩:=hv;omega
      .obtain⟨I,a0,hv,ha⟩:=hv;refine⟨_,sX G hv h2 hu A.hsz f,g,c,m',he,?_⟩;rw[ha (.inr Fo),J,Yv,Zw,X1]
     .obtain⟨rfl,rfl,rfl,rfl⟩:=H8 hp;have j:=C.hd;injection j with j;subst j;have f:k<len:=f;obtain⟨m',K,he,N,hv⟩:=h.orow d hr;have h2:=Td m;rcases K with _|⟨g,c⟩
      .obtain⟨_,_,e⟩:=hv;omega
      .obtain⟨I,a0,hv,ha⟩:=hv;refine⟨_,sX G hv h2 hu A.hsz f,g,c,m',he,?_⟩;rw[ha (.inr Fo),Jj,X1]
    .cases hp
   .cases hp
  .cases hp
 .cases hp
variable{off:Nat}
theorem CP{r:TV}(f:∀b i,e x=.pointer (some ⟨b,i,none⟩)->(execOp e o).run P w=.ok (.value (.pointer (some ⟨b,i+off,none⟩))) w)(hr:TRep w M E (e x) u)(hp:SB off u=some r):
 ∃v,(execOp e o).run P w=.ok (.value v) w/\TRep w M E v r:=by
 unfold SB at hp
 split at hp
 .split at hp
  .rename_i l k hd;injection hp with hp;subst hp;obtain⟨rfl,hl⟩:=VC hd;obtain⟨b,p,hv,hb,hM,vs,h1,h2⟩:=SO hr;refine⟨_,f _ _ hv,Qx8 hb hM (h1.drop off) λj v h=>?_⟩;rw[Xp]at h;rw[Vd];exact h2 _ _ h
  .cases hp
 .split at hp
  .rename_i s d;injection hp with hp;subst hp;obtain rfl:=wN d;obtain⟨g,c,m,he,hv⟩:=hr;exact⟨_,f _ _ hv,g,c,m,he,rfl⟩
  .cases hp
 .split at hp
  .rename_i s d;injection hp with hp;subst hp;obtain rfl:=wN d;obtain⟨g,c,m,he,hv⟩:=hr;exact⟨_,f _ _ hv,g,c,m,he,by rw[Vd]⟩
  .cases hp
 .cases hp
theorem Qag{S f:Nat}{r:TV}(d:o.op=.fieldAddr S x f)(c:∀b o w,(Instr.fieldAt S (.pointer (some ⟨b,o,none⟩)) f).run P w=.ok (.pointer (some ⟨b,o+off,none⟩)) w)(hr:TRep w M E (e x) u)(hp:SB off u=some r):
 ∃v,(execOp e o).run P w=.ok (.value v) w/\TRep w M E v r:=CP (λ_ _ hv=>lG d hv c) hr hp
theorem WI{g:Nat}{cs:List Value}(hg:w.heap[g]? = some (.cells cs.toArray T (0,0)))(j:Nat):w.cell? ⟨g,j,none⟩=cs[j]? := by simp[World.cell?,hg]
theorem PQ{vs:List Value}{m j:Nat}(h:((vs.drop off).take m)[j]? = some v):vs[off+j]? = some v:=by
 rw[Jl]at h
 split at h
 .rwa[Xp]at h
 .cases h
theorem SA.elem(h:SA F n L B E M a w){i sz:Nat}{fx:Bool}{ls:Ff}(hb:QU B i=some (.row fx T sz ls)){xs:Fe}(l:ls[k]? = some xs){g c m:Nat}(he:E i=some (some (g,c),m)):
 ∃vs:List Value,F2 (LRep w M) vs xs/\xs.length=sz/\∀j v,vs[j]? = some v->w.cell? ⟨g,k*sz+j,none⟩=some v:=by
 obtain⟨h0,h1,u,e',h2⟩:=h.blk hb;rw[he]at e';injection e' with e';injection e' with e1 e2;subst e1
 obtain⟨vss,ex,h3,h4,h5⟩:=h2;obtain⟨vs,r,s⟩:=h3.get l;have b:∀c∈vss,c.length=sz:=λc hc=>by
  obtain⟨j,d⟩:=Zm.1 hc;have hl:j<ls.length:=by rw[<-h3.len];exact(Qh.1 d).1
  rw[(h3.get' d (Qf hl)).len];exact h1 _ (Xs hl)
 refine⟨vs,s,h1 _ (Qc l),λj v d=>?_⟩;have f:j<sz:=by rw[<-b _ (Qc r)];exact(Qh.1 d).1
 have p:vss.flatten[k*sz+j]? = some v:=by rw[TK b f,r];exact d
 rw[WI h4,Zc (Qh.1 p).1,p]
theorem Qh3(h:SA F n L B E M a w){d:TI P}(G:o.op=.load d.t x)(hr:TRep w M E (a.eval x) u)(hp:Qai B d hs u=some (t,h',q,ob))(I:EqOk q):
 ∃r,(execOp a.eval o).run P w=.ok (.value r) w/\TRep w M E r t:=by
 unfold Qai at hp
 split at hp
 .split at hp
  .rename_i l K hd
   split at hp
   .rename_i J ht;obtain⟨rfl,rfl,rfl,rfl⟩:=H8 hp;obtain⟨rfl,hl⟩:=PY hd;obtain⟨b,A,hv,hb,hM,vs,h1,h2⟩:=SO hr;obtain⟨v,f,p⟩:=En (E:=E) ht (h1.x.take d.sz);have C:=h1.len;refine⟨v,Qbk G hv d.hag d.hsz (vs:=vs.take d.sz) Fq (λj v z=>?_) f,p⟩;rw[Jl]at z
    split at z
    .exact h2 _ _ z
    .cases z
   .cases hp
  .cases hp
 .split at hp
  .rename_i i A _ T xs hb
   split at hp
   .rename_i K hd
    split at hp
    .rename_i J ht;obtain⟨rfl,rfl,rfl,rfl⟩:=H8 hp;obtain⟨rfl,hl⟩:=UE hd;obtain⟨g,c,m,he,hv⟩:=hr;obtain⟨Q,c',m',s,cs,hg,hc⟩:=h.blk hb;rw[he]at s;injection s with s;injection s with y D;injection y with y;injection y with y e3;subst y
     obtain⟨v,f,p⟩:=En ht ((hc.drop A).take d.sz);have C:=hc.len;refine⟨v,Qbk G hv d.hag d.hsz (vs:=(cs.drop A).take d.sz) Fq (λj v z=>?_) f,p⟩;rw[WI hg];exact PQ z
    .cases hp
   .cases hp
  .cases hp
 .split at hp
  .rename_i i sz k A _ fx T sz' ls hb
   split at hp
   .rename_i hsz;have hsz:=Qx hsz;subst hsz
    split at hp
    .rename_i l' k' xs N O
     split at hp
     .rename_i K hd
      split at hp
      .rename_i J ht;obtain⟨rfl,rfl,rfl,rfl⟩:=H8 hp;have y:=I.hd;injection y with y;subst y;have D:=I.tl.hd;injection D with D;subst D;obtain⟨rfl,hl⟩:=UE hd;obtain⟨g,c,m,he,hv⟩:=hr;obtain⟨vs,h1,h2,h3⟩:=h.elem hb N he;obtain⟨v,f,p⟩:=En (E:=E) ht ((h1.x.drop A).take d.sz);have C:=h1.len;refine⟨v,Qbk G hv d.hag d.hsz (vs:=(vs.drop A).take d.sz) Fq (λj v z=>?_) f,p⟩;rw[Vd];exact h3 _ _ (PQ z)
      .cases hp
     .cases hp
    .cases hp
   .cases hp
  .cases hp
 .cases hp
theorem Qo8(h:SA F n L B E M a w){m:Nat}(hr:TRep w M E v u)(hp:Qo7 B u=some m):∃A c,v=.slice A m c:=by
 unfold Qo7 at hp
 split at hp
 .injection hp with hp;subst hp;obtain⟨A,c,hv,_⟩:=ND hr;exact⟨A,c,hv⟩
 .injection hp with hp;subst hp;have hr:LRep w M v .nils:=hr;cases hr;exact⟨_,_,rfl⟩
 .split at hp
  .rename_i lo len b;injection hp with hp;subst hp;obtain⟨m',d,he,f,hv⟩:=h.orow b hr;rcases d with _|⟨g,c⟩
   .obtain⟨rfl,_,rfl⟩:=hv;exact⟨_,_,rfl⟩
   .obtain⟨_,a0,rfl,_⟩:=hv;exact⟨_,_,rfl⟩
  .cases hp
 .cases hp
end
end Orr
namespace Orr
open Go
variable{P:Program}{w:World}{M:Nat->Prop}{E:Li}{e:Operand->Value}{o:Oper}{hs h':List (H P)}{q:Ll}{ob:List Prop}{t:TV}
theorem yD(off:Nat):∀(vs:List Value) (k:Nat) (a:List Value),off+k+vs.length<=a.length ->
 (vs.zipIdx k).foldl (λ(cs:Array Value) (p:Value×Nat)=>cs.setIfInBounds (off+p.2) p.1) a.toArray=(upd a (off+k) vs).toArray
 | [],k,a,_=>by cases a <;> simp[upd]
 |
  v::vs,k,a,h=>by
  simp at h;have b:=yD off vs (k+1) (a.set (off+k) v) Fq;simp only[List.zipIdx_cons,Xn,List.setIfInBounds_toArray];rw[lK a (off+k) v vs Fo];exact b
abbrev Q5s(w:World)(M:Nat->Prop)(E:Li)(p:Nat×Value)(q:Nat×TV):Prop:=p.1=q.1/\TRep w M E p.2 q.2
theorem LC{c:Nat->Option (Nat×Nat)}:∀{us:List (Nat×TV)} {vs:List (Nat×Value)} {a:List Value} {xs r:Fe},OT c xs us=some r->F2 (XRep w M E) a xs->F2 (Q5s w M E) vs us ->
 ∃b,Instr.fill c a.toArray vs=some (List.toArray b)/\F2 (XRep w M E) b r
 |_,_,a,xs,r,h,hx,.nil=>by simp[OT]at h;subst h;exact⟨a,rfl,hx⟩
 |
  (i,u)::us,(i',v)::vs,a,xs,r,h,hx,.cons ⟨f,h1⟩ hr=>by
  have f:i'=i:=f;subst f;simp only[OT]at h
  split at h
  .cases h
  .rename_i off size hp
   split at h
   .cases h
   .rename_i s n
    split at h
    .cases h
    .rename_i hsz;have hsz:=Qx hsz
     split at h
     .cases h
     .rename_i q k;obtain⟨rfl,p⟩:=YT k;have hc:=YX h1 n;have d:=hc.len;have m:=hx.len;obtain⟨b,h2,h3⟩:=LC h (hx.upd off hc) hr;refine⟨b,?_,h3⟩;simp only[Instr.fill,hp];have g:v.cells.size=size:=by rw[<-hsz,<-d];simp
      have j:=yD off v.cells.toList 0 a (by rw[d];omega);have l:¬(v.cells.size≠size || decide (off+v.cells.size>a.toArray.size))=true:=by
       simp only[ne_eq,Wn,decide_eq_true_eq,not_or,Uf];omega
      rw[if_neg (by simpa using l)];rw[<-h2];congr 1;rw[X1]at j;rw[<-j,<-Array.foldl_toList];congr 1;simp
theorem Qwo{T:TypeId}{ps:Array (Nat×Operand)}{cs:Array Value}(c:o.op=.build T ps)(a:∀w,(Instr.build T (ps.toList.map λp=>(p.1,e p.2)).toArray).run P w=.ok (.agg cs) w):(execOp e o).run P w=.ok (.value (.agg cs)) w:=by
 have b:(ps.map λx=>match x with|(i,x)=>(i,e x))=(ps.toList.map λp=>(p.1,e p.2)).toArray:=by
  cases ps;simp
 simp only[execOp,c];rw[b,Sem.run_bind,a];rfl
theorem rX:∀{us:Fh} {xs:Fe} {vs:List Value},ones us=some xs->F2 (TRep w M E) vs us->F2 (XRep w M E) vs xs
 |
  [],xs,vs,h,hr=>by
  simp[ones]at h;subst h;cases hr;exact .nil
 |
  u::us,xs,_,h,.cons h0 hr=>by
  cases u with
  |
   one x =>
   simp only[ones]at h
   split at h
   .rename_i r a;injection h with h;subst h;exact .cons h0 (rX a hr)
   .cases h
  |agg xs=>cases h
theorem XW:∀{xs:Fe} {vs:List Value},Eg xs=true->F2 (XRep w M E) vs xs->F2 (LRep w M) vs xs
 | [],_,_,.nil=>.nil
 |
  x::xs,_,h,.cons h0 hr=>by
  simp only[Eg]at h
  split at h
  .rename_i hx;exact .cons (h0.free hx) (XW h hr)
  .cases h
theorem EX:∀{xs:Fe} {vs:List Value},oH xs=true->F2 (XRep w M E) vs xs->F2 (YRep w M E) vs xs
 | [],_,_,.nil=>.nil
 |
  x::xs,_,h,.cons h0 hr=>by
  cases x
  case ow i off=>exact .cons h0 (EX (by simpa[oH]using h) hr)
  all_goals
   simp only[oH]at h
   split at h
   .rename_i hx;exact .cons (h0.free hx) (EX h hr)
   .cases h
theorem Q2j{t E:TypeId}{x:Operand}{v:Value}(a:o.op=.makeInterface t x)(hx:e x=v)(hu:∀w,(underlying t).run P w=.ok (.pointer E) w):(execOp e o).run P w=.ok (.value (.iface t v)) w:=by
 simp[execOp,a,hx,Instr.makeInterface,hu]
theorem Qqw{f:Nat}{pre post:Array Operand}(a:o.op=.makeFunc (.func f) pre post):(execOp e o).run P w=.ok (.value (.func (.func f) (pre.toList.map e).toArray (post.toList.map e).toArray)) w:=by
 have h1:pre.map e=(pre.toList.map e).toArray:=by cases pre;simp
 have h2:post.map e=(post.toList.map e).toArray:=by cases post;simp
 simp only[execOp,a,h1,h2];rfl
theorem Q45{xs:Array Operand}{h:Array TypeId}{k:IntKind}{p:Int}{us:Fh}(b:Bool)(a:o.op=.call { callee:=.builtin (if b=true then .max else .min),args:=xs,argTypes:=h })(hr:F2 (TRep w M E) (xs.toList.map e) us)(hm:mmL b us=some (k,p)) :
 (execOp e o).run P w=.ok (.value (.int k p)) w:=by
 unfold mmL at hm
 split at hm
 .injection hm with hm;injection hm with h1 h2;subst h1;subst h2;cases xs with|mk l=>match l,hr with
   |
    [x],.cons h0 .nil =>
    have h0:=Td h0;cases b <;> simp[execOp,a,resolve,invoke,builtin,Builtin.max_,Builtin.min_,h0]
 .rename_i g p1 f d
  split at hm
  .rename_i c;obtain rfl:=of_decide_eq_true c;cases xs with|mk l=>match l,hr with
    |
     [x,y],.cons h0 (.cons h1 .nil) =>
     have h0:=Td h0;have h1:=Td h1;cases b
     .injection hm with hm;injection hm with e1 e2;subst e1;subst e2;simp[execOp,a,resolve,invoke,builtin,Builtin.min_,Builtin.min2,h0,h1];omega
     .injection hm with hm;injection hm with e1 e2;subst e1;subst e2;simp[execOp,a,resolve,invoke,builtin,Builtin.max_,Builtin.max2,h0,h1];omega
  .cases hm
 .rename_i g p1 f d i r1
  split at hm
  .rename_i h2 h3;obtain rfl:=of_decide_eq_true h2;obtain rfl:=of_decide_eq_true h3;cases xs with|mk l=>match l,hr with
    |
     [x,y,z],.cons h0 (.cons h1 (.cons h2 .nil)) =>
     have h0:=Td h0;have h1:=Td h1;have h2:=Td h2;injection hm with hm;injection hm with e1 e2;subst e1;subst e2;simp[execOp,a,resolve,invoke,builtin,Builtin.max_,Builtin.max2,h0,h1,h2];omega
  .cases hm
 .cases hm
theorem Q39{T:TT P}{L:Sg}{B:Fg}{op:Op}(hp:pv T L B hs op=some (t,h',q,ob))(Q:EqOk q)(D:Gi ob):PV P op t L B:=by
 intro F n E M a w h o C;unfold pv at hp
 split at hp
 .split at hp
  .rename_i u hu;obtain⟨rfl,rfl,rfl,rfl⟩:=H8 hp;exact⟨_,Qbl (.inl C) rfl,h.evT hu⟩
  .cases hp
 .split at hp
  .rename_i u hu;obtain⟨rfl,rfl,rfl,rfl⟩:=H8 hp;exact⟨_,Qbl (.inr C) rfl,h.evT hu⟩
  .cases hp
 .split at hp
  .rename_i i o' hu;obtain⟨rfl,rfl,rfl,rfl⟩:=H8 hp;have hr:=h.evT hu;obtain⟨g,c,m,he,hv⟩:=hr;exact⟨_,Qq1 C hv,g,c,m,he,rfl⟩
  .rename_i l hu;obtain⟨rfl,rfl,rfl,rfl⟩:=H8 hp;have hr:=h.evT hu;obtain⟨b,o',hv,_⟩:=SO hr;exact⟨_,Qq1 C hv,hv ▸ hr⟩
  .rename_i i sz k o' hu;obtain⟨rfl,rfl,rfl,rfl⟩:=H8 hp;have hr:=h.evT hu;obtain⟨g,c,m,he,hv⟩:=hr;exact⟨_,Qq1 C hv,g,c,m,he,rfl⟩
  .cases hp
 .split at hp
  .rename_i l hu
   split at hp
   .rename_i t' hl;obtain⟨rfl,rfl,rfl,rfl⟩:=H8 hp;obtain⟨vs,hv,hr⟩:=h.ev hu;obtain⟨v,h1,h2⟩:=hr.get hl;exact⟨v,Qiq C hv h1,h2⟩
   .cases hp
  .cases hp
 .rename_i c x y
  split at hp
  .rename_i b hb;have hc:=Ld (h.evT hb)
   split at hp
   .rename_i b' p q' hx J;obtain⟨rfl,rfl,rfl,rfl⟩:=H8 hp;have f:=Q.hd;injection f with f;injection f with f;injection f with f;subst f;refine⟨_,Qbm C hc,?_⟩;have h1:=h.ev hx;have h2:=h.ev J;cases b
    .exact h2
    .exact h1.1 rfl
   .rename_i p b' q' hx J;obtain⟨rfl,rfl,rfl,rfl⟩:=H8 hp;have f:=Q.hd;injection f with f;injection f with f;injection f with f;subst f;refine⟨_,Qbm C hc,?_⟩;have h1:=h.ev hx;have h2:=h.ev J;cases b
    .exact h2.1 rfl
    .exact h1
   .rename_i p q' hx J;obtain⟨rfl,rfl,rfl,rfl⟩:=H8 hp;refine⟨_,Qbm C hc,?_⟩;have h1:=h.ev hx;have h2:=h.ev J;cases b
    .exact h2
    .exact h1
   .cases hp
  .cases hp
 .split at hp
  .rename_i N ht;have ht:=TT.find_t ht;subst ht
   split at hp
   .rename_i off hoff
    split at hp
    .rename_i t' hx
     split at hp
     .rename_i u hu;obtain⟨rfl,rfl,rfl,rfl⟩:=H8 hp;exact Qag C (N.hfo _ _ hoff) (h.evT hx) hu
     .cases hp
    .cases hp
   .cases hp
  .cases hp
 .split at hp
  .rename_i N ht;have ht:=TT.find_t ht;subst ht
   split at hp
   .rename_i u hx;exact Qh3 h C (h.evT hx) hp Q
   .cases hp
  .cases hp
 .split at hp
  .rename_i N ht;have ht:=TT.find_t ht;subst ht
   split at hp
   .rename_i off m ag hfv
    split at hp
    .rename_i xs hx
     split at hp
     .rename_i r hr
      split at hp
      .rename_i u hu;obtain⟨rfl,rfl,rfl,rfl⟩:=H8 hp;obtain⟨rfl,hle⟩:=UE hr;obtain⟨vs,hv,S⟩:=h.evT hx;have hl:=S.len;obtain⟨v,I,hv3⟩:=En hu ((S.drop off).take m);refine⟨v,Qwq C hv (N.hfv _ _ _ _ hfv vs v ?_ Fo),hv3⟩;cases ag with
       |true=>exact I
       |
        false =>
        have I:(vs.drop off).take m=[v]:=I;have:((vs.drop off).take m)[0]? = some v:=by rw[I];rfl
        exact PQ this
      .cases hp
     .cases hp
    .cases hp
   .cases hp
  .cases hp
 .split at hp
  .rename_i N ht;have ht:=TT.find_t ht;subst ht
   split at hp
   .rename_i z pl hbl
    split at hp
    .rename_i zs hz
     split at hp
     .rename_i us O
      split at hp
      .rename_i r hr;obtain⟨rfl,rfl,rfl,rfl⟩:=H8 hp;obtain⟨cells,h4,h5⟩:=LC hr (EQ (w:=w) (M:=M) hz).x (h.evTp O);exact⟨_,Qwo C (N.hbl z pl hbl h4),cells,rfl,h5⟩
      .cases hp
     .cases hp
    .cases hp
   .cases hp
  .cases hp
 .split at hp
  .rename_i b hx;obtain⟨rfl,rfl,rfl,rfl⟩:=H8 hp;exact⟨_,Q49 C (Ld (h.evT hx)),LRep.bool _⟩
  .cases hp
 .split at hp
  .rename_i kd p hx;obtain⟨rfl,rfl,h3⟩:=OM hp D;exact⟨_,Q48 C (Td (h.evT hx)),LRep.int _ _⟩
  .cases hp
 .split at hp
  .rename_i N ht;have ht:=TT.find_t ht;subst ht
   split at hp
   .rename_i u v hu hv;exact Qo6 C hp Q D (h.evT hu) (h.evT hv)
   .cases hp
  .cases hp
 .split at hp
  .rename_i N tj ht Z;have ht:=TT.find_t ht;subst ht;have Z:=TT.find_t Z;subst Z
   split at hp
   .rename_i kd kd' hu hu'
    split at hp
    .rename_i kd2 p hx
     split at hp
     .rename_i X;obtain rfl:=of_decide_eq_true X;obtain⟨rfl,rfl,h3⟩:=OM hp D;exact⟨_,Q2g C (Td (h.evT hx)) (TI.hu' hu) (TI.hu' hu'),LRep.int _ _⟩
     .cases hp
    .cases hp
   .cases hp
  .cases hp
 .split at hp
  .rename_i N ht;have ht:=TT.find_t ht;subst ht
   split at hp
   .rename_i hu
    split at hp
    .rename_i s kd z hx J
     split at hp
     .rename_i s' i v hv h2;obtain⟨rfl,rfl,rfl,rfl⟩:=H8 hp;have f:=Q.hd;injection f with f;injection f with f;injection f with f;subst f;have G:=Q.tl.hd;injection G with G;subst G;have R:∀v:Value,LRep w M v (.str s)->v=.string s:=λv h3=>by cases h3;rfl
      exact⟨_,Q2e C (R _ (h.evT hx)) (Td (h.evT J)) (TI.hu' hu) hv,LRep.int _ _⟩
     .cases hp
    .cases hp
   .rename_i m E' hu
    split at hp
    .rename_i K j;have j:=TT.find_t j;subst j
     split at hp
     .rename_i xs kd z hx J
      split at hp
      .rename_i k h2
       split at hp
       .rename_i U;rw[Jb]at U
        split at hp
        .rename_i r hr'
         split at hp
         .rename_i u hb;obtain⟨rfl,rfl,rfl,rfl⟩:=H8 hp;have G:=Q.hd;injection G with G;subst G;obtain⟨rfl,hl⟩:=UE hr';obtain⟨vs,hv,hvs⟩:=h.evT hx;have hvl:=hvs.len;obtain⟨v,I,hv3⟩:=En hb ((hvs.drop (k*K.sz)).take K.sz);refine⟨v,Qqz C hv (Td (h.evT J)) (TI.hu' hu) K.hsz K.hag U ?_,hv3⟩;by_cases hag:K.ag=true
          .rw[if_pos hag]at I ⊢;exact I
          .rw[if_neg hag]at I ⊢;have e0:((vs.drop (k*K.sz)).take K.sz)[0]? = some v:=by rw[I];rfl
           have:=PQ e0;simpa using this
         .cases hp
        .cases hp
       .cases hp
      .cases hp
     .cases hp
    .cases hp
   .cases hp
  .cases hp
 .split at hp
  .rename_i N ht;have ht:=TT.find_t ht;subst ht
   split at hp
   .rename_i E' hu
    split at hp
    .rename_i K j;have j:=TT.find_t j;subst j
     split at hp
     .rename_i u hx;exact Qaj h C (TI.hu' hu) hx hp Q D
     .cases hp
    .cases hp
   .cases hp
  .cases hp
 .split at hp
  .rename_i N ht;have ht:=TT.find_t ht;subst ht
   split at hp
   .rename_i E' hu
    split at hp
    .rename_i K j;have j:=TT.find_t j;subst j
     split at hp
     .rename_i xs kd p kd' q hx J hz;obtain⟨A,c,hv,hc⟩:=ND (h.evT hx)
      split at hp
      .rename_i k _;obtain⟨rfl,rfl,rfl,rfl⟩:=H8 hp;have f:=Q.hd;injection f with f;subst f;have G:=Q.tl.hd;injection G with G;subst G;have X:k<=xs.length:=D;have R:=dX (sz:=K.sz) X (h.evT hx) hv;have hl:(xs.take k).length=k:=by rw[Qt];omega
       have k2:LRep w M (.slice (if k=0 then A else A.map (·.add (0*K.sz))) k k) (.frow (xs.take k)):=by
        have:=LRep.frow (w:=w) (M:=M) (if k=0 then A else A.map (·.add (0*K.sz))) (xs.take k) (by rw[hl];exact R);rwa[hl]at this
       exact⟨_,lH C hv (Td (h.evT J)) (Td (h.evT hz)) (Qa X hc) (TI.hu' hu) K.hsz,k2⟩
      .obtain⟨rfl,rfl,rfl,rfl⟩:=H8 hp;have f:=Q.hd;injection f with f;subst f;have G:=Q.tl.hd;injection G with G;subst G;have R:=dX (sz:=K.sz) (Ql _) (h.evT hx) hv;rw[Q6]at R;exact⟨_,lH C hv (Td (h.evT J)) (Td (h.evT hz)) hc (TI.hu' hu) K.hsz,R⟩
     .cases hp
    .cases hp
   .cases hp
  .cases hp
 .split at hp
  .rename_i N ht;have ht:=TT.find_t ht;subst ht
   split at hp
   .rename_i E' hu
    split at hp
    .rename_i K j;have j:=TT.find_t j;subst j
     split at hp
     .rename_i u v hx J;exact Qah h C (TI.hu' hu) hx J hp Q D
     .cases hp
    .cases hp
   .rename_i m E' hu
    split at hp
    .rename_i K j;have j:=TT.find_t j;subst j
     split at hp
     .rename_i u kd z hx J
      split at hp
      .rename_i k h2
       split at hp
       .rename_i U;rw[Jb]at U
        split at hp
        .rename_i r hr';obtain⟨rfl,rfl,rfl,rfl⟩:=H8 hp;have G:=Q.hd;injection G with G;subst G;exact CP (λ_ _ hv=>Qqy C hv (Td (h.evT J)) (TI.hu' hu) K.hsz U) (h.evT hx) hr'
        .cases hp
       .cases hp
      .cases hp
     .cases hp
    .cases hp
   .cases hp
  .cases hp
 .split at hp
  .rename_i us O
   split at hp
   .rename_i ys hys
    split at hp
    .rename_i xs Y
     split at hp
     .rename_i zs hzs;have h1:=rX Y (h.evTs O);have h2:=rX hzs (h.evTs hys)
      split at hp
      .rename_i hf;simp only[Zr]at hf;obtain⟨rfl,rfl,rfl,rfl⟩:=H8 hp;have h1:=XW hf.1 h1;have h2:=XW hf.2 h2;exact⟨_,Qqw C,LRep.fn _ _ _ _ _ h1.len h2.len (λ_ _ _ ha hb=>h1.get' ha hb) λ_ _ _ ha hb=>h2.get' ha hb⟩
      .split at hp
       .rename_i hf;simp only[Zr]at hf;obtain⟨rfl,rfl,rfl,rfl⟩:=H8 hp;exact⟨_,Qqw C,_,_,rfl,EX hf.1 h1,EX hf.2 h2⟩
       .cases hp
     .cases hp
    .cases hp
   .cases hp
  .cases hp
 .split at hp
  .rename_i N ht;have ht:=TT.find_t ht;subst ht
   split at hp
   .rename_i d hd
    split at hp
    .rename_i i ys hx J
     split at hp
     .rename_i es ks hb hks
      split at hp
      .rename_i X;have X:=Qx X;obtain⟨KT,ET,hM⟩:=N.hmd d hd;obtain⟨hl,g,c,m,he,ents,ck,hg,hen⟩:=h.blk hb;obtain⟨g',c',m',V,hv⟩:=h.evT hx;rw[he]at V;injection V with V;injection V with f _;injection f with f;injection f with f _;subst f
       have hky:=UK hks (h.evT J);have hrun:=Qav hM X (ents:=ents.toList) hl hen (by simpa using hg);have W:(execOp a.eval o).run P w=.ok (.value (DG ((Oy es ks).getD d))) w:=by
        simp only[execOp,C,hv,hky];rw[show(Value.agg (ks.map (Value.int .i64)).toArray)=Oz ks from rfl];simp[hrun]
       split at hp
       .obtain⟨rfl,rfl,rfl,rfl⟩:=H8 hp;have D:Qrf es:=D;have G:(Oy es ks).getD (.int .i64 (.ofNat 0))=.int .i64 (YI es ks):=D ks;rw[G]at W;exact⟨_,W,LRep.int _ _⟩
       .obtain⟨rfl,rfl,rfl,rfl⟩:=H8 hp;have D:Qix es:=D;rw[D ks]at W;exact⟨_,W,LRep.bool _⟩
       .cases hp
      .cases hp
     .cases hp
    .cases hp
   .cases hp
  .cases hp
 .split at hp
  .rename_i N ht;have ht:=TT.find_t ht
   split at hp
   .rename_i E' hu
    split at hp
    .rename_i i' o' hx;obtain⟨rfl,rfl,rfl,rfl⟩:=H8 hp;obtain⟨g,c,m,he,hv⟩:=(show XRep w M E (a.eval _) (.ow i' o') from h.evT hx);exact⟨_,Q2j C rfl (by rw[<-ht];exact TI.hu' hu),g,c,m,he,by rw[hv]⟩
    .cases hp
   .cases hp
  .cases hp
 .rename_i xs ts
  split at hp
  .rename_i x Y
   split at hp
   .rename_i tt htt
    split at hp
    .rename_i N ht;have ht:=TT.find_t ht;subst ht
     split at hp
     .rename_i E' hu
      split at hp
      .rename_i u hx
       split at hp
       .rename_i m hm;obtain⟨rfl,rfl,rfl,rfl⟩:=H8 hp;obtain⟨A,c,hv⟩:=Qo8 h (h.evT hx) hm;have f:xs = #[x]:=by cases xs;simpa using Y
        subst f;exact⟨_,Q44 C htt hv (TI.hu' hu),LRep.int _ _⟩
       .cases hp
      .cases hp
     .cases hp
    .cases hp
   .cases hp
  .cases hp
 .split at hp
  .rename_i us O
   split at hp
   .rename_i k p hm;obtain⟨rfl,rfl,rfl,rfl⟩:=H8 hp;exact⟨_,Q45 true C (h.evTs O) hm,LRep.int _ _⟩
   .cases hp
  .cases hp
 .split at hp
  .rename_i us O
   split at hp
   .rename_i k p hm;obtain⟨rfl,rfl,rfl,rfl⟩:=H8 hp;exact⟨_,Q45 false C (h.evTs O) hm,LRep.int _ _⟩
   .cases hp
  .cases hp
 .cases hp
end Orr
namespace Orr
open Go
variable{P:Program}{arr:Array Oper}{n:Nat}{o:Oper}{N:Sg->Fg->Prop}{L:Sg}{B:Fg}{F:Fr}{E:Li}{M:Nat->Prop}{a:Act}{w:World}
def stp(P:Program)(arr:Array Oper)(o:Oper)(a:Act)(w:World)(K:Act->World->Prop)(Q:Exit->Act->World->Prop):Prop :=
 if Region.wanted o (yielded arr a.tmps)then o.wp P a w K Q\/(o.asks P a w/\LetsOut Q)else K (a.put o.dst undef) w
def W1(P:Program)(arr:Array Oper)(n:Nat)(o:Oper)(N:Sg->Fg->Prop)(L:Sg)(B:Fg):Prop :=
 ∀(F:Fr) (E:Li) (M:Nat->Prop) (a:Act) (w:World) (K:Act->World->Prop) (Q:Exit->Act->World->Prop),SA F n L B E M a w ->
  (∀(a':Act) (w':World) (L':Sg) (B':Fg) (E':Li) (M':Nat->Prop),SA F n L' B' E' M' a' w'->N L' B'->K a' w')->stp P arr o a w K Q
section
variable{K:Act->World->Prop}{Q:Exit->Act->World->Prop}{w':World}
theorem Cd{v:Value}(hg:o.guard=none)(hr:(execOp a.eval o).run P w=.ok (.value v) w')(k:K (a.put o.dst v) w'):stp P arr o a w K Q:=by
 unfold stp;rw[if_pos (by simp[Region.wanted,hg])];refine .inl ?_;unfold Oper.wp;rw[hr];exact k
theorem zE(hg:o.guard=none)(hd:o.dst=none)(hr:(execOp a.eval o).run P w=.ok .skip w')(k:K a w'):stp P arr o a w K Q:=by
 unfold stp;rw[if_pos (by simp[Region.wanted,hg])];refine .inl ?_;unfold Oper.wp;rw[hr];simp only[Oper.upon,hd];exact k
end
variable{d:Nat}
theorem SA.put(h:SA F n L B E M a w){v:Value}{u:AV}(hd:Nat.blt d n=true)(hv:ARep w M E v u):SA F n ((d,u)::L) B E M (a.put (some d) v) w:=by
 have b:d<n:=by rwa[Jb]at hd
 refine⟨h.hs,by simp[Act.put,h.size],h.defers,λt x hx=>?_⟩;simp only[lk]at hx;simp only[Act.put]
 split at hx
 .rename_i e;have e:t=d:=Qx e;subst e;injection hx with hx;subst hx;exact⟨v,by simp[h.size,b],hv⟩
 .rename_i e;have e:t≠d:=V4 e;rw[Array.getElem?_setIfInBounds_ne Fo];exact h.slots t x hx
theorem W1.val{t:TV}(hp:PV P o.op t L B)(hg:o.guard=none)(hd:o.dst=some d)(b:Nat.blt d n=true)(k:N ((d,.v t)::L) B):W1 P arr n o N L B:=by
 intro F E M a w K Q h c;obtain⟨v,hr,hv⟩:=hp F n E M a w h o rfl;exact Cd hg hr (hd ▸ c _ _ _ _ _ _ (h.put (u:=.v t) b hv) k)
def gd(want b:Bool):Bool:=match want with
 |true=>b
 |false => !b
theorem W1.cnd{j i:Nat}{b want:Bool}{t:TV}(hg:o.guard=some (j,want))(q:(arr[j]?).bind (·.dst)=some i)(hb:lk L i=some (.v (.one (.bool b))))(hp:b=want->PV P o.op t L B)(hd:o.dst=some d)(g:Nat.blt d n=true)(k:N ((d,.cnd (gd want b) t)::L) B):W1 P arr n o N L B:=by
 intro F E M a w K Q h m;obtain⟨vb,hs,c⟩:=h.slots i _ hb;have c:=Ld (E:=E) c;subst c;have p:Region.wanted o (yielded arr a.tmps)=(b == want):=by
  simp[Region.wanted,yielded,hg,q,hs]
 have l:gd want b=true->b=want:=by cases want <;> cases b <;> simp[gd]
 unfold stp;rw[p];by_cases e:b=want
 .rw[if_pos (by simp[e])];obtain⟨v,hr,hv⟩:=hp e F n E M a w h o rfl;refine .inl ?_;unfold Oper.wp;rw[hr];simp only[Oper.upon,hd];exact m _ _ _ _ _ _ (h.put g (show ARep w M E v (.cnd _ t) from⟨λ_=>hv,λr=>by subst e;cases b <;> cases r⟩)) k
 .rw[if_neg (by simp[e]),hd];exact m _ _ _ _ _ _ (h.put g (show ARep w M E undef (.cnd _ t) from⟨λhb=>absurd (l hb) e,λ_=>rfl⟩)) k
variable{w':World}
theorem SA.mem{b:Fg}{E':Li}{M':Nat->Prop}(h:SA F n L B E M a w)(hs:HS F (ob b) (nw b) E' M' w')(c:Le w M w' M')(d:∀i,E i≠none->E' i=E i):SA F n L b E' M' a w' :=
 ⟨hs,h.size,h.defers,λt x hx=>by
  obtain⟨v,h1,h2⟩:=h.slots t x hx;exact⟨v,h1,h2.keep c λi _=>d i⟩⟩
theorem Quu{B:Fg}{b:OB}:nw (B++[b])=λi=>nw B i/\i≠B.length:=by
 funext i;simp only[nw,Qw,Kc];exact propext ⟨λh=>⟨Fo,Fo⟩,λ⟨h1,h2⟩=>Fo⟩
theorem Sj{B:Fg}{i:Nat}(h:B.length<=i):ob B i=.gone:=by simp[ob,h]
theorem SA.fresh(h:SA F n L B E M a w)(hg:Grow w w'){m:Nat}{b:OB}{q:Option (Nat×Nat)}(j:∀g c,q=some (g,c)->w.heap.size<=g/\g<w'.heap.size)
 (hb:Le w M w' (λb=>M b\/(∃c,q=some (b,c)))->(∀i,E i≠none->L6 E B.length (some (q,m)) i=E i)->OBRep w' (λb=>M b\/(∃c,q=some (b,c))) (L6 E B.length (some (q,m))) B.length b) :
 SA F n L (B++[b]) (L6 E B.length (some (q,m))) (λb=>M b\/(∃c,q=some (b,c))) a w':=by
 have hu:=h.hs.un B.length (Ql _);have l:∀i,E i≠none->L6 E B.length (some (q,m)) i=E i:=λi hi=>Hl _ _ λe=>hi (e ▸ hu.1)
 have hs:=h.hs.new hg (k:=B.length) (m:=m) (b:=b) (h.hs.uj _ (Ql _)) j (λ_ _ _=>hu.1) λd=>hb d l
 refine h.mem ?_ ⟨hg.1,λb hb _=>hg.2 b hb,λb hb hm=>hm.resolve_right λ⟨c,e⟩=>by have:=(j b c e).1;omega⟩ l;rw[Quv,Quu];exact hs
theorem W1.new{T:Nat}{xs:Fe}(hg:o.guard=none)(hd:o.dst=some d)(l:Nat.blt d n=true)
 (j:∀(F:Fr) (E:Li) (M:Nat->Prop) (a:Act) (w:World),SA F n L B E M a w->∃cs:List Value,(execOp a.eval o).run P w=.ok (.value (.pointer (some ⟨w.heap.size,0,none⟩))) (w.alloc (.cells cs.toArray T))/\F2 (XRep w M E) cs xs)
 (k:N ((d,.v (.one (.ow B.length 0)))::L) (B++[.blk T xs])):W1 P arr n o N L B:=by
 intro F E M a w K Q h s;obtain⟨cs,hr,hc⟩:=j F E M a w h;have hsz:=D5 (.cells cs.toArray T) w;have h2:=h.fresh (Bn (.cells cs.toArray T) w) (m:=0) (b:=.blk T xs) (q:=some (w.heap.size,0)) (λg c e=>by injection e with e;injection e with e1 e2;subst e1;omega)
  (λp r=>⟨w.heap.size,0,0,Gy ..,cs,I9 ..,hc.xkeep p λi _=>r i⟩)
 refine Cd hg hr (hd ▸ s _ _ _ _ _ _ (h2.put l (u:=.v (.one (.ow B.length 0))) ?_) k);exact⟨w.heap.size,0,0,Gy ..,rfl⟩
def Ap(i:Nat):LV->Option LV
 |
  .ow j p=>match Nat.beq i j with
  |true=>some .any
  |false=>some (.ow j p)
 |
  .orow j s p=>match Nat.beq i j with
  |true=>some .any
  |false=>some (.orow j s p)
 |
  .oel j s k p=>match Nat.beq i j with
  |true=>some .any
  |false=>some (.oel j s k p)
 |
  .omap j=>match Nat.beq i j with
  |true=>some .any
  |false=>some (.omap j)
 |
  .oif t j p=>match Nat.beq i j with
  |true=>some .any
  |false=>some (.oif t j p)
 |
  .ofn f a b=>match (VJ a++VJ b).contains i with
  |true=>some .any
  |false=>some (.ofn f a b)
 |x=>some x
def Mb{α β:Type}(f:α->Option β):List α->Option (List β)
 | []=>some []
 |
  x::l=>match f x with
  |
   some y=>match Mb f l with
   |some r=>some (y::r)
   |none=>none
  |none=>none
def lJ(f:LV->Option LV):TV->Option TV
 |
  .one x=>match f x with
  |some y=>some (.one y)
  |none=>none
 |
  .agg xs=>match Mb f xs with
  |some r=>some (.agg r)
  |none=>none
def avO(f:LV->Option LV):AV->Option AV
 |
  .v t=>match lJ f t with
  |some u=>some (.v u)
  |none=>none
 |
  .tup l=>match Mb (lJ f) l with
  |some r=>some (.tup r)
  |none=>none
 |
  .cnd b t=>match lJ f t with
  |some u=>some (.cnd b u)
  |none=>none
def sF(f:LV->Option LV):Sg->Option Sg
 | []=>some []
 |
  (t,x)::l=>match avO f x with
  |
   some y=>match sF f l with
   |some r=>some ((t,y)::r)
   |none=>none
  |none=>none
def KA(f:LV->Option LV):OB->Option OB
 |
  .blk T xs=>match Mb f xs with
  |some r=>some (.blk T r)
  |none=>none
 |b=>some b
section
variable{w':World}{M':Nat->Prop}{E':Li}{f:LV->Option LV}
def Turn(w:World)(M:Nat->Prop)(E:Li)(w':World)(M':Nat->Prop)(E':Li)(f:LV->Option LV):Prop:=∀v x y,f x=some y->XRep w M E v x->XRep w' M' E' v y
variable(ht:Turn w M E w' M' E' f)
include ht
theorem Qqm:∀{xs r:Fe} {vs:List Value},Mb f xs=some r->F2 (XRep w M E) vs xs->F2 (XRep w' M' E') vs r
 | [],r,vs,h,hr=>by simp[Mb]at h;subst h;cases hr;exact .nil
 |
  x::xs,r,_,h,.cons h0 hr=>by
  simp only[Mb]at h
  split at h
  .rename_i y c
   split at h
   .rename_i q b;injection h with h;subst h;exact .cons (ht _ _ _ c h0) (Qqm b hr)
   .cases h
  .cases h
variable{v:Value}
theorem lZ{t u:TV}(h:lJ f t=some u)(hr:TRep w M E v t):TRep w' M' E' v u:=by
 cases t with
 |
  one x =>
  simp only[lJ]at h
  split at h
  .rename_i y b;injection h with h;subst h;exact ht _ _ _ b hr
  .cases h
 |
  agg xs =>
  simp only[lJ]at h
  split at h
  .rename_i y b;injection h with h;subst h;obtain⟨vs,e,hr⟩:=hr;exact⟨vs,e,Qqm ht b hr⟩
  .cases h
theorem Qqn:∀{b us:Fh} {vs:List Value},Mb (lJ f) b=some us->F2 (TRep w M E) vs b->F2 (TRep w' M' E') vs us
 | [],r,vs,h,hr=>by simp[Mb]at h;subst h;cases hr;exact .nil
 |
  x::xs,r,_,h,.cons h0 hr=>by
  simp only[Mb]at h
  split at h
  .rename_i y d
   split at h
   .rename_i q c;injection h with h;subst h;exact .cons (lZ ht d h0) (Qqn c hr)
   .cases h
  .cases h
theorem Qyd{t u:AV}(h:avO f t=some u)(hr:ARep w M E v t):ARep w' M' E' v u:=by
 cases t with
 |
  v t =>
  simp only[avO]at h
  split at h
  .rename_i y c;injection h with h;subst h;exact lZ ht c hr
  .cases h
 |
  tup l =>
  simp only[avO]at h
  split at h
  .rename_i y c;injection h with h;subst h;obtain⟨vs,e,hr⟩:=hr;exact⟨vs,e,Qqn ht c hr⟩
  .cases h
 |
  cnd b t =>
  simp only[avO]at h
  split at h
  .rename_i y c;injection h with h;subst h;exact⟨λhb=>lZ ht c (hr.1 hb),hr.2⟩
  .cases h
theorem Qye:∀{L b:Sg},sF f L=some b->(∀t x,lk L t=some x->∃v,a.tmps[t]? = some v/\ARep w M E v x)->∀t x,lk b t=some x->∃v,a.tmps[t]? = some v/\ARep w' M' E' v x
 | [],b,h,_,t,x,hx=>by simp[sF]at h;subst h;simp[lk]at hx
 |
  (s,u)::L,b,h,hr,t,x,hx=>by
  simp only[sF]at h
  split at h
  .rename_i y d
   split at h
   .rename_i q i;injection h with h;subst h;simp only[lk]at hx
    split at hx
    .rename_i e;injection hx with hx;subst hx;obtain⟨v,h1,h2⟩:=hr t u (by simp[lk,e]);exact⟨v,h1,Qyd ht d h2⟩
    .rename_i e;have g:∀(L:Sg) (q:Sg),sF f L=some q->∀t x,lk q t=some x->∃u,lk L t=some u/\avO f u=some x:=by
      intro L
      induction L with
      |nil=>intro q h t x hx;simp[sF]at h;subst h;simp[lk]at hx
      |
       cons p L ih =>
       obtain⟨s,u⟩:=p;intro q h t x hx;simp only[sF]at h
       split at h
       .rename_i y d
        split at h
        .rename_i j c;injection h with h;subst h;simp only[lk]at hx ⊢
         split at hx
         .rename_i e';injection hx with hx;subst hx;exact⟨u,rfl,d⟩
         .rename_i e';exact ih _ c t x hx
        .cases h
       .cases h
     obtain⟨u2,h1,h2⟩:=g L q i t x hx;obtain⟨v,h3,h4⟩:=hr t u2 (by simp[lk,e,h1]);exact⟨v,h3,Qyd ht h2 h4⟩
   .cases h
  .cases h
end
end Orr
