/- short names N1 N2 NM N3 N4 N5 N6 N7 -/
import Derived.WalkKit
import Derived.MapKept
set_option linter.all false
theorem nmE{α : Sort _}(a : α) : ∃x, x = a := ⟨a, rfl⟩
theorem gxE{α : Type _}{l : List α}{i : Nat}(h : i < l.length) : ∃x, l[i]? = some x := ⟨_, List.getElem?_eq_getElem h⟩
abbrev Qa:=@List.mem_of_getElem?
abbrev Qc:=@List.getD_eq_getElem?_getD
abbrev Qd:=@List.getElem?_eq_some_iff
abbrev Qe:=@Nat.le_trans
abbrev Qf:=@List.eq_nil_of_length_eq_zero
abbrev Qg:=@List.getElem?_eq_getElem
abbrev Qh:=@Nat.zero_le
abbrev Qi:=@List.mem_cons_of_mem
abbrev Qj:=@List.mem_cons
abbrev Qk:=@Option.bind_eq_some_iff
abbrev Ql:=@Rat.le_refl
abbrev Qm:=@Rat.le_of_lt
abbrev Qn:=@Nat.le_refl
abbrev Qo:=@List.mem_singleton
abbrev Qp:=@List.take_of_length_le
abbrev Qq:=@List.mem_of_mem_take
abbrev Qr:=@List.mem_append
abbrev Qt:=@List.getElem?_eq_none
abbrev Qu:=@Nat.eq_of_beq_eq_true
abbrev Qw:=@List.mem_cons_self
abbrev Qx:=@Nat.eq_zero_or_pos
abbrev Qy:=@Nat.mul_le_mul_right
abbrev Qz:=@List.length_take
abbrev Q0:=@List.getD_cons_succ
abbrev Q3:=@List.getElem?_append_left
abbrev Q4:=@List.length_map
abbrev Q5:=@List.pairwise_cons
abbrev Q6:=@List.length_append
abbrev Q7:=@Rat.mul_le_mul_of_nonneg_right
abbrev Q8:=@Nat.lt_or_ge
abbrev Q9:=@List.mem_of_mem_drop
abbrev Za:=@List.take_length
abbrev Zb:=@List.getElem?_map
abbrev Zc:=@Rat.div_mul_cancel
abbrev Zd:=@List.mem_map
abbrev Ze:=@List.getElem?_of_mem
abbrev Zf:=@List.length_cons
abbrev Zg:=@Rat.natCast_le_natCast
abbrev Zh:=@List.take_append_drop
abbrev Zi:=@Rat.le_trans
abbrev Zj:=@List.append_assoc
abbrev Zk:=@List.getElem?_append_right
abbrev Zl:=@Nat.mul_le_mul_left
abbrev Zm:=@Nat.le_of_ble_eq_true
abbrev Zn:=@Bool.and_eq_true
abbrev Zo:=@Nat.mul_comm
abbrev Zp:=@List.mem_iff_getElem?
abbrev Zq:=@Nat.pow_succ
abbrev Zr:=@List.getD_cons_zero
abbrev Zs:=@Nat.pow_le_pow_right
abbrev Zt:=@Rat.mul_le_mul_of_nonneg_left
abbrev Zu:=@List.dropLast_concat
abbrev Zv:=@List.pairwise_append
abbrev Zw:=@Int.natAbs_natCast
abbrev Zx:=@List.map_cons
abbrev Zy:=@Nat.pow_pos
abbrev Zz:=@List.eq_of_mem_replicate
abbrev Z0:=@List.foldl_cons
abbrev Z8:=@Nat.min_eq_left
abbrev Z9:=@Rat.num_divInt_den
abbrev Xa:=@List.cons_append
abbrev Xb:=@List.mem_flatMap
abbrev Xc:=@List.drop_eq_getElem_cons
abbrev Xd:=@Nat.zero_add
abbrev Xe:=@Nat.not_lt_zero
abbrev Xf:=@Nat.mod_eq_of_lt
abbrev Xg:=@List.append_nil
abbrev Xh:=@List.pairwise_iff_getElem
abbrev Xi:=@List.getElem?_drop
abbrev Xj:=@Nat.lt_of_le_of_lt
abbrev Xk:=@Rat.pow_succ
abbrev Xl:=@Nat.mul_le_mul
abbrev Xm:=@Rat.mul_pos
abbrev Xn:=@Rat.mul_eq_zero
abbrev Xo:=@List.map_append
abbrev Xp:=@Nat.mod_lt
abbrev Xq:=@Nat.succ_mul
abbrev Xs:=@Nat.pow_add
abbrev Xt:=@Rat.natCast_nonneg
abbrev Xu:=@Rat.pow_zero
abbrev Xv:=@List.mem_append_left
abbrev Xw:=@List.mem_reverse
abbrev Xx:=@Nat.div_add_mod
abbrev Xy:=@Nat.mul_assoc
abbrev Xz:=@List.length_drop
abbrev X1:=@List.ext_getElem?
abbrev X2:=@List.take_add_one
abbrev X3:=@Int.natAbs_dvd_natAbs
abbrev X4:=@List.length_filter_le
abbrev X5:=@List.length_singleton
abbrev X6:=@List.take_succ
abbrev X7:=@Nat.lt_of_lt_of_le
abbrev X8:=@Int.mul_ediv_cancel_left
abbrev X9:=@Int.mul_ne_zero
abbrev Ja:=@List.getElem?_take_of_lt
abbrev Jb:=@List.mem_map_of_mem
abbrev Jc:=@Rat.intCast_mul
abbrev Jd:=@List.all_eq_true
abbrev Je:=@List.drop_zero
abbrev Jf:=@List.getElem_mem
abbrev Jg:=@Nat.mul_add
abbrev Jh:=@Nat.add_zero
abbrev Ji:=@Nat.mul_lt_mul_of_pos_right
abbrev Jj:=@List.length_replicate
abbrev Jk:=@List.length_set
abbrev Jl:=@List.mem_filter
abbrev Jm:=@List.flatten_append
abbrev Jn:=@List.getElem?_range
abbrev Jo:=@List.map_nil
abbrev Jp:=@Nat.blt_eq
abbrev Jq:=@List.getElem?_set_self
abbrev Jr:=@Option.toList_some
abbrev Js:=@Rat.intCast_lt_intCast
abbrev Jt:=@Rat.mul_nonneg
abbrev Ju:=@Int.sign_eq_neg_one_of_neg
abbrev Jv:=@List.getElem?_take
abbrev Jw:=@Nat.div_lt_of_lt_mul
abbrev Jx:=@List.length_eq_one_iff
abbrev Jy:=@Rat.intCast_le_intCast
abbrev Jz:=@List.getElem?_set
abbrev J0:=@Nat.lt_trichotomy
abbrev J1:=@Rat.not_le
abbrev J3:=@Bool.false_or
abbrev J4:=@Nat.sub_self
abbrev J5:=@List.nil_append
abbrev J6:=@Bool.false_eq_true
abbrev J7:=@List.filter_append
abbrev J8:=@Rat.mul_lt_mul_of_pos_right
abbrev J9:=@Nat.add_sub_cancel_left
abbrev Ya:=@Nat.le_mul_of_pos_right
abbrev Yb:=@List.length_eraseIdx_of_lt
abbrev Yc:=@Nat.zero_mul
abbrev Yd:=@Int.natAbs_mul
abbrev Ye:=@Int.sign_eq_one_of_pos
abbrev Yf:=@Nat.add_mul
abbrev Yg:=@Int.lt_trichotomy
abbrev Yh:=@List.replicate_succ
abbrev Yi:=@Rat.le_iff_lt_or_eq
abbrev Yj:=@Int.mul_eq_zero
abbrev Yk:=@List.getElem?_eq_none_iff
abbrev Yl:=@Nat.add_comm
abbrev Ym:=@Nat.add_sub_cancel
abbrev Yn:=@Nat.le_of_lt
abbrev Yo:=@Bool.true_and
abbrev Yp:=@Rat.div_def
abbrev Yq:=@List.getElem?_set_ne
abbrev Ys:=@Int.emod_eq_zero_of_dvd
abbrev Yt:=@List.getElem?_cons_succ
abbrev Yu:=@List.getElem?_replicate
abbrev Yv:=@Nat.div_le_self
abbrev Yw:=@Option.map_some
abbrev Yx:=@List.length_pos_iff
abbrev Yy:=@Int.zero_mul
abbrev Yz:=@List.drop_eq_nil_of_le
abbrev Y0:=@Nat.mul_one
abbrev Y3:=@Nat.mul_pos
abbrev Y4:=@Option.map_eq_some_iff
abbrev Y5:=@List.map_drop
abbrev Y6:=@Option.bind_some
abbrev Y7:=@List.getElem?_toArray
abbrev Y8:=@List.mem_or_eq_of_mem_set
abbrev Y9:=@Bool.eq_iff_iff
abbrev Vb:=@List.length_nil
abbrev Vd:=@List.mem_iff_getElem
abbrev Ve:=@Nat.pow_zero
abbrev Vf:=@List.reverse_cons
abbrev Vg:=@Nat.add_assoc
abbrev Vh:=@Int.dvd_of_emod_eq_zero
abbrev Vi:=@Int.eq_ofNat_of_zero_le
abbrev Vj:=@List.dropLast_concat_getLast
abbrev Vk:=@List.not_mem_nil
abbrev Vl:=@Nat.le_of_not_lt
abbrev Vm:=@Int.one_mul
abbrev Vn:=@List.mem_filterMap
abbrev Vo:=@Nat.mul_zero
abbrev Vp:=@Bool.or_eq_true
abbrev Vq:=@Nat.le_antisymm
abbrev Vr:=@Int.eq_of_mul_eq_mul_right
abbrev Vs:=@Int.tmod_eq_emod_of_nonneg
abbrev Vu:=@Int.dvd_mul_right
abbrev Vv:=@List.flatten_cons
abbrev Vw:=@Int.mul_neg_of_pos_of_neg
abbrev Vx:=@Bool.false_and
abbrev Vy:=@List.take_zero
abbrev Vz:=@Int.dvd_mul_left
abbrev V0:=@List.map_map
abbrev V1:=@List.map_set
abbrev V2:=@Nat.le_add_right
abbrev V3:=@Option.getD_some
abbrev V4:=@List.getElem?_cons_zero
abbrev V5:=@List.pairwise_singleton
abbrev V6:=@Int.dvd_trans
abbrev V7:=@Int.emod_lt_of_pos
abbrev V8:=@Nat.eq_or_lt_of_le
abbrev V9:=@Nat.lt_or_eq_of_le
abbrev Ka:=@Rat.intCast_neg
abbrev Kb:=@Int.neg_mul
abbrev Kc:=@Nat.ne_of_beq_eq_false
abbrev Kd:=@Rat.natCast_lt_natCast
abbrev Ke:=@List.drop_append_of_le_length
abbrev Kf:=@List.take_append_of_le_length
abbrev Kg:=@Bool.not_eq_true'
abbrev Kh:=@Int.gcd_dvd_right
abbrev Ki:=@Int.ediv_one
abbrev Kj:=@Int.mul_comm
abbrev Kk:=@Int.mul_zero
abbrev Kl:=@List.drop_drop
abbrev Km:=@List.mem_append_right
abbrev Kn:=@List.mem_range
abbrev Ko:=@List.pairwise_reverse
abbrev Kq:=@Nat.div_lt_iff_lt_mul
abbrev Kr:=@Rat.le_total
abbrev Ks:=@List.any_eq_true
abbrev Kt:=@Nat.div_eq_of_lt
abbrev Ku:=@Nat.min_eq_right
abbrev Kv:=@Int.tdiv_eq_ediv_of_nonneg
abbrev Kw:=@List.eraseIdx_of_length_le
abbrev Kx:=@List.map_take
abbrev Ky:=@List.sum_cons
abbrev Kz:=@Nat.le_of_dvd
abbrev K0:=@Int.mul_neg
abbrev K5:=@List.drop_succ_cons
abbrev K6:=@List.filter_sublist
abbrev K7:=@List.take_succ_cons
abbrev K8:=@Int.emod_nonneg
abbrev K9:=@Int.mul_pos_of_neg_of_neg
abbrev Wa:=@Int.natCast_mul
abbrev Wb:=@List.mem_of_find?_eq_some
abbrev Wc:=@Nat.add_mul_mod_self_left
abbrev Wd:=@Rat.intCast_add
abbrev We:=@Bool.true_or
abbrev Wg:=@Int.lt_or_lt_of_ne
abbrev Wh:=@List.append_of_mem
abbrev Wi:=@List.set_cons_succ
abbrev Wj:=@Nat.lt_of_lt_of_eq
abbrev Wl:=@Nat.mul_succ
abbrev Wm:=@Nat.succ_pos
abbrev Wn:=@List.getLast?_cons_cons
abbrev Wo:=@List.foldl_append
abbrev Wp:=@Nat.mul_left_comm
abbrev Wq:=@List.eraseIdx_append_of_length_le
abbrev Ws:=@Nat.le_mul_of_pos_left
abbrev Wu:=@List.getD_nil
abbrev Wv:=@Nat.gcd_dvd_left
abbrev Ww:=@Option.getD_none
abbrev Wx:=@Bool.and_eq_false_iff
abbrev Wy:=@Nat.le_div_iff_mul_le
abbrev Wz:=@Rat.divInt_mul_divInt
abbrev W0:=@List.replicate_append_replicate
abbrev W2:=@Int.dvd_refl
abbrev W3:=@Int.le_of_lt
abbrev W4:=@Int.lt_or_le
abbrev W5:=@Int.mul_ediv_cancel'
abbrev W6:=@List.range_succ
abbrev W7:=@Nat.add_mul_div_left
abbrev W8:=@Nat.gcd_comm
abbrev W9:=@Nat.mod_self
abbrev Ua:=@Nat.sub_zero
abbrev Ub:=@List.getLast?_eq_some_getLast
abbrev Uc:=@Int.ediv_mul_cancel
abbrev Ud:=@List.map_congr_left
abbrev Ue:=@List.replicate_zero
abbrev Uf:=@Nat.pow_le_pow_left
abbrev Ug:=@Bool.not_false
abbrev Uh:=@Rat.den_divInt
abbrev Ui:=@Int.mul_one
abbrev Uj:=@Nat.one_mul
abbrev Uk:=@Int.lt_or_gt_of_ne
abbrev Ul:=@Int.ofNat_dvd_left
abbrev Um:=@List.find?_eq_none
abbrev Un:=@Nat.pos_of_ne_zero
abbrev Uo:=@Nat.two_pow_add_eq_or_of_lt
abbrev Up:=@Rat.mul_inv_cancel
abbrev Uq:=@Rat.lt_irrefl
abbrev Ur:=@List.size_toArray
abbrev Us:=@List.take_sublist
abbrev Ut:=@Nat.gcd_dvd_right
abbrev Uu:=@Nat.gcd_mul_right
abbrev Uv:=@Int.gcd_dvd_left
abbrev Uw:=@List.length_tail
abbrev Ux:=@Nat.le_max_right
abbrev Uy:=@Nat.lt_of_not_le
abbrev Uz:=@Rat.mul_comm
abbrev U0:=@Rat.zero_mul
abbrev U3:=@Int.neg_mul_neg
abbrev U4:=@List.all_append
abbrev U5:=@List.find?_some
abbrev U6:=@Nat.mod_add_div
abbrev U7:=@Nat.mul_add_div
abbrev U8:=@Nat.mul_add_mod
abbrev U9:=@Rat.num_intCast
abbrev Fa:=@Int.mul_pos
abbrev Fb:=@Int.neg_dvd
abbrev Fc:=@Int.one_dvd
abbrev Fe:=@Nat.pow_mul
theorem Fp{p : Prop}[Decidable p](h : ¬p := by omega) : decide p = false := decide_eq_false h
theorem Fq{p : Prop}[Decidable p](h : p := by omega) : decide p = true := decide_eq_true h
abbrev Ft:=List Int
abbrev Fu:=List (List Int)
abbrev Fv:=List Nat
abbrev Fw:=List Rat
abbrev Fx:=List (List Rat)
namespace Orr
open Go
inductive F2 {α β:Type} (R:α->β->Prop):List α->List β->Prop
 |nil:F2 R [] []
 |cons {a:α} {b:β} {l:List α} {r:List β}:R a b->F2 R l r->F2 R (a::l) (b::r)
def upd{α:Type}:List α->Nat->List α->List α
 |l,_,[]=>l
 | [],_,_::_=>[]
 |_::l,0,v::vs=>v::upd l 0 vs
 |u::l,i+1,vs=>u::upd l i vs
theorem UD{α:Type}(cs:List α)(off:Nat)(vs:List α):(upd cs off vs).length=cs.length:=by
 induction cs generalizing off vs with
 |nil=>cases vs <;> simp[upd]
 |
  cons c cs ih=>cases vs with
  |nil=>simp[upd]
  |cons v vs=>cases off <;> simp[upd,ih]
namespace F2
variable{α β:Type}{R S:α->β->Prop}
theorem len{l:List α}{r:List β}(h:F2 R l r):l.length=r.length:=by induction h <;> simp[*]
theorem imp{l:List α}{r:List β}(h:F2 R l r)(f:∀a b,b∈r->R a b->S a b):F2 S l r:=by
 induction h with
 |nil=>exact .nil
 |cons h0 _ ih=>exact .cons (f _ _ (.head _) h0) (ih λa b hb=>f a b (.tail _ hb))
theorem get{l:List α}{r:List β}(h:F2 R l r):∀{j:Nat} {b:β},r[j]? = some b->∃a,l[j]? = some a/\R a b:=by
 induction h with
 |nil=>intro j b h;simp at h
 |
  cons h0 _ ih =>
  intro j b h;cases j with
  |zero=>simp at h;subst h;exact⟨_,rfl,h0⟩
  |succ j=>simpa using ih (by simpa using h)
theorem get'{l:List α}{r:List β}(h:F2 R l r){j:Nat}{a:α}{b:β}(ha:l[j]? = some a)(hb:r[j]? = some b):R a b:=by
 obtain⟨a',h1,h2⟩:=h.get hb;rw[ha]at h1;injection h1 with h1;subst h1;exact h2
theorem of:∀{l:List α} {r:List β},l.length=r.length->(∀(j:Nat) (a:α) (b:β),l[j]? = some a->r[j]? = some b->R a b)->F2 R l r
 | [],[],_,_=>.nil
 |_::_,_::_,hl,h=>.cons (h 0 _ _ rfl rfl) (of (by simpa using hl) λj a b ha hb=>h (j+1) a b (by simpa using ha) (by simpa using hb))
 | [],_::_,hl,_=>by simp at hl
 |_::_,[],hl,_=>by simp at hl
theorem append{l l':List α}{r r':List β}(h:F2 R l r)(h':F2 R l' r'):F2 R (l++l') (r++r'):=by
 induction h with
 |nil=>exact h'
 |cons h0 _ ih=>exact .cons h0 ih
theorem drop{l:List α}{r:List β}(k:Nat)(h:F2 R l r):F2 R (l.drop k) (r.drop k):=by
 induction h generalizing k with
 |nil=>simp;exact .nil
 |
  cons h0 h ih=>cases k with
  |zero=>exact .cons h0 h
  |succ k=>exact ih k
theorem take{l:List α}{r:List β}(k:Nat)(h:F2 R l r):F2 R (l.take k) (r.take k):=by
 induction h generalizing k with
 |nil=>simp;exact .nil
 |
  cons h0 h ih=>cases k with
  |zero=>exact .nil
  |succ k=>exact .cons h0 (ih k)
theorem upd{cs:List α}{xs:List β}(h:F2 R cs xs):∀{vs:List α} {ys:List β} (off:Nat),F2 R vs ys->F2 R (Orr.upd cs off vs) (Orr.upd xs off ys):=by
 induction h with
 |nil=>intro vs ys off h';cases h' <;> exact .nil
 |
  cons h0 h ih =>
  intro vs ys off h';cases h' with
  |nil=>exact .cons h0 h
  |
   cons g0 g=>cases off with
   |zero=>exact .cons g0 (ih 0 g)
   |succ off=>exact .cons h0 (ih off (.cons g0 g))
theorem set{cs:List α}{xs:List β}(h:F2 R cs xs){a:α}{b:β}(hab:R a b)(k:Nat):F2 R (cs.set k a) (xs.set k b):=by
 induction h generalizing k with
 |nil=>exact .nil
 |
  cons h0 h ih=>cases k with
  |zero=>exact .cons hab h
  |succ k=>exact .cons h0 (ih k)
end F2
inductive LV where
 |int (k:IntKind) (n:Int)
 |bool (b:Bool)
 |str (s:ByteArray)
 |nilp
 |nils
 |any
 |row (l:List (List LV))
 |frow (l:List (List LV))
 |sh (l:List LV)
 |fn (f:Nat) (pre post:List LV)
 |ow (i off:Nat)
 |orow (i sz:Nat) (p:Option (Nat×Nat))
 |oel (i sz k off:Nat)
 |ofn (f:Nat) (pre post:List LV)
 |omap (i:Nat)
 |oif (t i off:Nat)
def one:Value->Bool
 | .agg _=>false
 | .tuple _=>false
 |_=>true
inductive LRep (w:World) (M:Nat->Prop):Value->LV->Prop
 |any (v:Value) (h:Orr.one v=true):LRep w M v .any
 |int (k:IntKind) (n:Int):LRep w M (.int k n) (.int k n)
 |bool (b:Bool):LRep w M (.bool b) (.bool b)
 |str (s:ByteArray):LRep w M (.string s) (.str s)
 |nilp:LRep w M (.pointer none) .nilp
 |nils:LRep w M (.slice none 0 0) .nils
 |row (A:Option Addr) (c sz b o:Nat) (l:List (List LV)) (f:Nat->Nat->Value) (hc:l.length≤c) (hc63:c<2^63) (hs:∀cs∈l,cs.length=sz)
  (hA:0<l.length->A=some ⟨b,o,none⟩/\b<w.heap.size/\¬M b)
  (hcell:∀(i:Nat) (cs:List LV),l[i]? = some cs->∀j,j<cs.length->w.cell? ⟨b,o+i*sz+j,none⟩=some (f i j))
  (hrep:∀(i:Nat) (cs:List LV),l[i]? = some cs->∀(j:Nat) (x:LV),cs[j]? = some x->LRep w M (f i j) x) :
  LRep w M (.slice A l.length c) (.row l)
 |frow (A:Option Addr) (l:List (List LV)) (h:LRep w M (.slice A l.length l.length) (.row l)):LRep w M (.slice A l.length l.length) (.frow l)
 |sh (b o:Nat) (l:List LV) (f:Nat->Value) (hb:b<w.heap.size) (hM:¬M b)
  (hcell:∀j,j<l.length->w.cell? ⟨b,o+j,none⟩=some (f j)) (hrep:∀(j:Nat) (x:LV),l[j]? = some x->LRep w M (f j) x) :
  LRep w M (.pointer (some ⟨b,o,none⟩)) (.sh l)
 |fn (f:Nat) (pre post:List LV) (vs us:List Value) (h1:vs.length=pre.length) (h2:us.length=post.length)
  (h3:∀(j:Nat) (v:Value) (x:LV),vs[j]? = some v->pre[j]? = some x->LRep w M v x)
  (h4:∀(j:Nat) (v:Value) (x:LV),us[j]? = some v->post[j]? = some x->LRep w M v x) :
  LRep w M (.func (.func f) vs.toArray us.toArray) (.fn f pre post)
def Le(w:World)(M:Nat->Prop)(w':World)(M':Nat->Prop):Prop :=
 w.heap.size<=w'.heap.size/\(∀b,b<w.heap.size->¬M b->w'.heap[b]? = w.heap[b]?)/\(∀b,b<w.heap.size->M' b->M b)
theorem Le.refl(w:World)(M:Nat->Prop):Le w M w M:=⟨Qn _,λ_ _ _=>rfl,λ_ _ h=>h⟩
structure Grow(w w':World):Prop where
 size:w.heap.size<=w'.heap.size
 keep:∀b,b<w.heap.size->w'.heap[b]? = w.heap[b]?
 io:w'.os=w.os/\w'.output=w.output
theorem Grow.le{w w':World}(h:Grow w w')(M:Nat->Prop):Le w M w' M:=⟨h.1,λb hb _=>h.2 b hb,λ_ _ h=>h⟩
theorem qE{w w':World}{M M':Nat->Prop}(hle:Le w M w' M'){b o:Nat}(hb:b<w.heap.size)(hM:¬M b):w'.cell? ⟨b,o,none⟩=w.cell? ⟨b,o,none⟩:=by
 simp only[World.cell?];rw[hle.2.1 b hb hM]
section
variable{w w':World}{M M':Nat->Prop}
theorem LRep.keep(hle:Le w M w' M'){v:Value}{x:LV}(h:LRep w M v x):LRep w' M' v x:=by
 induction h with
 |any v h=>exact .any v h
 |int k n=>exact .int k n
 |bool b=>exact .bool b
 |str s=>exact .str s
 |nilp=>exact .nilp
 |nils=>exact .nils
 |
  row A c sz b o l f hc hc63 hs hA hcell hrep ih =>
  refine .row A c sz b o l f hc hc63 hs (λh0=>?_) (λi cs hi j hj=>?_) ih
  ·obtain⟨h1,h2,h3⟩:=hA h0;exact⟨h1,X7 h2 hle.1,λho=>h3 (hle.2.2 b h2 ho)⟩
  ·obtain⟨_,h2,h3⟩:=hA (Xj (Qh _) (Qd.1 hi).1);rw[qE hle h2 h3];exact hcell i cs hi j hj
 |frow A l h ih=>exact .frow A l ih
 |
  sh b o l f hb hM hcell hrep ih =>
  refine .sh b o l f (X7 hb hle.1) (λho=>hM (hle.2.2 b hb ho)) (λj hj=>?_) ih;rw[qE hle hb hM];exact hcell j hj
 |fn f pre post vs us h1 h2 h3 h4 ih1 ih2=>exact .fn f pre post vs us h1 h2 ih1 ih2
theorem LRep.one{v:Value}{x:LV}(h:LRep w M v x):Orr.one v=true:=by cases h <;> first|rfl|assumption
theorem VU{v:Value}(h:LRep w M v .nils):LRep w M v (.row []):=by
 cases h;exact .row none 0 0 0 0 [] (λ_ _=>undef) (Qn _) (by decide) (by simp) (λh=>absurd h (by simp)) (λi cs hi=>by simp at hi) (λi cs hi=>by simp at hi)
end
abbrev Lf:=Nat->Option (Option (Nat×Nat)×Nat)
def YRep(w:World)(M:Nat->Prop)(E:Lf)(v:Value):LV->Prop
 | .ow i off=>∃g c m,E i=some (some (g,c),m)/\v=.pointer (some ⟨g,off,none⟩)
 |x=>LRep w M v x
def mF(v:Value)(sz lo len:Nat):Option (Nat×Nat)->Prop
 |none=>v=.slice none 0 0/\lo=0/\len=0
 |some (g,c)=>lo+len<=c/\∃a,v=.slice (some ⟨g,a,none⟩) len (c-lo)/\(lo=0\/lo<c->a=lo*sz)
def XRep(w:World)(M:Nat->Prop)(E:Lf)(v:Value):LV->Prop
 | .ow i off=>∃g c m,E i=some (some (g,c),m)/\v=.pointer (some ⟨g,off,none⟩)
 | .orow i sz p=>∃q m,E i=some (q,m)/\(p.getD (0,m)).1+(p.getD (0,m)).2<=m/\mF v sz (p.getD (0,m)).1 (p.getD (0,m)).2 q
 | .oel i sz k off=>∃g c m,E i=some (some (g,c),m)/\v=.pointer (some ⟨g,k*sz+off,none⟩)
 | .omap i=>∃g c m,E i=some (some (g,c),m)/\v=.map (some g)
 | .oif t i off=>∃g c m,E i=some (some (g,c),m)/\v=.iface t (.pointer (some ⟨g,off,none⟩))
 | .ofn f pre post=>∃vs us:List Value,v=.func (.func f) vs.toArray us.toArray/\F2 (YRep w M E) vs pre/\F2 (YRep w M E) us post
 |x=>LRep w M v x
def LV.free:LV->Bool
 | .ow .. => false
 | .orow .. => false
 | .oel .. => false
 | .ofn .. => false
 | .omap _=>false
 | .oif .. => false
 |_=>true
def YQ:List LV->List Nat
 | []=>[]
 | .ow i _::l=>i::YQ l
 |_::l=>YQ l
def LV.ids:LV->List Nat
 | .ow i _=>[i]
 | .orow i _ _=>[i]
 | .oel i _ _ _=>[i]
 | .omap i=>[i]
 | .oif _ i _=>[i]
 | .ofn _ a b=>YQ a++YQ b
 |_=>[]
section
variable{w w':World}{M M':Nat->Prop}{E E':Lf}
theorem XRep.free{v:Value}{x:LV}(h:XRep w M E v x)(hx:x.free=true):LRep w M v x:=by cases x <;> first|exact h|cases hx
theorem LRep.x{v:Value}{x:LV}(h:LRep w M v x):XRep w M E v x:=by cases x <;> first|exact h|cases h
theorem YRep.keep(hle:Le w M w' M'):∀{vs:List Value} {xs:List LV},F2 (YRep w M E) vs xs->(∀i∈YQ xs,E i≠none->E' i=E i)->F2 (YRep w' M' E') vs xs
 |_,_,.nil,_=>.nil
 |
  _,x::_,.cons h0 h,hE=>by
  refine .cons ?_ (YRep.keep hle h λi hi=>hE i (by cases x <;> first|exact hi|exact .tail _ hi));cases x <;> first|exact LRep.keep hle h0|skip
  obtain⟨g,c,m,e,rfl⟩:=h0;exact⟨g,c,m,(hE _ (.head _) (by simp[e])).trans e,rfl⟩
theorem XRep.keep(hle:Le w M w' M'){v:Value}{x:LV}(h:XRep w M E v x)(hE:∀i∈x.ids,E i≠none->E' i=E i):XRep w' M' E' v x:=by
 cases x <;> first|exact LRep.keep hle h|skip
 ·obtain⟨g,c,m,e,rfl⟩:=h;exact⟨g,c,m,(hE _ (.head _) (by simp[e])).trans e,rfl⟩
 ·obtain⟨q,m,e,h⟩:=h;exact⟨q,m,(hE _ (.head _) (by simp[e])).trans e,h⟩
 ·obtain⟨g,c,m,e,rfl⟩:=h;exact⟨g,c,m,(hE _ (.head _) (by simp[e])).trans e,rfl⟩
 ·obtain⟨vs,us,rfl,h1,h2⟩:=h;exact⟨vs,us,rfl,YRep.keep hle h1 λi hi=>hE i (Qr.2 (.inl hi)),YRep.keep hle h2 λi hi=>hE i (Qr.2 (.inr hi))⟩
 ·obtain⟨g,c,m,e,rfl⟩:=h;exact⟨g,c,m,(hE _ (.head _) (by simp[e])).trans e,rfl⟩
 ·obtain⟨g,c,m,e,rfl⟩:=h;exact⟨g,c,m,(hE _ (.head _) (by simp[e])).trans e,rfl⟩
theorem XRep.one{v:Value}{x:LV}(h:XRep w M E v x):Orr.one v=true:=by
 cases x <;> first|exact LRep.one h|skip
 ·obtain⟨g,c,m,e,rfl⟩:=h;rfl
 ·obtain⟨q,m,e,_,h⟩:=h;rcases q with _|⟨g,c⟩
  ·rw[h.1];rfl
  ·obtain⟨_,a,e,_⟩:=h;rw[e];rfl
 ·obtain⟨g,c,m,e,rfl⟩:=h;rfl
 ·obtain⟨vs,us,rfl,_⟩:=h;rfl
 ·obtain⟨g,c,m,e,rfl⟩:=h;rfl
 ·obtain⟨g,c,m,e,rfl⟩:=h;rfl
theorem F2.xone{vs:List Value}{xs:List LV}(h:F2 (XRep w M E) vs xs):∀u∈vs,Orr.one u=true:=by
 intro u hu;obtain⟨j,hj⟩:=Zp.1 hu;have hl:j<xs.length:=by rw[<-h.len];exact(Qd.1 hj).1
 exact(h.get' hj (Qg hl)).one
end
inductive TV where
 |one (x:LV)
 |agg (xs:List LV)
def TV.ids:TV->List Nat
 | .one x=>x.ids
 | .agg xs=>xs.flatMap LV.ids
def TRep(w:World)(M:Nat->Prop)(E:Lf)(v:Value):TV->Prop
 | .one x=>XRep w M E v x
 | .agg xs=>∃vs:List Value,v=.agg vs.toArray/\F2 (XRep w M E) vs xs
inductive AV where
 |v (t:TV)
 |tup (l:List TV)
 |cnd (b:Bool) (t:TV)
def AV.ids:AV->List Nat
 | .v t=>t.ids
 | .tup l=>l.flatMap TV.ids
 | .cnd _ t=>t.ids
def ARep(w:World)(M:Nat->Prop)(E:Lf)(v:Value):AV->Prop
 | .v t=>TRep w M E v t
 | .tup l=>∃vs:List Value,v=.tuple vs.toArray/\F2 (TRep w M E) vs l
 | .cnd b t=>(b=true->TRep w M E v t)/\(b=false->v=undef)
section
variable{w w':World}{M M':Nat->Prop}{E E':Lf}
theorem F2.xkeep(hle:Le w M w' M'){vs:List Value}{xs:List LV}(h:F2 (XRep w M E) vs xs)(hE:∀i∈xs.flatMap LV.ids,E i≠none->E' i=E i):F2 (XRep w' M' E') vs xs :=
 h.imp λ_ b hb h=>h.keep hle λi hi=>hE i (Xb.2 ⟨b,hb,hi⟩)
theorem TRep.keep(hle:Le w M w' M'){v:Value}{x:TV}(h:TRep w M E v x)(hE:∀i∈x.ids,E i≠none->E' i=E i):TRep w' M' E' v x:=by
 cases x with
 |one x=>exact XRep.keep hle h hE
 |agg xs=>obtain⟨vs,e,h⟩:=h;exact⟨vs,e,h.xkeep hle hE⟩
theorem ARep.keep(hle:Le w M w' M'){v:Value}{x:AV}(h:ARep w M E v x)(hE:∀i∈x.ids,E i≠none->E' i=E i):ARep w' M' E' v x:=by
 cases x with
 |v t=>exact TRep.keep hle h hE
 |tup l=>obtain⟨vs,e,h⟩:=h;exact⟨vs,e,h.imp λ_ b hb h=>h.keep hle λi hi=>hE i (Xb.2 ⟨b,hb,hi⟩)⟩
 |cnd b t=>exact⟨λhb=>TRep.keep hle (h.1 hb) hE,h.2⟩
end
inductive OB where
 |gone
 |blk (T:TypeId) (xs:List LV)
 |row (fx:Bool) (T:TypeId) (sz:Nat) (ls:List (List LV))
 |mpb (es:List (List Int×LV))
def BU:LV->Value
 | .int k n=>.int k n
 | .bool b=>.bool b
 |_=>undef
def Du(es:List (List Int×LV)):List (Value×Value):=es.map λe=>(.agg (e.1.map (Value.int .i64)).toArray,BU e.2)
def OB.lv:OB->Bool
 | .gone=>false
 |_=>true
def OB.ids:OB->List Nat
 | .blk _ xs=>xs.flatMap LV.ids
 |_=>[]
def OB.mv:OB->Bool
 | .row fx _ _ _ => !fx
 |_=>false
def Qz9(w:World)(M:Nat->Prop)(T sz:Nat)(ls:List (List LV)):Option (Nat×Nat)->Prop
 |none=>ls=[]
 |some (g,c)=>∃(vss:List (List Value)) (ex:List Value),F2 (F2 (LRep w M)) vss ls/\w.heap[g]? = some (.cells (vss.flatten++ex).toArray T (0,0))/\(vss.flatten++ex).length=c*sz/\ls.length<=c/\c<2^63
def OBRep(w:World)(M:Nat->Prop)(E:Lf)(i:Nat):OB->Prop
 | .gone=>True
 | .blk T xs=>∃g c m,E i=some (some (g,c),m)/\∃cs:List Value,w.heap[g]? = some (.cells cs.toArray T (0,0))/\F2 (XRep w M E) cs xs
 | .row _ T sz ls=>0<sz/\(∀c∈ls,c.length=sz)/\∃e,E i=some (e,ls.length)/\Qz9 w M T sz ls e
 | .mpb es=>(∀e∈es,e.1.length=3)/\∃g c m,E i=some (some (g,c),m)/\∃ents ck,w.heap[g]? = some (.map ents ck)/\ents.toList.map (λe=>(e.key,e.val))=Du es
theorem OBRep.keep{w w':World}{M M':Nat->Prop}{E E':Lf}{i i':Nat}{b:OB}(hle:Le w M w' M')(h:OBRep w M E i b)(hw:b.lv=true->∀g c m,E i=some (some (g,c),m)->w'.heap[g]? = w.heap[g]?)(hi:b.lv=true->E' i'=E i)(hE:∀j∈b.ids,E j≠none->E' j=E j):OBRep w' M' E' i' b:=by
 cases b with
 |gone=>trivial
 |
  blk T xs =>
  obtain⟨g,c,m,e,cs,h1,h2⟩:=h;exact⟨g,c,m,(hi rfl).trans e,cs,(hw rfl g c m e).trans h1,h2.xkeep hle hE⟩
 |
  row fx T sz ls =>
  obtain⟨h1,h2,e,h3,h4⟩:=h;refine⟨h1,h2,e,(hi rfl).trans h3,?_⟩;rcases e with _|⟨g,c⟩
  ·exact h4
  ·obtain⟨vss,ex,h5,h6,h7⟩:=h4;exact⟨vss,ex,h5.imp λ_ _ _ h=>h.imp λ_ _ _ h=>h.keep hle,(hw rfl g c _ h3).trans h6,h7⟩
 |
  mpb es =>
  obtain⟨h1,g,c,m,e,ents,ck,h2,h3⟩:=h;exact⟨h1,g,c,m,(hi rfl).trans e,ents,ck,(hw rfl g c m e).trans h2,h3⟩
structure Fr where
 K:Nat->Prop
 J:Nat->Prop
 w:World
 M:Nat->Prop
 E:Lf
structure HS(F:Fr)(bl:Nat->OB)(U:Nat->Prop)(E:Lf)(M:Nat->Prop)(w:World):Prop where
 size:F.w.heap.size<=w.heap.size
 kept:∀b,F.K b->b<F.w.heap.size/\w.heap[b]? = F.w.heap[b]? /\ (M b↔F.M b)
 ids:∀i,F.J i->E i=F.E i
 nj:∀i,(bl i).mv=true->¬F.J i
 io:w.os=F.w.os/\w.output=F.w.output
 blk:∀i,OBRep w M E i (bl i)
 nk:∀i g c m,(bl i).lv=true->E i=some (some (g,c),m)->¬F.K g/\M g
 inj:∀i j g c m c' m',(bl i).lv=true->(bl j).lv=true->E i=some (some (g,c),m)->E j=some (some (g,c'),m')->i=j
 mlt:∀b,M b->b<w.heap.size
 m0:∀b,b<F.w.heap.size->M b->F.M b
 un:∀i,U i->E i=none/\bl i=.gone
 uj:∀i,U i->¬F.J i
section
variable{F:Fr}{bl:Nat->OB}{U:Nat->Prop}{E:Lf}{M:Nat->Prop}{w w':World}
theorem HS.grow(h:HS F bl U E M w)(hg:Grow w w'):HS F bl U E M w' :=
 {h with
  size:=Qe h.size hg.1
  kept:=λb hb=>by
   obtain⟨h1,h2,h3⟩:=h.kept b hb;exact⟨h1,(hg.2 b (X7 h1 h.size)).trans h2,h3⟩
  io:=⟨hg.io.1.trans h.io.1,hg.io.2.trans h.io.2⟩
  blk:=λi=>(h.blk i).keep (hg.le _) (λhl g c m e=>hg.2 g (h.mlt g (h.nk i g c m hl e).2)) (λ_=>rfl) λ_ _ _=>rfl
  mlt:=λb hb=>X7 (h.mlt b hb) hg.1 }
def L6{α:Type}(f:Nat->α)(i:Nat)(x:α):Nat->α:=λj=>if j=i then x else f j
theorem G7{α:Type}(f:Nat->α)(i:Nat)(x:α):L6 f i x i=x:=if_pos rfl
theorem H6{α:Type}(f:Nat->α){i j:Nat}(x:α)(h:j≠i):L6 f i x j=f j:=if_neg h
theorem HS.set(h:HS F bl U E M w){i g c m m':Nat}{b:OB}(hl:(bl i).lv=true)(he:E i=some (some (g,c),m))(hs:w'.heap.size=w.heap.size)(hw:∀b,b≠g->w'.heap[b]? = w.heap[b]?)(hio:w'.os=w.os/\w'.output=w.output)(hm:b.mv=(bl i).mv)(hj:m'=m\/¬F.J i/\∀j,j≠i->i∉(bl j).ids)(hb:Le w M w' M->OBRep w' M (L6 E i (some (some (g,c),m'))) i b):HS F (L6 bl i b) U (L6 E i (some (some (g,c),m'))) M w':=by
 have hk:=h.nk i g c m hl he;have hle:Le w M w' M:=⟨by rw[hs];exact Qn _,λb _ hb=>hw b λe=>hb (e ▸ hk.2),λ_ _ h=>h⟩;have hlv:∀j,(L6 bl i b j).lv=true->(bl j).lv=true:=λj hj=>by
  by_cases e:j=i
  ·subst e;exact hl
  ·rwa[H6 _ _ e]at hj
 have hE:∀j,j≠i->L6 E i (some (some (g,c),m')) j=E j:=λj e=>H6 _ _ e
 have hEa:∀j g1 c1 m1,L6 E i (some (some (g,c),m')) j=some (some (g1,c1),m1)->∃m2,E j=some (some (g1,c1),m2):=λj g1 c1 m1 e=>by
  by_cases e':j=i
  ·subst e';rw[G7]at e;injection e with e;injection e with e1 _;rw[<-e1];exact⟨m,he⟩
  ·rw[hE j e']at e;exact⟨m1,e⟩
 exact
 {h with
  size:=by rw[hs];exact h.size
  ids:=λj hJ=>by
   by_cases e:j=i
   ·subst e;rcases hj with rfl|⟨hj,_⟩
    ·rw[G7,<-he];exact h.ids j hJ
    ·exact absurd hJ hj
   ·rw[hE j e];exact h.ids j hJ
  kept:=λb hb=>by
   obtain⟨h1,h2,h3⟩:=h.kept b hb;exact⟨h1,(hw b λe=>hk.1 (e ▸ hb)).trans h2,h3⟩
  nj:=λj hj=>by
   by_cases e:j=i
   ·subst e;rw[G7,hm]at hj;exact h.nj j hj
   ·rw[H6 _ _ e]at hj;exact h.nj j hj
  io:=⟨hio.1.trans h.io.1,hio.2.trans h.io.2⟩
  blk:=λj=>by
   by_cases e:j=i
   ·subst e;rw[G7];exact hb hle
   ·rw[H6 _ _ e];refine(h.blk j).keep hle (λhlj g' c' m' e'=>hw g' λe2=>e (h.inj j i g' c' m' c m hlj hl e' (e2 ▸ he))) (λ_=>hE j e) λk hk _=>?_
    by_cases e2:k=i
    ·subst e2;rcases hj with rfl|⟨_,hj⟩
     ·rw[G7,he]
     ·exact absurd hk (hj j e)
    ·exact hE k e2
  nk:=λj g1 c1 m1 hj e=>by obtain⟨m2,e⟩:=hEa _ _ _ _ e;exact h.nk j g1 c1 m2 (hlv j hj) e
  inj:=λj k g1 c1 m1 c2 m2 hj hk e1 e2=>by obtain⟨m3,e1⟩:=hEa _ _ _ _ e1;obtain⟨m4,e2⟩:=hEa _ _ _ _ e2;exact h.inj j k g1 c1 m3 c2 m4 (hlv j hj) (hlv k hk) e1 e2
  mlt:=λb hb=>by rw[hs];exact h.mlt b hb
  un:=λj hj=>by
   have h1:=h.un j hj;have hne:j≠i:=λe=>by subst e;rw[h1.2]at hl;cases hl
   rw[hE j hne,H6 _ _ hne];exact h1 }
theorem HS.gone(h:HS F bl U E M w)(i:Nat):HS F (L6 bl i .gone) U E M w:=by
 have hg:∀j,L6 bl i .gone j=.gone\/L6 bl i .gone j=bl j:=λj=>by
  by_cases e:j=i
  ·exact .inl (e ▸ G7 ..)
  ·exact .inr (H6 _ _ e)
 have hlv:∀j,(L6 bl i .gone j).lv=true->(bl j).lv=true:=λj hj=>by rcases hg j with e|e <;> rw[e]at hj <;> first|exact hj|cases hj
 exact
 {h with
  nj:=λj hj=>by rcases hg j with e|e <;> rw[e]at hj <;> first|exact h.nj j hj|cases hj
  blk:=λj=>by rcases hg j with e|e <;> rw[e] <;> first|exact h.blk j|trivial
  nk:=λj g c m hj=>h.nk j g c m (hlv j hj)
  inj:=λj k g c m c' m' hj hk=>h.inj j k g c m c' m' (hlv j hj) (hlv k hk)
  un:=λj hj=>⟨(h.un j hj).1,by rcases hg j with e|e <;> rw[e];exact(h.un j hj).2⟩ }
theorem HS.pub(h:HS F bl U E M w){i g c m:Nat}(hl:(bl i).lv=true)(he:E i=some (some (g,c),m)):HS F (L6 bl i .gone) U E (λb=>M b/\b≠g) w:=by
 have h':=h.gone i;have hle:Le w M w (λb=>M b/\b≠g):=⟨Qn _,λ_ _ _=>rfl,λ_ _ h=>h.1⟩;have hne:∀j,(L6 bl i .gone j).lv=true->j≠i:=λj hj e=>by subst e;rw[G7]at hj;cases hj
 exact
 {h' with
  kept:=λb hb=>by
   obtain⟨h1,h2,h3⟩:=h.kept b hb;exact⟨h1,h2,λh=>h3.1 h.1,λh4=>⟨h3.2 h4,λe=>(h.nk i g c m hl he).1 (e ▸ hb)⟩⟩
  blk:=λj=>(h'.blk j).keep hle (λ_ _ _ _ _=>rfl) (λ_=>rfl) λ_ _ _=>rfl
  nk:=λj g' c' m' hj e'=>⟨(h'.nk j g' c' m' hj e').1,(h'.nk j g' c' m' hj e').2,λe=>by
   have hn:=hne j hj;rw[H6 _ _ hn]at hj;exact hn (h.inj j i g' c' m' c m hj hl e' (e ▸ he))⟩
  mlt:=λb hb=>h.mlt b hb.1
  m0:=λb hb hm=>h.m0 b hb hm.1 }
theorem HS.new(h:HS F bl U E M w)(hg:Grow w w'){k m:Nat}{b:OB}{q:Option (Nat×Nat)}(hU:¬F.J k)(hq:∀g c,q=some (g,c)->w.heap.size<=g/\g<w'.heap.size)
 (hfree:∀j,j≠k->k∈(bl j).ids->E k=none)
 (hb:Le w M w' (λb=>M b\/(∃c,q=some (b,c)))->OBRep w' (λb=>M b\/(∃c,q=some (b,c))) (L6 E k (some (q,m))) k b):HS F (L6 bl k b) (λi=>U i/\i≠k) (L6 E k (some (q,m))) (λb=>M b\/(∃c,q=some (b,c))) w':=by
 have h':=h.grow hg;have hle:Le w M w' (λb=>M b\/(∃c,q=some (b,c))):=⟨hg.1,λb hb _=>hg.2 b hb,λb hb hm=>hm.resolve_right λ⟨c,e⟩=>by have:=(hq b c e).1;omega⟩;have hold:∀j,j≠k->∀g c m,(bl j).lv=true->E j=some (some (g,c),m)->∀c',q≠some (g,c'):=λj _ g c m hl e c' e'=>by
  have h1:=h.mlt g (h.nk j g c m hl e).2;have h2:=(hq g c' e').1;omega
 refine
 {h' with
  kept:=λb hb=>?_
  ids:=λi hi=>by rw[H6 _ _ (λe=>by subst e;exact hU hi)];exact h.ids i hi
  nj:=λj hj=>?_
  blk:=λj=>?_
  nk:=λj g c m' hj e=>?_
  inj:=λi j g c m1 c' m2 hi hj ei ej=>?_
  mlt:=λb hb=>?_
  m0:=λb hb hm=>h.m0 b hb (hm.resolve_right λ⟨c,e⟩=>by have:=(hq b c e).1;have:=h.size;omega)
  un:=λi hi=>?_
  uj:=λi hi=>h.uj i hi.1 }
 ·obtain⟨h1,h2,h3⟩:=h'.kept b hb;exact⟨h1,h2,λhm=>h3.1 (hm.resolve_right λ⟨c,e⟩=>by have:=(hq b c e).1;have:=h.size;omega),λhm=>.inl (h3.2 hm)⟩
 ·by_cases e:j=k
  ·subst e;exact hU
  ·rw[H6 _ _ e]at hj;exact h.nj j hj
 ·by_cases e:j=k
  ·subst e;rw[G7];exact hb hle
  ·rw[H6 _ _ e];refine(h.blk j).keep hle (λhl g c m e'=>hg.2 g (h.mlt g (h.nk j g c m hl e').2)) (λ_=>H6 _ _ e) λi hi hn=>H6 _ _ λe2=>?_
   subst e2;exact hn (hfree j e hi)
 ·by_cases e':j=k
  ·subst e';rw[G7]at e;injection e with e;injection e with e _;have h1:=hq g c e;exact⟨λhk=>by have:=(h.kept g hk).1;have:=h.size;omega,.inr ⟨c,e⟩⟩
  ·rw[H6 _ _ e']at e hj;exact⟨(h.nk j g c m' hj e).1,.inl (h.nk j g c m' hj e).2⟩
 ·by_cases e1:i=k <;> by_cases e2:j=k
  ·rw[e1,e2]
  ·subst e1;rw[G7]at ei;injection ei with ei;injection ei with ei _;rw[H6 _ _ e2]at ej hj;exact absurd ei (hold j e2 g c' m2 hj ej c)
  ·subst e2;rw[G7]at ej;injection ej with ej;injection ej with ej _;rw[H6 _ _ e1]at ei hi;exact absurd ej (hold i e1 g c m1 hi ei c')
  ·rw[H6 _ _ e1]at ei hi;rw[H6 _ _ e2]at ej hj;exact h.inj i j g c m1 c' m2 hi hj ei ej
 ·rcases hb with hb|⟨c,e⟩
  ·exact h'.mlt b hb
  ·exact(hq b c e).2
 ·rw[H6 _ _ hi.2,H6 _ _ hi.2];exact h.un i hi.1
end
def ob(B:List OB)(i:Nat):OB:=(B[i]?).getD .gone
theorem P5{B:List OB}{i:Nat}{b:OB}(h:B[i]? = some b):ob B i=b:=by simp[ob,h]
theorem UA{B:List OB}{i:Nat}{b x:OB}(h:B[i]? = some x):ob (B.set i b)=L6 (ob B) i b:=by
 have hl:=(Qd.1 h).1;funext j;simp only[ob,L6,Jz];by_cases e:j=i
 ·subst e;simp[hl]
 ·simp[e,Ne.symm e]
theorem Qp6{B:List OB}{b:OB}:ob (B++[b])=L6 (ob B) B.length b:=by
 funext j;simp only[ob,L6];by_cases e:j=B.length
 ·subst e;simp
 ·rw[if_neg e];rcases Q8 j B.length with h|h
  ·rw[Q3 h]
  ·rw[Qt (by simp;omega),Qt h]
def nw(B:List OB):Nat->Prop:=λi=>B.length<=i
abbrev Sg:=List (Nat×AV)
def lk:Sg->Nat->Option AV
 | [],_=>none
 |
  (t,v)::l,s=>match Nat.beq s t with
  |true=>some v
  |false=>lk l s
structure SA(F:Fr)(n:Nat)(L:Sg)(B:List OB)(E:Lf)(M:Nat->Prop)(a:Act)(w:World):Prop where
 hs:HS F (ob B) (nw B) E M w
 size:a.tmps.size=n
 defers:a.defers=[]
 slots:∀t x,lk L t=some x->∃v,a.tmps[t]? = some v/\ARep w M E v x
@[match_pattern] abbrev TV.oi (x : Int) : TV := .one (.int .i64 x)
abbrev Fy:=List LV
abbrev Fz:=List (List LV)
abbrev Ga:=List OB
abbrev Gb:=List TV
end Orr
namespace Orr
open Go
variable{P:Program}{w:World}{e:Operand->Value}{o:Oper}
def Qh1:BinOp->Int->Int->Option Bool
 | .lss,x,y=>some (decide (x<y))
 | .leq,x,y=>some (decide (x<=y))
 | .gtr,x,y=>some (decide (y<x))
 | .geq,x,y=>some (decide (y<=x))
 | .eql,x,y=>some (decide (x=y))
 | .neq,x,y=>some (decide (x≠y))
 |_,_,_=>none
section
variable{x y c:Operand}{kd kd':IntKind}{p q:Int}{t t':TypeId}
theorem aO{v:Value}(ho:o.op=.move x\/o.op=.assign x)(hx:e x=v):(execOp e o).run P w=.ok (.value v) w:=by
 rcases ho with ho|ho <;> simp only[execOp,ho,hx] <;> rfl
theorem iQ{b:Bool}(ho:o.op=.pick c x y)(hc:e c=.bool b):(execOp e o).run P w=.ok (.value (if b then e x else e y)) w:=by
 simp only[execOp,ho,hc,asBool,Sem.run_bind,Sem.run_pure,Result.andThen_ok]
theorem Qnc{a:Addr}(ho:o.op=.nilCheck x)(hx:e x=.pointer (some a)):(execOp e o).run P w=.ok (.value (.pointer (some a))) w:=by
 simp only[execOp,ho,hx,Sem.run_bind,Sem.run_pure,Result.andThen_ok]
theorem Qfp{vs:List Value}{i:Nat}{v:Value}(ho:o.op=.extract x i)(hx:e x=.tuple vs.toArray)(hi:vs[i]? = some v):(execOp e o).run P w=.ok (.value v) w:=by
 simp[execOp,ho,hx,Instr.extract,hi]
theorem Qy2{b:Bool}(ho:o.op=.unOp .not t x)(hx:e x=.bool b):(execOp e o).run P w=.ok (.value (.bool (!b))) w:=by
 simp only[execOp,ho,hx,Op.unary,Sem.run_bind,Sem.run_pure,Result.andThen_ok]
theorem Qy1(ho:o.op=.unOp .neg t x)(hx:e x=.int kd p):(execOp e o).run P w=.ok (.value (.int kd (kd.wrap (-p)))) w:=by
 simp[execOp,ho,hx,Op.unary,Op.intArith]
theorem Qyu{op:BinOp}{b:Bool}(ho:o.op=.binOp op t x y t')(hx:e x=.int kd p)(hy:e y=.int kd q)(hb:Qh1 op p q=some b):(execOp e o).run P w=.ok (.value (.bool b)) w:=by
 cases op <;> simp only[Qh1,Option.some.injEq,reduceCtorEq]at hb <;> subst hb <;>
  simp[execOp,ho,hx,hy,eqGuard,Go.binOp,Op.intCmp] <;> first|rfl|(rw[Y9];simp)
def Qf6:BinOp->Int->Int->Option Int
 | .add,x,y=>some (x+y)
 | .sub,x,y=>some (x-y)
 | .mul,x,y=>some (x*y)
 |_,_,_=>none
theorem Qys{op:BinOp}{r:Int}(ho:o.op=.binOp op t x y t')(hx:e x=.int kd p)(hy:e y=.int kd q)(hr:Qf6 op p q=some r):(execOp e o).run P w=.ok (.value (.int kd (kd.wrap r))) w:=by
 cases op <;> simp only[Qf6,Option.some.injEq,reduceCtorEq]at hr <;> subst hr <;> simp[execOp,ho,hx,hy,eqGuard,Go.binOp,Op.intArith]
theorem Qwa{x y:Operand}{s:ByteArray}{i v:Nat}{t:TypeId}{kd:IntKind}(ho:o.op=.index t x y)(hx:e x=.string s)(hy:e y=.int kd (i:Int))(hu:∀w,(underlying t).run P w=.ok .string w)(hi:(s[i]?).map (·.toNat)=some v):(execOp e o).run P w=.ok (.value (.int .u8 (v:Int))) w:=by
 cases hs:s[i]? with
 |none=>rw[hs]at hi;cases hi
 |
  some b =>
  rw[hs]at hi;simp only[Yw,Option.some.injEq]at hi;subst hi;simp[execOp,ho,hx,hy,Instr.index,asIntOf,hu,hs]
def orI(k:IntKind)(p q:Int):Int:=k.wrap ((BitVec.ofInt k.bits p ||| BitVec.ofInt k.bits q).toNat:Int)
theorem Q0f(ho:o.op=.binOp .or t x y t')(hx:e x=.int kd p)(hy:e y=.int kd q):(execOp e o).run P w=.ok (.value (.int kd (orI kd p q))) w:=by
 simp[execOp,ho,hx,hy,eqGuard,Go.binOp,Op.intBits,orI]
theorem Qy3(ho:o.op=.binOp .quo t x y t')(hx:e x=.int kd p)(hy:e y=.int kd q)(hq:q≠0):(execOp e o).run P w=.ok (.value (.int kd (kd.wrap (p.tdiv q)))) w:=by
 simp[execOp,ho,hx,hy,eqGuard,Go.binOp,Op.intDiv,hq]
theorem Qy4(ho:o.op=.binOp .rem t x y t')(hx:e x=.int kd p)(hy:e y=.int kd q)(hq:q≠0):(execOp e o).run P w=.ok (.value (.int kd (p.tmod q))) w:=by
 simp[execOp,ho,hx,hy,eqGuard,Go.binOp,Op.intDiv,hq]
theorem Qyw{a b:Bool}(ho:o.op=.binOp .eql t x y t')(hx:e x=.bool a)(hy:e y=.bool b)(hu:P.underlying t=some .bool):(execOp e o).run P w=.ok (.value (.bool (a == b))) w:=by
 simp only[execOp,ho,hx,hy];simp[go_sem,run_eql_bool,hu]
theorem Qy0{a b:Bool}(ho:o.op=.binOp .neq t x y t')(hx:e x=.bool a)(hy:e y=.bool b)(hu:P.underlying t=some .bool):(execOp e o).run P w=.ok (.value (.bool (!(a == b)))) w:=by
 simp only[execOp,ho,hx,hy];simp[go_sem,run_neq_bool,hu]
theorem Qwc{s u:TypeId}(ho:o.op=.convert s u x)(hx:e x=.int kd p)(hs:∀w,(underlying s).run P w=.ok (.int kd) w)(ht:∀w,(underlying u).run P w=.ok (.int kd') w):(execOp e o).run P w=.ok (.value (.int kd' (kd'.wrap p))) w:=by
 simp[execOp,ho,hx,Go.convert,hs,ht,Conv.intToInt]
theorem Qy5{m:Nat}(ho:o.op=.binOp .shl t x y t')(hx:e x=.int kd p)(hy:e y=.int kd' (m:Int))(hm:m<=kd.bits):(execOp e o).run P w=.ok (.value (.int kd (kd.wrap (p*2^m)))) w:=by
 have h0:¬((m:Int)<0):=by omega
 simp[execOp,ho,hx,hy,eqGuard,Go.binOp,Op.shift,h0,Z8 hm]
theorem Qy6{m:Nat}(ho:o.op=.binOp .shr t x y t')(hx:e x=.int kd p)(hy:e y=.int kd' (m:Int))(hm:m<=kd.bits):(execOp e o).run P w=.ok (.value (.int kd (p / 2^m))) w:=by
 have h0:¬((m:Int)<0):=by omega
 simp[execOp,ho,hx,hy,eqGuard,Go.binOp,Op.shift,h0,Z8 hm];exact Int.fdiv_eq_ediv_of_nonneg _ (by have:=Int.natCast_nonneg (2^m);simpa using this)
theorem WP{E:TypeId}{a:Option Addr}{op:BinOp}(hop:op=.eql\/op=.neq)(ho:o.op=.binOp op t x y t')(hu:∀w,(underlying t).run P w=.ok (.pointer E) w)(hx:e x=.pointer a)(hy:e y=.pointer none):(execOp e o).run P w=.ok (.value (.bool (if op=.eql then a.isNone else !a.isNone))) w:=by
 have he:(Op.equal t (.pointer a) (.pointer none)).run P w=.ok a.isNone w:=by
  have key:∀d,(Op.equalIn (d+1) t (.pointer a) (.pointer none)).run P w=.ok a.isNone w:=λd=>by cases a <;> simp[Op.equalIn,hu]
  exact key 9999
 rcases hop with rfl|rfl <;> simp[execOp,ho,hx,hy,eqGuard,Go.binOp,he]
theorem Qyv{a b:Ft}(ho:o.op=.binOp .eql t x y t')(hx:e x=.agg (a.map (Value.int .i64)).toArray)(hy:e y=.agg (b.map (Value.int .i64)).toArray)(hg:P.eqGuardType P.depth t=false)(he:∀w,(Op.equal t (.agg (a.map (Value.int .i64)).toArray) (.agg (b.map (Value.int .i64)).toArray)).run P w=.ok (decide (a=b)) w) :
 (execOp e o).run P w=.ok (.value (.bool (decide (a=b)))) w:=by
 simp[execOp,ho,hx,hy,eqGuard,run_program,hg,Go.binOp,he]
theorem Qyz{a b:Ft}(ho:o.op=.binOp .neq t x y t')(hx:e x=.agg (a.map (Value.int .i64)).toArray)(hy:e y=.agg (b.map (Value.int .i64)).toArray)(hg:P.eqGuardType P.depth t=false)(he:∀w,(Op.equal t (.agg (a.map (Value.int .i64)).toArray) (.agg (b.map (Value.int .i64)).toArray)).run P w=.ok (decide (a=b)) w) :
 (execOp e o).run P w=.ok (.value (.bool (!decide (a=b)))) w:=by
 simp[execOp,ho,hx,hy,eqGuard,run_program,hg,Go.binOp,he]
theorem Qyx{A:Option Addr}{m c:Nat}{E:TypeId}{ats:Array TypeId}(ho:o.op=.call { callee:=.builtin .len,args := #[x],argTypes:=ats })(hat:ats[0]? = some t)(hx:e x=.slice A m c)(hu:∀w,(underlying t).run P w=.ok (.slice E) w):(execOp e o).run P w=.ok (.value (.int .i64 (m:Int))) w:=by
 simp[execOp,ho,resolve,invoke,hx,builtin,Builtin.len_,hat,hu,goInt]
theorem Lk(b o i:Nat):(⟨b,o,none⟩:Addr).add i=⟨b,o+i,none⟩:=by
 unfold Addr.add
 split
 ·rename_i e;subst e;rfl
 ·rfl
theorem fW{b a m c i sz:Nat}{E:TypeId}(ho:o.op=.indexAddr t x y)(hx:e x=.slice (some ⟨b,a,none⟩) m c)(hy:e y=.int kd (i:Int))(hu:∀w,(underlying t).run P w=.ok (.slice E) w)(hs:∀w,(Go.sizeOf E).run P w=.ok sz w)(hi:i<m) :
 (execOp e o).run P w=.ok (.value (.pointer (some ⟨b,a+i*sz,none⟩))) w:=by
 simp[execOp,ho,hx,hy,Instr.indexAt,asIntOf,hu,hs,hi,Lk]
theorem Qm9{b a m i sz:Nat}{E:TypeId}(ho:o.op=.indexAddr t x y)(hx:e x=.pointer (some ⟨b,a,none⟩))(hy:e y=.int kd (i:Int))(hu:∀w,(underlying t).run P w=.ok (.array m E) w)(hs:∀w,(Go.sizeOf E).run P w=.ok sz w)(hi:i<m) :
 (execOp e o).run P w=.ok (.value (.pointer (some ⟨b,a+i*sz,none⟩))) w:=by
 simp[execOp,ho,hx,hy,Instr.indexAt,Instr.sureAddr,asIntOf,hu,hs,hi,Lk]
theorem Qna{m i sz:Nat}{E:TypeId}{ag:Bool}{vs:List Value}{v:Value}(ho:o.op=.index t x y)(hx:e x=.agg vs.toArray)(hy:e y=.int kd (i:Int))(hu:∀w,(underlying t).run P w=.ok (.array m E) w)(hs:∀w,(Go.sizeOf E).run P w=.ok sz w)(ht:∀w,(isAgg E).run P w=.ok ag w)(hi:i<m)
 (hv:if ag=true then v=.agg ((vs.drop (i*sz)).take sz).toArray else vs[i*sz]? = some v) :
 (execOp e o).run P w=.ok (.value v) w:=by
 have h0:(0:Int)<=(i:Int)/\(i:Int)<(m:Int):=by omega
 cases ag with
 |
  true =>
  simp only[if_true]at hv;subst hv;simp[execOp,ho,hx,hy,Instr.index,asIntOf,hu,hs,h0,hi,Go.part,ht,List.extract]
 |
  false =>
  simp at hv;simp[execOp,ho,hx,hy,Instr.index,asIntOf,hu,hs,h0,hi,Go.part,ht,hv]
theorem nS{S f b a off:Nat}(ho:o.op=.fieldAddr S x f)(hx:e x=.pointer (some ⟨b,a,none⟩))(hrun:∀b o w,(Instr.fieldAt S (.pointer (some ⟨b,o,none⟩)) f).run P w=.ok (.pointer (some ⟨b,o+off,none⟩)) w) :
 (execOp e o).run P w=.ok (.value (.pointer (some ⟨b,a+off,none⟩))) w:=by
 simp only[execOp,ho,hx];rw[Sem.run_bind,hrun];rfl
theorem Qrt{S f:Nat}{v u:Value}(ho:o.op=.field S x f)(hx:e x=v)(hrun:∀w,(Instr.field S v f).run P w=.ok u w):(execOp e o).run P w=.ok (.value u) w:=by
 simp only[execOp,ho,hx];rw[Sem.run_bind,hrun];rfl
theorem Ib{kd:IntKind}{i y:Nat}(c:BoundsCode)(h:i<=y)(w:World):(Instr.sliceBound (.int kd (i:Int)) y c).run P w=.ok i w:=by simp[Instr.sliceBound,asIntOf,h]
def Qtj(e:Operand->Value)(k:Nat):Option Operand->Prop
 |none=>True
 |some x=>∃kd,e x=.int kd (k:Int)
theorem fU{T E:TypeId}{lo hi:Option Operand}{A:Option Addr}{m c l h sz:Nat}(ho:o.op=.slice T x lo hi none)(hx:e x=.slice A m c)(hu:∀w,(underlying T).run P w=.ok (.slice E) w)(hs:∀w,(Go.sizeOf E).run P w=.ok sz w)
 (hl:Qtj e l lo) (hh:Qtj e h hi) (h1:lo=none->l=0) (h2:hi=none->h=m) (hlh:l<=h) (hhc:hi≠none->h<=c) :
 (execOp e o).run P w=.ok (.value (.slice (if c=l then A else A.map (·.add (l*sz))) (h-l) (c-l))) w:=by
 rcases lo with _|lo <;> rcases hi with _|hi
 ·obtain rfl:=h1 rfl;obtain rfl:=h2 rfl;simp[execOp,ho,hx,Instr.sliceAt,Instr.slice,Instr.sliceBounds,hu,hs]
 ·obtain rfl:=h1 rfl;obtain⟨_,hh⟩:=hh;simp[execOp,ho,hx,hh,Instr.sliceAt,Instr.slice,Instr.sliceBounds,hu,hs,Ib _ (hhc (by simp))]
 ·obtain rfl:=h2 rfl;obtain⟨_,hl⟩:=hl;simp[execOp,ho,hx,hl,Instr.sliceAt,Instr.slice,Instr.sliceBounds,hu,hs,Ib _ hlh]
 ·obtain⟨_,hl⟩:=hl;obtain⟨_,hh⟩:=hh;simp[execOp,ho,hx,hl,hh,Instr.sliceAt,Instr.slice,Instr.sliceBounds,hu,hs,Ib _ hlh,Ib _ (hhc (by simp))]
theorem nP{T E:TypeId}{y z:Operand}{A:Option Addr}{m k c sz:Nat}{kd kd':IntKind}(ho:o.op=.slice T x none (some y) (some z))(hx:e x=.slice A m c)(hy:e y=.int kd (k:Int))(hz:e z=.int kd' (k:Int))(hmc:k<=c)(hu:∀w,(underlying T).run P w=.ok (.slice E) w)(hs:∀w,(Go.sizeOf E).run P w=.ok sz w) :
 (execOp e o).run P w=.ok (.value (.slice (if k=0 then A else A.map (·.add (0*sz))) k k)) w:=by
 simp[execOp,ho,hx,hy,hz,Instr.sliceAt,Instr.slice,Instr.sliceBounds,hu,hs,Ib _ hmc,Ib _ (Qn k)]
end
theorem By(o:Obj)(w:World):(newObj o).run P w=.ok w.heap.size (w.alloc o):=rfl
theorem Dz(o:Obj)(w:World):(w.alloc o).heap.size=w.heap.size+1:=by show(w.heap.push _).size=_;simp
theorem Bn(o:Obj)(w:World):Grow w (w.alloc o):=⟨by rw[Dz];omega,λb hb=>by show(w.heap.push _)[b]? = _;simp[Array.getElem?_push,Nat.ne_of_lt hb],rfl,rfl⟩
theorem A6(o:Obj)(w:World):(w.alloc o).heap[w.heap.size]? = some o:=by show(w.heap.push _)[_]? = _;simp
theorem UY{α:Type}(m:Mode)(p:Addr)(v:Value)(k:Value->Sem α)(w:World)(h:w.cell? p=some v):(Sem.load m p k).run P w=(k v).run P w:=by simp[Sem.run,h]
theorem Ot(b o:Nat)(w:World):∀(k i:Nat) (vs:List Value) (acc:Array Value),vs.length=k->(∀j v,vs[j]? = some v->w.cell? ⟨b,o+(i+j),none⟩=some v) ->
 (loadCellsFrom ⟨b,o,none⟩ i k acc).run P w=.ok (acc++vs.toArray) w
 |
  0,i,vs,acc,hl,_=>by
  have:vs=[]:=Qf hl;subst this;simp[loadCellsFrom]
 |
  k+1,i,v::vs,acc,hl,hc=>by
  have h0:=hc 0 v rfl;simp only[loadCellsFrom];rw[Sem.run_bind];have e:(load ((⟨b,o,none⟩:Addr).add i)).run P w=.ok v w:=by
   rw[Lk];unfold load;rw[UY _ _ v _ _ (by simpa using h0)];rfl
  rw[e];simp only[Result.andThen_ok];rw[Ot b o w k (i+1) vs (acc.push v) (by simpa using hl) (λj u hj=>by
   have:=hc (j+1) u (by simpa using hj);rw[show i+1+j=i+(j+1) from by omega];exact this)]
  simp
theorem QX(b o:Nat)(w:World)(vs:List Value)(hc:∀j v,vs[j]? = some v->w.cell? ⟨b,o+j,none⟩=some v):(loadCells ⟨b,o,none⟩ vs.length).run P w=.ok vs.toArray w:=by
 unfold loadCells;rw[Ot b o w vs.length 0 vs #[] rfl (λj v hj=>by simpa using hc j v hj)];simp
theorem NC{T m:Nat}{ag:Bool}{b a:Nat}{vs:List Value}{v:Value}(ht:∀w,(isAgg T).run P w=.ok ag w)(hs:∀w,(Go.sizeOf T).run P w=.ok m w)(hl:vs.length=m)(hc:∀j v,vs[j]? = some v->w.cell? ⟨b,a+j,none⟩=some v)
 (hv:if ag=true then v=.agg vs.toArray else vs=[v]):(loadVar T ⟨b,a,none⟩).run P w=.ok v w:=by
 subst hl;cases ag with
 |
  true =>
  simp only[if_true]at hv;subst hv;simp only[loadVar,Sem.run_bind,Sem.run_pure,Result.andThen_ok,ht,hs,if_true];rw[QX b a w vs hc];rfl
 |
  false =>
  simp only[J6,if_false]at hv;subst hv;simp only[loadVar,Sem.run_bind,Sem.run_pure,Result.andThen_ok,ht,J6,if_false];unfold load;rw[UY _ _ v _ _ (by simpa using hc 0 v rfl)];rfl
theorem aI{T m:Nat}{ag:Bool}{b a:Nat}{vs:List Value}{v:Value}{x:Operand}(ho:o.op=.load T x)(hx:e x=.pointer (some ⟨b,a,none⟩))(ht:∀w,(isAgg T).run P w=.ok ag w)(hs:∀w,(Go.sizeOf T).run P w=.ok m w)(hl:vs.length=m)(hc:∀j v,vs[j]? = some v->w.cell? ⟨b,a+j,none⟩=some v)
 (hv:if ag=true then v=.agg vs.toArray else vs=[v]):(execOp e o).run P w=.ok (.value v) w:=by
 simp only[execOp,ho,hx,Instr.loadAt,Instr.sureAddr,Sem.run_bind,Sem.run_pure,Result.andThen_ok,NC ht hs hl hc hv]
theorem nW{α:Type}(cs:List α)(off:Nat)(v:α)(vs:List α)(hl:off+(vs.length+1)<=cs.length):upd cs off (v::vs)=upd (cs.set off v) (off+1) vs:=by
 induction cs generalizing off v vs with
 |nil=>simp at hl
 |
  cons c cs ih =>
  cases off with
  |
   zero =>
   simp[upd];cases vs <;> simp[upd]
  |
   succ off =>
   simp only[upd,Wi];cases vs with
   |
    nil =>
    have:=ih off v [] (by simp at hl ⊢;omega);simp only[upd]at this ⊢;rw[this]
   |
    cons u us =>
    simp only[upd];rw[ih off v (u::us) (by simp at hl ⊢;omega)]
theorem qG{α:Type}(m:Mode)(p:Addr)(v u:Value)(k:Sem α)(w:World)(hv:one v=true)(h:w.cell? p=some u)(hf:w.frozen? p=false):(Sem.store m p v k).run P w=k.run P (w.setCell p v):=by
 cases v <;> simp[one]at hv <;> simp[Sem.run,h,hf]
structure Wr(g:Nat)(T:TypeId)(cs:List Value)(w w':World):Prop where
 size:w'.heap.size=w.heap.size
 rest:∀b,b≠g->w'.heap[b]? = w.heap[b]?
 io:w'.os=w.os/\w'.output=w.output
 at_:w'.heap[g]? = some (.cells cs.toArray T (0,0))
theorem L9{g T:Nat}:∀(vs:List Value) (cs:List Value) (off j:Nat) (w:World),w.heap[g]? = some (.cells cs.toArray T (0,0))->off+j+vs.length≤cs.length->(∀v∈vs,one v=true) ->
 ∃w',(storeCells ⟨g,off,none⟩ vs j).run P w=.ok () w'/\Wr g T (upd cs (off+j) vs) w w'
 |
  [],cs,off,j,w,h,_,_=>by
  refine⟨w,by simp[Go.storeCells],rfl,λ_ _=>rfl,⟨rfl,rfl⟩,?_⟩;have:upd cs (off+j) []=cs:=by cases cs <;> simp[upd]
  rw[this];exact h
 |
  v::vs,cs,off,j,w,h,hl,h1=>by
  have hjl:off+j<cs.length:=by simp at hl;omega
  have hc:w.cell? ⟨g,off+j,none⟩=some (cs[off+j]):=by simp[World.cell?,h,hjl]
  have hf:w.frozen? ⟨g,off+j,none⟩=false:=by simp[World.frozen?,h]
  have hst:(store ((⟨g,off,none⟩:Addr).add j) v).run P w=.ok () (w.setCell ⟨g,off+j,none⟩ v):=by
   rw[Lk];unfold store;rw[qG _ _ v _ _ _ (h1 v (Qw ..)) hc hf];rfl
  have e1:(w.setCell ⟨g,off+j,none⟩ v).heap[g]? = some (.cells (cs.set (off+j) v).toArray T (0,0)):=by
   unfold World.setCell;rw[Array.getElem?_modify];simp[h]
  obtain⟨w',hr,hw⟩:=L9 vs (cs.set (off+j) v) off (j+1) _ e1 (by simp at hl ⊢;omega) (λu hu=>h1 u (Qi _ hu));refine⟨w',?_,hw.size.trans (by unfold World.setCell;simp),λb hb=>(hw.rest b hb).trans ?_,hw.io,?_⟩
  ·simp only[Go.storeCells];rw[Sem.run_bind,hst];exact hr
  ·unfold World.setCell;rw[Array.getElem?_modify]
   split
   ·rename_i e;exact absurd e.symm hb
   ·rfl
  ·rw[nW _ _ _ _ (by simp at hl;omega)];exact hw.at_
theorem Qc2{T m g a T':Nat}{cs vs:List Value}{v:Value}{x y:Operand}(ho:o.op=.store T x y)(hx:e x=.pointer (some ⟨g,a,none⟩))(hy:e y=v)(hs:∀w,(Go.sizeOf T).run P w=.ok m w)(hv:v.cells.toList=vs)(hm:vs.length=m)(hg:w.heap[g]? = some (.cells cs.toArray T' (0,0)))(hl:a+m≤cs.length)(h1:∀v∈vs,one v=true) :
 ∃w',(execOp e o).run P w=.ok .skip w'/\Wr g T' (upd cs a vs) w w':=by
 obtain⟨w',hr,hw⟩:=L9 (P:=P) vs cs a 0 w hg (by omega) h1;refine⟨w',?_,hw⟩;have hsz:v.cells.size=m:=by rw[<-hm,<-hv];simp
 simp only[execOp,ho,hx,hy,Instr.storeAt,Instr.sureAddr,storeVar,Sem.run_bind,Sem.run_pure,Result.andThen_ok,hs,hsz,ne_eq,not_true_eq_false,if_false,hv,hr]
theorem Qrq{T:TypeId}{z:Value}(ho:o.op=.alloc T)(hz:∀w,(zeroValue T).run P w=.ok z w):(execOp e o).run P w=.ok (.value (.pointer (some ⟨w.heap.size,0,none⟩))) (w.alloc (.cells z.cells T)):=by
 simp[execOp,ho,Instr.alloc,hz,newVar,newRow,By]
theorem Qyt{T:TypeId}{x:Operand}{v:Value}(ho:o.op=.box T x)(hx:e x=v):(execOp e o).run P w=.ok (.value (.pointer (some ⟨w.heap.size,0,none⟩))) (w.alloc (.cells v.cells T)):=by
 simp[execOp,ho,Instr.box,hx,newVar,newRow,By]
def QZ:Nat->List Value->List Value
 | 0,_=>[]
 |m+1,zs=>zs++QZ m zs
theorem VJ(m:Nat)(zs:List Value):(QZ m zs).length=m*zs.length:=by
 induction m with
 |zero=>simp[QZ]
 |succ m ih=>simp[QZ,ih,Xq,Yl]
theorem qV(m:Nat)(zs:List Value)(i:Nat)(hi:i<m*zs.length):(QZ m zs)[i]? = zs[i % zs.length]? := by
 induction m generalizing i with
 |zero=>simp at hi
 |
  succ m ih =>
  simp only[QZ];by_cases h:i<zs.length
  ·rw[Q3 h,Xf h]
  ·have e:i % zs.length=(i-zs.length) % zs.length:=Nat.mod_eq_sub_mod (by omega);have h2:(m+1)*zs.length=m*zs.length+zs.length:=Xq _ _;rw[Zk (by omega),ih (i-zs.length) (by omega),e]
theorem FX(m:Nat)(zs:List Value)(hz:0<zs.length):((Array.range (m*zs.length)).map λi=>(zs.toArray)[i % zs.length]!)=(QZ m zs).toArray:=by
 apply Array.ext
 ·simp[VJ]
 ·intro i h1 h2;have hi:i<m*zs.length:=by simpa using h1
  have hm:i % zs.length<zs.length:=Xp _ hz;have h3:=qV m zs i hi;simp at h2 ⊢;rw[Qg h2,Qg hm]at h3;injection h3 with h3;rw[h3,Qg hm];rfl
theorem Qez(m:Nat)(zs:List Value):QZ m zs=(List.replicate m zs).flatten:=by
 induction m with
 |zero=>rfl
 |succ m ih=>simp[QZ,ih,Yh]
theorem Pq{sz:Nat}:∀{vss:List (List Value)},(∀c∈vss,c.length=sz)->vss.flatten.length=vss.length*sz
 | [],_=>by simp
 |
  v::vss,h=>by
  rw[Vv,Q6,h v (.head _),Pq λc hc=>h c (.tail _ hc),Zf,Xq,Yl]
theorem GE{sz:Nat}:∀{vss:List (List Value)} {i j:Nat},(∀c∈vss,c.length=sz)->j<sz->vss.flatten[i*sz+j]? = (vss[i]?).bind (·[j]?)
 | [],i,j,_,_=>by simp
 |
  v::vss,0,j,h,hj=>by
  have:=h v (.head _);rw[Yc,Xd,Vv,Q3 (by omega)];rfl
 |
  v::vss,i+1,j,h,hj=>by
  have e:=h v (.head _);rw[Vv,Zk (by rw[e,Xq];omega),e,show(i+1)*sz+j-sz=i*sz+j from by rw[Xq];omega,GE (λc hc=>h c (.tail _ hc)) hj];simp
theorem nH(m:Nat)(hm:m<2^40):IntKind.i64.wrap (m:Int)=(m:Int):=by
 have:(2:Nat)^40=1099511627776:=by decide
 simp[IntKind.wrap,IntKind.bits,IntKind.signed];omega
theorem Qlu(b:Nat)(w:World):(askRoom b).run P w=.ok () w:=by unfold askRoom;split <;> rfl
theorem Qwe{T E:TypeId}{x y:Operand}{m k:Nat}{zs:List Value}{z:Value}{info:TypeInfo}(ho:o.op=.makeSlice T x y)(hx:e x=.int .i64 (m:Int))(hy:e y=.int .i64 (k:Int))
 (hu:∀w,(underlying T).run P w=.ok (.slice E) w) (hi:∀w,(typeInfo E).run P w=.ok info w) (hb:info.bytes<=256) (hs:∀w,(Go.sizeOf E).run P w=.ok zs.length w)
 (hz:∀w,(zeroValue E).run P w=.ok z w) (hz1:z.cells=zs.toArray) (hz0:0<zs.length) (hmk:m<=k) (hm:k<274877906944) :
 (execOp e o).run P w=.ok (.value (.slice (some ⟨w.heap.size,0,none⟩) m k)) (w.alloc (.cells (QZ k zs).toArray E)):=by
 have hw:=nH m (by
  have:(2:Nat)^40=1099511627776:=by decide
  omega)
 have hw2:=nH k (by
  have:(2:Nat)^40=1099511627776:=by decide
  omega)
 have hle:k*info.bytes<=274877906944*256:=Xl (by omega) hb;have hle2:m*info.bytes<=k*info.bytes:=Xl hmk (Qn _);have e1:¬((m:Int)<0):=by omega
 have e1':¬((k:Int)<0):=by omega
 have em:¬((k:Int)<(m:Int)):=by omega
 have e0:∀m:Nat,(info.bytes:Int)*(m:Int)=((m*info.bytes:Nat):Int):=λm=>by push_cast;exact Kj _ _
 have e2:∀m:Nat,m*info.bytes<=k*info.bytes->¬((info.bytes:Int)*(m:Int)>2^48):=λm hm=>by
  rw[e0];have:(2:Int)^48=281474976710656:=by decide
  omega
 have e3:¬(k*info.bytes>roomBytes):=by
  unfold roomBytes;have:(2:Nat)^47=140737488355328:=by decide
  omega
 have key:(Instr.makeSlice T (.int .i64 (m:Int)) (.int .i64 (k:Int))).run P w=.ok (.slice (some ⟨w.heap.size,0,none⟩) m k) (w.alloc (.cells (QZ k zs).toArray E)):=by
  unfold Instr.makeSlice;have h1:=e2 m hle2;have h2:=e2 k (Qn _);simp only[hu,hi,hs,asInt,asIntOf,Sem.run_bind,Sem.run_pure,Result.andThen_ok,hw,hw2,Int.toNat_natCast,e1,e1',em,h1,h2,decide_false,Bool.or_false,Int.lt_irrefl,gt_iff_lt,J6,if_false,askRoom,e3];rcases Qx k with h0|h0
  ·subst h0;simp only[Yc,if_true,Sem.run_pure,Result.andThen_ok,newRow,Sem.run_bind,By,QZ];have h0:∀f:Nat->Value,Array.map f (Array.range 0) = #[]:=λf=>by apply Array.ext <;> simp
   rw[h0]
  ·have hne:¬(k*zs.length=0):=by
    have:=Y3 h0 hz0;omega
   simp only[hne,if_false,Sem.run_bind,Sem.run_pure,Result.andThen_ok,hz,newRow,By,hz1];have:=FX k zs hz0;simp only[Ur];rw[this]
 simp only[execOp,ho,hx,hy,Sem.run_bind];rw[key];rfl
def Src(w:World)(x:Value)(size m:Nat)(news:List Value):Prop :=
 news.length=m*size/\∃A c,x=.slice A m c/\(0<m->∃b o,A=some ⟨b,o,none⟩/\∀(j:Nat) (v:Value),news[j]? = some v->w.cell? ⟨b,o+j,none⟩=some v)
theorem Bw{size m:Nat}{x:Value}{news:List Value}(h:Src w x size m news):(Builtin.firstCells size m x).run P w=.ok news.toArray w:=by
 obtain⟨hl,A,c,rfl,hA⟩:=h;rcases Qx m with h0|h0
 ·subst h0;have:news=[]:=Qf (by simpa using hl);subst this;cases A with
  |none=>rfl
  |some p=>simp[Builtin.firstCells,loadCells,loadCellsFrom]
 ·obtain⟨b,o,rfl,hc⟩:=hA h0;simp only[Builtin.firstCells];rw[<-hl];exact QX b o w news hc
theorem Src.keep{x:Value}{size m:Nat}{news:List Value}(h:Src w x size m news){w':World}(hk:∀p v,w.cell? p=some v->w'.cell? p=some v):Src w' x size m news:=by
 obtain⟨hl,A,c,rfl,hA⟩:=h;refine⟨hl,A,c,rfl,λh0=>?_⟩;obtain⟨b,o,rfl,hc⟩:=hA h0;exact⟨b,o,rfl,λj v hj=>hk _ _ (hc j v hj)⟩
theorem JL(need old:Nat)(h:old<need):Builtin.nextslicecap need old<=4*need+2048:=by
 unfold Builtin.nextslicecap
 split
 ·omega
 ·split
  ·omega
  ·simp only[Builtin.growBy]
   repeat' split
   all_goals omega
theorem aD{α:Type}(cs ex news:List α):upd (cs++ex) cs.length news=cs++upd ex 0 news:=by
 induction cs with
 |nil=>rfl
 |
  cons c cs ih=>cases news with
  |nil=>simp[upd]
  |
   cons v vs =>
   simp only[Xa,Zf,upd];rw[ih]
theorem Qmy{α:Type}(ex news:List α)(h:news.length<=ex.length):upd ex 0 news=news++ex.drop news.length:=by
 induction news generalizing ex with
 |nil=>cases ex <;> simp[upd]
 |
  cons v vs ih=>cases ex with
  |nil=>simp at h
  |cons e ex=>simp only[upd,Xa,Zf,K5];rw[ih ex (by simpa using h)]
theorem Qm8{E:TypeId}{size m k c':Nat}{A':Option Addr}{zs:List Value}{z:Value}{info:TypeInfo}{v:Value}{cs news:List Value}(hi:∀w,(typeInfo E).run P w=.ok info w)
 (hz:∀w,(zeroValue E).run P w=.ok z w) (hz1:z.cells=zs.toArray) (hz0:zs.length=size) (hcl:cs.length=m*size)
 (hsrc:Src w (.slice A' k c') size k news) (hm:m+k<8589934592) (c:Nat) (hold:∀w',w'.heap=w.heap->(Builtin.firstCells size m v).run P w'=.ok cs.toArray w') :
 ∃w' g c0 ex,(do
  let newCap <-choose (.appendCap (m+k) c E)
  askRoom (newCap*(<-typeInfo E).bytes)
  let old <-Builtin.firstCells size m v
  let new <-Builtin.firstCells size k (.slice A' k c')
  let rest:=Builtin.zeroCells (<-zeroValue E).cells (newCap-(m+k))
  pure (.slice (some (<-newRow E (old++new++rest))) (m+k) newCap):Sem Value).run P w=.ok (.slice (some ⟨g,0,none⟩) (m+k) c0) w'/\Grow w w'/\w.heap.size<=g/\g<w'.heap.size/\m+k<=c0/\c0<2^63/\w'.heap[g]? = some (.cells ((cs++news)++ex).toArray E (0,0))/\((cs++news)++ex).length=c0*size:=by
 have h63:(2:Nat)^63=9223372036854775808:=by decide
 let w1:World:={ w with drawn:=w.drawn+1 }
 let cap:=(m+k)+(w.tape w.drawn (.appendCap (m+k) c E)) % (2^63-(m+k))
 have hcap:m+k<=cap/\cap<2^63:=by
  have:=Xp (w.tape w.drawn (.appendCap (m+k) c E)) (show 0<2^63-(m+k) by omega);constructor
  ·exact V2 _ _
  ·show(m+k)+_<_;omega
 have hch:(choose (.appendCap (m+k) c E)).run P w=.ok cap w1:=rfl;have hnews:=Bw (P:=P) (hsrc.keep (w':=w1) (λp v hp=>hp));have hzero:Builtin.zeroCells zs.toArray (cap-(m+k))=(QZ (cap-(m+k)) zs).toArray:=by
  unfold Builtin.zeroCells;rcases Qx zs.length with hz|hz
  ·have:zs=[]:=Qf hz;subst this;have:(QZ (cap-(m+k)) ([]:List Value))=[]:=Qf (by simp[VJ]);rw[this];apply Array.ext <;> simp
  ·have:=FX (cap-(m+k)) zs hz;simpa using this
 refine⟨w1.alloc (.cells ((cs++news)++QZ (cap-(m+k)) zs).toArray E),w1.heap.size,cap,QZ (cap-(m+k)) zs,?_,⟨(Bn _ w1).1,(Bn _ w1).2,(Bn _ w1).3⟩,Qn _,by rw[Dz];omega,hcap.1,hcap.2,A6 _ _,?_⟩
 ·simp only[Sem.run_bind,hch,Result.andThen_ok,hi,Qlu,hold w1 rfl,hnews,hz,hz1,hzero,newRow,By,Sem.run_pure];simp
 ·have:=hsrc.1;simp only[Q6,VJ,hcl,this,hz0];rw[<-Yf,<-Yf];congr 1;omega
theorem Qm6{T E T2 E2:TypeId}{x y:Operand}{size m k:Nat}{zs:List Value}{z:Value}{info:TypeInfo}{v u:Value}{cs news:List Value}{q:Option (Nat×Nat)}{E':TypeId}{ats:Array TypeId}(ho:o.op=.call { callee:=.builtin .append,args := #[x,y],argTypes:=ats })(hat:ats[0]? = some T/\ats[1]? = some T2)(hx:e x=v)(hy:e y=u)
 (hu:∀w,(underlying T).run P w=.ok (.slice E) w) (hu2:∀w,(underlying T2).run P w=.ok (.slice E2) w) (hi:∀w,(typeInfo E).run P w=.ok info w) (hb2:info.bytes<=4096) (hb3:0<info.bytes) (hs:∀w,(Go.sizeOf E).run P w=.ok size w)
 (hz:∀w,(zeroValue E).run P w=.ok z w) (hz1:z.cells=zs.toArray) (hz0:zs.length=size) (hcl:cs.length=m*size)
 (hv:match (generalizing:=false) q with
  |none=>v=.slice none 0 0/\m=0
  |some (g,c)=>v=.slice (some ⟨g,0,none⟩) m c/\(m<=c/\c<2^63)/\∃ex,w.heap[g]? = some (.cells (cs++ex).toArray E' (0,0))/\(cs++ex).length=c*size)
 (hsrc:Src w u size k news) (h1:∀u∈news,one u=true) (hm:m+k<8589934592) :
 (∃w',(execOp e o).run P w=.ok (.value (match q with|none=>.slice none 0 0|some (g,c)=>.slice (some ⟨g,0,none⟩) (m+k) c)) w'/\(match q with
  |none=>w'=w/\k=0
  |some (g,c)=>m+k<=c/\∃ex,Wr g E' ((cs++news)++ex) w w'/\((cs++news)++ex).length=c*size)) \/
 (∃w' g c ex,(execOp e o).run P w=.ok (.value (.slice (some ⟨g,0,none⟩) (m+k) c)) w'/\Grow w w'/\w.heap.size<=g/\g<w'.heap.size/\m+k<=c/\c<2^63/\w'.heap[g]? = some (.cells ((cs++news)++ex).toArray E (0,0))/\((cs++news)++ex).length=c*size):=by
 have hbig:∀c,c<m+k->¬(Builtin.nextslicecap (m+k) c*info.bytes>2^48):=λc hc=>by
  have:=JL (m+k) c hc;have h2:Builtin.nextslicecap (m+k) c*info.bytes<=(4*(m+k)+2048)*4096:=Xl this hb2;have h48:(2:Nat)^48=281474976710656:=by decide
  omega
 obtain⟨A',c',rfl,hA'⟩:=hsrc.2;have hlen:∀w,(Builtin.lenOf (.slice A' k c')).run P w=.ok k w:=λ_=>rfl
 have hexec:∀v' w',(Builtin.append_ ats o.type #[v,.slice A' k c']).run P w=.ok v' w'->(execOp e o).run P w=.ok (.value v') w':=λv' w' hr=>by simp[execOp,ho,resolve,invoke,hx,hy,builtin,hr]
 have hbb:¬(info.bytes=0):=by omega
 have hgrow:=Qm8 (P:=P) (w:=w) (v:=v) hi hz hz1 hz0 hcl hsrc hm;rcases q with _|⟨g,c⟩
 ·obtain⟨rfl,rfl⟩:=hv;have hcs:cs=[]:=Qf (by simpa using hcl);subst hcs;rcases Qx k with h0|h0
  ·subst h0;have hn:news=[]:=Qf (by simpa using hsrc.1);subst hn;have hf:=Bw (P:=P) hsrc;exact .inl ⟨w,hexec _ _ (by simp[Builtin.append_,hat,hu,hu2,hs,hlen,hf]),rfl,rfl⟩
  ·obtain⟨w',g,c,ex,hr,h2⟩:=hgrow 0 λw' _=>rfl
   refine .inr ⟨w',g,c,ex,hexec _ _ ?_,h2⟩;rw[<-hr];have hne:¬(0+k<=0):=by omega
   have hb':=hbig 0 (by omega);simp only[Builtin.append_,hat,hu,hu2,hs,hlen,hi,Sem.run_bind,Sem.run_pure,Result.andThen_ok,Y7,V4,Yt,hne,if_false,J6,false_or,hbb,and_false,hb',Ug,if_true]
 ·obtain⟨rfl,⟨hmc,hc63⟩,ex,hg,hl⟩:=hv;have hcell:∀w',w'.heap=w.heap->(Builtin.firstCells size m (.slice (some ⟨g,0,none⟩) m c)).run P w'=.ok cs.toArray w':=λw' he=>by
   simp only[Builtin.firstCells];rw[<-hcl];refine QX g 0 w' cs λj u hj=>?_
   have:=(Qd.1 hj).1;simp[World.cell?,he,hg,Q3 this,hj]
  by_cases hroom:m+k<=c
  ·have hexl:news.length<=ex.length:=by
    have e1:=hsrc.1;rw[Q6,hcl]at hl;have:(m+k)*size<=c*size:=Qy _ hroom;rw[Yf]at this;omega
   obtain⟨w',hr,hw⟩:=L9 (P:=P) news (cs++ex) (m*size) 0 w hg (by rw[Q6,hcl];omega) h1;have he:upd (cs++ex) (m*size+0) news=(cs++news)++ex.drop news.length:=by
    rw[Jh,<-hcl,aD,Qmy ex news hexl,Zj]
   rw[he]at hw;refine .inl ⟨w',hexec _ _ ?_,hroom,ex.drop news.length,hw,?_⟩
   ·have hf:=Bw (P:=P) hsrc;simp only[Builtin.append_,hat,hu,hu2,hs,hlen,Sem.run_bind,Sem.run_pure,Result.andThen_ok,Y7,V4,Yt,hroom,if_true,J6,if_false,Ug,hf];rw[show((⟨g,0,none⟩:Addr).add (m*size))=⟨g,m*size,none⟩ from by rw[Lk,Xd]];rw[hr];rfl
   ·rw[<-hl];simp;omega
  ·obtain⟨w',g',c',ex',hr,h2⟩:=hgrow c hcell;refine .inr ⟨w',g',c',ex',hexec _ _ ?_,h2⟩;rw[<-hr];have hb':=hbig c (by omega);simp only[Builtin.append_,hat,hu,hu2,hs,hlen,hi,Sem.run_bind,Sem.run_pure,Result.andThen_ok,Y7,V4,Yt,hroom,if_false,J6,false_or,hbb,and_false,hb',Ug,if_true]
theorem Qfo{T E T2 E2:TypeId}{x y:Operand}{size m k:Nat}{zs:List Value}{z:Value}{info:TypeInfo}{u:Value}{A:Option Addr}{cs news:List Value}{ats:Array TypeId}(ho:o.op=.call { callee:=.builtin .append,args := #[x,y],argTypes:=ats })(hat:ats[0]? = some T/\ats[1]? = some T2)(hx:e x=.slice A m m)(hy:e y=u)
 (hu:∀w,(underlying T).run P w=.ok (.slice E) w) (hu2:∀w,(underlying T2).run P w=.ok (.slice E2) w) (hi:∀w,(typeInfo E).run P w=.ok info w) (hb2:info.bytes<=4096) (hb3:0<info.bytes) (hs:∀w,(Go.sizeOf E).run P w=.ok size w)
 (hz:∀w,(zeroValue E).run P w=.ok z w) (hz1:z.cells=zs.toArray) (hz0:zs.length=size) (h0:Src w (.slice A m m) size m cs) (hsrc:Src w u size k news) (hk:0<k) (hm:m+k<8589934592) :
 ∃w' g c ex,(execOp e o).run P w=.ok (.value (.slice (some ⟨g,0,none⟩) (m+k) c)) w'/\Grow w w'/\w.heap.size<=g/\g<w'.heap.size/\m+k<=c/\c<2^63/\w'.heap[g]? = some (.cells ((cs++news)++ex).toArray E (0,0))/\((cs++news)++ex).length=c*size:=by
 have hbig:¬(Builtin.nextslicecap (m+k) m*info.bytes>2^48):=by
  have:=JL (m+k) m (by omega);have h2:Builtin.nextslicecap (m+k) m*info.bytes<=(4*(m+k)+2048)*4096:=Xl this hb2;have h48:(2:Nat)^48=281474976710656:=by decide
  omega
 obtain⟨A',c',rfl,hA'⟩:=hsrc.2;have hlen:∀w,(Builtin.lenOf (.slice A' k c')).run P w=.ok k w:=λ_=>rfl
 have hexec:∀v' w',(Builtin.append_ ats o.type #[.slice A m m,.slice A' k c']).run P w=.ok v' w'->(execOp e o).run P w=.ok (.value v') w':=λv' w' hr=>by simp[execOp,ho,resolve,invoke,hx,hy,builtin,hr]
 have hbb:¬(info.bytes=0):=by omega
 have hroom:¬(m+k<=m):=by omega
 obtain⟨w',g',c1,ex',hr,h2⟩:=Qm8 (P:=P) (w:=w) (v:=.slice A m m) hi hz hz1 hz0 h0.1 hsrc hm m λw' he=>Bw (h0.keep λp v hp=>by simpa[World.cell?,he]using hp)
 refine⟨w',g',c1,ex',hexec _ _ ?_,h2⟩;rw[<-hr];simp only[Builtin.append_,hat,hu,hu2,hs,hlen,hi,Sem.run_bind,Sem.run_pure,Result.andThen_ok,Y7,V4,Yt,hroom,if_false,J6,false_or,hbb,and_false,hbig,Ug,if_true]
end Orr
namespace Orr
open Go
def Iw(ks:Ft):Value:=.agg (ks.map (Value.int .i64)).toArray
def WM:List (Ft×LV)->Ft->Option LV
 | [],_=>none
 |e::es,k=>if k=e.1 then some e.2 else WM es k
def BH:List (Ft×LV)->Ft->LV->List (Ft×LV)
 | [],k,x=>[(k,x)]
 |e::es,k,x=>if k=e.1 then(k,x)::es else e::BH es k x
theorem mQ{n:Nat}:∀{es:List (Ft×LV)} {k:Ft} {x:LV},(∀e∈es,e.1.length=n)->k.length=n->∀e∈BH es k x,e.1.length=n
 | [],k,x,_,hk,e,he=>by simp[BH]at he;subst he;exact hk
 |
  y::es,k,x,h,hk,e,he=>by
  simp only[BH]at he
  split at he
  ·rcases Qj.1 he with rfl|he
   ·exact hk
   ·exact h e (Qi _ he)
  ·rcases Qj.1 he with rfl|he
   ·exact h _ (Qw ..)
   ·exact mQ (λz hz=>h z (Qi _ hz)) hk e he
def Qa9:LV->Bool
 | .int _ _=>true
 | .bool _=>true
 |_=>false
theorem Quy{w:World}{M:Nat->Prop}{E:Lf}{x:LV}{v:Value}(h:Qa9 x=true)(hr:XRep w M E v x):v=BU x:=by
 cases x <;> first|cases h|skip
 ·have hr:LRep w M v (.int _ _):=hr;cases hr;rfl
 ·have hr:LRep w M v (.bool _):=hr;cases hr;rfl
structure MapT(P:Program)(T KT ET:Nat)(d:LV):Prop where
 u:∀w,(underlying T).run P w=.ok (.map KT ET) w
 k:∃ds,(∀w,(underlying KT).run P w=.ok ds w)/\∀x y,Instr.sameNow ds x y=none
 c:∀(em:Bool) (ks:List Int),ks.length=3->∀w,(Instr.checkKey em 10000 KT (Iw ks)).run P w=.ok () w
 e:∀(x y:List Int),x.length=3->y.length=3->∀w,(Op.equal KT (Iw x) (Iw y)).run P w=.ok (decide (x=y)) w
 z:∀w,(zeroValue ET).run P w=.ok (BU d) w
 d:Qa9 d=true
variable{P:Program}{T KT ET:Nat}{d:LV}{w:World}
def RZ:List (Ft×LV)->Ft->Option Nat
 | [],_=>none
 |e::es,k=>if k=e.1 then some 0 else(RZ es k).map (· + 1)
theorem VB(M:MapT P T KT ET d){k:Ft}(hk:k.length=3):∀(ents:List MapEntry) (es:List (Ft×LV)) (i:Nat) (w:World),(∀e∈es,e.1.length=3)->ents.map (λe=>(e.key,e.val))=Du es ->
 (Instr.findAsking KT (Iw k) ents i).run P w=.ok ((RZ es k).map λj=>(i+j,BU ((WM es k).getD d))) w
 | [],[],i,w,_,_=>rfl
 | [],_::_,i,w,_,h=>by simp[Du]at h
 |_::_,[],i,w,_,h=>by simp[Du]at h
 |
  x::ents,e::es,i,w,hl,h=>by
  simp only[Du,Zx,List.cons.injEq,Prod.mk.injEq]at h;obtain⟨⟨h1,h2⟩,h3⟩:=h;have ih:=VB M hk ents es (i+1) w (λz hz=>hl z (Qi _ hz)) h3;have heq:=M.e k e.1 hk (hl e (Qw ..)) w;have hx:x.key=Iw e.1:=h1;simp only[Instr.findAsking];rw[Sem.run_bind,hx,heq];simp only[Result.andThen_ok,RZ,WM];by_cases hke:k=e.1
  ·simp[hke,h2]
  ·simp only[hke,decide_false,J6,if_false];rw[ih];cases RZ es k with
   |none=>rfl
   |some j=>simp;omega
theorem NB(M:MapT P T KT ET d){k:Ft}(hk:k.length=3)(ents:List MapEntry)(es:List (Ft×LV))(w:World)(hl:∀e∈es,e.1.length=3)(h:ents.map (λe=>(e.key,e.val))=Du es) :
 (Instr.findKey KT (Iw k) ents).run P w=.ok ((RZ es k).map λj=>(j,BU ((WM es k).getD d))) w:=by
 obtain⟨ds,hd,hs⟩:=M.k;unfold Instr.findKey;rw[Sem.run_bind,hd];simp only[Result.andThen_ok];cases ents with
 |
  nil =>
  cases es with
  |nil=>rfl
  |cons e es=>simp[Du]at h
 |
  cons x ents =>
  simp only[Instr.findNow,hs];have:=VB M hk (x::ents) es 0 w hl h;rw[this];cases RZ es k <;> simp
theorem PO:∀{es:List (Ft×LV)} {k:Ft},RZ es k=none->WM es k=none/\∀x,BH es k x=es++[(k,x)]
 | [],_,_=>⟨rfl,λ_=>rfl⟩
 |
  e::es,k,h=>by
  simp only[RZ]at h
  split at h
  ·cases h
  ·rename_i hk;have ih:=PO (es:=es) (k:=k) (by cases hp:RZ es k with|none=>rfl|some j=>rw[hp]at h;cases h);refine⟨by simp only[WM,if_neg hk];exact ih.1,λx=>by simp only[BH,if_neg hk,ih.2 x,Xa]⟩
theorem jK:∀{es:List (Ft×LV)} {k:Ft} {j:Nat},RZ es k=some j->∃x,es[j]? = some (k,x)/\WM es k=some x/\∀y,BH es k y=es.set j (k,y)
 | [],_,_,h=>by cases h
 |
  e::es,k,j,h=>by
  simp only[RZ]at h
  split at h
  ·rename_i hk;injection h with h;subst h;exact⟨e.2,by simp[hk],by simp[WM,hk],λy=>by simp[BH,hk]⟩
  ·rename_i hk;cases hp:RZ es k with
   |none=>rw[hp]at h;cases h
   |
    some i =>
    rw[hp]at h;injection h with h;subst h;obtain⟨x,h1,h2,h3⟩:=jK hp;exact⟨x,by simpa using h1,by simp only[WM,if_neg hk];exact h2,λy=>by simp only[BH,if_neg hk,h3 y,Wi]⟩
theorem eO(M:MapT P T KT ET d){k:Ft}(hk:k.length=3){g ck:Nat}{ents:List MapEntry}{es:List (Ft×LV)}(hl:∀e∈es,e.1.length=3)(h:ents.map (λe=>(e.key,e.val))=Du es)(hg:w.heap[g]? = some (.map ents.toArray ck)) :
 (Instr.lookup T (.map (some g)) (Iw k) false).run P w=.ok (BU ((WM es k).getD d)) w:=by
 have hf:=NB M hk ents es w hl h;have hc:=λem=>M.c em k hk w
 unfold Instr.lookup;simp only[Sem.run_bind,M.u,Result.andThen_ok,MapKept.run_getObj_map hg,Sem.run_pure,hc,hf];cases hp:RZ es k with
 |none=>simp[M.z,(PO hp).1]
 |some j=>simp
theorem Qlw{k:Ft}(hk:k.length=3):Instr.sameBits 10000 (Iw k) (Iw k)=true:=by
 match k,hk with
 | [a,b,c],_=>simp[Iw,Instr.sameBits]
theorem aQ(M:MapT P T KT ET d){k:Ft}(hk:k.length=3){g ck:Nat}{ents:List MapEntry}{es:List (Ft×LV)}(hl:∀e∈es,e.1.length=3)(h:ents.map (λe=>(e.key,e.val))=Du es)(hg:w.heap[g]? = some (.map ents.toArray ck))(x:LV) :
 ∃(ents':List MapEntry) (ck':Nat),(Instr.mapUpdate T (.map (some g)) (Iw k) (BU x)).run P w=.ok () { w with heap:=w.heap.setIfInBounds g (.map ents'.toArray ck') }/\ents'.map (λe=>(e.key,e.val))=Du (BH es k x):=by
 have hf:=NB M hk ents es w hl h;have hc:=λem=>M.c em k hk w
 have hlen:ents.length=es.length:=by have:=congrArg List.length h;simpa[Du]using this
 cases hp:RZ es k with
 |
  none =>
  rw[hp]at hf;refine⟨ents++[{ key:=Iw k,val:=BU x,born:=ck }],ck+1,?_,?_⟩
  ·unfold Instr.mapUpdate;simp only[Sem.run_bind,M.u,Result.andThen_ok,MapKept.run_getObj_map hg,Sem.run_pure,hc,hf,Option.map_none];rw[MapKept.run_setObj_map _ hg];simp
  ·rw[(PO hp).2 x,Xo,h];simp[Du,Iw]
 |
  some j =>
  rw[hp]at hf;obtain⟨y,h1,h2,h3⟩:=jK hp;have hjl:j<ents.length:=by rw[hlen];exact(Qd.1 h1).1
  have hkey:(ents[j]'hjl).key=Iw k:=by
   have:=congrArg (·[j]?) h;simp only[Du,Zb,h1,Qg hjl,Yw,Option.some.injEq,Prod.mk.injEq]at this;exact this.1
  refine⟨ents.set j { ents[j]'hjl with key:=Iw k,val:=BU x },ck,?_,?_⟩
  ·unfold Instr.mapUpdate;simp only[Sem.run_bind,M.u,Result.andThen_ok,MapKept.run_getObj_map hg,Sem.run_pure,hc,hf,Yw];have hks:(Instr.keyThatStays (((ents.toArray[j]?).map (·.key)).getD (Iw k)) (Iw k)).run P w=.ok (Iw k) w:=by
    rw[Y7,Qg hjl];simp only[Yw,V3,hkey];unfold Instr.keyThatStays;rw[if_pos (Qlw hk)];rfl
   rw[hks];simp only[Result.andThen_ok];rw[MapKept.run_setObj_map _ hg];have e:ents.toArray.modify j (λe=>{ e with key:=Iw k,val:=BU x })=(ents.set j { ents[j]'hjl with key:=Iw k,val:=BU x }).toArray:=by
    apply Array.ext_getElem?;intro i;rw[Array.getElem?_modify];simp only[Y7,Jz];by_cases hij:j=i
    ·subst hij;simp[hjl]
    ·simp[hij]
   rw[e]
  ·rw[h3 x,V1,h];unfold Du;rw[V1];rfl
def Quo(M:List (Ft×LV))(k:Ft):Int:=match WM M k with
 |some (.int _ n)=>n
 |_=>0
def Qr4(M:List (Ft×LV))(k:Ft):Bool:=match WM M k with
 |some (.bool b)=>b
 |_=>false
def Qwo(M:List (Ft×LV)):Prop:=∀k,(WM M k).getD (.int .i64 0)=.int .i64 (Quo M k)
def Qrz(M:List (Ft×LV)):Prop:=∀k,(WM M k).getD (.bool false)=.bool (Qr4 M k)
end Orr
namespace Orr
open Go
variable{P:Program}
structure TI(P:Program) where
 t:TypeId
 ag:Bool
 sz:Nat
 un:TypeDesc
 z:Value
 by_:Nat
 fo:List Nat
 fv:List (Nat×Nat×Bool)
 bl:Option (List Value×(Nat->Option (Nat×Nat)))
 hag:∀w,(isAgg t).run P w=.ok ag w
 hsz:∀w,(Go.sizeOf t).run P w=.ok sz w
 hun:P.underlying t=some un
 hz:∀w,(zeroValue t).run P w=.ok z w
 hi:∃info:TypeInfo,(∀w,(typeInfo t).run P w=.ok info w)/\info.bytes=by_
 hfo:∀f off,fo[f]? = some off->∀b o w,(Instr.fieldAt t (.pointer (some ⟨b,o,none⟩)) f).run P w=.ok (.pointer (some ⟨b,o+off,none⟩)) w
 hfv:∀f off m ag,fv[f]? = some (off,m,ag)->∀(vs:List Value) (v:Value),(if ag=true then v=.agg ((vs.drop off).take m).toArray else vs[off]? = some v)->off+m<=vs.length->∀w,(Instr.field t (.agg vs.toArray) f).run P w=.ok v w
 eqn:Option Nat:=none
 heq:∀k,eqn=some k->P.eqGuardType P.depth t=false/\∀a b:List Int,a.length=k->b.length=k->∀w,(Op.equal t (.agg (a.map (Value.int .i64)).toArray) (.agg (b.map (Value.int .i64)).toArray)).run P w=.ok (decide (a=b)) w:=by intro k h;cases h
 md:Option LV:=none
 hmd:∀d,md=some d->∃KT ET,MapT P t KT ET d:=by intro d h;cases h
 ms:List (Nat×Nat×String):=[]
 hms:∀x∈ms,∀b o w,(method (P.types.size+Made.depth) t (.pointer (some ⟨b,o,none⟩)) x.2.2).run P w=.ok (x.1,.pointer (some ⟨b,o+x.2.1,none⟩)) w:=by intro x h;cases h
 hbl:∀zs pl,bl=some (zs,pl)->∀{vs:List (Nat×Value)} {cs:Array Value},Instr.fill pl zs.toArray vs=some cs->∀w,(Instr.build t vs.toArray).run P w=.ok (.agg cs) w
theorem sZ{t:TypeId}{un:TypeDesc}(h:P.underlying t=some un):∀w,(underlying t).run P w=.ok un w:=by
 intro w;simp only[underlying,Sem.run_bind,program]
 first
  |(simp[h];done)
  |(show((match P.underlying t with|some d=>pure d|none=>stuck "no such type" : Sem TypeDesc)).run P w=_;rw[h];rfl)
theorem TI.hu(i:TI P):∀w,(underlying i.t).run P w=.ok i.un w:=sZ i.hun
theorem TI.hu'{i:TI P}{d:TypeDesc}(h:i.un=d):∀w,(underlying i.t).run P w=.ok d w:=h ▸ i.hu
inductive TT (P:Program) where
 |nil
 |nd (l:TT P) (i:TI P) (r:TT P)
def TT.find:TT P->Nat->Option (TI P)
 | .nil,_=>none
 |
  .nd l i r,t=>match Nat.beq t i.t with
  |true=>some i
  |
   false=>match Nat.blt t i.t with
   |true=>l.find t
   |false=>r.find t
theorem TT.find_t:∀{T:TT P} {t:Nat} {i:TI P},T.find t=some i->i.t=t
 | .nil,_,_,h=>by cases h
 |
  .nd l j r,t,i,h=>by
  simp only[TT.find]at h
  split at h
  ·rename_i e;injection h with h;subst h;exact(Qu e).symm
  ·split at h
   ·exact TT.find_t h
   ·exact TT.find_t h
def lf:Value->Option LV
 | .int k n=>some (.int k n)
 | .bool b=>some (.bool b)
 | .string s=>some (.str s)
 | .pointer none=>some .nilp
 | .slice none 0 0=>some .nils
 | .agg _=>none
 | .tuple _=>none
 |_=>some .any
def lfs:List Value->Option Fy
 | []=>some []
 |
  v::vs=>match lf v with
  |
   some x=>match lfs vs with
   |some r=>some (x::r)
   |none=>none
  |none=>none
def zl:Value->Option Fy
 | .agg cs=>lfs cs.toList
 |
  v=>match lf v with
  |some x=>some [x]
  |none=>none
def cst:Value->Option TV
 |
  .agg cs=>match lfs cs.toList with
  |some l=>some (.agg l)
  |none=>none
 |
  v=>match lf v with
  |some x=>some (.one x)
  |none=>none
def evA(L:Sg):Operand->Option AV
 | .tmp t=>lk L t
 |
  .const v=>match cst v with
  |some t=>some (.v t)
  |none=>none
 | .func f=>some (.v (.one (.fn f [] [])))
 | .global _=>none
def evT(L:Sg)(x:Operand):Option TV:=match evA L x with
 |some (.v t)=>some t
 |some (.cnd true t)=>some t
 |_=>none
def evTs(L:Sg):List Operand->Option Gb
 | []=>some []
 |
  x::r=>match evT L x with
  |none=>none
  |
   some v=>match evTs L r with
   |none=>none
   |some vs=>some (v::vs)
def evTp(L:Sg):List (Nat×Operand)->Option (List (Nat×TV))
 | []=>some []
 |
  (i,x)::r=>match evT L x with
  |none=>none
  |
   some v=>match evTp L r with
   |none=>none
   |some vs=>some ((i,v)::vs)
section
variable{w:World}{M:Nat->Prop}{E:Lf}
theorem dC{v:Value}{x:LV}(h:lf v=some x):LRep w M v x:=by
 unfold lf at h
 split at h <;> first|cases h|(injection h with h;subst h)
 ·exact .int _ _
 ·exact .bool _
 ·exact .str _
 ·exact .nilp
 ·exact .nils
 ·refine .any v ?_;cases v <;> simp_all[Orr.one]
theorem CW:∀{vs:List Value} {xs:Fy},lfs vs=some xs->F2 (LRep w M) vs xs
 | [],xs,h=>by simp[lfs]at h;subst h;exact .nil
 |
  v::vs,xs,h=>by
  simp only[lfs]at h
  split at h
  ·rename_i x hx
   split at h
   ·rename_i r hr;injection h with h;subst h;exact .cons (dC hx) (CW hr)
   ·cases h
  ·cases h
theorem F2.x{vs:List Value}{xs:Fy}(h:F2 (LRep w M) vs xs):F2 (XRep w M E) vs xs:=h.imp λ_ _ _ h=>h.x
theorem MB{v:Value}{xs:Fy}(h:zl v=some xs):F2 (LRep w M) v.cells.toList xs:=by
 unfold zl at h
 split at h
 ·exact CW h
 ·split at h
  ·rename_i x hx;injection h with h;subst h;have hr:LRep w M v x:=dC hx;have h1:=hr.one;cases v <;> first|(simp[Orr.one]at h1;done)|exact .cons hr .nil
  ·cases h
theorem Qoq{v:Value}{t:TV}(h:cst v=some t):TRep w M E v t:=by
 unfold cst at h
 split at h
 ·split at h
  ·rename_i l hl;injection h with h;subst h;exact⟨_,by simp,(CW hl).x⟩
  ·cases h
 ·split at h
  ·rename_i x hx;injection h with h;subst h;exact(dC hx).x
  ·cases h
end
section
variable{F:Fr}{n:Nat}{L:Sg}{B:Ga}{E:Lf}{M:Nat->Prop}{a:Act}{w:World}
theorem SA.ev(h:SA F n L B E M a w){x:Operand}{u:AV}(hx:evA L x=some u):ARep w M E (a.eval x) u:=by
 cases x with
 |
  tmp t =>
  obtain⟨v,h1,h2⟩:=h.slots t u hx;simpa[Act.eval,Array.getD_eq_getD_getElem?,h1]using h2
 |
  const v =>
  simp only[evA]at hx
  split at hx
  ·rename_i t ht;injection hx with hx;subst hx;exact Qoq ht
  ·cases hx
 |
  func f =>
  simp only[evA,Option.some.injEq]at hx;subst hx;exact LRep.fn f [] [] [] [] rfl rfl (λj v x h=>by simp at h) (λj v x h=>by simp at h)
 |global g=>cases hx
theorem SA.evT(h:SA F n L B E M a w){x:Operand}{t:TV}(hx:evT L x=some t):TRep w M E (a.eval x) t:=by
 unfold Orr.evT at hx
 split at hx
 ·rename_i u hu;injection hx with hx;subst hx;exact h.ev hu
 ·rename_i u hu;injection hx with hx;subst hx;exact(h.ev hu).1 rfl
 ·cases hx
theorem SA.evTs(h:SA F n L B E M a w):∀{xs:List Operand} {us:Gb},evTs L xs=some us->F2 (TRep w M E) (xs.map a.eval) us
 | [],us,hx=>by simp[Orr.evTs]at hx;subst hx;exact .nil
 |
  x::r,us,hx=>by
  simp only[Orr.evTs]at hx
  split at hx
  ·cases hx
  ·rename_i v hv
   split at hx
   ·cases hx
   ·rename_i vs hr;injection hx with hx;subst hx;exact .cons (h.evT hv) (h.evTs hr)
theorem SA.evTp(h:SA F n L B E M a w):∀{xs:List (Nat×Operand)} {us:List (Nat×TV)},evTp L xs=some us->F2 (λ(p:Nat×Value) (q:Nat×TV)=>p.1=q.1/\TRep w M E p.2 q.2) (xs.map λp=>(p.1,a.eval p.2)) us
 | [],us,hx=>by simp[Orr.evTp]at hx;subst hx;exact .nil
 |
  (i,x)::r,us,hx=>by
  simp only[Orr.evTp]at hx
  split at hx
  ·cases hx
  ·rename_i v hv
   split at hx
   ·cases hx
   ·rename_i vs hr;injection hx with hx;subst hx;exact .cons ⟨rfl,h.evT hv⟩ (h.evTp hr)
end
inductive Qv where
 |t (x:TV)
 |o (b:OB)
 |l (l:List (List LV))
 |n (k:Nat)
 |z (k:Int)
 |s (x:String)
abbrev Li:=List (Qv×Qv)
def EqOk(q:Li):Prop:=∀p∈q,p.1=p.2
def Ge:List Prop->Prop
 | []=>True
 | [p]=>p
 |p::l=>p/\Ge l
theorem Ej{p:Prop}{l:List Prop}:Ge (p::l)↔p/\Ge l:=by cases l <;> simp[Ge]
def inR:IntKind->Int->Prop
 | .i64,r=>-9223372036854775808<=r/\r<=9223372036854775807
 | .u64,r=>0<=r/\r<=18446744073709551615
 | .u32,r=>0<=r/\r<=4294967295
 | .u8,r=>0<=r/\r<=255
 |k,r=>k.wrap r=r
theorem sY{k:IntKind}{r:Int}(h:inR k r):k.wrap r=r:=by
 cases k <;> first|exact h|(simp only[inR]at h;simp[IntKind.wrap,IntKind.bits,IntKind.signed];omega)
def Qpf:IntKind->Int->Option Prop
 | .i64,r=>some (-9223372036854775808<=r/\r<=9223372036854775807)
 | .u64,r=>some (0<=r/\r<=18446744073709551615)
 | .u32,r=>some (0<=r/\r<=4294967295)
 | .u8,r=>some (0<=r/\r<=255)
 |k,r=>some (k.wrap r=r)
theorem Qa7{k:IntKind}{r:Int}{p:Prop}(h:Qpf k r=some p)(hp:p):inR k r:=by
 cases k <;> simp only[Qpf,Option.some.injEq]at h <;> subst h <;> exact hp
def UQ:Fy->Option Ft
 | []=>some []
 |
  .int .i64 n::l=>match UQ l with
  |some r=>some (n::r)
  |none=>none
 |_::_=>none
def BQ:Nat->Fy->Option Fy
 | 0,_=>some []
 |
  k+1,x::l=>match BQ k l with
  |some r=>some (x::r)
  |none=>none
 |_+1,[]=>none
def YS:Nat->Fy->Option Fy
 | 0,l=>some l
 |k+1,_::l=>YS k l
 |_+1,[]=>none
theorem TZ:∀{k:Nat} {l r:Fy},BQ k l=some r->r=l.take k/\k<=l.length
 | 0,l,r,h=>by simp[BQ]at h;subst h;simp
 |k+1,[],r,h=>by simp[BQ]at h
 |
  k+1,x::l,r,h=>by
  simp only[BQ]at h
  split at h
  ·rename_i q hq;injection h with h;subst h;obtain⟨e,hl⟩:=TZ hq;subst e;exact⟨by simp,by simp;exact hl⟩
  ·cases h
theorem YP:∀{k:Nat} {l r:Fy},YS k l=some r->r=l.drop k/\k<=l.length
 | 0,l,r,h=>by simp[YS]at h;subst h;simp
 |k+1,[],r,h=>by simp[YS]at h
 |
  k+1,x::l,r,h=>by
  obtain⟨e,hl⟩:=YP (k:=k) (l:=l) (by simpa[YS]using h);exact⟨by simpa using e,by simp;exact hl⟩
def mE(l:Fy)(off m:Nat):Option Fy:=match YS off l with
 |some r=>BQ m r
 |none=>none
theorem WV{l r:Fy}{off m:Nat}(h:mE l off m=some r):r=(l.drop off).take m/\off+m<=l.length:=by
 unfold mE at h
 split at h
 ·rename_i q hq;obtain⟨rfl,h1⟩:=YP hq;obtain⟨rfl,h2⟩:=TZ h;rw[Xz]at h2;exact⟨rfl,by omega⟩
 ·cases h
def TW:Fy->Nat->Fy->Option Fy
 |l,0,[]=>some l
 | [],_,_=>none
 |
  _::l,0,y::ys=>match TW l 0 ys with
  |some r=>some (y::r)
  |none=>none
 |
  x::l,k+1,ys=>match TW l k ys with
  |some r=>some (x::r)
  |none=>none
theorem A3{α:Type}(l:List α)(k:Nat):upd l k []=l:=by cases l <;> simp[upd]
theorem JG:∀{xs ys r:Fy} {off:Nat},TW xs off ys=some r->r=upd xs off ys/\off+ys.length<=xs.length
 |xs,[],r,0,h=>by cases xs <;> simp[TW]at h <;> subst h <;> simp[upd]
 | [],[],r,k+1,h=>by simp[TW]at h
 | [],y::ys,r,off,h=>by simp[TW]at h
 |
  x::xs,y::ys,r,0,h=>by
  simp only[TW]at h
  split at h
  ·rename_i q hq;injection h with h;subst h;obtain⟨e,hl⟩:=JG hq;subst e;exact⟨rfl,by simp at hl ⊢;omega⟩
  ·cases h
 |
  x::xs,ys,r,off+1,h=>by
  simp only[TW]at h
  split at h
  ·rename_i q hq;injection h with h;subst h;obtain⟨e,hl⟩:=JG hq;subst e;refine⟨?_,by simp at hl ⊢;omega⟩;cases ys <;> simp[upd,A3]
  ·cases h
def XH:Bool->Fy->Option TV
 |true,l=>some (.agg l)
 |false,[x]=>some (.one x)
 |false,_=>none
def VX:TV->Option Fy
 | .one x=>some [x]
 | .agg xs=>some xs
section
variable{w:World}{M:Nat->Prop}{E:Lf}
theorem Ek{ag:Bool}{r:Fy}{t:TV}(h:XH ag r=some t){vs:List Value}(hr:F2 (XRep w M E) vs r):∃v,(if ag=true then v=.agg vs.toArray else vs=[v])/\TRep w M E v t:=by
 cases ag with
 |true=>simp only[XH,Option.some.injEq]at h;subst h;exact⟨_,rfl,vs,rfl,hr⟩
 |
  false =>
  rcases r with _|⟨x,_|⟨y,r⟩⟩ <;> simp only[XH,Option.some.injEq,reduceCtorEq]at h
  subst h;cases hr with
  |cons h0 h=>cases h;exact⟨_,rfl,h0⟩
theorem XI{v:Value}{t:TV}{xs:Fy}(h:TRep w M E v t)(hl:VX t=some xs):F2 (XRep w M E) v.cells.toList xs:=by
 cases t with
 |
  one x =>
  simp only[VX,Option.some.injEq]at hl;subst hl;have h:XRep w M E v x:=h;have h1:=h.one;cases v <;> first|(simp[Orr.one]at h1;done)|exact .cons h .nil
 |agg ys=>simp only[VX,Option.some.injEq]at hl;subst hl;obtain⟨vs,rfl,h⟩:=h;simpa[Value.cells]using h
theorem Tj{v:Value}{k:IntKind}{p:Int}(h:TRep w M E v (.one (.int k p))):v=.int k p:=by have h:LRep w M v _:=h;cases h;rfl
theorem Lb{v:Value}{b:Bool}(h:TRep w M E v (.one (.bool b))):v=.bool b:=by have h:LRep w M v _:=h;cases h;rfl
theorem yV{v:Value}(h:TRep w M E v (.one .nilp)):v=.pointer none:=by have h:LRep w M v _:=h;cases h;rfl
theorem RL{v:Value}{l:Fy}(h:LRep w M v (.sh l)):∃b o,v=.pointer (some ⟨b,o,none⟩)/\b<w.heap.size/\¬M b/\∃vs:List Value,F2 (LRep w M) vs l/\∀j v,vs[j]? = some v->w.cell? ⟨b,o+j,none⟩=some v:=by
 cases h with
 |
  sh b o l f hb hM hcell hrep =>
  refine⟨b,o,rfl,hb,hM,(List.range l.length).map f,F2.of (by simp) λj u x hu hx=>?_,λj v hj=>?_⟩
  ·have hj:=(Qd.1 hx).1;simp[hj]at hu;subst hu;exact hrep j x hx
  ·have hl:=(Qd.1 hj).1;simp at hl;simp[hl]at hj;subst hj;exact hcell j hl
theorem Qs0{b o:Nat}{l:Fy}{vs:List Value}(hb:b<w.heap.size)(hM:¬M b)(hv:F2 (LRep w M) vs l)(hc:∀j v,vs[j]? = some v->w.cell? ⟨b,o+j,none⟩=some v):LRep w M (.pointer (some ⟨b,o,none⟩)) (.sh l):=by
 refine .sh b o l (λj=>(vs[j]?).getD undef) hb hM (λj hj=>?_) λj x hx=>?_
 ·have:j<vs.length:=by rw[hv.len];exact hj
  rw[hc j _ (Qg this),Qg this];rfl
 ·obtain⟨v,h1,h2⟩:=hv.get hx;rw[h1];exact h2
theorem Qlm{v:Value}{l:Fz}{i:Nat}{z:Fy}(h:LRep w M v (.row l))(hz:l[i]? = some z) :
 ∃b o c,v=.slice (some ⟨b,o,none⟩) l.length c/\LRep w M (.pointer (some ⟨b,o+i*z.length,none⟩)) (.sh z):=by
 cases h with
 |
  row A c sz b o l f hc hc63 hs hA hcell hrep =>
  have h0:0<l.length:=Xj (Qh _) (Qd.1 hz).1;obtain⟨rfl,h1,h2⟩:=hA h0;have hzs:=hs z (Qa hz);subst hzs;exact⟨b,o,c,rfl,.sh b _ z (f i) h1 h2 (λj hj=>hcell i z hz j hj) λj x hx=>hrep i z hz j x hx⟩
theorem MV{v:Value}{l:Fz}(h:LRep w M v (.row l)):∃A c,v=.slice A l.length c/\l.length<=c:=by cases h;exact⟨_,_,rfl,by assumption⟩
end
def Ou:Ga->Nat->Option OB
 | [],_=>none
 |b::_,0=>some b
 |_::l,i+1=>Ou l i
theorem Nc:∀{B:Ga} {i:Nat},Ou B i=B[i]?
 | [],_=>by simp[Ou]
 |_::_,0=>by simp[Ou]
 |_::_,i+1=>by simp[Ou,Nc]
def PV(P:Program)(op:Op)(t:TV)(L:Sg)(B:Ga):Prop:=∀(F:Fr) (n:Nat) (E:Lf) (M:Nat->Prop) (a:Act) (w:World),SA F n L B E M a w->∀o:Oper,o.op=op->∃v,(execOp a.eval o).run P w=.ok (.value v) w/\TRep w M E v t
end Orr
namespace Orr
open Go
variable{P:Program}
def TL:Gb->AV
 | [t]=>.v t
 |l=>.tup l
def Qrx(P:Program)(f:Nat)(args:Gb)(Bin:Ga)(Post:Gb->Ga->Prop):Prop :=
 ∀(F:Fr) (E:Lf) (M:Nat->Prop) (w:World) (vs:List Value),HS F (ob Bin) (nw Bin) E M w->F2 (TRep w M E) vs args ->
  Calls P f vs.toArray w λe w'=>∃r u Bo E' M',e=.returned r/\Post u Bo/\Bin.length<=Bo.length/\HS F (ob Bo) (nw Bo) E' M' w'/\ARep w' M' E' r (TL u)
def Qnl(P:Program)(f:Nat):Prop:=∃fn,P.funcs[f]? = some fn/\(fn.name == "runtime.NumGoroutine")=false/\fn.body.isNone=false
def Cf(P:Program)(f:Nat)(args:Gb)(Bin:Ga)(res:Gb)(Bout:Ga):Prop:=Qnl P f/\Qrx P f args Bin λu B=>u=res/\B=Bout
abbrev yT(P:Program)(f:Nat)(args res:Gb):Prop:=Cf P f args [] res []
inductive H (P:Program) where
 |c {f:Nat} {args:List TV} {Bin:List OB} {res:List TV} {Bout:List OB} (is:List Nat) (h:Cf P f args Bin res Bout)
 |x {l:List (List LV)} {i:Nat} {xs:List LV} (h:l[i]? = some xs)
 |t {b:Bool} (h:b=true)
 |f {b:Bool} (h:b=false)
 |r (d:Nat) {u v:TV} (h:u=v)
 |y {s:ByteArray} {i v:Nat} (h:(s[i]?).map (·.toNat)=some v)
 |z (d:Nat)
 |lo
 |g (d:Nat) (v:Bool) {b:Bool} (h:b=v)
 |i (k:Nat)
 |w (n:Nat)
 |p (i:Nat)
 |o (d T sz:Nat)
 |oc (i off T sz:Nat)
 |s {l:List (List LV)} {sz:Nat} (h:∀c∈l,c.length=sz)
abbrev Pr(P:Program):=Option (TV×List (H P)×Li×List Prop)
def fit(kd:IntKind)(r:Int)(q:Li)(ps:List Prop)(h:List (H P)):Pr P:=match h with
 | .w 0::h=>some (.one (.int kd (kd.wrap r)),h,q,ps)
 |
  .w (k+1)::h=>match Qpf kd r with
  |some p=>some (.one (.int kd r),.w k::h,q,p::ps)
  |none=>none
 |
  _=>match Qpf kd r with
  |some p=>some (.one (.int kd r),h,q,p::ps)
  |none=>none
def Qk6(op:BinOp)(ti:TI P)(h:List (H P)):TV->TV->Pr P
 |
  .one (.int kd p),.one (.int kd' q)=>match op,h with
  | .shl,.i m::h=>fit kd (p*2^m) [(.z q,.z (m:Int))] [m<=kd.bits] h
  | .shr,.i m::h=>some (.one (.int kd (p / 2^m)),h,[(.z q,.z (m:Int))],[m<=kd.bits])
  | .shl,_=>none
  | .shr,_=>none
  |
   .quo,h=>match decide (kd=kd')with
   |true=>fit kd (p.tdiv q) [] [q≠0] h
   |false=>none
  |
   .or,h=>match decide (kd=kd')with
   |true=>some (.one (.int kd (orI kd p q)),h,[],[])
   |false=>none
  |
   .rem,h=>match decide (kd=kd')with
   |true=>some (.one (.int kd (p.tmod q)),h,[],[q≠0])
   |false=>none
  |
   op,h=>match decide (kd=kd')with
   |
    true=>match Qh1 op p q with
    |some b=>some (.one (.bool b),h,[],[])
    |
     none=>match Qf6 op p q with
     |some r=>fit kd r [] [] h
     |none=>none
   |false=>none
 |
  .one (.bool p),.one (.bool q)=>match ti.un,op with
  | .bool,.eql=>some (.one (.bool (p == q)),h,[],[])
  | .bool,.neq=>some (.one (.bool (!(p == q))),h,[],[])
  |_,_=>none
 |
  .one u,.one .nilp=>match ti.un with
  |
   .pointer _=>match u with
   |
    .nilp=>match op with
    | .eql=>some (.one (.bool true),h,[],[])
    | .neq=>some (.one (.bool false),h,[],[])
    |_=>none
   |
    .sh _=>match op with
    | .eql=>some (.one (.bool false),h,[],[])
    | .neq=>some (.one (.bool true),h,[],[])
    |_=>none
   |
    .ow _ _=>match op with
    | .eql=>some (.one (.bool false),h,[],[])
    | .neq=>some (.one (.bool true),h,[],[])
    |_=>none
   |_=>none
  |_=>none
 |
  .agg xs,.agg ys=>match ti.eqn,UQ xs,UQ ys with
  |
   some k,some a,some b=>match Nat.beq a.length k && Nat.beq b.length k with
   |
    true=>match op with
    | .eql=>some (.one (.bool (decide (a=b))),h,[],[])
    | .neq=>some (.one (.bool (!decide (a=b))),h,[],[])
    |_=>none
   |false=>none
  |_,_,_=>none
 |_,_=>none
def bnd(L:Sg)(k:Nat)(h:List (H P)):Option Operand->Option (Nat×List (H P)×Li)
 |none=>some (k,h,[])
 |
  some x=>match evT L x with
  |
   some (.one (.int _ z))=>match h with
   | .i m::h=>some (m,h,[(.z z,.z (m:Int))])
   |_=>none
  |_=>none
def Qt8(lo hi:Option Operand)(l h:Nat)(xs:Fz):Option Fz:=match lo,hi with
 |none,none=>some xs
 |none,some _=>some (xs.take h)
 |some _,none=>some (xs.drop l)
 |some _,some _=>some ((xs.take h).drop l)
def nD:Nat->Nat->Option Nat
 | 0,k=>some k
 |m,0=>some m
 |m,k=>some (m+k)
def loS(p:Option (Nat×Nat))(lo0 l:Nat)(lo:Option Operand):Option Nat:=match p with
 |none=>some l
 |
  some _=>match lo with
  |none=>some lo0
  |some _=>some (lo0+l)
def lnS(k l:Nat)(lo:Option Operand):Option Nat:=match lo with
 |none=>some k
 |some _=>some (k-l)
def Am(B:Ga)(i sz:Nat)(p:Option (Nat×Nat)):Option (Nat×Nat):=match p with
 |some (lo,len)=>some (lo,len)
 |
  none=>match Ou B i with
  |
   some (.row _ _ sz' ls)=>match Nat.beq sz sz' with
   |true=>some (0,ls.length)
   |false=>none
  |_=>none
def wI(L:Sg)(B:Ga)(te:TI P)(lo hi:Option Operand)(h:List (H P)):TV->Pr P
 |
  .one (.row xs)=>match bnd L 0 h lo with
  |
   some (l,h,q)=>match bnd L xs.length h hi with
   |
    some (k,h,q')=>match Qt8 lo hi l k xs with
    |
     some r=>match lo with
     |none=>some (.one (.row r),h,q++q',[l<=k,k<=xs.length])
     |some _=>some (.one (.row r),h,q++q',[l≤k,k≤xs.length,∀z∈xs,z.length=te.sz])
    |none=>none
   |none=>none
  |none=>none
 |
  .one (.orow i sz p)=>match Nat.beq sz te.sz with
  |
   true=>match Am B i sz p with
   |
    some (lo0,len)=>match bnd L 0 h lo with
    |
     some (l,h,q)=>match bnd L len h hi with
     |
      some (k,h,q')=>match loS p lo0 l lo with
      |
       some s=>match lnS k l lo with
       |some m=>some (.one (.orow i sz (some (s,m))),h,q++q',[l<=k,k<=len])
       |none=>none
      |none=>none
     |none=>none
    |none=>none
   |none=>none
  |false=>none
 |_=>none
def wA(B:Ga)(te:TI P)(h:List (H P)):TV->TV->Pr P
 |
  .one (.row l),.one (.int _ z)=>match h with
  |
   .x (l:=l') (i:=k) (xs:=xs) _::h=>match Nat.beq xs.length te.sz with
   |true=>some (.one (.sh xs),h,[(.l l,.l l'),(.z z,.z (k:Int))],[])
   |false=>none
  |_=>none
 |
  .one (.orow i sz p),.one (.int _ z)=>match Nat.beq sz te.sz with
  |
   true=>match Am B i sz p with
   |
    some (lo,len)=>match h with
    |
     .i k::h=>match p with
     |none=>some (.one (.oel i sz k 0),h,[(.z z,.z (k:Int))],[k<len])
     |some _=>some (.one (.oel i sz (lo+k) 0),h,[(.z z,.z (k:Int))],[k<len])
    |_=>none
   |none=>none
  |false=>none
 |_,_=>none
def RU(off:Nat):TV->Option TV
 |
  .one (.sh l)=>match YS off l with
  |some r=>some (.one (.sh r))
  |none=>none
 |
  .one (.ow i o)=>match nD o off with
  |some s=>some (.one (.ow i s))
  |none=>none
 |
  .one (.oel i sz k o)=>match nD o off with
  |some s=>some (.one (.oel i sz k s))
  |none=>none
 |_=>none
def eV(
 B:Ga) (ti:TI P) (h:List (H P)):TV->Pr P
  |
   .one (.sh l)=>match BQ ti.sz l with
   |
    some r=>match XH ti.ag r with
    |some t=>some (t,h,[],[])
    |none=>none
   |none=>none
  |
   .one (.ow i o)=>match Ou B i with
   |
    some (.blk _ xs)=>match mE xs o ti.sz with
    |
     some r=>match XH ti.ag r with
     |some t=>some (t,h,[],[])
     |none=>none
    |none=>none
   |_=>none
  |
   .one (.oel i sz k o)=>match Ou B i with
   |
    some (.row _ _ sz' ls)=>match Nat.beq sz sz' with
    |
     true=>match h with
     |
      .x (l:=l') (i:=k') (xs:=xs) _::h=>match mE xs o ti.sz with
      |
       some r=>match XH ti.ag r with
       |some t=>some (t,h,[(.l ls,.l l'),(.n k,.n k')],[])
       |none=>none
      |none=>none
     |_=>none
    |false=>none
   |_=>none
  |_=>none
def Qk8(B:Ga):TV->Option Nat
 | .one (.row l)=>some l.length
 | .one .nils=>some 0
 |
  .one (.orow i sz p)=>match Am B i sz p with
  |some (_,len)=>some len
  |none=>none
 |_=>none
def ED(place:Nat->Option (Nat×Nat)):Fy->List (Nat×TV)->Option Fy
 |xs,[]=>some xs
 |
  xs,(i,u)::rest=>match place i with
  |none=>none
  |
   some (off,size)=>match VX u with
   |none=>none
   |
    some ys=>match Nat.beq ys.length size with
    |false=>none
    |
     true=>match TW xs off ys with
     |none=>none
     |some r=>ED place r rest
def ones:Gb->Option Fy
 | []=>some []
 |
  .one x::l=>match ones l with
  |some r=>some (x::r)
  |none=>none
 |_::_=>none
def Eg:Fy->Bool
 | []=>true
 |
  x::l=>match x.free with
  |true=>Eg l
  |false=>false
def lY:Fy->Bool
 | []=>true
 | .ow _ _::l=>lY l
 |
  x::l=>match x.free with
  |true=>lY l
  |false=>false
def mmL(mx:Bool):Gb->Option (IntKind×Int)
 | [.one (.int k p)]=>some (k,p)
 |
  .one (.int k p)::.one (.int k' q)::[]=>match decide (k=k')with
  |
   true=>match mx with
   |true=>some (k,max p q)
   |false=>some (k,min p q)
  |false=>none
 |
  .one (.int k p)::.one (.int k' q)::.one (.int k'' r)::[]=>match decide (k=k'),decide (k=k''),mx with
  |true,true,true=>some (k,max (max p q) r)
  |_,_,_=>none
 |_=>none
def pv(
 T:TT P) (
  L:Sg) (B:Ga) (h:List (H P)):Op->Pr P
  |
   .move x=>match evT L x with
   |some t=>some (t,h,[],[])
   |none=>none
  |
   .assign x=>match evT L x with
   |some t=>some (t,h,[],[])
   |none=>none
  |
   .nilCheck x=>match evT L x with
   |some (.one (.ow i o))=>some (.one (.ow i o),h,[],[])
   |some (.one (.sh l))=>some (.one (.sh l),h,[],[])
   |some (.one (.oel i sz k o))=>some (.one (.oel i sz k o),h,[],[])
   |_=>none
  |
   .extract x i=>match evA L x with
   |
    some (.tup l)=>match l[i]? with
    |some t=>some (t,h,[],[])
    |none=>none
   |_=>none
  |
   .pick c x y=>match evT L c with
   |
    some (.one (.bool b))=>match evA L x,evA L y with
    |some (.cnd b' (.one (.bool p))),some (.v (.one (.bool q)))=>some (.one (.bool (cond b p q)),h,[(.t (.one (.bool b)),.t (.one (.bool b')))],[])
    |some (.v (.one (.bool p))),some (.cnd b' (.one (.bool q)))=>some (.one (.bool (cond b p q)),h,[(.t (.one (.bool (!b))),.t (.one (.bool b')))],[])
    |some (.v (.one (.bool p))),some (.v (.one (.bool q)))=>some (.one (.bool (cond b p q)),h,[],[])
    |_,_=>none
   |_=>none
  |
   .fieldAddr S x f=>match T.find S with
   |
    some ti=>match ti.fo[f]? with
    |
     some off=>match evT L x with
     |
      some t=>match RU off t with
      |some u=>some (u,h,[],[])
      |none=>none
     |none=>none
    |none=>none
   |none=>none
  |
   .load t x=>match T.find t with
   |
    some ti=>match evT L x with
    |some u=>eV B ti h u
    |none=>none
   |none=>none
  |
   .field S x f=>match T.find S with
   |
    some ti=>match ti.fv[f]? with
    |
     some (off,m,ag)=>match evT L x with
     |
      some (.agg xs)=>match mE xs off m with
      |
       some r=>match XH ag r with
       |some u=>some (u,h,[],[])
       |none=>none
      |none=>none
     |_=>none
    |none=>none
   |none=>none
  |
   .build S ps=>match T.find S with
   |
    some ti=>match ti.bl with
    |
     some (z,pl)=>match lfs z with
     |
      some zs=>match evTp L ps.toList with
      |
       some us=>match ED pl zs us with
       |some r=>some (.agg r,h,[],[])
       |none=>none
      |none=>none
     |none=>none
    |none=>none
   |none=>none
  |
   .unOp .not _ x=>match evT L x with
   |some (.one (.bool b))=>some (.one (.bool (!b)),h,[],[])
   |_=>none
  |
   .unOp .neg _ x=>match evT L x with
   |some (.one (.int kd p))=>fit kd (-p) [] [] h
   |_=>none
  |
   .binOp op t x y _=>match T.find t with
   |
    some ti=>match evT L x,evT L y with
    |some u,some v=>Qk6 op ti h u v
    |_,_=>none
   |none=>none
  |
   .convert s u x=>match T.find s,T.find u with
   |
    some ti,some tj=>match ti.un,tj.un with
    |
     .int kd,.int kd'=>match evT L x with
     |
      some (.one (.int kd2 p))=>match decide (kd=kd2)with
      |true=>fit kd' p [] [] h
      |false=>none
     |_=>none
    |_,_=>none
   |_,_=>none
  |
   .index t x y=>match T.find t with
   |
    some ti=>match ti.un with
    |
     .string=>match evT L x,evT L y with
     |
      some (.one (.str s)),some (.one (.int _ z))=>match h with
      | .y (s:=s') (i:=i) (v:=v) _::h=>some (.one (.int .u8 (v:Int)),h,[(.t (.one (.str s)),.t (.one (.str s'))),(.z z,.z (i:Int))],[])
      |_=>none
     |_,_=>none
    |
     .array m E=>match T.find E with
     |
      some te=>match evT L x,evT L y with
      |
       some (.agg xs),some (.one (.int _ z))=>match h with
       |
        .i k::h=>match Nat.blt k m with
        |
         true=>match mE xs (k*te.sz) te.sz with
         |
          some r=>match XH te.ag r with
          |some u=>some (u,h,[(.z z,.z (k:Int))],[])
          |none=>none
         |none=>none
        |false=>none
       |_=>none
      |_,_=>none
     |none=>none
    |_=>none
   |none=>none
  |
   .slice t x lo hi none=>match T.find t with
   |
    some ti=>match ti.un with
    |
     .slice E=>match T.find E with
     |
      some te=>match evT L x with
      |some u=>wI L B te lo hi h u
      |none=>none
     |none=>none
    |_=>none
   |none=>none
  |
   .slice t x none (some y) (some z)=>match T.find t with
   |
    some ti=>match ti.un with
    |
     .slice E=>match T.find E with
     |
      some _=>match evT L x,evT L y,evT L z with
      |
       some (.one (.row xs)),some (.one (.int _ p)),some (.one (.int _ q))=>match h with
       | .i k::h=>some (.one (.frow (xs.take k)),h,[(.z p,.z (k:Int)),(.z q,.z (k:Int))],[k<=xs.length])
       |h=>some (.one (.row xs),h,[(.z p,.z (xs.length:Int)),(.z q,.z (xs.length:Int))],[])
      |_,_,_=>none
     |none=>none
    |_=>none
   |none=>none
  |
   .indexAddr t x y=>match T.find t with
   |
    some ti=>match ti.un with
    |
     .slice E=>match T.find E with
     |
      some te=>match evT L x,evT L y with
      |some u,some v=>wA B te h u v
      |_,_=>none
     |none=>none
    |
     .array m E=>match T.find E with
     |
      some te=>match evT L x,evT L y with
      |
       some u,some (.one (.int _ z))=>match h with
       |
        .i k::h=>match Nat.blt k m with
        |
         true=>match RU (k*te.sz) u with
         |some r=>some (r,h,[(.z z,.z (k:Int))],[])
         |none=>none
        |false=>none
       |_=>none
      |_,_=>none
     |none=>none
    |_=>none
   |none=>none
  |
   .makeFunc (.func f) pre post=>match evTs L pre.toList with
   |
    some us=>match evTs L post.toList with
    |
     some ys=>match ones us with
     |
      some xs=>match ones ys with
      |
       some zs=>match Eg xs && Eg zs with
       |true=>some (.one (.fn f xs zs),h,[],[])
       |
        false=>match lY xs && lY zs with
        |true=>some (.one (.ofn f xs zs),h,[],[])
        |false=>none
      |none=>none
     |none=>none
    |none=>none
   |none=>none
  |
   .lookup t x y false=>match T.find t with
   |
    some ti=>match ti.md with
    |
     some d=>match evT L x,evT L y with
     |
      some (.one (.omap i)),some (.agg ys)=>match Ou B i,UQ ys with
      |
       some (.mpb es),some ks=>match Nat.beq ks.length 3 with
       |
        true=>match d with
        | .int .i64 (.ofNat 0)=>some (.one (.int .i64 (Quo es ks)),h,[],[Qwo es])
        | .bool false=>some (.one (.bool (Qr4 es ks)),h,[],[Qrz es])
        |_=>none
       |false=>none
      |_,_=>none
     |_,_=>none
    |none=>none
   |none=>none
  |
   .makeInterface t x=>match T.find t with
   |
    some ti=>match ti.un with
    |
     .pointer _=>match evT L x with
     |some (.one (.ow i o))=>some (.one (.oif t i o),h,[],[])
     |_=>none
    |_=>none
   |none=>none
  |
   .call { callee:=.builtin .len,args:=xs,argTypes:=ts }=>match xs.toList with
   |
    [x]=>match ts[0]? with
    |
     some t=>match T.find t with
     |
      some ti=>match ti.un with
      |
       .slice _=>match evT L x with
       |
        some u=>match Qk8 B u with
        |some m=>some (.one (.int .i64 (m:Int)),h,[],[])
        |none=>none
       |none=>none
      |_=>none
     |none=>none
    |none=>none
   |_=>none
  |
   .call { callee:=.builtin .max,args:=xs,argTypes:=_ }=>match evTs L xs.toList with
   |
    some us=>match mmL true us with
    |some (k,p)=>some (.one (.int k p),h,[],[])
    |none=>none
   |none=>none
  |
   .call { callee:=.builtin .min,args:=xs,argTypes:=_ }=>match evTs L xs.toList with
   |
    some us=>match mmL false us with
    |some (k,p)=>some (.one (.int k p),h,[],[])
    |none=>none
   |none=>none
  |_=>none
abbrev H.k{P : Program}{f : Nat}{args : List TV}{Bin : List OB}{res : List TV}{Bout : List OB}(h : Cf P f args Bin res Bout) : H P := .c [] h
abbrev H.F{P : Program}{p : Prop}[Decidable p](h : ¬p := by omega) : H P := .f (decide_eq_false h)
abbrev H.T{P : Program}{p : Prop}[Decidable p](h : p := by omega) : H P := .t (decide_eq_true h)
end Orr
namespace Orr
open Go
variable{P:Program}{w:World}{M:Nat->Prop}{E:Lf}{e:Operand->Value}{o:Oper}{hs h':List (H P)}{q:Li}{ob:List Prop}{t:TV}
theorem EqOk.nil:EqOk []:=λ_ h=>by cases h
theorem EqOk.app{a b:Li}(h:EqOk (a++b)):EqOk a/\EqOk b:=⟨λp hp=>h p (Qr.2 (.inl hp)),λp hp=>h p (Qr.2 (.inr hp))⟩
theorem EqOk.hd{a b:Qv}{l:Li}(h:EqOk ((a,b)::l)):a=b:=h _ (.head _)
theorem EqOk.tl{p:Qv×Qv}{l:Li}(h:EqOk (p::l)):EqOk l:=λx hx=>h x (.tail _ hx)
theorem EA{kd:IntKind}{r:Int}{qs:Li}{ps:List Prop}(h:fit kd r qs ps hs=some (t,h',q,ob))(ho:Ge ob):t=.one (.int kd (kd.wrap r))/\q=qs/\Ge ps:=by
 unfold fit at h
 split at h
 ·injection h with h;injection h with h1 h;injection h with h2 h;injection h with h3 h4;subst h1;subst h3;subst h4;exact⟨rfl,rfl,ho⟩
 ·split at h
  ·rename_i p hp;injection h with h;injection h with h1 h;injection h with h2 h;injection h with h3 h4;subst h1;subst h3;subst h4;obtain⟨h5,h6⟩:=Ej.1 ho;exact⟨by rw[sY (Qa7 hp h5)],rfl,h6⟩
  ·cases h
 ·split at h
  ·rename_i p hp;injection h with h;injection h with h1 h;injection h with h2 h;injection h with h3 h4;subst h1;subst h3;subst h4;obtain⟨h5,h6⟩:=Ej.1 ho;exact⟨by rw[sY (Qa7 hp h5)],rfl,h6⟩
  ·cases h
theorem Re{α β γ δ:Type}{a a':α}{b b':β}{c c':γ}{d d':δ}(h:some (a,b,c,d)=some (a',b',c',d')):a=a'/\b=b'/\c=c'/\d=d':=by
 injection h with h;injection h with h1 h;injection h with h2 h;injection h with h3 h4;exact⟨h1,h2,h3,h4⟩
theorem Qce{v:Value}{x:LV}(h:XRep w M E v x)(hx:(∃i o,x=.ow i o)\/(∃l,x=.sh l)\/(∃i sz k o,x=.oel i sz k o)):∃b o,v=.pointer (some ⟨b,o,none⟩):=by
 rcases hx with⟨i,o,rfl⟩|⟨l,rfl⟩|⟨i,sz,k,o,rfl⟩
 ·obtain⟨g,c,m,e,rfl⟩:=h;exact⟨_,_,rfl⟩
 ·obtain⟨b,o,rfl,_⟩:=RL h;exact⟨_,_,rfl⟩
 ·obtain⟨g,c,m,e,rfl⟩:=h;exact⟨_,_,rfl⟩
theorem sK:∀{xs:Fy} {a:Ft} {vs:List Value},UQ xs=some a->F2 (XRep w M E) vs xs->vs=a.map (Value.int .i64)
 | [],_,_,h,.nil=>by simp[UQ]at h;subst h;rfl
 |
  x::xs,_,_,h,.cons h0 hr=>by
  cases x <;> first|cases h|skip
  rename_i k n;cases k <;> first|cases h|skip
  simp only[UQ]at h
  split at h
  ·rename_i r hr';injection h with h;subst h;have h0:LRep w M _ (.int .i64 n):=h0;cases h0;rw[sK hr' hr];rfl
  ·cases h
theorem KR{xs:Fy}{a:Ft}{v:Value}(h:UQ xs=some a)(hr:TRep w M E v (.agg xs)):v=.agg (a.map (Value.int .i64)).toArray:=by
 obtain⟨vs,rfl,hr⟩:=hr;rw[sK h hr]
theorem Qk7{op:BinOp}{ti:TI P}{x y:Operand}{t':TypeId}{u v:TV}(ho:o.op=.binOp op ti.t x y t')(h:Qk6 op ti hs u v=some (t,h',q,ob))(hq:EqOk q)(hob:Ge ob)(hx:TRep w M E (e x) u)(hy:TRep w M E (e y) v) :
 ∃r,(execOp e o).run P w=.ok (.value r) w/\TRep w M E r t:=by
 unfold Qk6 at h
 split at h
 ·rename_i kd p kd' q';have hx:=Tj hx;have hy:=Tj hy
  split at h
  ·obtain⟨rfl,rfl,h3⟩:=EA h hob;have e1:=hq.hd;injection e1 with e1;exact⟨_,Qy5 ho hx (e1 ▸ hy) h3,LRep.int _ _⟩
  ·obtain⟨rfl,rfl,rfl,rfl⟩:=Re h;have e1:=hq.hd;injection e1 with e1;exact⟨_,Qy6 ho hx (e1 ▸ hy) hob,LRep.int _ _⟩
  ·cases h
  ·cases h
  ·split at h
   ·rename_i hk;obtain rfl:=of_decide_eq_true hk;obtain⟨rfl,rfl,h3⟩:=EA h hob;exact⟨_,Qy3 ho hx hy h3,LRep.int _ _⟩
   ·cases h
  ·split at h
   ·rename_i hk;obtain rfl:=of_decide_eq_true hk;obtain⟨rfl,rfl,rfl,rfl⟩:=Re h;exact⟨_,Q0f ho hx hy,LRep.int _ _⟩
   ·cases h
  ·split at h
   ·rename_i hk;obtain rfl:=of_decide_eq_true hk;obtain⟨rfl,rfl,rfl,rfl⟩:=Re h;exact⟨_,Qy4 ho hx hy hob,LRep.int _ _⟩
   ·cases h
  ·split at h
   ·rename_i hk;obtain rfl:=of_decide_eq_true hk
    split at h
    ·rename_i b hb;obtain⟨rfl,rfl,rfl,rfl⟩:=Re h;exact⟨_,Qyu ho hx hy hb,LRep.bool _⟩
    ·split at h
     ·rename_i r hr;obtain⟨rfl,rfl,h3⟩:=EA h hob;exact⟨_,Qys ho hx hy hr,LRep.int _ _⟩
     ·cases h
   ·cases h
 ·have hx:=Lb hx;have hy:=Lb hy
  split at h
  ·rename_i hu;obtain⟨rfl,rfl,rfl,rfl⟩:=Re h;exact⟨_,Qyw ho hx hy (by rw[ti.hun,hu]),LRep.bool _⟩
  ·rename_i hu;obtain⟨rfl,rfl,rfl,rfl⟩:=Re h;exact⟨_,Qy0 ho hx hy (by rw[ti.hun,hu]),LRep.bool _⟩
  ·cases h
 ·have hy:=yV hy
  split at h
  ·rename_i E' hu;have hu:=TI.hu' hu
   split at h
   ·have hx:=yV hx
    split at h <;> first|(cases h;done)|skip
    ·obtain⟨rfl,rfl,rfl,rfl⟩:=Re h;exact⟨_,WP (.inl rfl) ho hu hx hy,LRep.bool _⟩
    ·obtain⟨rfl,rfl,rfl,rfl⟩:=Re h;exact⟨_,WP (.inr rfl) ho hu hx hy,LRep.bool _⟩
   ·obtain⟨b,a,hx⟩:=Qce (w:=w) (M:=M) (E:=E) (x:=.sh _) hx (.inr (.inl ⟨_,rfl⟩))
    split at h <;> first|(cases h;done)|skip
    ·obtain⟨rfl,rfl,rfl,rfl⟩:=Re h;exact⟨_,WP (.inl rfl) ho hu hx hy,LRep.bool _⟩
    ·obtain⟨rfl,rfl,rfl,rfl⟩:=Re h;exact⟨_,WP (.inr rfl) ho hu hx hy,LRep.bool _⟩
   ·obtain⟨b,a,hx⟩:=Qce (w:=w) (M:=M) (E:=E) (x:=.ow _ _) hx (.inl ⟨_,_,rfl⟩)
    split at h <;> first|(cases h;done)|skip
    ·obtain⟨rfl,rfl,rfl,rfl⟩:=Re h;exact⟨_,WP (.inl rfl) ho hu hx hy,LRep.bool _⟩
    ·obtain⟨rfl,rfl,rfl,rfl⟩:=Re h;exact⟨_,WP (.inr rfl) ho hu hx hy,LRep.bool _⟩
   ·cases h
  ·cases h
 ·split at h
  ·rename_i k a b hk ha hb
   split at h
   ·rename_i hl;simp only[Zn]at hl;have la:=Qu hl.1;have lb:=Qu hl.2;obtain⟨hg,he⟩:=ti.heq k hk;have hx:=KR ha hx;have hy:=KR hb hy
    split at h
    ·obtain⟨rfl,rfl,rfl,rfl⟩:=Re h;exact⟨_,Qyv ho hx hy hg (he a b la lb),LRep.bool _⟩
    ·obtain⟨rfl,rfl,rfl,rfl⟩:=Re h;exact⟨_,Qyz ho hx hy hg (he a b la lb),LRep.bool _⟩
    ·cases h
   ·cases h
  ·cases h
 ·cases h
section
variable{F:Fr}{n:Nat}{L:Sg}{B:Ga}{a:Act}
theorem yP:∀{m k s:Nat},nD m k=some s->s=m+k
 | 0,k,s,h=>by simp[nD]at h;omega
 |m+1,0,s,h=>by simp[nD]at h;omega
 |m+1,k+1,s,h=>by simp[nD]at h;omega
theorem SA.blk(h:SA F n L B E M a w){i:Nat}{b:OB}(hb:Ou B i=some b):OBRep w M E i b:=by
 have:=h.hs.blk i;rwa[P5 (Nc ▸ hb)]at this
theorem SA.orow(h:SA F n L B E M a w){i sz lo len:Nat}{p:Option (Nat×Nat)}(hp:Am B i sz p=some (lo,len)){v:Value}(hv:XRep w M E v (.orow i sz p)):∃m q,E i=some (q,m)/\lo+len<=m/\mF v sz lo len q:=by
 obtain⟨q,m,e,hr⟩:=hv;refine⟨m,q,e,?_⟩;rcases p with _|⟨lo',len'⟩
 ·simp only[Am]at hp
  split at hp
  ·rename_i fx T sz' ls hb
   split at hp
   ·injection hp with hp;injection hp with h1 h2;subst h1;subst h2;obtain⟨_,_,q',e',_⟩:=h.blk hb;rw[e]at e';injection e' with e';injection e' with e1 e2;subst e1;subst e2
    exact hr
   ·cases hp
  ·cases hp
 ·simp only[Am]at hp;injection hp with hp;injection hp with h1 h2;subst h1;subst h2;exact hr
theorem SA.bnd(h:SA F n L B E M a w){k k':Nat}{x:Option Operand}{q':Li}(hb:bnd L k hs x=some (k',h',q'))(hq:EqOk q'):Qtj a.eval k' x/\(x=none->k'=k):=by
 unfold Orr.bnd at hb
 split at hb
 ·injection hb with hb;injection hb with h1 _;subst h1;exact⟨trivial,λ_=>rfl⟩
 ·split at hb
  ·rename_i x kd z hz
   split at hb
   ·injection hb with hb;injection hb with h1 hb;injection hb with _ h2;subst h1;subst h2;have e1:=hq.hd;injection e1 with e1;exact⟨⟨kd,by rw[Tj (h.evT hz),e1]⟩,λh=>by cases h⟩
   ·cases hb
  ·cases hb
theorem Qor{lo hi:Option Operand}{l k:Nat}{xs r:Fz}(h:Qt8 lo hi l k xs=some r)(hl:lo=none->l=0)(hk:hi=none->k=xs.length):r=(xs.take k).drop l:=by
 unfold Qt8 at h
 split at h <;> injection h with h <;> subst h
 ·rw[hl rfl,hk rfl];simp
 ·rw[hl rfl];simp
 ·rw[hk rfl];simp
 ·rfl
theorem Qqu{v:Value}{xs:Fz}{A:Option Addr}{c l k sz:Nat}(h:LRep w M v (.row xs))(hv:v=.slice A xs.length c)(hsz:l=0\/∀z∈xs,z.length=sz)(hl:l≤k)(hk:k≤xs.length):LRep w M (.slice (if c=l then A else A.map (·.add (l*sz))) (k-l) (c-l)) (.row ((xs.take k).drop l)):=by
 cases h with
 |
  row A' c' sz' b o _ f hc hc63 hs hA hcell hrep =>
  injection hv with h1 h2 h3;subst h1;subst h3;have hlen:((xs.take k).drop l).length=k-l:=by simp;omega
  have hget:∀(i:Nat) (cs:Fy),((xs.take k).drop l)[i]? = some cs->xs[l+i]? = some cs/\l+i<xs.length:=λi cs hi=>by
   rw[Xi,Jv]at hi
   split at hi
   ·exact⟨hi,(Qd.1 hi).1⟩
   ·cases hi
  have hls:∀z∈xs,l*sz'=l*sz:=λz hz=>by
   rcases hsz with rfl|hsz
   ·simp
   ·rw[<-hs z hz,hsz z hz]
  have key:=LRep.row (w:=w) (M:=M) (if c'=l then A' else A'.map (·.add (l*sz))) (c'-l) sz' b (o+l*sz') ((xs.take k).drop l) (λi j=>f (l+i) j) (by omega) (by omega) (λz hz=>hs z (Qq (Q9 hz)))
   (λh0=>by
    have h0':0<xs.length:=by omega
    obtain⟨rfl,h2⟩:=hA h0';refine⟨?_,h2⟩;rw[if_neg (by omega),hls _ (Jf h0')];simp[Lk])
   (λi cs hi j hj=>by
    obtain⟨h1,h2⟩:=hget i cs hi;have e1:=hcell (l+i) cs h1 j hj;rw[<-e1,Yf,Vg o]) (λi cs hi j x hx=>hrep (l+i) cs (hget i cs hi).1 j x hx)
  rw[hlen]at key;exact key
theorem mG{v:Value}{xs:Fz}{A:Option Addr}{c sz k:Nat}(hk:k<=xs.length)(h:LRep w M v (.row xs))(hv:v=.slice A xs.length c):LRep w M (.slice (if k=0 then A else A.map (·.add (0*sz))) k k) (.row (xs.take k)):=by
 cases h with
 |
  row A' c' sz' b o _ f hc hc63 hs hA hcell hrep =>
  injection hv with h1 h2 h3;subst h1;subst h3;have hg:∀(i:Nat) (cs:Fy),(xs.take k)[i]? = some cs->xs[i]? = some cs:=λi cs hi=>by
   rw[Jv]at hi
   split at hi
   ·exact hi
   ·cases hi
  have hl:(xs.take k).length=k:=by rw[Qz];omega
  have key:=LRep.row (w:=w) (M:=M) (if k=0 then A' else A'.map (·.add (0*sz))) k sz' b o (xs.take k) f (by omega) (by omega) (λz hz=>hs z (Qq hz)) (λh0=>by
   obtain⟨rfl,h2⟩:=hA (by omega);refine⟨?_,h2⟩;rw[if_neg (by omega)];simp[Lk]) (λi cs hi=>hcell i cs (hg i cs hi)) (λi cs hi=>hrep i cs (hg i cs hi))
  rw[hl]at key;exact key
theorem eK(
 h:SA F n L B E M a w) {te:TI P} {T:TypeId} {x:Operand} {lo hi:Option Operand} {u:TV} (ho:o.op=.slice T x lo hi none) (hu:∀w,(underlying T).run P w=.ok (.slice te.t) w) (hx:evT L x=some u) (hp:wI L B te lo hi hs u=some (t,h',q,ob)) (hq:EqOk q) (hob:Ge ob) :
  ∃r,(execOp a.eval o).run P w=.ok (.value r) w/\TRep w M E r t:=by
  have hr:=h.evT hx;unfold wI at hp
  split at hp
  ·rename_i xs
   split at hp
   ·rename_i l h1 q1 hb1
    split at hp
    ·rename_i k h2 q2 hb2
     split at hp
     ·rename_i r hc;have hp':t=.one (.row r)/\q=q1++q2/\l≤k/\k≤xs.length/\(lo=none\/∀z∈xs,z.length=te.sz):=by
       split at hp
       ·obtain⟨rfl,rfl,rfl,rfl⟩:=Re hp;exact⟨rfl,rfl,hob.1,hob.2,.inl rfl⟩
       ·obtain⟨rfl,rfl,rfl,rfl⟩:=Re hp;exact⟨rfl,rfl,hob.1,hob.2.1,.inr hob.2.2⟩
      obtain⟨rfl,rfl,p1,p2,hz⟩:=hp';obtain⟨q1',q2'⟩:=hq.app;obtain⟨b1,n1⟩:=h.bnd hb1 q1';obtain⟨b2,n2⟩:=h.bnd hb2 q2';obtain⟨A,c,hv,hcap⟩:=MV hr;have hz:l=0\/∀z∈xs,z.length=te.sz:=hz.imp n1 id;have e1:=Qor hc n1 n2;subst e1;exact⟨_,fU ho hv hu te.hsz b1 b2 n1 n2 p1 (λ_=>by omega),Qqu hr hv hz p1 p2⟩
     ·cases hp
    ·cases hp
   ·cases hp
  ·rename_i i sz p
   split at hp
   ·rename_i hsz;have hsz:=Qu hsz;subst hsz
    split at hp
    ·rename_i lo0 len hrow
     split at hp
     ·rename_i l h1 q1 hb1
      split at hp
      ·rename_i k h2 q2 hb2
       split at hp
       ·rename_i s hs1
        split at hp
        ·rename_i m hs2;obtain⟨rfl,rfl,rfl,rfl⟩:=Re hp;obtain⟨q1',q2'⟩:=hq.app;obtain⟨b1,n1⟩:=h.bnd hb1 q1';obtain⟨b2,n2⟩:=h.bnd hb2 q2';obtain⟨p1,p2⟩:=Ej.1 hob;have p2:k<=len:=p2;obtain rfl:s=lo0+l:=by
          unfold loS at hs1
          split at hs1
          ·injection hs1 with hs1;simp only[Am]at hrow
           split at hrow
           ·split at hrow
            ·injection hrow with hrow;injection hrow with h1 _;omega
            ·cases hrow
           ·cases hrow
          ·split at hs1
           ·injection hs1 with hs1;have:=n1 rfl;omega
           ·injection hs1 with hs1;exact hs1.symm
         obtain rfl:m=k-l:=by
          unfold lnS at hs2
          split at hs2
          ·injection hs2 with hs2;have:=n1 rfl;omega
          ·injection hs2 with hs2;exact hs2.symm
         obtain⟨m',qe,he,hml,hv⟩:=h.orow hrow hr;rcases qe with _|⟨g,c⟩
         ·obtain⟨hv,e1,e2⟩:=hv;have e3:k=0:=by omega
          have e4:l=0:=by omega
          subst e3;subst e4;subst e1;exact⟨_,fU ho (hv.trans (by rw[e2])) hu te.hsz b1 b2 n1 n2 p1 (λ_=>by omega),none,m',he,by simp,by simp[mF,e2]⟩
         ·obtain⟨hle,a0,hv,ha⟩:=hv;refine⟨_,fU ho hv hu te.hsz b1 b2 n1 n2 p1 (λ_=>by omega),some (g,c),m',he,by simp;omega,?_⟩;refine⟨by simp;omega,?_⟩;simp only[V3];by_cases hcl:c-lo0=l
          ·refine⟨a0,?_,λhh=>?_⟩
           ·rw[if_pos hcl,show c-lo0-l=c-(lo0+l) from by omega]
           ·have e0:lo0=0:=by omega
            have e1:l=0:=by omega
            rw[ha (.inl e0),e0,e1]
          ·refine⟨a0+l*te.sz,?_,λhh=>?_⟩
           ·rw[if_neg hcl,show c-lo0-l=c-(lo0+l) from by omega];simp[Lk]
           ·rw[ha (by omega),Yf]
        ·cases hp
       ·cases hp
      ·cases hp
     ·cases hp
    ·cases hp
   ·cases hp
  ·cases hp
theorem eY(h:SA F n L B E M a w){te:TI P}{T:TypeId}{x y:Operand}{u v:TV}(ho:o.op=.indexAddr T x y)(hu:∀w,(underlying T).run P w=.ok (.slice te.t) w)(hx:evT L x=some u)(hy:evT L y=some v)(hp:wA B te hs u v=some (t,h',q,ob))(hq:EqOk q)(hob:Ge ob) :
 ∃r,(execOp a.eval o).run P w=.ok (.value r) w/\TRep w M E r t:=by
 have hr:=h.evT hx;have hr2:=h.evT hy;unfold wA at hp
 split at hp
 ·split at hp
  ·rename_i l kd z _ l' k xs hk hs2
   split at hp
   ·rename_i hsz;have hsz:=Qu hsz;obtain⟨rfl,rfl,rfl,rfl⟩:=Re hp;have e1:=hq.hd;injection e1 with e1;subst e1;have e2:=hq.tl.hd;injection e2 with e2;subst e2;obtain⟨b,o',c,hv,hsh⟩:=Qlm hr hk;have h2:=Tj hr2;rw[hsz]at hsh;exact⟨_,fW ho hv h2 hu te.hsz (Qd.1 hk).1,hsh⟩
   ·cases hp
  ·cases hp
 ·split at hp
  ·rename_i i sz p kd z hsz;have hsz:=Qu hsz;subst hsz
   split at hp
   ·rename_i lo len hrow
    split at hp
    ·rename_i k hs2
     split at hp
     ·obtain⟨rfl,rfl,rfl,rfl⟩:=Re hp;have e2:=hq.hd;injection e2 with e2;subst e2;have hob:k<len:=hob;have hlo:lo=0:=by
       simp only[Am]at hrow
       split at hrow
       ·split at hrow
        ·injection hrow with hrow;injection hrow with h1 _;exact h1.symm
        ·cases hrow
       ·cases hrow
      obtain⟨m',qe,he,hml,hv⟩:=h.orow hrow hr;have h2:=Tj hr2;rcases qe with _|⟨g,c⟩
      ·obtain⟨_,_,e⟩:=hv;omega
      ·obtain⟨hle,a0,hv,ha⟩:=hv;refine⟨_,fW ho hv h2 hu te.hsz hob,g,c,m',he,?_⟩;rw[ha (.inr (by omega)),hlo,Yc,Xd,Jh]
     ·obtain⟨rfl,rfl,rfl,rfl⟩:=Re hp;have e2:=hq.hd;injection e2 with e2;subst e2;have hob:k<len:=hob;obtain⟨m',qe,he,hml,hv⟩:=h.orow hrow hr;have h2:=Tj hr2;rcases qe with _|⟨g,c⟩
      ·obtain⟨_,_,e⟩:=hv;omega
      ·obtain⟨hle,a0,hv,ha⟩:=hv;refine⟨_,fW ho hv h2 hu te.hsz hob,g,c,m',he,?_⟩;rw[ha (.inr (by omega)),Yf,Jh]
    ·cases hp
   ·cases hp
  ·cases hp
 ·cases hp
theorem NP{off:Nat}{x:Operand}{u r:TV}(ho:∀b a',e x=.pointer (some ⟨b,a',none⟩)->(execOp e o).run P w=.ok (.value (.pointer (some ⟨b,a'+off,none⟩))) w)(hr:TRep w M E (e x) u)(hp:RU off u=some r) :
 ∃v,(execOp e o).run P w=.ok (.value v) w/\TRep w M E v r:=by
 unfold RU at hp
 split at hp
 ·split at hp
  ·rename_i l r' hd;injection hp with hp;subst hp;obtain⟨rfl,hl⟩:=YP hd;obtain⟨b,o',hv,hb,hM,vs,h1,h2⟩:=RL hr;refine⟨_,ho _ _ hv,Qs0 hb hM (h1.drop off) λj v hj=>?_⟩;rw[Xi]at hj;rw[Vg];exact h2 _ _ hj
  ·cases hp
 ·split at hp
  ·rename_i s hs1;injection hp with hp;subst hp;obtain rfl:=yP hs1;obtain⟨g,c,m,he,hv⟩:=hr;exact⟨_,ho _ _ hv,g,c,m,he,rfl⟩
  ·cases hp
 ·split at hp
  ·rename_i s hs1;injection hp with hp;subst hp;obtain rfl:=yP hs1;obtain⟨g,c,m,he,hv⟩:=hr;exact⟨_,ho _ _ hv,g,c,m,he,by rw[Vg]⟩
  ·cases hp
 ·cases hp
theorem eJ{S f off:Nat}{x:Operand}{u r:TV}(ho:o.op=.fieldAddr S x f)(hrun:∀b o w,(Instr.fieldAt S (.pointer (some ⟨b,o,none⟩)) f).run P w=.ok (.pointer (some ⟨b,o+off,none⟩)) w)(hr:TRep w M E (e x) u)(hp:RU off u=some r) :
 ∃v,(execOp e o).run P w=.ok (.value v) w/\TRep w M E v r:=NP (λ_ _ hv=>nS ho hv hrun) hr hp
theorem KJ{g:Nat}{cs:List Value}{T:TypeId}(hg:w.heap[g]? = some (.cells cs.toArray T (0,0)))(j:Nat):w.cell? ⟨g,j,none⟩=cs[j]? := by simp[World.cell?,hg]
theorem RA{vs:List Value}{off m j:Nat}{v:Value}(h:((vs.drop off).take m)[j]? = some v):vs[off+j]? = some v:=by
 rw[Jv]at h
 split at h
 ·rwa[Xi]at h
 ·cases h
theorem SA.elem(h:SA F n L B E M a w){i sz:Nat}{fx:Bool}{T:TypeId}{ls:Fz}(hb:Ou B i=some (.row fx T sz ls)){k:Nat}{xs:Fy}(hk:ls[k]? = some xs){g c m:Nat}(he:E i=some (some (g,c),m)) :
 ∃vs:List Value,F2 (LRep w M) vs xs/\xs.length=sz/\∀j v,vs[j]? = some v->w.cell? ⟨g,k*sz+j,none⟩=some v:=by
 obtain⟨h0,h1,q',e',h2⟩:=h.blk hb;rw[he]at e';injection e' with e';injection e' with e1 e2;subst e1
 obtain⟨vss,ex,h3,h4,h5⟩:=h2;obtain⟨vs,h6,h7⟩:=h3.get hk;have hall:∀c∈vss,c.length=sz:=λc hc=>by
  obtain⟨j,hj⟩:=Zp.1 hc;have hl:j<ls.length:=by rw[<-h3.len];exact(Qd.1 hj).1
  rw[(h3.get' hj (Qg hl)).len];exact h1 _ (Jf hl)
 refine⟨vs,h7,h1 _ (Qa hk),λj v hj=>?_⟩;have hjs:j<sz:=by rw[<-hall _ (Qa h6)];exact(Qd.1 hj).1
 have e3:vss.flatten[k*sz+j]? = some v:=by rw[GE hall hjs,h6];exact hj
 rw[KJ h4,Q3 (Qd.1 e3).1,e3]
theorem Qew(h:SA F n L B E M a w){ti:TI P}{x:Operand}{u:TV}(ho:o.op=.load ti.t x)(hr:TRep w M E (a.eval x) u)(hp:eV B ti hs u=some (t,h',q,ob))(hq:EqOk q) :
 ∃r,(execOp a.eval o).run P w=.ok (.value r) w/\TRep w M E r t:=by
 unfold eV at hp
 split at hp
 ·split at hp
  ·rename_i l r' hd
   split at hp
   ·rename_i t' ht;obtain⟨rfl,rfl,rfl,rfl⟩:=Re hp;obtain⟨rfl,hl⟩:=TZ hd;obtain⟨b,o',hv,hb,hM,vs,h1,h2⟩:=RL hr;obtain⟨v,hv2,hv3⟩:=Ek (E:=E) ht (h1.x.take ti.sz);have hl2:=h1.len;refine⟨v,aI ho hv ti.hag ti.hsz (vs:=vs.take ti.sz) (by simp;omega) (λj v hj=>?_) hv2,hv3⟩;rw[Jv]at hj
    split at hj
    ·exact h2 _ _ hj
    ·cases hj
   ·cases hp
  ·cases hp
 ·split at hp
  ·rename_i i o' _ T xs hb
   split at hp
   ·rename_i r' hd
    split at hp
    ·rename_i t' ht;obtain⟨rfl,rfl,rfl,rfl⟩:=Re hp;obtain⟨rfl,hl⟩:=WV hd;obtain⟨g,c,m,he,hv⟩:=hr;obtain⟨g',c',m',he',cs,hg,hc⟩:=h.blk hb;rw[he]at he';injection he' with he';injection he' with e1 e2;injection e1 with e1;injection e1 with e1 e3;subst e1
     obtain⟨v,hv2,hv3⟩:=Ek ht ((hc.drop o').take ti.sz);have hl2:=hc.len;refine⟨v,aI ho hv ti.hag ti.hsz (vs:=(cs.drop o').take ti.sz) (by simp;omega) (λj v hj=>?_) hv2,hv3⟩;rw[KJ hg];exact RA hj
    ·cases hp
   ·cases hp
  ·cases hp
 ·split at hp
  ·rename_i i sz k o' _ fx T sz' ls hb
   split at hp
   ·rename_i hsz;have hsz:=Qu hsz;subst hsz
    split at hp
    ·rename_i l' k' xs hk hs2
     split at hp
     ·rename_i r' hd
      split at hp
      ·rename_i t' ht;obtain⟨rfl,rfl,rfl,rfl⟩:=Re hp;have e1:=hq.hd;injection e1 with e1;subst e1;have e2:=hq.tl.hd;injection e2 with e2;subst e2;obtain⟨rfl,hl⟩:=WV hd;obtain⟨g,c,m,he,hv⟩:=hr;obtain⟨vs,h1,h2,h3⟩:=h.elem hb hk he;obtain⟨v,hv2,hv3⟩:=Ek (E:=E) ht ((h1.x.drop o').take ti.sz);have hl2:=h1.len;refine⟨v,aI ho hv ti.hag ti.hsz (vs:=(vs.drop o').take ti.sz) (by simp;omega) (λj v hj=>?_) hv2,hv3⟩;rw[Vg];exact h3 _ _ (RA hj)
      ·cases hp
     ·cases hp
    ·cases hp
   ·cases hp
  ·cases hp
 ·cases hp
theorem Qk9(h:SA F n L B E M a w){v:Value}{u:TV}{m:Nat}(hr:TRep w M E v u)(hp:Qk8 B u=some m):∃A c,v=.slice A m c:=by
 unfold Qk8 at hp
 split at hp
 ·injection hp with hp;subst hp;obtain⟨A,c,hv,_⟩:=MV hr;exact⟨A,c,hv⟩
 ·injection hp with hp;subst hp;have hr:LRep w M v .nils:=hr;cases hr;exact⟨_,_,rfl⟩
 ·split at hp
  ·rename_i lo len hrow;injection hp with hp;subst hp;obtain⟨m',qe,he,hml,hv⟩:=h.orow hrow hr;rcases qe with _|⟨g,c⟩
   ·obtain⟨rfl,_,rfl⟩:=hv;exact⟨_,_,rfl⟩
   ·obtain⟨_,a0,rfl,_⟩:=hv;exact⟨_,_,rfl⟩
  ·cases hp
 ·cases hp
end
end Orr
namespace Orr
open Go
variable{P:Program}{w:World}{M:Nat->Prop}{E:Lf}{e:Operand->Value}{o:Oper}{hs h':List (H P)}{q:Li}{ob:List Prop}{t:TV}
theorem zO(off:Nat):∀(vs:List Value) (k:Nat) (cells:List Value),off+k+vs.length<=cells.length ->
 (vs.zipIdx k).foldl (λ(cs:Array Value) (p:Value×Nat)=>cs.setIfInBounds (off+p.2) p.1) cells.toArray=(upd cells (off+k) vs).toArray
 | [],k,cells,_=>by cases cells <;> simp[upd]
 |
  v::vs,k,cells,h=>by
  simp at h;have ih:=zO off vs (k+1) (cells.set (off+k) v) (by simp;omega);simp only[List.zipIdx_cons,Z0,List.setIfInBounds_toArray];rw[nW cells (off+k) v vs (by omega)];exact ih
abbrev Qzl(w:World)(M:Nat->Prop)(E:Lf)(p:Nat×Value)(q:Nat×TV):Prop:=p.1=q.1/\TRep w M E p.2 q.2
theorem CZ{place:Nat->Option (Nat×Nat)}:∀{us:List (Nat×TV)} {vs:List (Nat×Value)} {cells:List Value} {xs r:Fy},ED place xs us=some r->F2 (XRep w M E) cells xs->F2 (Qzl w M E) vs us ->
 ∃cells',Instr.fill place cells.toArray vs=some (List.toArray cells')/\F2 (XRep w M E) cells' r
 |_,_,cells,xs,r,h,hx,.nil=>by simp[ED]at h;subst h;exact⟨cells,rfl,hx⟩
 |
  (i,u)::us,(i',v)::vs,cells,xs,r,h,hx,.cons ⟨e1,h1⟩ hr=>by
  have e1:i'=i:=e1;subst e1;simp only[ED]at h
  split at h
  ·cases h
  ·rename_i off size hp
   split at h
   ·cases h
   ·rename_i ys hy
    split at h
    ·cases h
    ·rename_i hsz;have hsz:=Qu hsz
     split at h
     ·cases h
     ·rename_i q hq;obtain⟨rfl,hle⟩:=JG hq;have hc:=XI h1 hy;have hcl:=hc.len;have hxl:=hx.len;obtain⟨cells',h2,h3⟩:=CZ h (hx.upd off hc) hr;refine⟨cells',?_,h3⟩;simp only[Instr.fill,hp];have hcl':v.cells.size=size:=by rw[<-hsz,<-hcl];simp
      have hf:=zO off v.cells.toList 0 cells (by rw[hcl];omega);have ec:¬(v.cells.size≠size || decide (off+v.cells.size>cells.toArray.size))=true:=by
       simp only[ne_eq,Vp,decide_eq_true_eq,not_or,Ur];omega
      rw[if_neg (by simpa using ec)];rw[<-h2];congr 1;rw[Jh]at hf;rw[<-hf,<-Array.foldl_toList];congr 1;simp
theorem Qrr{T:TypeId}{ps:Array (Nat×Operand)}{cs:Array Value}(ho:o.op=.build T ps)(hrun:∀w,(Instr.build T (ps.toList.map λp=>(p.1,e p.2)).toArray).run P w=.ok (.agg cs) w):(execOp e o).run P w=.ok (.value (.agg cs)) w:=by
 have e1:(ps.map λx=>match x with|(i,x)=>(i,e x))=(ps.toList.map λp=>(p.1,e p.2)).toArray:=by
  cases ps;simp
 simp only[execOp,ho];rw[e1,Sem.run_bind,hrun];rfl
theorem wY:∀{us:Gb} {xs:Fy} {vs:List Value},ones us=some xs->F2 (TRep w M E) vs us->F2 (XRep w M E) vs xs
 |
  [],xs,vs,h,hr=>by
  simp[ones]at h;subst h;cases hr;exact .nil
 |
  u::us,xs,_,h,.cons h0 hr=>by
  cases u with
  |
   one x =>
   simp only[ones]at h
   split at h
   ·rename_i r hr';injection h with h;subst h;exact .cons h0 (wY hr' hr)
   ·cases h
  |agg xs=>cases h
theorem ZX:∀{xs:Fy} {vs:List Value},Eg xs=true->F2 (XRep w M E) vs xs->F2 (LRep w M) vs xs
 | [],_,_,.nil=>.nil
 |
  x::xs,_,h,.cons h0 hr=>by
  simp only[Eg]at h
  split at h
  ·rename_i hx;exact .cons (h0.free hx) (ZX h hr)
  ·cases h
theorem CG:∀{xs:Fy} {vs:List Value},lY xs=true->F2 (XRep w M E) vs xs->F2 (YRep w M E) vs xs
 | [],_,_,.nil=>.nil
 |
  x::xs,_,h,.cons h0 hr=>by
  cases x
  case ow i off=>exact .cons h0 (CG (by simpa[lY]using h) hr)
  all_goals
   simp only[lY]at h
   split at h
   ·rename_i hx;exact .cons (h0.free hx) (CG h hr)
   ·cases h
theorem Qwf{t E:TypeId}{x:Operand}{v:Value}(ho:o.op=.makeInterface t x)(hx:e x=v)(hu:∀w,(underlying t).run P w=.ok (.pointer E) w):(execOp e o).run P w=.ok (.value (.iface t v)) w:=by
 simp[execOp,ho,hx,Instr.makeInterface,hu]
theorem Qm7{f:Nat}{pre post:Array Operand}(ho:o.op=.makeFunc (.func f) pre post):(execOp e o).run P w=.ok (.value (.func (.func f) (pre.toList.map e).toArray (post.toList.map e).toArray)) w:=by
 have h1:pre.map e=(pre.toList.map e).toArray:=by cases pre;simp
 have h2:post.map e=(post.toList.map e).toArray:=by cases post;simp
 simp only[execOp,ho,h1,h2];rfl
theorem Qyy{xs:Array Operand}{ts:Array TypeId}{k:IntKind}{p:Int}{us:Gb}(mx:Bool)(ho:o.op=.call { callee:=.builtin (if mx=true then .max else .min),args:=xs,argTypes:=ts })(hr:F2 (TRep w M E) (xs.toList.map e) us)(hm:mmL mx us=some (k,p)) :
 (execOp e o).run P w=.ok (.value (.int k p)) w:=by
 unfold mmL at hm
 split at hm
 ·injection hm with hm;injection hm with h1 h2;subst h1;subst h2;cases xs with|mk l=>match l,hr with
   |
    [x],.cons h0 .nil =>
    have h0:=Tj h0;cases mx <;> simp[execOp,ho,resolve,invoke,builtin,Builtin.max_,Builtin.min_,h0]
 ·rename_i k1 p1 k2 q1
  split at hm
  ·rename_i hk;obtain rfl:=of_decide_eq_true hk;cases xs with|mk l=>match l,hr with
    |
     [x,y],.cons h0 (.cons h1 .nil) =>
     have h0:=Tj h0;have h1:=Tj h1;cases mx
     ·injection hm with hm;injection hm with e1 e2;subst e1;subst e2;simp[execOp,ho,resolve,invoke,builtin,Builtin.min_,Builtin.min2,h0,h1];omega
     ·injection hm with hm;injection hm with e1 e2;subst e1;subst e2;simp[execOp,ho,resolve,invoke,builtin,Builtin.max_,Builtin.max2,h0,h1];omega
  ·cases hm
 ·rename_i k1 p1 k2 q1 k3 r1
  split at hm
  ·rename_i h2 h3;obtain rfl:=of_decide_eq_true h2;obtain rfl:=of_decide_eq_true h3;cases xs with|mk l=>match l,hr with
    |
     [x,y,z],.cons h0 (.cons h1 (.cons h2 .nil)) =>
     have h0:=Tj h0;have h1:=Tj h1;have h2:=Tj h2;injection hm with hm;injection hm with e1 e2;subst e1;subst e2;simp[execOp,ho,resolve,invoke,builtin,Builtin.max_,Builtin.max2,h0,h1,h2];omega
  ·cases hm
 ·cases hm
theorem Qx7{T:TT P}{L:Sg}{B:Ga}{op:Op}(hp:pv T L B hs op=some (t,h',q,ob))(hq:EqOk q)(hob:Ge ob):PV P op t L B:=by
 intro F n E M a w h o ho;unfold pv at hp
 split at hp
 ·split at hp
  ·rename_i u hu;obtain⟨rfl,rfl,rfl,rfl⟩:=Re hp;exact⟨_,aO (.inl ho) rfl,h.evT hu⟩
  ·cases hp
 ·split at hp
  ·rename_i u hu;obtain⟨rfl,rfl,rfl,rfl⟩:=Re hp;exact⟨_,aO (.inr ho) rfl,h.evT hu⟩
  ·cases hp
 ·split at hp
  ·rename_i i o' hu;obtain⟨rfl,rfl,rfl,rfl⟩:=Re hp;have hr:=h.evT hu;obtain⟨g,c,m,he,hv⟩:=hr;exact⟨_,Qnc ho hv,g,c,m,he,rfl⟩
  ·rename_i l hu;obtain⟨rfl,rfl,rfl,rfl⟩:=Re hp;have hr:=h.evT hu;obtain⟨b,o',hv,_⟩:=RL hr;exact⟨_,Qnc ho hv,hv ▸ hr⟩
  ·rename_i i sz k o' hu;obtain⟨rfl,rfl,rfl,rfl⟩:=Re hp;have hr:=h.evT hu;obtain⟨g,c,m,he,hv⟩:=hr;exact⟨_,Qnc ho hv,g,c,m,he,rfl⟩
  ·cases hp
 ·split at hp
  ·rename_i l hu
   split at hp
   ·rename_i t' hl;obtain⟨rfl,rfl,rfl,rfl⟩:=Re hp;obtain⟨vs,hv,hr⟩:=h.ev hu;obtain⟨v,h1,h2⟩:=hr.get hl;exact⟨v,Qfp ho hv h1,h2⟩
   ·cases hp
  ·cases hp
 ·rename_i c x y
  split at hp
  ·rename_i b hb;have hc:=Lb (h.evT hb)
   split at hp
   ·rename_i b' p q' hx hy;obtain⟨rfl,rfl,rfl,rfl⟩:=Re hp;have e1:=hq.hd;injection e1 with e1;injection e1 with e1;injection e1 with e1;subst e1;refine⟨_,iQ ho hc,?_⟩;have h1:=h.ev hx;have h2:=h.ev hy;cases b
    ·exact h2
    ·exact h1.1 rfl
   ·rename_i p b' q' hx hy;obtain⟨rfl,rfl,rfl,rfl⟩:=Re hp;have e1:=hq.hd;injection e1 with e1;injection e1 with e1;injection e1 with e1;subst e1;refine⟨_,iQ ho hc,?_⟩;have h1:=h.ev hx;have h2:=h.ev hy;cases b
    ·exact h2.1 rfl
    ·exact h1
   ·rename_i p q' hx hy;obtain⟨rfl,rfl,rfl,rfl⟩:=Re hp;refine⟨_,iQ ho hc,?_⟩;have h1:=h.ev hx;have h2:=h.ev hy;cases b
    ·exact h2
    ·exact h1
   ·cases hp
  ·cases hp
 ·split at hp
  ·rename_i ti ht;have ht:=TT.find_t ht;subst ht
   split at hp
   ·rename_i off hoff
    split at hp
    ·rename_i t' hx
     split at hp
     ·rename_i u hu;obtain⟨rfl,rfl,rfl,rfl⟩:=Re hp;exact eJ ho (ti.hfo _ _ hoff) (h.evT hx) hu
     ·cases hp
    ·cases hp
   ·cases hp
  ·cases hp
 ·split at hp
  ·rename_i ti ht;have ht:=TT.find_t ht;subst ht
   split at hp
   ·rename_i u hx;exact Qew h ho (h.evT hx) hp hq
   ·cases hp
  ·cases hp
 ·split at hp
  ·rename_i ti ht;have ht:=TT.find_t ht;subst ht
   split at hp
   ·rename_i off m ag hfv
    split at hp
    ·rename_i xs hx
     split at hp
     ·rename_i r hr
      split at hp
      ·rename_i u hu;obtain⟨rfl,rfl,rfl,rfl⟩:=Re hp;obtain⟨rfl,hle⟩:=WV hr;obtain⟨vs,hv,hreps⟩:=h.evT hx;have hl:=hreps.len;obtain⟨v,hv2,hv3⟩:=Ek hu ((hreps.drop off).take m);refine⟨v,Qrt ho hv (ti.hfv _ _ _ _ hfv vs v ?_ (by omega)),hv3⟩;cases ag with
       |true=>exact hv2
       |
        false =>
        have hv2:(vs.drop off).take m=[v]:=hv2;have:((vs.drop off).take m)[0]? = some v:=by rw[hv2];rfl
        exact RA this
      ·cases hp
     ·cases hp
    ·cases hp
   ·cases hp
  ·cases hp
 ·split at hp
  ·rename_i ti ht;have ht:=TT.find_t ht;subst ht
   split at hp
   ·rename_i z pl hbl
    split at hp
    ·rename_i zs hz
     split at hp
     ·rename_i us hus
      split at hp
      ·rename_i r hr;obtain⟨rfl,rfl,rfl,rfl⟩:=Re hp;obtain⟨cells,h4,h5⟩:=CZ hr (CW (w:=w) (M:=M) hz).x (h.evTp hus);exact⟨_,Qrr ho (ti.hbl z pl hbl h4),cells,rfl,h5⟩
      ·cases hp
     ·cases hp
    ·cases hp
   ·cases hp
  ·cases hp
 ·split at hp
  ·rename_i b hx;obtain⟨rfl,rfl,rfl,rfl⟩:=Re hp;exact⟨_,Qy2 ho (Lb (h.evT hx)),LRep.bool _⟩
  ·cases hp
 ·split at hp
  ·rename_i kd p hx;obtain⟨rfl,rfl,h3⟩:=EA hp hob;exact⟨_,Qy1 ho (Tj (h.evT hx)),LRep.int _ _⟩
  ·cases hp
 ·split at hp
  ·rename_i ti ht;have ht:=TT.find_t ht;subst ht
   split at hp
   ·rename_i u v hu hv;exact Qk7 ho hp hq hob (h.evT hu) (h.evT hv)
   ·cases hp
  ·cases hp
 ·split at hp
  ·rename_i ti tj ht ht';have ht:=TT.find_t ht;subst ht;have ht':=TT.find_t ht';subst ht'
   split at hp
   ·rename_i kd kd' hu hu'
    split at hp
    ·rename_i kd2 p hx
     split at hp
     ·rename_i hk;obtain rfl:=of_decide_eq_true hk;obtain⟨rfl,rfl,h3⟩:=EA hp hob;exact⟨_,Qwc ho (Tj (h.evT hx)) (TI.hu' hu) (TI.hu' hu'),LRep.int _ _⟩
     ·cases hp
    ·cases hp
   ·cases hp
  ·cases hp
 ·split at hp
  ·rename_i ti ht;have ht:=TT.find_t ht;subst ht
   split at hp
   ·rename_i hu
    split at hp
    ·rename_i s kd z hx hy
     split at hp
     ·rename_i s' i v hv h2;obtain⟨rfl,rfl,rfl,rfl⟩:=Re hp;have e1:=hq.hd;injection e1 with e1;injection e1 with e1;injection e1 with e1;subst e1;have e2:=hq.tl.hd;injection e2 with e2;subst e2;have key:∀v:Value,LRep w M v (.str s)->v=.string s:=λv h3=>by cases h3;rfl
      exact⟨_,Qwa ho (key _ (h.evT hx)) (Tj (h.evT hy)) (TI.hu' hu) hv,LRep.int _ _⟩
     ·cases hp
    ·cases hp
   ·rename_i m E' hu
    split at hp
    ·rename_i te hte;have hte:=TT.find_t hte;subst hte
     split at hp
     ·rename_i xs kd z hx hy
      split at hp
      ·rename_i k h2
       split at hp
       ·rename_i hlt;rw[Jp]at hlt
        split at hp
        ·rename_i r hr'
         split at hp
         ·rename_i u hb;obtain⟨rfl,rfl,rfl,rfl⟩:=Re hp;have e2:=hq.hd;injection e2 with e2;subst e2;obtain⟨rfl,hl⟩:=WV hr';obtain⟨vs,hv,hvs⟩:=h.evT hx;have hvl:=hvs.len;obtain⟨v,hv2,hv3⟩:=Ek hb ((hvs.drop (k*te.sz)).take te.sz);refine⟨v,Qna ho hv (Tj (h.evT hy)) (TI.hu' hu) te.hsz te.hag hlt ?_,hv3⟩;by_cases hag:te.ag=true
          ·rw[if_pos hag]at hv2 ⊢;exact hv2
          ·rw[if_neg hag]at hv2 ⊢;have e0:((vs.drop (k*te.sz)).take te.sz)[0]? = some v:=by rw[hv2];rfl
           have:=RA e0;simpa using this
         ·cases hp
        ·cases hp
       ·cases hp
      ·cases hp
     ·cases hp
    ·cases hp
   ·cases hp
  ·cases hp
 ·split at hp
  ·rename_i ti ht;have ht:=TT.find_t ht;subst ht
   split at hp
   ·rename_i E' hu
    split at hp
    ·rename_i te hte;have hte:=TT.find_t hte;subst hte
     split at hp
     ·rename_i u hx;exact eK h ho (TI.hu' hu) hx hp hq hob
     ·cases hp
    ·cases hp
   ·cases hp
  ·cases hp
 ·split at hp
  ·rename_i ti ht;have ht:=TT.find_t ht;subst ht
   split at hp
   ·rename_i E' hu
    split at hp
    ·rename_i te hte;have hte:=TT.find_t hte;subst hte
     split at hp
     ·rename_i xs kd p kd' q hx hy hz;obtain⟨A,c,hv,hc⟩:=MV (h.evT hx)
      split at hp
      ·rename_i k _;obtain⟨rfl,rfl,rfl,rfl⟩:=Re hp;have e1:=hq.hd;injection e1 with e1;subst e1;have e2:=hq.tl.hd;injection e2 with e2;subst e2;have hk:k<=xs.length:=hob;have key:=mG (sz:=te.sz) hk (h.evT hx) hv;have hl:(xs.take k).length=k:=by rw[Qz];omega
       have k2:LRep w M (.slice (if k=0 then A else A.map (·.add (0*te.sz))) k k) (.frow (xs.take k)):=by
        have:=LRep.frow (w:=w) (M:=M) (if k=0 then A else A.map (·.add (0*te.sz))) (xs.take k) (by rw[hl];exact key);rwa[hl]at this
       exact⟨_,nP ho hv (Tj (h.evT hy)) (Tj (h.evT hz)) (Qe hk hc) (TI.hu' hu) te.hsz,k2⟩
      ·obtain⟨rfl,rfl,rfl,rfl⟩:=Re hp;have e1:=hq.hd;injection e1 with e1;subst e1;have e2:=hq.tl.hd;injection e2 with e2;subst e2;have key:=mG (sz:=te.sz) (Qn _) (h.evT hx) hv;rw[Za]at key;exact⟨_,nP ho hv (Tj (h.evT hy)) (Tj (h.evT hz)) hc (TI.hu' hu) te.hsz,key⟩
     ·cases hp
    ·cases hp
   ·cases hp
  ·cases hp
 ·split at hp
  ·rename_i ti ht;have ht:=TT.find_t ht;subst ht
   split at hp
   ·rename_i E' hu
    split at hp
    ·rename_i te hte;have hte:=TT.find_t hte;subst hte
     split at hp
     ·rename_i u v hx hy;exact eY h ho (TI.hu' hu) hx hy hp hq hob
     ·cases hp
    ·cases hp
   ·rename_i m E' hu
    split at hp
    ·rename_i te hte;have hte:=TT.find_t hte;subst hte
     split at hp
     ·rename_i u kd z hx hy
      split at hp
      ·rename_i k h2
       split at hp
       ·rename_i hlt;rw[Jp]at hlt
        split at hp
        ·rename_i r hr';obtain⟨rfl,rfl,rfl,rfl⟩:=Re hp;have e2:=hq.hd;injection e2 with e2;subst e2;exact NP (λ_ _ hv=>Qm9 ho hv (Tj (h.evT hy)) (TI.hu' hu) te.hsz hlt) (h.evT hx) hr'
        ·cases hp
       ·cases hp
      ·cases hp
     ·cases hp
    ·cases hp
   ·cases hp
  ·cases hp
 ·split at hp
  ·rename_i us hus
   split at hp
   ·rename_i ys hys
    split at hp
    ·rename_i xs hxs
     split at hp
     ·rename_i zs hzs;have h1:=wY hxs (h.evTs hus);have h2:=wY hzs (h.evTs hys)
      split at hp
      ·rename_i hf;simp only[Zn]at hf;obtain⟨rfl,rfl,rfl,rfl⟩:=Re hp;have h1:=ZX hf.1 h1;have h2:=ZX hf.2 h2;exact⟨_,Qm7 ho,LRep.fn _ _ _ _ _ h1.len h2.len (λ_ _ _ ha hb=>h1.get' ha hb) λ_ _ _ ha hb=>h2.get' ha hb⟩
      ·split at hp
       ·rename_i hf;simp only[Zn]at hf;obtain⟨rfl,rfl,rfl,rfl⟩:=Re hp;exact⟨_,Qm7 ho,_,_,rfl,CG hf.1 h1,CG hf.2 h2⟩
       ·cases hp
     ·cases hp
    ·cases hp
   ·cases hp
  ·cases hp
 ·split at hp
  ·rename_i ti ht;have ht:=TT.find_t ht;subst ht
   split at hp
   ·rename_i d hd
    split at hp
    ·rename_i i ys hx hy
     split at hp
     ·rename_i es ks hb hks
      split at hp
      ·rename_i hk;have hk:=Qu hk;obtain⟨KT,ET,hM⟩:=ti.hmd d hd;obtain⟨hl,g,c,m,he,ents,ck,hg,hen⟩:=h.blk hb;obtain⟨g',c',m',he',hv⟩:=h.evT hx;rw[he]at he';injection he' with he';injection he' with e1 _;injection e1 with e1;injection e1 with e1 _;subst e1
       have hky:=KR hks (h.evT hy);have hrun:=eO hM hk (ents:=ents.toList) hl hen (by simpa using hg);have hex:(execOp a.eval o).run P w=.ok (.value (BU ((WM es ks).getD d))) w:=by
        simp only[execOp,ho,hv,hky];rw[show(Value.agg (ks.map (Value.int .i64)).toArray)=Iw ks from rfl];simp[hrun]
       split at hp
       ·obtain⟨rfl,rfl,rfl,rfl⟩:=Re hp;have hob:Qwo es:=hob;have e2:(WM es ks).getD (.int .i64 (.ofNat 0))=.int .i64 (Quo es ks):=hob ks;rw[e2]at hex;exact⟨_,hex,LRep.int _ _⟩
       ·obtain⟨rfl,rfl,rfl,rfl⟩:=Re hp;have hob:Qrz es:=hob;rw[hob ks]at hex;exact⟨_,hex,LRep.bool _⟩
       ·cases hp
      ·cases hp
     ·cases hp
    ·cases hp
   ·cases hp
  ·cases hp
 ·split at hp
  ·rename_i ti ht;have ht:=TT.find_t ht
   split at hp
   ·rename_i E' hu
    split at hp
    ·rename_i i' o' hx;obtain⟨rfl,rfl,rfl,rfl⟩:=Re hp;obtain⟨g,c,m,he,hv⟩:=(show XRep w M E (a.eval _) (.ow i' o') from h.evT hx);exact⟨_,Qwf ho rfl (by rw[<-ht];exact TI.hu' hu),g,c,m,he,by rw[hv]⟩
    ·cases hp
   ·cases hp
  ·cases hp
 ·rename_i xs ts
  split at hp
  ·rename_i x hxs
   split at hp
   ·rename_i tt htt
    split at hp
    ·rename_i ti ht;have ht:=TT.find_t ht;subst ht
     split at hp
     ·rename_i E' hu
      split at hp
      ·rename_i u hx
       split at hp
       ·rename_i m hm;obtain⟨rfl,rfl,rfl,rfl⟩:=Re hp;obtain⟨A,c,hv⟩:=Qk9 h (h.evT hx) hm;have e1:xs = #[x]:=by cases xs;simpa using hxs
        subst e1;exact⟨_,Qyx ho htt hv (TI.hu' hu),LRep.int _ _⟩
       ·cases hp
      ·cases hp
     ·cases hp
    ·cases hp
   ·cases hp
  ·cases hp
 ·split at hp
  ·rename_i us hus
   split at hp
   ·rename_i k p hm;obtain⟨rfl,rfl,rfl,rfl⟩:=Re hp;exact⟨_,Qyy true ho (h.evTs hus) hm,LRep.int _ _⟩
   ·cases hp
  ·cases hp
 ·split at hp
  ·rename_i us hus
   split at hp
   ·rename_i k p hm;obtain⟨rfl,rfl,rfl,rfl⟩:=Re hp;exact⟨_,Qyy false ho (h.evTs hus) hm,LRep.int _ _⟩
   ·cases hp
  ·cases hp
 ·cases hp
end Orr
namespace Orr
open Go
variable{P:Program}{arr:Array Oper}{n:Nat}{o:Oper}{N:Sg->Ga->Prop}{L:Sg}{B:Ga}{F:Fr}{E:Lf}{M:Nat->Prop}{a:Act}{w:World}
def aT(P:Program)(arr:Array Oper)(o:Oper)(a:Act)(w:World)(K:Act->World->Prop)(Q:Exit->Act->World->Prop):Prop :=
 if Region.wanted o (yielded arr a.tmps)then o.wp P a w K Q\/(o.asks P a w/\LetsOut Q)else K (a.put o.dst undef) w
def W1(P:Program)(arr:Array Oper)(n:Nat)(o:Oper)(N:Sg->Ga->Prop)(L:Sg)(B:Ga):Prop :=
 ∀(F:Fr) (E:Lf) (M:Nat->Prop) (a:Act) (w:World) (K:Act->World->Prop) (Q:Exit->Act->World->Prop),SA F n L B E M a w ->
  (∀(a':Act) (w':World) (L':Sg) (B':Ga) (E':Lf) (M':Nat->Prop),SA F n L' B' E' M' a' w'->N L' B'->K a' w')->aT P arr o a w K Q
section
variable{K:Act->World->Prop}{Q:Exit->Act->World->Prop}{w':World}
theorem Ce{v:Value}(hg:o.guard=none)(hr:(execOp a.eval o).run P w=.ok (.value v) w')(k:K (a.put o.dst v) w'):aT P arr o a w K Q:=by
 unfold aT;rw[if_pos (by simp[Region.wanted,hg])];refine .inl ?_;unfold Oper.wp;rw[hr];exact k
theorem OS(hg:o.guard=none)(hd:o.dst=none)(hr:(execOp a.eval o).run P w=.ok .skip w')(k:K a w'):aT P arr o a w K Q:=by
 unfold aT;rw[if_pos (by simp[Region.wanted,hg])];refine .inl ?_;unfold Oper.wp;rw[hr];simp only[Oper.upon,hd];exact k
end
theorem SA.put(h:SA F n L B E M a w){d:Nat}{v:Value}{u:AV}(hd:Nat.blt d n=true)(hv:ARep w M E v u):SA F n ((d,u)::L) B E M (a.put (some d) v) w:=by
 have hd':d<n:=by rwa[Jp]at hd
 refine⟨h.hs,by simp[Act.put,h.size],h.defers,λt x hx=>?_⟩;simp only[lk]at hx;simp only[Act.put]
 split at hx
 ·rename_i e;have e:t=d:=Qu e;subst e;injection hx with hx;subst hx;exact⟨v,by simp[h.size,hd'],hv⟩
 ·rename_i e;have e:t≠d:=Kc e;rw[Array.getElem?_setIfInBounds_ne (by omega)];exact h.slots t x hx
theorem W1.val{d:Nat}{t:TV}(hp:PV P o.op t L B)(hg:o.guard=none)(hd:o.dst=some d)(hdn:Nat.blt d n=true)(k:N ((d,.v t)::L) B):W1 P arr n o N L B:=by
 intro F E M a w K Q h hK;obtain⟨v,hr,hv⟩:=hp F n E M a w h o rfl;exact Ce hg hr (hd ▸ hK _ _ _ _ _ _ (h.put (u:=.v t) hdn hv) k)
def gd(want b:Bool):Bool:=match want with
 |true=>b
 |false => !b
theorem W1.cnd{d j t':Nat}{b want:Bool}{t:TV}(hg:o.guard=some (j,want))(hj:(arr[j]?).bind (·.dst)=some t')(hb:lk L t'=some (.v (.one (.bool b))))(hp:b=want->PV P o.op t L B)(hd:o.dst=some d)(hdn:Nat.blt d n=true)(k:N ((d,.cnd (gd want b) t)::L) B):W1 P arr n o N L B:=by
 intro F E M a w K Q h hK;obtain⟨vb,hs,hvb⟩:=h.slots t' _ hb;have hvb:=Lb (E:=E) hvb;subst hvb;have hw:Region.wanted o (yielded arr a.tmps)=(b == want):=by
  simp[Region.wanted,yielded,hg,hj,hs]
 have hgd:gd want b=true->b=want:=by cases want <;> cases b <;> simp[gd]
 unfold aT;rw[hw];by_cases e:b=want
 ·rw[if_pos (by simp[e])];obtain⟨v,hr,hv⟩:=hp e F n E M a w h o rfl;refine .inl ?_;unfold Oper.wp;rw[hr];simp only[Oper.upon,hd];exact hK _ _ _ _ _ _ (h.put hdn (show ARep w M E v (.cnd _ t) from⟨λ_=>hv,λhf=>by subst e;cases b <;> cases hf⟩)) k
 ·rw[if_neg (by simp[e]),hd];exact hK _ _ _ _ _ _ (h.put hdn (show ARep w M E undef (.cnd _ t) from⟨λhb=>absurd (hgd hb) e,λ_=>rfl⟩)) k
theorem SA.mem{B':Ga}{E':Lf}{M':Nat->Prop}{w':World}(h:SA F n L B E M a w)(hs:HS F (ob B') (nw B') E' M' w')(hle:Le w M w' M')(hE:∀i,E i≠none->E' i=E i):SA F n L B' E' M' a w' :=
 ⟨hs,h.size,h.defers,λt x hx=>by
  obtain⟨v,h1,h2⟩:=h.slots t x hx;exact⟨v,h1,h2.keep hle λi _=>hE i⟩⟩
theorem Qp5{B:Ga}{b:OB}:nw (B++[b])=λi=>nw B i/\i≠B.length:=by
 funext i;simp only[nw,Q6,X5];exact propext ⟨λh=>⟨by omega,by omega⟩,λ⟨h1,h2⟩=>by omega⟩
theorem Sx{B:Ga}{i:Nat}(h:B.length<=i):ob B i=.gone:=by simp[ob,h]
theorem SA.fresh{w':World}(h:SA F n L B E M a w)(hg:Grow w w'){m:Nat}{b:OB}{q:Option (Nat×Nat)}(hq:∀g c,q=some (g,c)->w.heap.size<=g/\g<w'.heap.size)
 (hb:Le w M w' (λb=>M b\/(∃c,q=some (b,c)))->(∀i,E i≠none->L6 E B.length (some (q,m)) i=E i)->OBRep w' (λb=>M b\/(∃c,q=some (b,c))) (L6 E B.length (some (q,m))) B.length b) :
 SA F n L (B++[b]) (L6 E B.length (some (q,m))) (λb=>M b\/(∃c,q=some (b,c))) a w':=by
 have hu:=h.hs.un B.length (Qn _);have hE:∀i,E i≠none->L6 E B.length (some (q,m)) i=E i:=λi hi=>H6 _ _ λe=>hi (e ▸ hu.1)
 have hs:=h.hs.new hg (k:=B.length) (m:=m) (b:=b) (h.hs.uj _ (Qn _)) hq (λ_ _ _=>hu.1) λhle=>hb hle hE
 refine h.mem ?_ ⟨hg.1,λb hb _=>hg.2 b hb,λb hb hm=>hm.resolve_right λ⟨c,e⟩=>by have:=(hq b c e).1;omega⟩ hE;rw[Qp6,Qp5];exact hs
theorem W1.new{d T:Nat}{xs:Fy}(hg:o.guard=none)(hd:o.dst=some d)(hdn:Nat.blt d n=true)
 (hrun:∀(F:Fr) (E:Lf) (M:Nat->Prop) (a:Act) (w:World),SA F n L B E M a w->∃cs:List Value,(execOp a.eval o).run P w=.ok (.value (.pointer (some ⟨w.heap.size,0,none⟩))) (w.alloc (.cells cs.toArray T))/\F2 (XRep w M E) cs xs)
 (k:N ((d,.v (.one (.ow B.length 0)))::L) (B++[.blk T xs])):W1 P arr n o N L B:=by
 intro F E M a w K Q h hK;obtain⟨cs,hr,hc⟩:=hrun F E M a w h;have hsz:=Dz (.cells cs.toArray T) w;have h2:=h.fresh (Bn (.cells cs.toArray T) w) (m:=0) (b:=.blk T xs) (q:=some (w.heap.size,0)) (λg c e=>by injection e with e;injection e with e1 e2;subst e1;omega)
  (λhle hE=>⟨w.heap.size,0,0,G7 ..,cs,A6 ..,hc.xkeep hle λi _=>hE i⟩)
 refine Ce hg hr (hd ▸ hK _ _ _ _ _ _ (h2.put hdn (u:=.v (.one (.ow B.length 0))) ?_) k);exact⟨w.heap.size,0,0,G7 ..,rfl⟩
def E4(i:Nat):LV->Option LV
 |
  .ow j p=>match Nat.beq i j with
  |true=>some .any
  |false=>some (.ow j p)
 |
  .orow j s p=>match Nat.beq i j with
  |true=>some .any
  |false=>some (.orow j s p)
 |
  .oel j s k p=>match Nat.beq i j with
  |true=>some .any
  |false=>some (.oel j s k p)
 |
  .omap j=>match Nat.beq i j with
  |true=>some .any
  |false=>some (.omap j)
 |
  .oif t j p=>match Nat.beq i j with
  |true=>some .any
  |false=>some (.oif t j p)
 |
  .ofn f a b=>match (YQ a++YQ b).contains i with
  |true=>some .any
  |false=>some (.ofn f a b)
 |x=>some x
def Mg{α β:Type}(f:α->Option β):List α->Option (List β)
 | []=>some []
 |
  x::l=>match f x with
  |
   some y=>match Mg f l with
   |some r=>some (y::r)
   |none=>none
  |none=>none
def nV(f:LV->Option LV):TV->Option TV
 |
  .one x=>match f x with
  |some y=>some (.one y)
  |none=>none
 |
  .agg xs=>match Mg f xs with
  |some r=>some (.agg r)
  |none=>none
def avO(f:LV->Option LV):AV->Option AV
 |
  .v t=>match nV f t with
  |some u=>some (.v u)
  |none=>none
 |
  .tup l=>match Mg (nV f) l with
  |some r=>some (.tup r)
  |none=>none
 |
  .cnd b t=>match nV f t with
  |some u=>some (.cnd b u)
  |none=>none
def fN(f:LV->Option LV):Sg->Option Sg
 | []=>some []
 |
  (t,x)::l=>match avO f x with
  |
   some y=>match fN f l with
   |some r=>some ((t,y)::r)
   |none=>none
  |none=>none
def VF(f:LV->Option LV):OB->Option OB
 |
  .blk T xs=>match Mg f xs with
  |some r=>some (.blk T r)
  |none=>none
 |b=>some b
section
variable{w':World}{M':Nat->Prop}{E':Lf}{f:LV->Option LV}
def nN(w:World)(M:Nat->Prop)(E:Lf)(w':World)(M':Nat->Prop)(E':Lf)(f:LV->Option LV):Prop:=∀v x y,f x=some y->XRep w M E v x->XRep w' M' E' v y
variable(ht:nN w M E w' M' E' f)
include ht
theorem Qmu:∀{xs r:Fy} {vs:List Value},Mg f xs=some r->F2 (XRep w M E) vs xs->F2 (XRep w' M' E') vs r
 | [],r,vs,h,hr=>by simp[Mg]at h;subst h;cases hr;exact .nil
 |
  x::xs,r,_,h,.cons h0 hr=>by
  simp only[Mg]at h
  split at h
  ·rename_i y hy
   split at h
   ·rename_i q hq;injection h with h;subst h;exact .cons (ht _ _ _ hy h0) (Qmu hq hr)
   ·cases h
  ·cases h
theorem nJ{t u:TV}{v:Value}(h:nV f t=some u)(hr:TRep w M E v t):TRep w' M' E' v u:=by
 cases t with
 |
  one x =>
  simp only[nV]at h
  split at h
  ·rename_i y hy;injection h with h;subst h;exact ht _ _ _ hy hr
  ·cases h
 |
  agg xs =>
  simp only[nV]at h
  split at h
  ·rename_i y hy;injection h with h;subst h;obtain⟨vs,e,hr⟩:=hr;exact⟨vs,e,Qmu ht hy hr⟩
  ·cases h
theorem Qmv:∀{ts us:Gb} {vs:List Value},Mg (nV f) ts=some us->F2 (TRep w M E) vs ts->F2 (TRep w' M' E') vs us
 | [],r,vs,h,hr=>by simp[Mg]at h;subst h;cases hr;exact .nil
 |
  x::xs,r,_,h,.cons h0 hr=>by
  simp only[Mg]at h
  split at h
  ·rename_i y hy
   split at h
   ·rename_i q hq;injection h with h;subst h;exact .cons (nJ ht hy h0) (Qmv hq hr)
   ·cases h
  ·cases h
theorem Qs3{t u:AV}{v:Value}(h:avO f t=some u)(hr:ARep w M E v t):ARep w' M' E' v u:=by
 cases t with
 |
  v t =>
  simp only[avO]at h
  split at h
  ·rename_i y hy;injection h with h;subst h;exact nJ ht hy hr
  ·cases h
 |
  tup l =>
  simp only[avO]at h
  split at h
  ·rename_i y hy;injection h with h;subst h;obtain⟨vs,e,hr⟩:=hr;exact⟨vs,e,Qmv ht hy hr⟩
  ·cases h
 |
  cnd b t =>
  simp only[avO]at h
  split at h
  ·rename_i y hy;injection h with h;subst h;exact⟨λhb=>nJ ht hy (hr.1 hb),hr.2⟩
  ·cases h
theorem Qs4:∀{L L2:Sg},fN f L=some L2->(∀t x,lk L t=some x->∃v,a.tmps[t]? = some v/\ARep w M E v x)->∀t x,lk L2 t=some x->∃v,a.tmps[t]? = some v/\ARep w' M' E' v x
 | [],L2,h,_,t,x,hx=>by simp[fN]at h;subst h;simp[lk]at hx
 |
  (s,u)::L,L2,h,hr,t,x,hx=>by
  simp only[fN]at h
  split at h
  ·rename_i y hy
   split at h
   ·rename_i q hq;injection h with h;subst h;simp only[lk]at hx
    split at hx
    ·rename_i e;injection hx with hx;subst hx;obtain⟨v,h1,h2⟩:=hr t u (by simp[lk,e]);exact⟨v,h1,Qs3 ht hy h2⟩
    ·rename_i e;have key:∀(L:Sg) (q:Sg),fN f L=some q->∀t x,lk q t=some x->∃u,lk L t=some u/\avO f u=some x:=by
      intro L
      induction L with
      |nil=>intro q h t x hx;simp[fN]at h;subst h;simp[lk]at hx
      |
       cons p L ih =>
       obtain⟨s,u⟩:=p;intro q h t x hx;simp only[fN]at h
       split at h
       ·rename_i y hy
        split at h
        ·rename_i q' hq';injection h with h;subst h;simp only[lk]at hx ⊢
         split at hx
         ·rename_i e';injection hx with hx;subst hx;exact⟨u,rfl,hy⟩
         ·rename_i e';exact ih _ hq' t x hx
        ·cases h
       ·cases h
     obtain⟨u2,h1,h2⟩:=key L q hq t x hx;obtain⟨v,h3,h4⟩:=hr t u2 (by simp[lk,e,h1]);exact⟨v,h3,Qs3 ht h2 h4⟩
   ·cases h
  ·cases h
end
end Orr
