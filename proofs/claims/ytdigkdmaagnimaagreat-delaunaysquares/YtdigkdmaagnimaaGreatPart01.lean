/- U64 Arith IntR Ext Own Rows Av1 Av2 -/
import Derived.Test.YtdigkdmaagnimaaGreatPart00
set_option linter.all false

namespace Orr
open Go
variable {P : Program} {ops : Array Oper} {Q : Exit → Act → World → Prop}
variable {K Ob : Nat → Prop} {w0 w : World} {a : Act} {n : Nat} {L : List (Nat × Value)} {Fs : List Fact} {Bs : List Blk} {rest : List Oper}
variable {d : Nat} {ty : TypeId} {pos : String} {after : Array Edge}
theorem st_to64 {x : Operand} {kd : IntKind} {p : Nat} {s t : TypeId} (h : St K Ob w0 w a n L Fs Bs) (hx : ev L x = some (.int kd (p : Int))) (hp : p < 18446744073709551616)
    (hs : ∀ w, (underlying s).run P w = .ok (.int kd) w) (ht : ∀ w, (underlying t).run P w = .ok (.int .u64) w) (hd : Nat.blt d n = true)
    (k : ∀ a', St K Ob w0 w a' n ((d, .int .u64 (p : Int)) :: L) Fs Bs → wpList P ops Q rest a' w) :
    wpList P ops Q ({ dst := some d, op := .convert s t x, type := ty, pos := pos, after := after, guard := none } :: rest) a w :=
  st_convert h hx hs ht hd fun a' h' => k a' (h'.respell (by rw [wrapu64_is]; congr 1; omega))
theorem st_to32 {x : Operand} {kd : IntKind} {p : Nat} {s t : TypeId} (h : St K Ob w0 w a n L Fs Bs) (hx : ev L x = some (.int kd (p : Int)))
    (hs : ∀ w, (underlying s).run P w = .ok (.int kd) w) (ht : ∀ w, (underlying t).run P w = .ok (.int .u32) w) (hd : Nat.blt d n = true)
    (k : ∀ a', St K Ob w0 w a' n ((d, .int .u32 ((p % 4294967296 : Nat) : Int)) :: L) Fs Bs → wpList P ops Q rest a' w) :
    wpList P ops Q ({ dst := some d, op := .convert s t x, type := ty, pos := pos, after := after, guard := none } :: rest) a w :=
  st_convert h hx hs ht hd fun a' h' => k a' (h'.respell (by rw [wrapu32_of]; congr 1))
theorem st_toInt {x : Operand} {kd : IntKind} {p : Nat} {s t : TypeId} (h : St K Ob w0 w a n L Fs Bs) (hx : ev L x = some (.int kd (p : Int))) (hp : p < 9223372036854775808)
    (hs : ∀ w, (underlying s).run P w = .ok (.int kd) w) (ht : ∀ w, (underlying t).run P w = .ok (.int .i64) w) (hd : Nat.blt d n = true)
    (k : ∀ a', St K Ob w0 w a' n ((d, .int .i64 (p : Int)) :: L) Fs Bs → wpList P ops Q rest a' w) :
    wpList P ops Q ({ dst := some d, op := .convert s t x, type := ty, pos := pos, after := after, guard := none } :: rest) a w :=
  st_convert h hx hs ht hd fun a' h' => k a' (h'.respell (by rw [wrap64_of (by omega) (by omega)]))
theorem st_addN {x y : Operand} {p q : Nat} {t t' : TypeId} (h : St K Ob w0 w a n L Fs Bs) (hx : ev L x = some (.int .u64 (p : Int))) (hy : ev L y = some (.int .u64 (q : Int))) (hb : p + q < 18446744073709551616) (hd : Nat.blt d n = true)
    (k : ∀ a', St K Ob w0 w a' n ((d, .int .u64 ((p + q : Nat) : Int)) :: L) Fs Bs → wpList P ops Q rest a' w) :
    wpList P ops Q ({ dst := some d, op := .binOp .add t x y t', type := ty, pos := pos, after := after, guard := none } :: rest) a w :=
  st_add h hx hy hd fun a' h' => k a' (h'.respell (by rw [wrapu64_is]; congr 1; omega))
theorem st_mulN {x y : Operand} {p q : Nat} {t t' : TypeId} (h : St K Ob w0 w a n L Fs Bs) (hx : ev L x = some (.int .u64 (p : Int))) (hy : ev L y = some (.int .u64 (q : Int))) (hb : p * q < 18446744073709551616) (hd : Nat.blt d n = true)
    (k : ∀ a', St K Ob w0 w a' n ((d, .int .u64 ((p * q : Nat) : Int)) :: L) Fs Bs → wpList P ops Q rest a' w) :
    wpList P ops Q ({ dst := some d, op := .binOp .mul t x y t', type := ty, pos := pos, after := after, guard := none } :: rest) a w :=
  st_mul h hx hy hd fun a' h' => k a' (h'.respell (by rw [wrapu64_is, ← Int.natCast_mul]; congr 1; omega))
theorem st_subN {x y : Operand} {p q : Nat} {t t' : TypeId} (h : St K Ob w0 w a n L Fs Bs) (hx : ev L x = some (.int .u64 (p : Int))) (hy : ev L y = some (.int .u64 (q : Int))) (hq : q ≤ 18446744073709551616) (hd : Nat.blt d n = true)
    (k : ∀ a', St K Ob w0 w a' n ((d, .int .u64 (((p + 18446744073709551616 - q) % 18446744073709551616 : Nat) : Int)) :: L) Fs Bs → wpList P ops Q rest a' w) :
    wpList P ops Q ({ dst := some d, op := .binOp .sub t x y t', type := ty, pos := pos, after := after, guard := none } :: rest) a w :=
  st_sub h hx hy hd fun a' h' => k a' (h'.respell (by rw [wrapu64_is]; congr 1; omega))
theorem st_shrN {x y : Operand} {kd : IntKind} {p m : Nat} {t t' : TypeId} (h : St K Ob w0 w a n L Fs Bs) (hx : ev L x = some (.int .u64 (p : Int))) (hy : ev L y = some (.int kd (m : Int))) (hm : m ≤ 64) (hd : Nat.blt d n = true)
    (k : ∀ a', St K Ob w0 w a' n ((d, .int .u64 ((p / 2 ^ m : Nat) : Int)) :: L) Fs Bs → wpList P ops Q rest a' w) :
    wpList P ops Q ({ dst := some d, op := .binOp .shr t x y t', type := ty, pos := pos, after := after, guard := none } :: rest) a w :=
  st_shr h hx hy hm hd fun a' h' => k a' (h'.respell (by congr 1))
theorem st_quoN {x y : Operand} {p q : Nat} {t t' : TypeId} (h : St K Ob w0 w a n L Fs Bs) (hx : ev L x = some (.int .u64 (p : Int))) (hy : ev L y = some (.int .u64 (q : Int))) (hp : p < 18446744073709551616) (hq : 0 < q) (hd : Nat.blt d n = true)
    (k : ∀ a', St K Ob w0 w a' n ((d, .int .u64 ((p / q : Nat) : Int)) :: L) Fs Bs → wpList P ops Q rest a' w) :
    wpList P ops Q ({ dst := some d, op := .binOp .quo t x y t', type := ty, pos := pos, after := after, guard := none } :: rest) a w :=
  st_quo h hx hy (by omega) hd fun a' h' => k a' (h'.respell (by
    have h1 : p / q ≤ p := Nat.div_le_self _ _
    rw [← Int.ofNat_tdiv]
    generalize p / q = z at *
    rw [wrapu64_of (by omega) (by omega)]))
theorem st_remN {x y : Operand} {p q : Nat} {t t' : TypeId} (h : St K Ob w0 w a n L Fs Bs) (hx : ev L x = some (.int .u64 (p : Int))) (hy : ev L y = some (.int .u64 (q : Int))) (hq : 0 < q) (hd : Nat.blt d n = true)
    (k : ∀ a', St K Ob w0 w a' n ((d, .int .u64 ((p % q : Nat) : Int)) :: L) Fs Bs → wpList P ops Q rest a' w) :
    wpList P ops Q ({ dst := some d, op := .binOp .rem t x y t', type := ty, pos := pos, after := after, guard := none } :: rest) a w :=
  st_rem h hx hy (by omega) hd fun a' h' => k a' (h'.respell (by rw [← Int.ofNat_tmod]))
theorem st_shlN {x y : Operand} {kd : IntKind} {p m : Nat} {t t' : TypeId} (h : St K Ob w0 w a n L Fs Bs) (hx : ev L x = some (.int .u64 (p : Int))) (hy : ev L y = some (.int kd (m : Int))) (hm : m ≤ 64) (hb : p * 2 ^ m < 18446744073709551616) (hd : Nat.blt d n = true)
    (k : ∀ a', St K Ob w0 w a' n ((d, .int .u64 ((p * 2 ^ m : Nat) : Int)) :: L) Fs Bs → wpList P ops Q rest a' w) :
    wpList P ops Q ({ dst := some d, op := .binOp .shl t x y t', type := ty, pos := pos, after := after, guard := none } :: rest) a w :=
  st_shl h hx hy hm hd fun a' h' => k a' (h'.respell (by
    rw [wrapu64_is, show ((p : Int) * 2 ^ m) = ((p * 2 ^ m : Nat) : Int) from by push_cast; rfl]; congr 1; omega))
theorem or_add {k q : Nat} (hq : q < 4294967296) : (4294967296 * k) ||| q = 4294967296 * k + q := by
  have := Nat.two_pow_add_eq_or_of_lt (i := 32) (b := q) (by omega) k
  simpa using this.symm
theorem st_orN {x y : Operand} {k' p q : Nat} {t t' : TypeId} (h : St K Ob w0 w a n L Fs Bs) (hx : ev L x = some (.int .u64 (p : Int))) (hy : ev L y = some (.int .u64 (q : Int))) (hk : p = 4294967296 * k') (hq : q < 4294967296) (hp : p < 18446744073709551616) (hd : Nat.blt d n = true)
    (k : ∀ a', St K Ob w0 w a' n ((d, .int .u64 ((p + q : Nat) : Int)) :: L) Fs Bs → wpList P ops Q rest a' w) :
    wpList P ops Q ({ dst := some d, op := .binOp .or t x y t', type := ty, pos := pos, after := after, guard := none } :: rest) a w :=
  st_val h hd (by
    have e1 : (BitVec.ofInt 64 (p : Int)).toNat = p := by rw [BitVec.toNat_ofInt]; omega
    have e2 : (BitVec.ofInt 64 (q : Int)).toNat = q := by rw [BitVec.toNat_ofInt]; omega
    have e3 : IntKind.u64.wrap ((BitVec.ofInt 64 (p : Int) ||| BitVec.ofInt 64 (q : Int)).toNat : Int) = ((p + q : Nat) : Int) := by
      rw [BitVec.toNat_or, e1, e2, hk, or_add hq, ← hk, wrapu64_of (by omega) (by omega)]
    simp only [execOp, h.ev hx, h.ev hy, eqGuard, Go.binOp, Op.intBits, Sem.run_bind, Sem.run_pure, Result.andThen_ok, ne_eq, not_true_eq_false, if_false]
    simp [Op.intBits]
    exact e3) k
theorem st_storeU {T : TypeId} {x y : Operand} {g i v E : Nat} {o : List Nat} (h : St K Ob w0 w a n L Fs ((g, E, u32s o) :: Bs)) (hx : ev L x = some (.pointer (some ⟨g, 0 + i * 1, none⟩)))
    (hy : ev L y = some (.int .u32 (v : Int))) (hs : ∀ w, (Go.sizeOf T).run P w = .ok 1 w) (hi : i < o.length)
    (k : ∀ w', St K Ob w0 w' a n L Fs ((g, E, u32s (o.set i v)) :: Bs) → wpList P ops Q rest a w') :
    wpList P ops Q ({ dst := none, op := .store T x y, type := ty, pos := pos, after := after, guard := none } :: rest) a w := by
  have e : 0 + i * 1 = i := by omega
  rw [e] at hx
  refine st_store h 0 rfl hx hy hs rfl rfl (by rw [length_u32s]; rw [Nat.ble_eq]; exact hi) rfl fun w' h' => k w' ?_
  have e2 : upd (u32s o) i (Value.int .u32 (v : Int)).cells.toList = u32s (o.set i v) := upd_u32s o i v hi
  rw [e2] at h'
  exact h'
theorem St.u32s_cell {g E i x : Nat} {o : List Nat} (h : St K Ob w0 w a n L Fs ((g, E, u32s o) :: Bs)) (hx : o[i]? = some x) : w.cell? ⟨g, 0 + i * 1, none⟩ = some (.int .u32 (x : Int)) := by
  rw [h.own_cell (i := 0) rfl, getElem?_u32s, show 0 + i * 1 = i from by omega, hx]
  rfl
end Orr

namespace Orr
theorem take_set_same (o : List Nat) (i v : Nat) : (o.set i v).take i = o.take i := by
  apply List.ext_getElem?
  intro j
  rw [List.getElem?_take, List.getElem?_take]
  split
  · rw [List.getElem?_set_ne (by omega)]
  · rfl
theorem val_set (o : List Nat) (i v : Nat) (h : i < o.length) : val ((o.set i v).take (i + 1)) = val (o.take i) + 4294967296 ^ i * v := by
  rw [val_take_succ (o.set i v) i v (by rw [List.getElem?_set_self h]), take_set_same]
theorem take_of_le (r : List Nat) (i : Nat) (h : r.length ≤ i) : r.take (i + 1) = r.take i := by
  rw [List.take_of_length_le (by omega), List.take_of_length_le h]
theorem val_next {r : List Nat} {i y : Nat} (hy : r[i]? = some y ∨ (r.length ≤ i ∧ y = 0)) : val (r.take (i + 1)) = val (r.take i) + 4294967296 ^ i * y := by
  rcases hy with hy | ⟨h, rfl⟩
  · exact val_take_succ r i y hy
  · rw [take_of_le r i h]; omega
theorem add_step {o l r : List Nat} {i x y s cy : Nat} (ho : i < o.length) (hx : l[i]? = some x) (hy : r[i]? = some y ∨ (r.length ≤ i ∧ y = 0))
    (h : val (o.take i) + cy * 4294967296 ^ i = val (l.take i) + val (r.take i)) (hs : s = x + cy + y) :
    val ((o.set i (s % 4294967296)).take (i + 1)) + (s / 4294967296) * 4294967296 ^ (i + 1) = val (l.take (i + 1)) + val (r.take (i + 1)) := by
  rw [val_set o i _ ho, val_take_succ l i x hx, val_next hy, Nat.pow_succ]
  have e : s = 4294967296 * (s / 4294967296) + s % 4294967296 := (Nat.div_add_mod s 4294967296).symm
  generalize s / 4294967296 = q at *
  generalize s % 4294967296 = m at *
  generalize 4294967296 ^ i = p at *
  grind
theorem set_lt {o : List Nat} (h : ∀ x ∈ o, x < 4294967296) (i v : Nat) (hv : v < 4294967296) : ∀ x ∈ o.set i v, x < 4294967296 := by
  intro x hx
  rcases List.mem_or_eq_of_mem_set hx with h' | h'
  · exact h x h'
  · omega
theorem sub_step {o l r : List Nat} {i x y s b : Nat} (ho : i < o.length) (hx : l[i]? = some x) (hy : r[i]? = some y ∨ (r.length ≤ i ∧ y = 0)) (hxb : x < 4294967296) (hyb : y < 4294967296) (hb : b ≤ 1)
    (h : val (o.take i) + val (r.take i) = val (l.take i) + b * 4294967296 ^ i) (hs : s = (x + 18446744073709551616 - b - y) % 18446744073709551616) :
    val ((o.set i (s % 4294967296)).take (i + 1)) + val (r.take (i + 1)) = val (l.take (i + 1)) + (s / 9223372036854775808) * 4294967296 ^ (i + 1) ∧ s / 9223372036854775808 ≤ 1 := by
  rw [val_set o i _ ho, val_take_succ l i x hx, val_next hy, Nat.pow_succ]
  by_cases hlt : x < b + y
  · have e1 : s = 18446744073709551616 + x - b - y := by omega
    have e2 : s / 9223372036854775808 = 1 := by omega
    have e3 : s % 4294967296 + b + y = x + 4294967296 := by omega
    rw [e2]
    generalize s % 4294967296 = m at *
    generalize 4294967296 ^ i = p at *
    exact ⟨by grind, by omega⟩
  · have e1 : s = x - b - y := by omega
    have e2 : s / 9223372036854775808 = 0 := by omega
    have e3 : s % 4294967296 + b + y = x := by omega
    rw [e2]
    generalize s % 4294967296 = m at *
    generalize 4294967296 ^ i = p at *
    exact ⟨by grind, by omega⟩
theorem val_set_eq (o : List Nat) (i v z : Nat) (hz : o[i]? = some z) : val (o.set i v) + 4294967296 ^ i * z = val o + 4294967296 ^ i * v := by
  have hi : i < o.length := (List.getElem?_eq_some_iff.1 hz).1
  have h1 := val_split o i z hz
  have h2 := val_split (o.set i v) i v (by rw [List.getElem?_set_self hi])
  have e : (o.set i v).drop (i + 1) = o.drop (i + 1) := by
    apply List.ext_getElem?
    intro j
    rw [List.getElem?_drop, List.getElem?_drop, List.getElem?_set_ne (by omega)]
  rw [take_set_same, e] at h2
  rw [h1, h2]
  generalize 4294967296 ^ i = p
  grind
theorem mul_le_limb {x y : Nat} (hx : x < 4294967296) (hy : y < 4294967296) : x * y ≤ 18446744065119617025 := by
  have := Nat.mul_le_mul (show x ≤ 4294967295 by omega) (show y ≤ 4294967295 by omega)
  omega
theorem mul_step {o' r : List Nat} {i k x y z s cy V : Nat} (hz : o'[i + k]? = some z) (hy : r[k]? = some y)
    (h : val o' + cy * 4294967296 ^ (i + k) = V + 4294967296 ^ i * x * val (r.take k)) (hs : s = x * y + z + cy) :
    val (o'.set (i + k) (s % 4294967296)) + (s / 4294967296) * 4294967296 ^ (i + (k + 1)) = V + 4294967296 ^ i * x * val (r.take (k + 1)) := by
  have h1 := val_set_eq o' (i + k) (s % 4294967296) z hz
  rw [val_take_succ r k y hy, show i + (k + 1) = (i + k) + 1 from by omega, Nat.pow_succ]
  have e : s = 4294967296 * (s / 4294967296) + s % 4294967296 := (Nat.div_add_mod s 4294967296).symm
  have hp : (4294967296 : Nat) ^ (i + k) = 4294967296 ^ i * 4294967296 ^ k := Nat.pow_add _ _ _
  generalize s / 4294967296 = q at *
  generalize s % 4294967296 = m at *
  generalize val (o'.set (i + k) m) = A at *
  rw [hp] at h h1 ⊢
  clear hz hy hp
  generalize val (r.take k) = R at *
  generalize val o' = O at *
  generalize (4294967296 : Nat) ^ i = pi at *
  generalize (4294967296 : Nat) ^ k = pk at *
  grind
theorem mul_last {o' l r : List Nat} {i x cy V : Nat} (hz : o'[i + r.length]? = some 0) (hx : l[i]? = some x) (hcy : cy < 4294967296) (hV : V = val (l.take i) * val r)
    (h : val o' + cy * 4294967296 ^ (i + r.length) = V + 4294967296 ^ i * x * val (r.take r.length)) :
    val (o'.set (i + r.length) (cy % 4294967296)) = val (l.take (i + 1)) * val r := by
  have h1 := val_set_eq o' (i + r.length) (cy % 4294967296) 0 hz
  rw [Nat.mod_eq_of_lt hcy] at *
  rw [List.take_length] at h
  rw [val_take_succ l i x hx]
  clear hz hx
  generalize (4294967296 : Nat) ^ (i + r.length) = p at *
  generalize (4294967296 : Nat) ^ i = pi at *
  grind
end Orr
namespace Orr
theorem val_drop (l : List Nat) (k x : Nat) (hx : l[k]? = some x) : val (l.drop k) = x + 4294967296 * val (l.drop (k + 1)) := by
  obtain ⟨h, e⟩ := List.getElem?_eq_some_iff.1 hx
  rw [List.drop_eq_getElem_cons h, e]; rfl
theorem drop_set (o : List Nat) (i v k : Nat) (h : i < k) : (o.set i v).drop k = o.drop k := by
  apply List.ext_getElem?
  intro j
  rw [List.getElem?_drop, List.getElem?_drop, List.getElem?_set_ne (by omega)]
theorem one_step {l o : List Nat} {k x w r s : Nat} (hx : l[k]? = some x) (hxb : x < 4294967296) (ho : k < o.length) (hw : 0 < w) (hr : r < w)
    (h : val (l.drop (k + 1)) = w * val (o.drop (k + 1)) + r) (hs : s = r * 4294967296 + x) :
    s / w < 4294967296 ∧ s % w < w ∧ val (l.drop k) = w * val ((o.set k (s / w % 4294967296)).drop k) + s % w := by
  have h1 : s < w * 4294967296 := by
    have : (r + 1) * 4294967296 ≤ w * 4294967296 := Nat.mul_le_mul_right _ hr
    omega
  have h2 : s / w < 4294967296 := Nat.div_lt_of_lt_mul h1
  refine ⟨h2, Nat.mod_lt _ hw, ?_⟩
  rw [Nat.mod_eq_of_lt h2, val_drop l k x hx, val_drop (o.set k (s / w)) k (s / w) (List.getElem?_set_self ho), drop_set o k _ (k + 1) (by omega), h]
  have e := Nat.div_add_mod s w
  generalize s / w = q at *
  generalize s % w = m at *
  clear hx h
  grind
end Orr

namespace Orr
open Go
def Rel.intA : Rel Int := (Rel.bool.prod Rel.natA).view fun p z => z = if p.1 = true then -(p.2 : Int) else (p.2 : Int)
def Rel.intN : Rel Int := (Rel.bool.prod Rel.natN).view fun p z => p.2 = z.natAbs ∧ p.1 = decide (z < 0)
section
variable {w : World} {O : Nat → Prop} {cs : List Value} {z : Int}
theorem natA_shape {x : Nat} (h : Rel.natA.at_ w O cs x) : ∃ A n c, cs = [.slice A n c] := by
  obtain ⟨l, h1, _⟩ := h
  obtain ⟨A, c, e⟩ := row_shape h1
  exact ⟨A, l.length, c, e⟩
theorem intA_shape (h : Rel.intA.at_ w O cs z) : ∃ b A n c, cs = [.bool b, .slice A n c] := by
  obtain ⟨p, ⟨c1, c2, rfl, h1, h2⟩, _⟩ := h
  obtain ⟨A, n, c, rfl⟩ := natA_shape h2
  have h1 : c1 = [.bool p.1] := h1
  subst h1
  exact ⟨_, A, n, c, rfl⟩
theorem intA_of_intN (h : Rel.intN.at_ w O cs z) : Rel.intA.at_ w O cs z := by
  obtain ⟨p, ⟨c1, c2, rfl, h1, h2⟩, h3, h4⟩ := h
  refine ⟨p, ⟨c1, c2, rfl, h1, natA_of_natN h2⟩, ?_⟩
  show z = if p.1 = true then -(p.2 : Int) else (p.2 : Int)
  rw [h4, h3]
  split <;> rename_i hc <;> simp at hc <;> omega
theorem intN_shape (h : Rel.intN.at_ w O cs z) : ∃ b A n c, cs = [.bool b, .slice A n c] := intA_shape (intA_of_intN h)
theorem intA_open {b : Bool} {A : Option Addr} {n c : Nat} (h : Rel.intA.at_ w O [.bool b, .slice A n c] z) : Rel.natA.at_ w O [.slice A n c] z.natAbs ∧ z = if b = true then -(z.natAbs : Int) else (z.natAbs : Int) := by
  obtain ⟨p, ⟨c1, c2, e, h1, h2⟩, hz⟩ := h
  have h1 : c1 = [.bool p.1] := h1
  subst h1
  simp only [List.cons_append, List.nil_append, List.cons.injEq, Value.bool.injEq] at e
  obtain ⟨e1, e2⟩ := e
  rw [e1, e2]
  have : z.natAbs = p.2 := by rw [hz]; split <;> omega
  rw [this]
  exact ⟨h2, hz⟩
theorem intN_open {b : Bool} {A : Option Addr} {n c : Nat} (h : Rel.intN.at_ w O [.bool b, .slice A n c] z) : Rel.natN.at_ w O [.slice A n c] z.natAbs ∧ b = decide (z < 0) := by
  obtain ⟨p, ⟨c1, c2, e, h1, h2⟩, h3, h4⟩ := h
  have h1 : c1 = [.bool p.1] := h1
  subst h1
  simp only [List.cons_append, List.nil_append, List.cons.injEq, Value.bool.injEq] at e
  obtain ⟨e1, e2⟩ := e
  rw [e1, e2, ← h3]
  exact ⟨h2, h4⟩
theorem intN_mk {b : Bool} {A : Option Addr} {n c : Nat} (h : Rel.natN.at_ w O [.slice A n c] z.natAbs) (hb : b = decide (z < 0)) : Rel.intN.at_ w O [.bool b, .slice A n c] z :=
  ⟨(b, z.natAbs), ⟨[.bool b], [.slice A n c], rfl, rfl, h⟩, rfl, hb⟩
theorem natN_nil : Rel.natN.at_ w O [.slice none 0 0] 0 :=
  ⟨[], ⟨none, 0, rfl, Nat.le_refl _, by decide, by decide, fun h => absurd h (by simp)⟩, ⟨by simp, fun h => absurd rfl h⟩, rfl⟩
theorem natN_len {A : Option Addr} {n c x : Nat} (h : Rel.natN.at_ w O [.slice A n c] x) : (n = 0 ↔ x = 0) ∧ 32 * n ≤ sz x + 31 := by
  obtain ⟨l, h1, h2, rfl⟩ := h
  obtain ⟨e, _, _⟩ := row_open h1
  subst e
  refine ⟨?_, nrm_len h2⟩
  rw [nrm_zero h2]
  exact List.length_eq_zero_iff
end
def ofSign (b : Bool) (m : Nat) : Int := if b = true then -(m : Int) else (m : Int)
theorem ofSign_natAbs (b : Bool) (m : Nat) : (ofSign b m).natAbs = m := by unfold ofSign; split <;> omega
theorem ofSign_neg (b : Bool) (m : Nat) : decide (ofSign b m < 0) = (b && decide (0 < m)) := by
  unfold ofSign
  cases b <;> simp <;> omega
def isz (z : Int) : Nat := sz z.natAbs
theorem isz_mul (x y : Int) : isz (x * y) ≤ isz x + isz y := by unfold isz; rw [Int.natAbs_mul]; exact sz_mul _ _
theorem isz_add (x y : Int) : isz (x + y) ≤ max (isz x) (isz y) + 1 := by
  unfold isz
  exact Nat.le_trans (sz_mono (Int.natAbs_add_le x y)) (sz_add _ _)
theorem isz_neg (x : Int) : isz (-x) = isz x := by unfold isz; rw [Int.natAbs_neg]
theorem isz_sub (x y : Int) : isz (x - y) ≤ max (isz x) (isz y) + 1 := by
  rw [Int.sub_eq_add_neg]
  have := isz_add x (-y)
  rwa [isz_neg] at this
theorem isz_le {x : Int} {k : Nat} : isz x ≤ k ↔ x.natAbs < 2 ^ k := sz_le
theorem mul_ofSign {x y : Int} {b d : Bool} (hx : x = if b = true then -(x.natAbs : Int) else (x.natAbs : Int)) (hy : y = if d = true then -(y.natAbs : Int) else (y.natAbs : Int)) :
    x * y = ofSign (!(b == d)) (x.natAbs * y.natAbs) := by
  generalize x.natAbs = m at *
  generalize y.natAbs = k at *
  subst hx hy
  unfold ofSign
  cases b <;> cases d <;> simp [Int.neg_mul, Int.mul_neg]
end Orr

namespace Orr
open Go
variable {P : Program} {ops : Array Oper} {Q : Exit → Act → World → Prop}
variable {K Ob : Nat → Prop} {w0 w : World} {a : Act} {n : Nat} {L : List (Nat × Value)} {Fs : List Fact} {Bs : List Blk} {rest : List Oper}
variable {d : Nat} {ty : TypeId} {pos : String} {after : Array Edge}
theorem sz_shift {x k : Nat} (h : 2 ^ k ≤ x) : sz x = k + sz (x / 2 ^ k) := by
  have e : ∀ m, sz x ≤ m ↔ k + sz (x / 2 ^ k) ≤ m := by
    intro m
    by_cases hm : k ≤ m
    · obtain ⟨j, rfl⟩ := Nat.le.dest hm
      rw [Nat.add_le_add_iff_left, sz_le, sz_le, Nat.div_lt_iff_lt_mul (Nat.pow_pos (by decide)), ← Nat.pow_add, Nat.add_comm j k]
    · constructor
      · intro h1
        rw [sz_le] at h1
        have := Nat.pow_lt_pow_right (a := 2) (by decide) (Nat.lt_of_not_le hm)
        omega
      · intro h1
        omega
  exact Nat.le_antisymm ((e _).2 (Nat.le_refl _)) ((e _).1 (Nat.le_refl _))
theorem sz_val : ∀ {l : List Nat} {y : Nat}, Nrm l → l[l.length - 1]? = some y → sz (val l) = 32 * (l.length - 1) + sz y
  | [], y, _, h => by simp at h
  | [x], y, _, h => by
    simp at h
    subst h
    simp [val]
  | x :: z :: l, y, hn, h => by
    have h32 : (4294967296 : Nat) = 2 ^ 32 := by decide
    have hn' : Nrm (z :: l) := ⟨fun u hu => hn.1 u (List.mem_cons_of_mem _ hu), fun _ => by
      obtain ⟨u, hu, h0⟩ := hn.2 (by simp)
      exact ⟨u, by simpa using hu, h0⟩⟩
    have ih := sz_val hn' (y := y) (by simpa using h)
    have hx := hn.1 x (by simp)
    have hp : 0 < val (z :: l) := by
      rcases Nat.eq_zero_or_pos (val (z :: l)) with h0 | h0
      · exact absurd ((nrm_zero hn').1 h0) (by simp)
      · exact h0
    have e : val (x :: z :: l) = x + 4294967296 * val (z :: l) := rfl
    rw [sz_shift (k := 32) (by rw [e, ← h32]; omega), show val (x :: z :: l) / 2 ^ 32 = val (z :: l) from by rw [e, ← h32]; omega, ih]
    simp only [List.length_cons]
    omega
theorem st_byte {x y : Operand} {s : ByteArray} {i v : Nat} {t : TypeId} {kd : IntKind} (h : St K Ob w0 w a n L Fs Bs) (hx : ev L x = some (.string s)) (hy : ev L y = some (.int kd (i : Int)))
    (hu : ∀ w, (underlying t).run P w = .ok .string w) (hi : (s[i]?).map (·.toNat) = some v) (hd : Nat.blt d n = true)
    (k : ∀ a', St K Ob w0 w a' n ((d, .int .u8 (v : Int)) :: L) Fs Bs → wpList P ops Q rest a' w) :
    wpList P ops Q ({ dst := some d, op := .index t x y, type := ty, pos := pos, after := after, guard := none } :: rest) a w :=
  st_val h hd (by
    cases hs : s[i]? with
    | none => rw [hs] at hi; cases hi
    | some b =>
      rw [hs] at hi
      simp only [Option.map_some, Option.some.injEq] at hi
      subst hi
      simp [execOp, h.ev hx, h.ev hy, Instr.index, asIntOf, hu, hs]) k
theorem st_shrU {x y : Operand} {kd kd' : IntKind} {p m : Nat} {t t' : TypeId} (h : St K Ob w0 w a n L Fs Bs) (hx : ev L x = some (.int kd (p : Int))) (hy : ev L y = some (.int kd' (m : Int))) (hm : m ≤ kd.bits) (hd : Nat.blt d n = true)
    (k : ∀ a', St K Ob w0 w a' n ((d, .int kd ((p / 2 ^ m : Nat) : Int)) :: L) Fs Bs → wpList P ops Q rest a' w) :
    wpList P ops Q ({ dst := some d, op := .binOp .shr t x y t', type := ty, pos := pos, after := after, guard := none } :: rest) a w :=
  st_shr h hx hy hm hd fun a' h' => k a' (by simpa using h')
theorem st_to8 {x : Operand} {kd : IntKind} {p : Nat} {s t : TypeId} (h : St K Ob w0 w a n L Fs Bs) (hx : ev L x = some (.int kd (p : Int))) (hp : p < 256)
    (hus : ∀ w, (underlying s).run P w = .ok (.int kd) w) (hut : ∀ w, (underlying t).run P w = .ok (.int .u8) w) (hd : Nat.blt d n = true)
    (k : ∀ a', St K Ob w0 w a' n ((d, .int .u8 (p : Int)) :: L) Fs Bs → wpList P ops Q rest a' w) :
    wpList P ops Q ({ dst := some d, op := .convert s t x, type := ty, pos := pos, after := after, guard := none } :: rest) a w :=
  st_convert h hx hus hut hd fun a' h' => k a' (h'.respell (by
    have : IntKind.u8.wrap (p : Int) = (p : Int) := by
      simp [IntKind.wrap, IntKind.bits, IntKind.signed]
      omega
    rw [this]))
theorem add_ofSign {x y : Int} {b d : Bool} (hx : x = if b = true then -(x.natAbs : Int) else (x.natAbs : Int)) (hy : y = if d = true then -(y.natAbs : Int) else (y.natAbs : Int)) (h : (b == d) = true) :
    x + y = ofSign b (x.natAbs + y.natAbs) := by
  unfold ofSign
  cases b <;> cases d <;> simp at h hx hy ⊢ <;> omega
theorem sub_ofSign {x y : Int} {b d : Bool} (hx : x = if b = true then -(x.natAbs : Int) else (x.natAbs : Int)) (hy : y = if d = true then -(y.natAbs : Int) else (y.natAbs : Int)) (h : (b == d) = false) (hl : y.natAbs ≤ x.natAbs) :
    x + y = ofSign b (x.natAbs - y.natAbs) := by
  unfold ofSign
  cases b <;> cases d <;> simp at h hx hy ⊢ <;> omega
theorem sub_ofSign' {x y : Int} {b d : Bool} (hx : x = if b = true then -(x.natAbs : Int) else (x.natAbs : Int)) (hy : y = if d = true then -(y.natAbs : Int) else (y.natAbs : Int)) (h : (b == d) = false) (hl : x.natAbs < y.natAbs) :
    x + y = ofSign d (y.natAbs - x.natAbs) := by
  unfold ofSign
  cases b <;> cases d <;> simp at h hx hy ⊢ <;> omega
def cmpZ (x y : Int) : Int := if x < y then -1 else if y < x then 1 else 0
theorem intA_mk {w : World} {O : Nat → Prop} {b : Bool} {A : Option Addr} {n c : Nat} {z : Int} {x : Nat} (h : Rel.natA.at_ w O [.slice A n c] x) (hz : z = ofSign b x) : Rel.intA.at_ w O [.bool b, .slice A n c] z :=
  ⟨(b, x), ⟨[.bool b], [.slice A n c], rfl, rfl, h⟩, hz⟩
theorem flip_ofSign {b : Bool} {z : Int} (hz : z = if b = true then -(z.natAbs : Int) else (z.natAbs : Int)) : -z = ofSign (!b) z.natAbs := by
  unfold ofSign
  cases b <;> simp at hz ⊢ <;> omega
end Orr
namespace Orr
theorem sz_eq_zero {x : Nat} : sz x = 0 ↔ x = 0 := by
  constructor
  · intro h
    have := lt_sz x
    rw [h] at this
    simpa using this
  · rintro rfl; rfl
theorem sign_sz (z : Int) : Int.sign z = if sz z.natAbs = 0 then 0 else if z < 0 then -1 else 1 := by
  rcases Int.lt_trichotomy z 0 with h | h | h
  · rw [Int.sign_eq_neg_one_of_neg h, if_neg (by rw [sz_eq_zero]; omega), if_pos h]
  · subst h; rfl
  · rw [Int.sign_eq_one_of_pos h, if_neg (by rw [sz_eq_zero]; omega), if_neg (by omega)]
theorem sign_cases (z : Int) : (z < 0 ∧ Int.sign z = -1) ∨ (z = 0 ∧ Int.sign z = 0) ∨ (0 < z ∧ Int.sign z = 1) := by
  rcases Int.lt_trichotomy z 0 with h | h | h
  · exact .inl ⟨h, Int.sign_eq_neg_one_of_neg h⟩
  · subst h; exact .inr (.inl ⟨rfl, rfl⟩)
  · exact .inr (.inr ⟨h, Int.sign_eq_one_of_pos h⟩)
end Orr
namespace Orr
open Go
variable {P : Program} {ops : Array Oper} {Q : Exit → Act → World → Prop}
variable {K Ob : Nat → Prop} {w0 w : World} {a : Act} {n : Nat} {L : List (Nat × Value)} {Fs : List Fact} {Bs : List Blk} {rest : List Oper}
variable {d : Nat} {ty : TypeId} {pos : String} {after : Array Edge}
theorem st_min {x y : Operand} {kd : IntKind} {p q r : Int} {ats : Array TypeId} (h : St K Ob w0 w a n L Fs Bs) (hx : ev L x = some (.int kd p)) (hy : ev L y = some (.int kd q)) (hr : (if q < p then q else p) = r) (hd : Nat.blt d n = true)
    (k : ∀ a', St K Ob w0 w a' n ((d, .int kd r) :: L) Fs Bs → wpList P ops Q rest a' w) :
    wpList P ops Q ({ dst := some d, op := .call { callee := .builtin .min, args := #[x, y], argTypes := ats }, type := ty, pos := pos, after := after, guard := none } :: rest) a w :=
  st_val h hd (by subst hr; simp [execOp, resolve, invoke, h.ev hx, h.ev hy, builtin, Builtin.min_, Builtin.min2]) k
theorem st_max {x y : Operand} {kd : IntKind} {p q r : Int} {ats : Array TypeId} (h : St K Ob w0 w a n L Fs Bs) (hx : ev L x = some (.int kd p)) (hy : ev L y = some (.int kd q)) (hr : (if q > p then q else p) = r) (hd : Nat.blt d n = true)
    (k : ∀ a', St K Ob w0 w a' n ((d, .int kd r) :: L) Fs Bs → wpList P ops Q rest a' w) :
    wpList P ops Q ({ dst := some d, op := .call { callee := .builtin .max, args := #[x, y], argTypes := ats }, type := ty, pos := pos, after := after, guard := none } :: rest) a w :=
  st_val h hd (by subst hr; simp [execOp, resolve, invoke, h.ev hx, h.ev hy, builtin, Builtin.max_, Builtin.max2]) k
theorem st_copy {x y : Operand} {g o m c m' k' sz T T' E : Nat} {v : Value} {cs zs : List Value} {ats : Array TypeId} (h : St K Ob w0 w a n L Fs Bs) (i : Nat) (hi : Bs[i]? = some (g, Tag.ty T', cs)) (hx : ev L x = some (.slice (some ⟨g, o, none⟩) m c)) (hy : ev L y = some v)
    (hu : ∀ w, (underlying T).run P w = .ok (.slice E) w) (hs : ∀ w, (Go.sizeOf E).run P w = .ok sz w) (hat : ats[0]? = some T) (hlen : ∀ w, (Builtin.lenOf v).run P w = .ok k' w) (hm' : Nat.min k' m = m')
    (hsrc : Src w v sz m' zs) (hl : o + zs.length ≤ cs.length) (h1 : ∀ u ∈ zs, one u = true) (hd : Nat.blt d n = true)
    (k : ∀ w' a', St K Ob w0 w' a' n ((d, .int .i64 (m' : Int)) :: L) Fs (Bs.set i (g, T', upd cs o zs)) → wpList P ops Q rest a' w') :
    wpList P ops Q ({ dst := some d, op := .call { callee := .builtin .copy, args := #[x, y], argTypes := ats }, type := ty, pos := pos, after := after, guard := none } :: rest) a w := by
  obtain ⟨w', hr, hw⟩ := St.storeCells (P := P) zs cs o 0 w Bs i h hi (by omega) h1
  refine step_value (w' := w') (v := .int .i64 (m' : Int)) rfl ?_ (k _ _ (hw.put _ hd))
  have hf := run_firstCells (P := P) hsrc
  simp only [execOp, resolve, invoke, builtin, Builtin.copy_, Sem.run_bind, Sem.run_pure, Result.andThen_ok]
  simp [h.ev hx, h.ev hy, hat, hu, hs, hlen, hm', hf, hr, goInt, Sem.run_bind]
end Orr
namespace Orr
theorem euclid {a b q r : Int} (hb : 0 < b) (h : r + b * q = a) (h0 : 0 ≤ r) (h1 : r < b) : a / b = q ∧ a % b = r := (Int.ediv_emod_unique hb).2 ⟨h, h0, h1⟩
theorem euclid' {a b q r : Int} (hb : b ≠ 0) (h : r + b * q = a) (h0 : 0 ≤ r) (h1 : r < b.natAbs) : a / b = q ∧ a % b = r := by
  rcases Int.lt_or_gt_of_ne hb with h' | h'
  · have := euclid (a := a) (b := -b) (q := -q) (r := r) (by omega) (by rw [Int.neg_mul_neg]; exact h) h0 (by omega)
    rw [Int.ediv_neg, Int.emod_neg] at this
    exact ⟨by omega, this.2⟩
  · exact euclid h' h h0 (by omega)
section
variable {x y : Int} {d : Bool} (hy : y = if d = true then -(y.natAbs : Int) else (y.natAbs : Int)) (hp : 0 < y.natAbs)
include hy hp
theorem div_pos_ofSign (hx : x = if false = true then -(x.natAbs : Int) else (x.natAbs : Int)) :
    x / y = ofSign (!(false == d)) (x.natAbs / y.natAbs) ∧ x % y = ofSign false (x.natAbs % y.natAbs) := by
  have e := Nat.div_add_mod x.natAbs y.natAbs
  have hl := Nat.mod_lt x.natAbs hp
  refine euclid' (by omega) ?_ ?_ ?_
  · generalize x.natAbs / y.natAbs = q at *
    generalize x.natAbs % y.natAbs = r at *
    generalize y.natAbs = n at *
    generalize x.natAbs = m at *
    subst hx hy e
    unfold ofSign
    cases d <;> simp [Int.neg_mul, Int.mul_neg] <;> omega
  · unfold ofSign; simp only [Bool.false_eq_true, if_false]; exact Int.natCast_nonneg _
  · unfold ofSign; simp; omega
theorem div_zero_ofSign (hx : x = if true = true then -(x.natAbs : Int) else (x.natAbs : Int)) (h0 : x.natAbs % y.natAbs = 0) :
    x / y = ofSign (!(true == d)) (x.natAbs / y.natAbs) ∧ x % y = ofSign false (x.natAbs % y.natAbs) := by
  have e := Nat.div_add_mod x.natAbs y.natAbs
  refine euclid' (by omega) ?_ ?_ ?_
  · rw [h0] at e ⊢
    generalize x.natAbs / y.natAbs = q at *
    generalize y.natAbs = n at *
    generalize x.natAbs = m at *
    subst hx hy e
    unfold ofSign
    cases d <;> simp [Int.neg_mul, Int.mul_neg]
  · unfold ofSign; simp only [Bool.false_eq_true, if_false]; exact Int.natCast_nonneg _
  · unfold ofSign; simp; omega
theorem div_neg_ofSign (hx : x = if true = true then -(x.natAbs : Int) else (x.natAbs : Int)) (h0 : 0 < x.natAbs % y.natAbs) :
    x / y = ofSign (!(true == d)) (x.natAbs / y.natAbs + 1) ∧ x % y = ofSign false (y.natAbs - x.natAbs % y.natAbs) := by
  have e := Nat.div_add_mod x.natAbs y.natAbs
  have hl := Nat.mod_lt x.natAbs hp
  refine euclid' (by omega) ?_ ?_ ?_
  · generalize x.natAbs / y.natAbs = q at *
    generalize x.natAbs % y.natAbs = r at *
    generalize y.natAbs = n at *
    generalize x.natAbs = m at *
    subst hx hy e
    unfold ofSign
    have e2 : ((n - r : Nat) : Int) = (n : Int) - (r : Int) := by omega
    cases d <;> simp [Int.neg_mul, Int.mul_neg, Int.mul_add, e2] <;> omega
  · unfold ofSign; simp only [Bool.false_eq_true, if_false]; exact Int.natCast_nonneg _
  · unfold ofSign; simp; omega
end
end Orr

namespace Orr
open Go
variable {P : Program} {ops : Array Oper} {Q : Exit → Act → World → Prop}
variable {K Ob : Nat → Prop} {w0 w : World} {a : Act} {n : Nat} {L : List (Nat × Value)} {Fs : List Fact} {Bs : List Blk} {rest : List Oper}
variable {d : Nat} {ty : TypeId} {pos : String} {after : Array Edge}
theorem St.adopt (h : St K Ob w0 w a n L Fs Bs) {w' : World} (hg : Grow w w') {g E : Nat} {cs : List Value} (h1 : w.heap.size ≤ g) (h2 : w'.heap[g]? = some (.cells cs.toArray E (0, 0))) :
    St K Ob w0 w' a n L Fs ((g, E, cs) :: Bs) := by
  have hgs : g < w'.heap.size := (Array.getElem?_eq_some_iff.1 h2).1
  have h' := h.grown hg
  refine { h' with own := fun g' T' cs' hm => ?_, nodup := ?_, facts := fun f hf => ?_, ownO := fun b hb => ?_ }
  · rcases List.mem_cons.1 hm with e | hm
    · injection e with e1 e2
      injection e2 with e2 e3
      subst e1 e2 e3
      refine ⟨fun hk => ?_, hgs, h2⟩
      have := h.base _ hk
      have := h.wsize
      omega
    · exact h'.own g' T' cs' hm
  · refine List.nodup_cons.2 ⟨fun hm => ?_, h.nodup⟩
    obtain ⟨⟨g', T', cs'⟩, hm', e⟩ := List.mem_map.1 hm
    have e : g' = g := e
    have := (h.own _ _ _ hm').2.1
    omega
  · refine f.keep ⟨hg.1, fun b hb _ => hg.2 b hb, fun b hb ho => ?_⟩ (h.facts f hf)
    rcases ho with ho | ho
    · exact .inl ho
    · rcases List.mem_cons.1 ho with e | ho
      · have e : b = g := e
        omega
      · exact .inr ho
  · rcases List.mem_cons.1 hb with e | hb
    · have e : b = g := e
      intro hO
      have := h.obase _ hO
      have := h.wsize
      omega
    · exact h.ownO b hb
theorem st_callNew {f : FuncId} {fn : Func} {xs : List Operand} {vs : List Value} {ats : Array TypeId} {E : Nat} {Φ : Value → Nat → List Value → Prop} (h : St K Ob w0 w a n L Fs Bs)
    (hf : P.funcs[f]? = some fn) (hn : (fn.name == "runtime.NumGoroutine") = false) (hb : fn.body.isNone = false) (hx : evl L xs = some vs)
    (hc : Calls P f vs.toArray w fun e w' => ∃ r, e = .returned r ∧ Grow w w' ∧ ∃ g cs, w.heap.size ≤ g ∧ w'.heap[g]? = some (.cells cs.toArray E (0, 0)) ∧ Φ r g cs) (hd : Nat.blt d n = true)
    (k : ∀ r g cs w' a', Φ r g cs → St K Ob w0 w' a' n ((d, r) :: L) Fs ((g, E, cs) :: Bs) → wpList P ops Q rest a' w') :
    wpList P ops Q ({ dst := some d, op := .call { callee := .value (.func f), args := xs.toArray, argTypes := ats }, type := ty, pos := pos, after := after, guard := none } :: rest) a w := by
  refine wpList_plain rfl fun K' hK => ?_
  unfold Oper.wp
  have e : (execOp a.eval { dst := some d, op := .call { callee := .value (.func f), args := xs.toArray, argTypes := ats }, type := ty, pos := pos, after := after, guard := none }).run P w = .ok (.enter f vs.toArray) w := by
    have hxs := h.evl hx
    have he : a.eval (.func f) = .func (.func f) #[] #[] := rfl
    simp only [execOp, resolve, he, Deferred.ofValue, hxs, Sem.run_bind, Sem.run_pure, Result.andThen_ok, invoke]
    rw [show (#[] : Array Value) ++ vs.toArray ++ #[] = vs.toArray from by simp]
    exact run_callFunc w hf hn hb
  rw [e]
  simp only [Oper.upon]
  refine hc.mono fun e' w' hr => ?_
  obtain ⟨r, rfl, hg, g, cs, h1, h2, hΦ⟩ := hr
  exact hK _ _ (k r g cs w' _ hΦ ((h.adopt hg h1 h2).put r hd))
def Wrote (w w' : World) (g E : Nat) (cs : List Value) : Prop := w.heap.size ≤ w'.heap.size ∧ (∀ b, b < w.heap.size → b ≠ g → w'.heap[b]? = w.heap[b]?) ∧ w'.heap[g]? = some (.cells cs.toArray E (0, 0)) ∧ (w'.os = w.os ∧ w'.output = w.output)
theorem St.wrote {g E : Nat} {cs cs' : List Value} (h : St K Ob w0 w a n L Fs ((g, E, cs) :: Bs)) {w' : World} (hw : Wrote w w' g E cs') : St K Ob w0 w' a n L Fs ((g, E, cs') :: Bs) := by
  obtain ⟨h1, h2, h3, hio⟩ := hw
  have hg := h.own g E cs (List.mem_cons_self ..)
  refine { h with io := ⟨hio.1.trans h.io.1, hio.2.trans h.io.2⟩, wsize := Nat.le_trans h.wsize h1, grow := fun b hb => ?_, own := fun g' T' cs'' hm => ?_, facts := fun f hf => ?_ , nodup := h.nodup, ownO := h.ownO }
  · have hb0 := h.base b hb
    have := h.wsize
    rw [h2 b (by omega) (fun e => hg.1 (e ▸ hb))]
    exact h.grow b hb
  · rcases List.mem_cons.1 hm with e | hm
    · injection e with e1 e2
      injection e2 with e2 e3
      subst e1 e2 e3
      exact ⟨hg.1, Nat.lt_of_lt_of_le hg.2.1 h1, h3⟩
    · obtain ⟨q1, q2, q3⟩ := h.own g' T' cs'' (List.mem_cons_of_mem _ hm)
      have hne : g' ≠ g := fun e => by
        have := (List.nodup_cons.1 h.nodup).1
        exact this (List.mem_map.2 ⟨_, hm, e⟩)
      exact ⟨q1, Nat.lt_of_lt_of_le q2 h1, (h2 g' q2 hne).trans q3⟩
  · refine f.keep ⟨h1, fun b hb ho => h2 b hb (fun e => ho (.inr ?_)), fun b _ ho => ho⟩ (h.facts f hf)
    exact List.mem_cons.2 (.inl e)
theorem st_callOwn {f : FuncId} {fn : Func} {xs : List Operand} {vs : List Value} {ats : Array TypeId} {g E : Nat} {cs : List Value} {Φ : Value → List Value → Prop} (h : St K Ob w0 w a n L Fs ((g, E, cs) :: Bs))
    (hf : P.funcs[f]? = some fn) (hn : (fn.name == "runtime.NumGoroutine") = false) (hb : fn.body.isNone = false) (hx : evl L xs = some vs)
    (hc : Calls P f vs.toArray w fun e w' => ∃ r, e = .returned r ∧ ∃ cs', Wrote w w' g E cs' ∧ Φ r cs') (hd : Nat.blt d n = true)
    (k : ∀ r cs' w' a', Φ r cs' → St K Ob w0 w' a' n ((d, r) :: L) Fs ((g, E, cs') :: Bs) → wpList P ops Q rest a' w') :
    wpList P ops Q ({ dst := some d, op := .call { callee := .value (.func f), args := xs.toArray, argTypes := ats }, type := ty, pos := pos, after := after, guard := none } :: rest) a w := by
  refine wpList_plain rfl fun K' hK => ?_
  unfold Oper.wp
  have e : (execOp a.eval { dst := some d, op := .call { callee := .value (.func f), args := xs.toArray, argTypes := ats }, type := ty, pos := pos, after := after, guard := none }).run P w = .ok (.enter f vs.toArray) w := by
    have hxs := h.evl hx
    have he : a.eval (.func f) = .func (.func f) #[] #[] := rfl
    simp only [execOp, resolve, he, Deferred.ofValue, hxs, Sem.run_bind, Sem.run_pure, Result.andThen_ok, invoke]
    rw [show (#[] : Array Value) ++ vs.toArray ++ #[] = vs.toArray from by simp]
    exact run_callFunc w hf hn hb
  rw [e]
  simp only [Oper.upon]
  refine hc.mono fun e' w' hr => ?_
  obtain ⟨r, rfl, cs', hw, hΦ⟩ := hr
  exact hK _ _ (k r cs' w' _ hΦ ((h.wrote hw).put r hd))
theorem enterOwn {f : FuncId} {fn : Func} {c : Code} {vs : List Value} {R : Ending → World → Prop} {g E : Nat} {cs : List Value} (hf : P.funcs[f]? = some fn) (hb : fn.body = some c) (hn : fn.ntmps = n) (hl : Nat.ble vs.length n = true)
    (hO : ∀ b, Ob b → b < w.heap.size) (hg : w.heap[g]? = some (.cells cs.toArray E (0, 0))) (hgO : ¬ Ob g) (hfs : ∀ f ∈ Fs, f.holds w (owns Ob [(g, Tag.ty E, cs)]))
    (k : ∀ a, St (fun b => b < w.heap.size ∧ b ≠ g) Ob w w a n (argsL 0 vs) Fs [(g, Tag.ty E, cs)] → c.wp P (bodyPost P fn R) a w) : Calls P f vs.toArray w R := by
  have hl' := Nat.le_of_ble_eq_true hl
  refine calls_of_wp hf hb (k _ ?_)
  refine ⟨by simp [hn]; omega, rfl, fun t v hv => ?_, Nat.le_refl _, fun _ _ => rfl, fun g' T' cs' hm => ?_, by simp, hfs, fun b hb => hb.1, hO, fun b hb => ?_, rfl, rfl⟩
  · obtain ⟨_, h2⟩ := look_argsL 0 vs t v hv
    have ht : t < vs.length := by
      have := (List.getElem?_eq_some_iff.1 h2).1; simpa using this
    simp only [Nat.sub_zero] at h2
    rw [Array.getElem?_append_left (by simpa using ht)]
    simpa using h2
  · rw [List.mem_singleton] at hm
    injection hm with e1 e2
    injection e2 with e2 e3
    subst e1 e2 e3
    exact ⟨fun h => h.2 rfl, (Array.getElem?_eq_some_iff.1 hg).1, hg⟩
  · have e : b = g := by simpa using hb
    subst e; exact hgO
theorem St.wroteOut {W : World} {g E : Nat} {cs : List Value} (h : St (fun b => b < W.heap.size ∧ b ≠ g) Ob W w a n L Fs ((g, E, cs) :: Bs)) : Wrote W w g E cs :=
  ⟨h.wsize, fun b hb hn => h.grow b ⟨hb, hn⟩, (h.own g E cs (List.mem_cons_self ..)).2.2, h.io⟩
theorem St.factOwn {B : Blk} {f : Fact} (h : St K Ob w0 w a n L Fs (B :: Bs)) (k : Nat) (hk : Fs[k]? = some f) : f.holds w (owns (owns Ob Bs) [B]) := by
  refine f.keep ⟨Nat.le_refl _, fun _ _ _ => rfl, fun b _ ho => ?_⟩ (h.facts f (List.mem_of_getElem? hk))
  rcases ho with (ho | ho) | ho
  · exact .inl ho
  · exact .inr (List.mem_cons_of_mem _ ho)
  · have e : b = B.1 := by simpa using ho
    exact .inr (e ▸ List.mem_cons_self ..)
theorem St.ownNot {B : Blk} (h : St K Ob w0 w a n L Fs (B :: Bs)) : ¬ owns Ob Bs B.1 := by
  rintro (ho | ho)
  · exact h.ownO B.1 (List.mem_cons_self ..) ho
  · exact (List.nodup_cons.1 h.nodup).1 ho
theorem St.own0 {g E : Nat} {cs : List Value} (h : St K Ob w0 w a n L Fs ((g, E, cs) :: Bs)) : w.heap[g]? = some (.cells cs.toArray E (0, 0)) := (h.own g E cs (List.mem_cons_self ..)).2.2
theorem St.owns_lt0 {B : Blk} (h : St K Ob w0 w a n L Fs (B :: Bs)) : ∀ b, owns Ob Bs b → b < w.heap.size := fun b hb => h.owns_lt (Bs := B :: Bs) (hb.imp id (List.mem_cons_of_mem _))
theorem st_storeW {T : TypeId} {x y : Operand} {g i v E : Nat} {pre o post : List Nat} (h : St K Ob w0 w a n L Fs ((g, E, u32s (pre ++ o ++ post)) :: Bs)) (hx : ev L x = some (.pointer (some ⟨g, pre.length + i * 1, none⟩)))
    (hy : ev L y = some (.int .u32 (v : Int))) (hs : ∀ w, (Go.sizeOf T).run P w = .ok 1 w) (hi : i < o.length)
    (k : ∀ w', St K Ob w0 w' a n L Fs ((g, E, u32s (pre ++ o.set i v ++ post)) :: Bs) → wpList P ops Q rest a w') :
    wpList P ops Q ({ dst := none, op := .store T x y, type := ty, pos := pos, after := after, guard := none } :: rest) a w := by
  have hx' : ev L x = some (.pointer (some ⟨g, 0 + (pre.length + i) * 1, none⟩)) := by rw [hx]; simp
  refine st_storeU h hx' hy hs (by simp; omega) fun w' h' => k w' ?_
  have e : (pre ++ o ++ post).set (pre.length + i) v = pre ++ o.set i v ++ post := by
    rw [List.append_assoc, List.set_append_right _ _ (by omega), Nat.add_sub_cancel_left, List.set_append_left _ _ hi, List.append_assoc]
  rw [e] at h'
  exact h'
theorem St.cellW {g E i x : Nat} {pre o post : List Nat} (h : St K Ob w0 w a n L Fs ((g, E, u32s (pre ++ o ++ post)) :: Bs)) (hx : o[i]? = some x) : w.cell? ⟨g, pre.length + i * 1, none⟩ = some (.int .u32 (x : Int)) := by
  have hi := (List.getElem?_eq_some_iff.1 hx).1
  have h2 : (pre ++ o ++ post)[pre.length + i]? = some x := by
    rw [List.append_assoc, List.getElem?_append_right (by omega), Nat.add_sub_cancel_left, List.getElem?_append_left hi]
    exact hx
  have := h.u32s_cell h2
  rwa [show 0 + (pre.length + i) * 1 = pre.length + i * 1 from by omega] at this
end Orr
namespace Orr
open Go
variable {P : Program} {ops : Array Oper} {Q : Exit → Act → World → Prop}
variable {K Ob : Nat → Prop} {w0 w : World} {a : Act} {n : Nat} {L : List (Nat × Value)} {Fs : List Fact} {Bs : List Blk} {rest : List Oper}
variable {d : Nat} {ty : TypeId} {pos : String} {after : Array Edge}
theorem st_or32 {x y : Operand} {s k' p q : Nat} {t t' : TypeId} (h : St K Ob w0 w a n L Fs Bs) (hx : ev L x = some (.int .u32 (p : Int))) (hy : ev L y = some (.int .u32 (q : Int))) (hk : q = 2 ^ s * k') (hp : p < 2 ^ s) (hp2 : p < 4294967296) (hq : q < 4294967296) (hpq : p + q < 4294967296) (hd : Nat.blt d n = true)
    (k : ∀ a', St K Ob w0 w a' n ((d, .int .u32 ((p + q : Nat) : Int)) :: L) Fs Bs → wpList P ops Q rest a' w) :
    wpList P ops Q ({ dst := some d, op := .binOp .or t x y t', type := ty, pos := pos, after := after, guard := none } :: rest) a w :=
  st_val h hd (by
    have e1 : (BitVec.ofInt 32 (p : Int)).toNat = p := by rw [BitVec.toNat_ofInt]; omega
    have e2 : (BitVec.ofInt 32 (q : Int)).toNat = q := by rw [BitVec.toNat_ofInt]; omega
    have e3 : IntKind.u32.wrap ((BitVec.ofInt 32 (p : Int) ||| BitVec.ofInt 32 (q : Int)).toNat : Int) = ((p + q : Nat) : Int) := by
      rw [BitVec.toNat_or, e1, e2, hk, Nat.or_comm, ← Nat.two_pow_add_eq_or_of_lt hp k', ← hk, wrapu32_of]
      congr 1; omega
    simp only [execOp, h.ev hx, h.ev hy, eqGuard, Go.binOp, Op.intBits, Sem.run_bind, Sem.run_pure, Result.andThen_ok, ne_eq, not_true_eq_false, if_false]
    simp [Op.intBits]
    exact e3) k
theorem st_cutLH {T E : TypeId} {x y z : Operand} {b o m c l r sz : Nat} {kd kd' : IntKind} (h : St K Ob w0 w a n L Fs Bs) (hx : ev L x = some (.slice (some ⟨b, o, none⟩) m c)) (hy : ev L y = some (.int kd (l : Int))) (hz : ev L z = some (.int kd' (r : Int)))
    (hu : ∀ w, (underlying T).run P w = .ok (.slice E) w) (hs : ∀ w, (Go.sizeOf E).run P w = .ok sz w) (hlr : l ≤ r) (hrc : r ≤ c) (hlc : l < c) (hd : Nat.blt d n = true)
    (k : ∀ a', St K Ob w0 w a' n ((d, .slice (some ⟨b, o + l * sz, none⟩) (r - l) (c - l)) :: L) Fs Bs → wpList P ops Q rest a' w) :
    wpList P ops Q ({ dst := some d, op := .slice T x (some y) (some z) none, type := ty, pos := pos, after := after, guard := none } :: rest) a w :=
  st_val h hd (by
    have hne : ¬ (c = l) := by omega
    simp [execOp, h.ev hx, h.ev hy, h.ev hz, Instr.sliceAt, Instr.slice, Instr.sliceBounds, hu, hs, run_sliceBound _ hrc, run_sliceBound _ hlr, hne, add_spot]) k
theorem quo32 {s : Nat} (h : s ≤ 31) : IntKind.i64.wrap (((s : Nat) : Int).tdiv 32) = 0 := by
  rw [Int.tdiv_eq_zero_of_lt (by omega) (by omega)]; rfl
theorem rem32 {s : Nat} (h : s ≤ 31) : ((s : Nat) : Int).tmod 32 = (s : Int) := Int.tmod_eq_of_lt (by omega) (by omega)
theorem shl_step {o l : List Nat} {i s x z : Nat} (hs : s ≤ 31) (hx : l[i]? = some x) (hxb : x < 4294967296) (hz : o[i]? = some z) (hzs : z < 2 ^ s) (hi1 : i + 1 < o.length) (h : val (o.take (i + 1)) = val (l.take i) * 2 ^ s) :
    z + x * 2 ^ s % 4294967296 < 4294967296 ∧ x * 2 ^ s / 2 ^ 32 < 2 ^ s ∧
    val (((o.set i (z + x * 2 ^ s % 4294967296)).set (i + 1) (x * 2 ^ s / 2 ^ 32 % 4294967296)).take (i + 2)) = val (l.take (i + 1)) * 2 ^ s ∧ x * 2 ^ s % 4294967296 = 2 ^ s * (x % 2 ^ (32 - s)) := by
  have e32 : (2 : Nat) ^ 32 = 4294967296 := by decide
  have ep : (4294967296 : Nat) = 2 ^ s * 2 ^ (32 - s) := by rw [← Nat.pow_add, ← e32]; congr 1; omega
  have hpos : 0 < 2 ^ s := Nat.pow_pos (by decide)
  have e1 : x * 2 ^ s % 4294967296 = 2 ^ s * (x % 2 ^ (32 - s)) := by rw [Nat.mul_comm x, ep, Nat.mul_mod_mul_left]
  have hq : x * 2 ^ s / 2 ^ 32 < 2 ^ s := by
    rw [Nat.div_lt_iff_lt_mul (Nat.pow_pos (by decide)), e32, Nat.mul_comm (2 ^ s)]
    exact Nat.mul_lt_mul_of_pos_right hxb hpos
  have hm : x % 2 ^ (32 - s) < 2 ^ (32 - s) := Nat.mod_lt _ (Nat.pow_pos (by decide))
  have hlow : z + x * 2 ^ s % 4294967296 < 4294967296 := by
    rw [e1]
    have : 2 ^ s * (x % 2 ^ (32 - s) + 1) ≤ 2 ^ s * 2 ^ (32 - s) := Nat.mul_le_mul_left _ hm
    rw [← ep, Nat.mul_add, Nat.mul_one] at this
    omega
  have hs31 : 2 ^ s ≤ 4294967296 := by rw [← e32]; exact Nat.pow_le_pow_right (by decide) (by omega)
  refine ⟨hlow, hq, ?_, e1⟩
  have t1 := val_take_succ o i z hz
  rw [val_set _ (i + 1) _ (by simpa using hi1), val_set o i _ (by omega), val_take_succ l i x hx, Nat.mod_eq_of_lt (Nat.lt_of_lt_of_le hq hs31), Nat.pow_succ]
  have e3 := Nat.div_add_mod (x * 2 ^ s) 4294967296
  rw [e32]
  rw [t1] at h
  generalize x * 2 ^ s / 4294967296 = qh at *
  generalize x * 2 ^ s % 4294967296 = ql at *
  generalize (4294967296 : Nat) ^ i = P' at *
  generalize 2 ^ s = S at *
  clear ep e1 hq hm hlow hs31 t1 hx hz hzs e32 hpos hxb
  have e4 : P' * (4294967296 * qh + ql) = P' * (x * S) := by rw [e3]
  have e5 : (val (l.take i) + P' * x) * S = val (l.take i) * S + P' * (x * S) := by grind
  rw [e5, ← h, ← e4]
  grind
theorem shr_step {o l : List Nat} {i s x y : Nat} (hs : s ≤ 31) (hx : l[i]? = some x) (hy : l[i + 1]? = some y ∨ (l.length ≤ i + 1 ∧ y = 0)) (ho : i < o.length) (hb : ∀ u ∈ l, u < 4294967296) (h : val (o.take i) = val l / 2 ^ s % 4294967296 ^ i) :
    val ((o.set i ((x + y * 2 ^ 32) / 2 ^ s % 4294967296)).take (i + 1)) = val l / 2 ^ s % 4294967296 ^ (i + 1) := by
  rw [val_set o i _ ho, h, Nat.mod_pow_succ]
  congr 1
  congr 1
  have e32 : (2 : Nat) ^ 32 = 4294967296 := by decide
  have ep : (4294967296 : Nat) = 2 ^ s * 2 ^ (32 - s) := by rw [← Nat.pow_add, ← e32]; congr 1; omega
  have hsp := val_split l i x hx
  obtain ⟨R, hR⟩ : ∃ R, val (l.drop (i + 1)) = y + 4294967296 * R := by
    rcases hy with hy | ⟨h1, rfl⟩
    · exact ⟨_, val_drop l (i + 1) y hy⟩
    · exact ⟨0, by rw [List.drop_eq_nil_of_le h1]; rfl⟩
  have ht : val (l.take i) < 4294967296 ^ i := by
    have := val_lt (l.take i) (fun u hu => hb u (List.mem_of_mem_take hu))
    have hi := (List.getElem?_eq_some_iff.1 hx).1
    rwa [List.length_take, Nat.min_eq_left (by omega)] at this
  have e1 : val l / 2 ^ s / 4294967296 ^ i = (x + 4294967296 * (y + 4294967296 * R)) / 2 ^ s := by
    rw [Nat.div_div_eq_div_mul, Nat.mul_comm, ← Nat.div_div_eq_div_mul, hsp, hR, Nat.add_mul_div_left _ _ (Nat.pow_pos (by decide)), Nat.div_eq_of_lt ht, Nat.zero_add]
  rw [e1]
  have e2 : x + 4294967296 * (y + 4294967296 * R) = (x + y * 2 ^ 32) + 2 ^ s * (4294967296 * (2 ^ (32 - s) * R)) := by
    have : 2 ^ s * (4294967296 * (2 ^ (32 - s) * R)) = (2 ^ s * 2 ^ (32 - s)) * (4294967296 * R) := by grind
    rw [this, ← ep, e32]
    grind
  rw [e2, Nat.add_mul_div_left _ _ (Nat.pow_pos (by decide)), Nat.add_mul_mod_self_left]
end Orr
namespace Orr
theorem shl_lt {x s : Nat} (hs : s ≤ 31) (hx : x < 4294967296) : x * 2 ^ s < 18446744073709551616 := by
  have h1 : 2 ^ s ≤ 2 ^ 31 := Nat.pow_le_pow_right (by decide) hs
  have h2 : x * 2 ^ s ≤ 4294967295 * 2 ^ 31 := Nat.mul_le_mul (by omega) h1
  have h3 : 4294967295 * 2 ^ 31 < 18446744073709551616 := by decide
  omega
end Orr
namespace Orr
open Go
variable {P : Program} {ops : Array Oper} {Q : Exit → Act → World → Prop}
variable {K Ob : Nat → Prop} {w0 w : World} {a : Act} {n : Nat} {L : List (Nat × Value)} {Fs : List Fact} {Bs : List Blk} {rest : List Oper}
variable {d : Nat} {ty : TypeId} {pos : String} {after : Array Edge}
theorem st_orM {x y : Operand} {k' p q : Nat} {t t' : TypeId} (h : St K Ob w0 w a n L Fs Bs) (hx : ev L x = some (.int .u64 (p : Int))) (hy : ev L y = some (.int .u64 (q : Int))) (hk : q = 4294967296 * k') (hp : p < 4294967296) (hq : q < 18446744073709551616) (hd : Nat.blt d n = true)
    (k : ∀ a', St K Ob w0 w a' n ((d, .int .u64 ((p + q : Nat) : Int)) :: L) Fs Bs → wpList P ops Q rest a' w) :
    wpList P ops Q ({ dst := some d, op := .binOp .or t x y t', type := ty, pos := pos, after := after, guard := none } :: rest) a w :=
  st_val h hd (by
    have e1 : (BitVec.ofInt 64 (p : Int)).toNat = p := by rw [BitVec.toNat_ofInt]; omega
    have e2 : (BitVec.ofInt 64 (q : Int)).toNat = q := by rw [BitVec.toNat_ofInt]; omega
    have e3 : IntKind.u64.wrap ((BitVec.ofInt 64 (p : Int) ||| BitVec.ofInt 64 (q : Int)).toNat : Int) = ((p + q : Nat) : Int) := by
      rw [BitVec.toNat_or, e1, e2, hk, Nat.or_comm, or_add hp, ← hk, wrapu64_of (by omega) (by omega), Nat.add_comm]
    simp only [execOp, h.ev hx, h.ev hy, eqGuard, Go.binOp, Op.intBits, Sem.run_bind, Sem.run_pure, Result.andThen_ok, ne_eq, not_true_eq_false, if_false]
    simp [Op.intBits]
    exact e3) k
theorem upd_u32s_row : ∀ (o r : List Nat), r.length ≤ o.length → upd (u32s o) 0 (u32s r) = u32s (r ++ o.drop r.length)
  | o, [], _ => by cases o <;> simp [u32s, upd]
  | [], y :: r, h => by simp at h
  | x :: o, y :: r, h => by
    have ih := upd_u32s_row o r (by simpa using h)
    simp only [u32s, List.map_cons] at ih ⊢
    simp only [upd, ih, List.cons_append, List.length_cons, List.drop_succ_cons, List.map_cons]
theorem val_pad (r : List Nat) (k : Nat) : val (r ++ List.replicate k 0) = val r := by
  rw [val_append]
  have : val (List.replicate k 0) = 0 := by
    induction k with
    | zero => rfl
    | succ k ih => simp [List.replicate_succ, val, ih]
  rw [this]; simp
theorem nrm_le_pow {l : List Nat} (h : Nrm l) {k : Nat} (hv : val l < 4294967296 ^ k) : l.length ≤ k := by
  rcases Nat.lt_or_ge k l.length with hk | hk
  · exfalso
    obtain ⟨x, hx, hx0⟩ := h.2 (by intro e; subst e; simp at hk)
    obtain ⟨j, hj⟩ : ∃ j, l.length = j + 1 := ⟨l.length - 1, by omega⟩
    rw [hj, Nat.add_sub_cancel] at hx
    have e := val_take_succ l j x hx
    rw [List.take_of_length_le (by omega)] at e
    have h1 : 4294967296 ^ k ≤ 4294967296 ^ j := Nat.pow_le_pow_right (by decide) (by omega)
    have h2 : 4294967296 ^ j * 1 ≤ 4294967296 ^ j * x := Nat.mul_le_mul_left _ (by omega)
    omega
  · exact hk
end Orr
namespace Orr
open Go
theorem then_ret {Q : Exit → Act → World → Prop} {X : Act → World → Prop} {a : Act} {w : World} (h : Q .ret a w) : Exit.then X Q .ret a w := h
end Orr
namespace Orr
open Go
theorem blk_cut {P : Program} {Q : Exit → Act → World → Prop} {a : Act} {w : World} {x : Code} {N : Act → World → Prop} (I : Act → World → Prop) (hx : x.wp P (Exit.then I Q) a w) (hy : ∀ a w, I a w → N a w) : x.wp P (Exit.then N Q) a w :=
  wp_mono hx fun e a w h => by cases e <;> first | exact hy _ _ h | exact h
end Orr

namespace Orr
open Go
theorem flat_len {sz : Nat} : ∀ {xs : List (List Value)}, (∀ c ∈ xs, c.length = sz) → xs.flatten.length = xs.length * sz
  | [], _ => by simp
  | c :: xs, h => by
    rw [List.flatten_cons, List.length_append, h c (List.mem_cons_self ..), flat_len (fun d hd => h d (List.mem_cons_of_mem _ hd)), List.length_cons, Nat.succ_mul, Nat.add_comm]
theorem flat_get {sz : Nat} : ∀ {xs : List (List Value)}, (∀ c ∈ xs, c.length = sz) → ∀ {i j : Nat}, j < sz → xs.flatten[i * sz + j]? = (xs[i]?).bind (·[j]?)
  | [], _, i, j, _ => by simp
  | c :: xs, h, 0, j, hj => by
    have hc := h c (List.mem_cons_self ..)
    rw [List.flatten_cons, List.getElem?_append_left (by omega)]
    simp
  | c :: xs, h, i + 1, j, hj => by
    have hc := h c (List.mem_cons_self ..)
    have ih := flat_get (fun d hd => h d (List.mem_cons_of_mem _ hd)) (i := i) hj
    rw [List.flatten_cons, List.getElem?_append_right (by rw [hc, Nat.succ_mul]; omega), List.getElem?_cons_succ, ← ih]
    congr 1
    rw [hc, Nat.succ_mul]; omega
theorem upd_append_right : ∀ (a b : List Value) (k : Nat) (vs : List Value), upd (a ++ b) (a.length + k) vs = a ++ upd b k vs
  | [], b, k, vs => by simp
  | u :: a, b, k, vs => by
    have ih := upd_append_right a b k vs
    rw [List.cons_append, List.length_cons, show a.length + 1 + k = (a.length + k) + 1 from by omega]
    cases vs with
    | nil => simp [upd]
    | cons v vs => simp only [upd, ih, List.cons_append]
def Rel.rows {α : Type} (R : Rel α) (xs : List (List Value)) (l : List α) : Fact where
  holds := fun w O => xs.length = l.length ∧ ∀ (i : Nat) x, l[i]? = some x → ∃ cs, xs[i]? = some cs ∧ R.at_ w O cs x
  keep := fun hle ⟨h1, h2⟩ => ⟨h1, fun i x hx => by
    obtain ⟨cs, h3, h4⟩ := h2 i x hx
    exact ⟨cs, h3, R.keep hle h4⟩⟩
section
variable {α : Type} {R : Rel α} {w : World} {O : Nat → Prop} {A : Option Addr} {m c : Nat} {l : List α}
theorem srow_open (h : R.slice.at_ w O [.slice A m c] l) : m = l.length ∧ l.length ≤ c ∧ l.length < 140737488355328 ∧ c < 9223372036854775808 := by
  obtain ⟨A', c', h1, h2, h4, h3, _⟩ := h
  simp at h1; obtain ⟨rfl, rfl, rfl⟩ := h1
  exact ⟨rfl, h2, h3, h4⟩
theorem srow_get (h : R.slice.at_ w O [.slice A m c] l) (hi : 0 < l.length) : ∃ b o, A = some ⟨b, o, none⟩ ∧ b < w.heap.size := by
  obtain ⟨A', c', h1, h2, h3, h4, hr⟩ := h
  simp at h1; obtain ⟨rfl, rfl, rfl⟩ := h1
  obtain ⟨b, o, hA, hlt, _⟩ := hr hi
  exact ⟨b, o, hA, hlt⟩
theorem srow_cells {b o : Nat} (h : R.slice.at_ w O [.slice (some ⟨b, o, none⟩) m c] l) {i : Nat} {x : α} (hx : l[i]? = some x) :
    ∃ cs, R.at_ w O cs x ∧ ∀ j v, cs[j]? = some v → w.cell? ⟨b, o + i * R.size + j, none⟩ = some v := by
  obtain ⟨A', c', h1, h2, h3, h4, hr⟩ := h
  simp at h1; obtain ⟨rfl, rfl, rfl⟩ := h1
  have hi := (List.getElem?_eq_some_iff.1 hx).1
  obtain ⟨b', o', e, _, _, hc⟩ := hr (by omega)
  injection e with e
  injection e with e1 e2
  subst e1; subst e2
  exact hc i x hx
end
section
variable {α : Type} {R : Rel α}
variable {P : Program} {ops : Array Oper} {Q : Exit → Act → World → Prop}
variable {K Ob : Nat → Prop} {w0 w : World} {a : Act} {n : Nat} {L : List (Nat × Value)} {Fs : List Fact} {Bs : List Blk} {rest : List Oper}
variable {d : Nat} {ty : TypeId} {pos : String} {after : Array Edge}
theorem reps_flat (m : Nat) (zs : List Value) : reps m zs = (List.replicate m zs).flatten := by
  induction m with
  | zero => rfl
  | succ m ih => simp [reps, ih, List.replicate_succ]
end
end Orr
namespace Orr
def gcdL (l : List Int) : Nat := l.foldl (fun g z => Nat.gcd g z.natAbs) 0
theorem gcdL_snoc {l : List Int} {i : Nat} {z : Int} (h : l[i]? = some z) : gcdL (l.take (i + 1)) = Nat.gcd (gcdL (l.take i)) z.natAbs := by
  unfold gcdL
  rw [List.take_add_one, h]
  simp [List.foldl_append]
theorem gcd_mod (g x : Nat) : Nat.gcd x (g % x) = Nat.gcd g x := by
  rw [Nat.gcd_comm g x, Nat.gcd_rec x g, Nat.gcd_comm]
theorem foldl_gcd_one (l : List Int) : l.foldl (fun g z => Nat.gcd g z.natAbs) 1 = 1 := by
  induction l with
  | nil => rfl
  | cons z l ih => simp [ih]
theorem gcdL_one {l : List Int} {i : Nat} (h : gcdL (l.take i) = 1) : gcdL l = 1 := by
  have e : l = l.take i ++ l.drop i := (List.take_append_drop i l).symm
  unfold gcdL at h ⊢
  rw [e, List.foldl_append, h, foldl_gcd_one]
end Orr
namespace Orr
open Go
def part {α β : Type} (f : α → β) (l : List α) (i : Nat) (z : β) : List β := (l.take i).map f ++ List.replicate (l.length - i) z
section
variable {α β : Type} {f : α → β} {l : List α} {i : Nat} {z : β}
end
def trim : List Int → List Int
  | [] => []
  | x :: l => match trim l with
    | [] => if x = 0 then [] else [x]
    | y :: k => x :: y :: k
theorem trim_zeros : ∀ {l : List Int}, (∀ x ∈ l, x = 0) → trim l = []
  | [], _ => rfl
  | x :: l, h => by
    have ih := trim_zeros (l := l) (fun y hy => h y (List.mem_cons_of_mem _ hy))
    simp [trim, ih, h x (List.mem_cons_self ..)]
theorem trim_take : ∀ {l : List Int} {m : Nat} {y : Int}, (∀ j x, m < j → l[j]? = some x → x = 0) → l[m]? = some y → y ≠ 0 → trim l = l.take (m + 1)
  | [], m, y, _, h, _ => by simp at h
  | x :: l, 0, y, h1, h2, h3 => by
    have h0 : trim l = [] := trim_zeros fun z hz => by
      obtain ⟨j, hj⟩ := List.mem_iff_getElem?.1 hz
      exact h1 (j + 1) z (by omega) (by simpa using hj)
    simp at h2
    subst h2
    simp [trim, h0, h3]
  | x :: l, m + 1, y, h1, h2, h3 => by
    have ih := trim_take (l := l) (m := m) (y := y) (fun j z hj hz => h1 (j + 1) z (by omega) (by simpa using hz)) (by simpa using h2) h3
    cases hl : l with
    | nil => subst hl; simp at h2
    | cons u k =>
      subst hl
      rw [List.take_succ_cons] at ih
      simp only [trim] at ih ⊢
      rw [ih]
      simp
def Trim (l : List Int) : Prop := trim l = l
theorem trim_trim : ∀ (l : List Int), Trim (trim l)
  | [] => rfl
  | x :: l => by
    have ih := trim_trim l
    unfold Trim at ih ⊢
    cases h : trim l with
    | nil => by_cases hx : x = 0 <;> simp [trim, h, hx]
    | cons y k =>
      rw [h] at ih
      simp only [trim, h] at ih ⊢
      rw [ih]
theorem trim_cut {l : List Int} {m : Nat} (hm : m ≤ l.length) (h1 : ∀ j x, m ≤ j → l[j]? = some x → x = 0) (h2 : 0 < m → ∃ y, l[m - 1]? = some y ∧ y ≠ 0) : trim l = l.take m := by
  rcases Nat.eq_zero_or_pos m with h0 | h0
  · subst h0
    rw [trim_zeros fun z hz => ?_]; rfl
    obtain ⟨j, hj⟩ := List.mem_iff_getElem?.1 hz
    exact h1 j z (by omega) hj
  · obtain ⟨y, hy, hy0⟩ := h2 h0
    have := trim_take (l := l) (m := m - 1) (y := y) (fun j x hj hx => h1 j x (by omega) hx) hy hy0
    rwa [show m - 1 + 1 = m from by omega] at this
end Orr

namespace Orr
open Go
inductive LV where
  | int (k : IntKind) (n : Int)
  | bool (b : Bool)
  | str (s : ByteArray)
  | nilp
  | nils
  | row (l : List (List LV))
  | sh (l : List LV)
  | fn (f : Nat) (pre post : List LV)
  | ow (g off : Nat)
  | orow (r : Option (Nat × Nat)) (sz lo len : Nat)
  | oel (r : Option (Nat × Nat)) (sz i off : Nat)
  | ofn (f : Nat) (pre post : List LV)
  | frow (l : List (List LV))
  | omap (g : Nat)
  | any
inductive LRep (w : World) (O : Nat → Prop) : Value → LV → Prop
  | any (v : Value) (h : Orr.one v = true) : LRep w O v .any
  | int (k : IntKind) (n : Int) : LRep w O (.int k n) (.int k n)
  | bool (b : Bool) : LRep w O (.bool b) (.bool b)
  | str (s : ByteArray) : LRep w O (.string s) (.str s)
  | nilp : LRep w O (.pointer none) .nilp
  | nils : LRep w O (.slice none 0 0) .nils
  | row (A : Option Addr) (c sz b o : Nat) (l : List (List LV)) (f : Nat → Nat → Value)
      (hc : l.length ≤ c) (hc63 : c < 2 ^ 63) (hl : l.length < 2 ^ 47) (hs : ∀ cs ∈ l, cs.length = sz)
      (hA : 0 < l.length → A = some ⟨b, o, none⟩ ∧ b < w.heap.size ∧ ¬ O b)
      (hcell : ∀ (i : Nat) (cs : List LV), l[i]? = some cs → ∀ j, j < cs.length → w.cell? ⟨b, o + i * sz + j, none⟩ = some (f i j))
      (hrep : ∀ (i : Nat) (cs : List LV), l[i]? = some cs → ∀ (j : Nat) (x : LV), cs[j]? = some x → LRep w O (f i j) x) :
      LRep w O (.slice A l.length c) (.row l)
  | sh (b o : Nat) (l : List LV) (f : Nat → Value) (hb : b < w.heap.size) (hO : ¬ O b)
      (hcell : ∀ j, j < l.length → w.cell? ⟨b, o + j, none⟩ = some (f j)) (hrep : ∀ (j : Nat) (x : LV), l[j]? = some x → LRep w O (f j) x) :
      LRep w O (.pointer (some ⟨b, o, none⟩)) (.sh l)
  | fn (f : Nat) (pre post : List LV) (vs us : List Value) (h1 : vs.length = pre.length) (h2 : us.length = post.length)
      (h3 : ∀ (j : Nat) (v : Value) (x : LV), vs[j]? = some v → pre[j]? = some x → LRep w O v x)
      (h4 : ∀ (j : Nat) (v : Value) (x : LV), us[j]? = some v → post[j]? = some x → LRep w O v x) :
      LRep w O (.func (.func f) vs.toArray us.toArray) (.fn f pre post)
theorem cell_keep {w w' : World} {O O' : Nat → Prop} (hle : Le w O w' O') {b o : Nat} (hb : b < w.heap.size) (hO : ¬ O b) : w'.cell? ⟨b, o, none⟩ = w.cell? ⟨b, o, none⟩ := by
  simp only [World.cell?]
  rw [hle.2.1 b hb hO]
theorem LRep.keep {w w' : World} {O O' : Nat → Prop} (hle : Le w O w' O') {v : Value} {x : LV} (h : LRep w O v x) : LRep w' O' v x := by
  induction h with
  | any v h => exact .any v h
  | int k n => exact .int k n
  | bool b => exact .bool b
  | str s => exact .str s
  | nilp => exact .nilp
  | nils => exact .nils
  | row A c sz b o l f hc hc63 hl hs hA hcell hrep ih =>
    refine .row A c sz b o l f hc hc63 hl hs (fun h0 => ?_) (fun i cs hi j hj => ?_) ih
    · obtain ⟨h1, h2, h3⟩ := hA h0
      exact ⟨h1, Nat.lt_of_lt_of_le h2 hle.1, fun ho => h3 (hle.2.2 b h2 ho)⟩
    · have h0 : 0 < l.length := Nat.lt_of_le_of_lt (Nat.zero_le _) (List.getElem?_eq_some_iff.1 hi).1
      obtain ⟨_, h2, h3⟩ := hA h0
      rw [cell_keep hle h2 h3]
      exact hcell i cs hi j hj
  | sh b o l f hb hO hcell hrep ih =>
    refine .sh b o l f (Nat.lt_of_lt_of_le hb hle.1) (fun ho => hO (hle.2.2 b hb ho)) (fun j hj => ?_) ih
    rw [cell_keep hle hb hO]
    exact hcell j hj
  | fn f pre post vs us h1 h2 h3 h4 ih1 ih2 => exact .fn f pre post vs us h1 h2 ih1 ih2
theorem LRep.one {w : World} {O : Nat → Prop} {v : Value} {x : LV} (h : LRep w O v x) : Orr.one v = true := by cases h <;> first | rfl | assumption
def YRep (w : World) (O : Nat → Prop) (v : Value) : LV → Prop
  | .ow g off => v = .pointer (some ⟨g, off, none⟩)
  | x => LRep w O v x
def YReps (w : World) (O : Nat → Prop) : List Value → List LV → Prop
  | [], [] => True
  | v :: vs, x :: xs => YRep w O v x ∧ YReps w O vs xs
  | _, _ => False
theorem YRep.keep {w w' : World} {O O' : Nat → Prop} (hle : Le w O w' O') {v : Value} {x : LV} (h : YRep w O v x) : YRep w' O' v x := by
  cases x <;> first | exact LRep.keep hle h | exact h
theorem YReps.keep {w w' : World} {O O' : Nat → Prop} (hle : Le w O w' O') : ∀ {vs : List Value} {xs : List LV}, YReps w O vs xs → YReps w' O' vs xs
  | [], [], _ => trivial
  | _ :: _, _ :: _, h => ⟨h.1.keep hle, YReps.keep hle h.2⟩
  | [], _ :: _, h => h.elim
  | _ :: _, [], h => h.elim
def XRep (w : World) (O : Nat → Prop) (v : Value) : LV → Prop
  | .ow g off => v = .pointer (some ⟨g, off, none⟩)
  | .orow none _ lo len => v = .slice none 0 0 ∧ lo = 0 ∧ len = 0
  | .orow (some (g, c)) sz lo len => lo + len ≤ c ∧ ∃ a, v = .slice (some ⟨g, a, none⟩) len (c - lo) ∧ (lo = 0 ∨ lo < c → a = lo * sz)
  | .oel none _ _ _ => False
  | .oel (some (g, _)) sz i off => v = .pointer (some ⟨g, i * sz + off, none⟩)
  | .ofn f pre post => ∃ vs us : List Value, v = .func (.func f) vs.toArray us.toArray ∧ YReps w O vs pre ∧ YReps w O us post
  | .frow l => LRep w O v (.row l) ∧ ∃ A, v = .slice A l.length l.length
  | .omap g => v = .map (some g)
  | x => LRep w O v x
def LV.free : LV → Bool
  | .ow _ _ => false
  | .orow _ _ _ _ => false
  | .oel _ _ _ _ => false
  | .ofn _ _ _ => false
  | .frow _ => false
  | .omap _ => false
  | _ => true
theorem XRep.free {w : World} {O : Nat → Prop} {v : Value} {x : LV} (h : XRep w O v x) (hx : x.free = true) : LRep w O v x := by
  cases x <;> first | exact h | cases hx
theorem LRep.x {w : World} {O : Nat → Prop} {v : Value} {x : LV} (h : LRep w O v x) : XRep w O v x := by
  cases x <;> first | exact h | cases h
theorem XRep.keep {w w' : World} {O O' : Nat → Prop} (hle : Le w O w' O') {v : Value} {x : LV} (h : XRep w O v x) : XRep w' O' v x := by
  cases x <;> first | exact LRep.keep hle h | skip
  · exact h
  · rename_i r _ _ _; rcases r with _ | ⟨g, c⟩ <;> exact h
  · rename_i r _ _ _; rcases r with _ | ⟨g, c⟩ <;> exact h
  · obtain ⟨vs, us, e, h1, h2⟩ := h; exact ⟨vs, us, e, h1.keep hle, h2.keep hle⟩
  · exact ⟨LRep.keep hle h.1, h.2⟩
  · exact h
theorem XRep.one {w : World} {O : Nat → Prop} {v : Value} {x : LV} (h : XRep w O v x) : Orr.one v = true := by
  cases x <;> first | exact LRep.one h | skip
  · rw [show v = _ from h]; rfl
  · rename_i r _ _ _; rcases r with _ | ⟨g, c⟩
    · rw [h.1]; rfl
    · obtain ⟨_, a, e, _⟩ := h; rw [e]; rfl
  · rename_i r _ _ _; rcases r with _ | ⟨g, c⟩
    · exact h.elim
    · rw [show v = _ from h]; rfl
  · obtain ⟨vs, us, e, _⟩ := h; rw [e]; rfl
  · exact LRep.one h.1
  · rw [show v = _ from h]; rfl
def XReps (w : World) (O : Nat → Prop) : List Value → List LV → Prop
  | [], [] => True
  | v :: vs, x :: xs => XRep w O v x ∧ XReps w O vs xs
  | _, _ => False
section
variable {w w' : World} {O O' : Nat → Prop}
theorem XReps.keep (hle : Le w O w' O') : ∀ {vs : List Value} {xs : List LV}, XReps w O vs xs → XReps w' O' vs xs
  | [], [], _ => trivial
  | v :: vs, x :: xs, h => ⟨h.1.keep hle, XReps.keep hle h.2⟩
  | [], _ :: _, h => h.elim
  | _ :: _, [], h => h.elim
theorem XReps.len : ∀ {vs : List Value} {xs : List LV}, XReps w O vs xs → vs.length = xs.length
  | [], [], _ => rfl
  | v :: vs, x :: xs, h => by simp [h.2.len]
  | [], _ :: _, h => h.elim
  | _ :: _, [], h => h.elim
theorem XReps.get : ∀ {vs : List Value} {xs : List LV}, XReps w O vs xs → ∀ {j : Nat} {x : LV}, xs[j]? = some x → ∃ v, vs[j]? = some v ∧ XRep w O v x
  | [], [], _, j, x, hx => by simp at hx
  | v :: vs, x :: xs, h, 0, y, hy => by simp at hy; subst hy; exact ⟨v, rfl, h.1⟩
  | v :: vs, x :: xs, h, j + 1, y, hy => by simpa using h.2.get (j := j) (by simpa using hy)
  | [], _ :: _, h, _, _, _ => h.elim
  | _ :: _, [], h, _, _, _ => h.elim
theorem XReps.get' : ∀ {vs : List Value} {xs : List LV}, XReps w O vs xs → ∀ {j : Nat} {x : LV} {v : Value}, vs[j]? = some v → xs[j]? = some x → XRep w O v x
  | vs, xs, h, j, x, v, hv, hx => by
    obtain ⟨u, hu, hr⟩ := h.get hx
    rw [hv] at hu; injection hu with hu; subst hu; exact hr
theorem XReps.of : ∀ {vs : List Value} {xs : List LV}, vs.length = xs.length → (∀ (j : Nat) (v : Value) (x : LV), vs[j]? = some v → xs[j]? = some x → XRep w O v x) → XReps w O vs xs
  | [], [], _, _ => trivial
  | v :: vs, x :: xs, hl, h => ⟨h 0 v x rfl rfl, XReps.of (by simpa using hl) fun j u y hu hy => h (j + 1) u y (by simpa using hu) (by simpa using hy)⟩
  | [], _ :: _, h, _ => by simp at h
  | _ :: _, [], h, _ => by simp at h
theorem XReps.append : ∀ {vs us : List Value} {xs ys : List LV}, XReps w O vs xs → XReps w O us ys → XReps w O (vs ++ us) (xs ++ ys)
  | [], _, [], _, _, h => h
  | v :: vs, _, x :: xs, _, h, h' => ⟨h.1, h.2.append h'⟩
  | [], _, _ :: _, _, h, _ => h.elim
  | _ :: _, _, [], _, h, _ => h.elim
theorem XReps.drop : ∀ {vs : List Value} {xs : List LV} (k : Nat), XReps w O vs xs → XReps w O (vs.drop k) (xs.drop k)
  | _, _, 0, h => by simpa using h
  | [], [], _ + 1, _ => trivial
  | v :: vs, x :: xs, k + 1, h => by simpa using XReps.drop k h.2
  | [], _ :: _, _ + 1, h => h.elim
  | _ :: _, [], _ + 1, h => h.elim
theorem XReps.take : ∀ {vs : List Value} {xs : List LV} (k : Nat), XReps w O vs xs → XReps w O (vs.take k) (xs.take k)
  | _, _, 0, _ => by simp [XReps]
  | [], [], _ + 1, _ => trivial
  | v :: vs, x :: xs, k + 1, h => ⟨h.1, XReps.take k h.2⟩
  | [], _ :: _, _ + 1, h => h.elim
  | _ :: _, [], _ + 1, h => h.elim
theorem XReps.one : ∀ {vs : List Value} {xs : List LV}, XReps w O vs xs → ∀ u ∈ vs, Orr.one u = true
  | [], _, _, u, hu => by cases hu
  | v :: vs, x :: xs, h, u, hu => by
    rcases List.mem_cons.1 hu with rfl | hu
    · exact h.1.one
    · exact h.2.one u hu
  | _ :: _, [], h, _, _ => h.elim
end
def updL : List LV → Nat → List LV → List LV
  | l, _, [] => l
  | [], _, _ :: _ => []
  | _ :: l, 0, v :: vs => v :: updL l 0 vs
  | u :: l, i + 1, vs => u :: updL l i vs
theorem length_updL (cs : List LV) (off : Nat) (vs : List LV) : (updL cs off vs).length = cs.length := by
  induction cs generalizing off vs with
  | nil => cases vs <;> simp [updL]
  | cons c cs ih =>
    cases vs with
    | nil => simp [updL]
    | cons v vs => cases off <;> simp [updL, ih]
theorem XReps.upd {w : World} {O : Nat → Prop} : ∀ {cs : List Value} {xs : List LV} {vs : List Value} {ys : List LV} (off : Nat), XReps w O cs xs → XReps w O vs ys → XReps w O (upd cs off vs) (updL xs off ys)
  | cs, xs, [], [], off, h, _ => by cases cs <;> cases xs <;> first | exact h | (simp [XReps] at h)
  | [], [], v :: vs, y :: ys, off, h, _ => by simp [Orr.upd, updL, XReps]
  | c :: cs, x :: xs, v :: vs, y :: ys, 0, h, h' => ⟨h'.1, XReps.upd 0 h.2 h'.2⟩
  | c :: cs, x :: xs, v :: vs, y :: ys, off + 1, h, h' => ⟨h.1, XReps.upd off h.2 h'⟩
  | [], _ :: _, _, _, _, h, _ => h.elim
  | _ :: _, [], _, _, _, h, _ => h.elim
  | _, _, [], _ :: _, _, _, h => h.elim
  | _, _, _ :: _, [], _, _, h => h.elim
inductive AV where
  | one (x : LV)
  | agg (xs : List LV)
  | tup (l : List AV)
  | un
def TRep (w : World) (O : Nat → Prop) (v : Value) : AV → Prop
  | .one x => XRep w O v x
  | .agg xs => ∃ vs : List Value, v = .agg vs.toArray ∧ XReps w O vs xs
  | _ => False
def TReps (w : World) (O : Nat → Prop) : List Value → List AV → Prop
  | [], [] => True
  | v :: vs, x :: xs => TRep w O v x ∧ TReps w O vs xs
  | _, _ => False
def ARep (w : World) (O : Nat → Prop) (v : Value) : AV → Prop
  | .tup l => ∃ vs : List Value, v = .tuple vs.toArray ∧ TReps w O vs l
  | .un => True
  | x => TRep w O v x
section
variable {w w' : World} {O O' : Nat → Prop}
theorem TRep.keep (hle : Le w O w' O') {v : Value} {x : AV} (h : TRep w O v x) : TRep w' O' v x := by
  cases x with
  | one x => exact XRep.keep hle h
  | agg xs => obtain ⟨vs, e, h⟩ := h; exact ⟨vs, e, h.keep hle⟩
  | tup l => exact h.elim
  | un => exact h.elim
theorem TRep.a {v : Value} {x : AV} (h : TRep w O v x) : ARep w O v x := by cases x <;> first | exact h | exact h.elim
theorem TReps.keep (hle : Le w O w' O') : ∀ {vs : List Value} {xs : List AV}, TReps w O vs xs → TReps w' O' vs xs
  | [], [], _ => trivial
  | v :: vs, x :: xs, h => ⟨h.1.keep hle, TReps.keep hle h.2⟩
  | [], _ :: _, h => h.elim
  | _ :: _, [], h => h.elim
theorem ARep.keep (hle : Le w O w' O') {v : Value} {x : AV} (h : ARep w O v x) : ARep w' O' v x := by
  cases x with
  | one x => exact TRep.keep (x := .one x) hle h
  | agg xs => exact TRep.keep (x := .agg xs) hle h
  | tup l => obtain ⟨vs, e, h⟩ := h; exact ⟨vs, e, h.keep hle⟩
  | un => trivial
theorem TReps.len : ∀ {vs : List Value} {xs : List AV}, TReps w O vs xs → vs.length = xs.length
  | [], [], _ => rfl
  | v :: vs, x :: xs, h => by simp [h.2.len]
  | [], _ :: _, h => h.elim
  | _ :: _, [], h => h.elim
theorem TReps.get : ∀ {vs : List Value} {xs : List AV}, TReps w O vs xs → ∀ {j : Nat} {x : AV}, xs[j]? = some x → ∃ v, vs[j]? = some v ∧ TRep w O v x
  | [], [], _, j, x, hx => by simp at hx
  | v :: vs, x :: xs, h, 0, y, hy => by simp at hy; subst hy; exact ⟨v, rfl, h.1⟩
  | v :: vs, x :: xs, h, j + 1, y, hy => by simpa using h.2.get (j := j) (by simpa using hy)
  | [], _ :: _, h, _, _, _ => h.elim
  | _ :: _, [], h, _, _, _ => h.elim
end
inductive OB where
  | blk (g : Nat) (T : TypeId) (xs : List LV)
  | row (r : Option (Nat × Nat)) (E sz : Nat) (ls : List (List LV))
  | mpb (g : Nat) (es : List (List Int × LV))
def litV : LV → Value
  | .int k n => .int k n
  | .bool b => .bool b
  | _ => undef
def entsOf (es : List (List Int × LV)) : List (Value × Value) := es.map fun e => (.agg (e.1.map (Value.int .i64)).toArray, litV e.2)
def RReps (w : World) (O : Nat → Prop) : List (List Value) → List (List LV) → Prop
  | [], [] => True
  | v :: vs, x :: xs => XReps w O v x ∧ RReps w O vs xs
  | _, _ => False
def OBRep (w : World) (O : Nat → Prop) : OB → List Blk → Prop
  | .blk g T xs, Bo => ∃ cs, Bo = [(g, Tag.ty T, cs)] ∧ XReps w O cs xs
  | .row none _ sz ls, Bo => 0 < sz ∧ ls = [] ∧ Bo = []
  | .row (some (g, c)) E sz ls, Bo => 0 < sz ∧ (∀ c ∈ ls, c.length = sz) ∧ (∀ c ∈ ls, ∀ x ∈ c, x.free = true) ∧ ∃ (vss : List (List Value)) (ex : List Value), RReps w O vss ls ∧ Bo = [(g, Tag.ty E, vss.flatten ++ ex)] ∧ (vss.flatten ++ ex).length = c * sz ∧ ls.length ≤ c ∧ c < 2 ^ 63
  | .mpb g es, Bo => (∀ e ∈ es, e.1.length = 3) ∧ ∃ ents ck, Bo = [(g, Tag.mp ents ck, [])] ∧ ents.map (fun e => (e.key, e.val)) = entsOf es
def BsRep (w : World) (O : Nat → Prop) : List OB → List Blk → Prop
  | [], Bs => Bs = []
  | b :: B, Bs => ∃ Bo Bs', Bs = Bo ++ Bs' ∧ OBRep w O b Bo ∧ BsRep w O B Bs'
section
variable {w w' : World} {O O' : Nat → Prop}
theorem RReps.keep (hle : Le w O w' O') : ∀ {vs : List (List Value)} {xs : List (List LV)}, RReps w O vs xs → RReps w' O' vs xs
  | [], [], _ => trivial
  | v :: vs, x :: xs, h => ⟨h.1.keep hle, RReps.keep hle h.2⟩
  | [], _ :: _, h => h.elim
  | _ :: _, [], h => h.elim
theorem RReps.len : ∀ {vs : List (List Value)} {xs : List (List LV)}, RReps w O vs xs → vs.length = xs.length
  | [], [], _ => rfl
  | v :: vs, x :: xs, h => by simp [h.2.len]
  | [], _ :: _, h => h.elim
  | _ :: _, [], h => h.elim
theorem RReps.get : ∀ {vs : List (List Value)} {xs : List (List LV)}, RReps w O vs xs → ∀ {j : Nat} {x : List LV}, xs[j]? = some x → ∃ v, vs[j]? = some v ∧ XReps w O v x
  | [], [], _, j, x, hx => by simp at hx
  | v :: vs, x :: xs, h, 0, y, hy => by simp at hy; subst hy; exact ⟨v, rfl, h.1⟩
  | v :: vs, x :: xs, h, j + 1, y, hy => by simpa using h.2.get (j := j) (by simpa using hy)
  | [], _ :: _, h, _, _, _ => h.elim
  | _ :: _, [], h, _, _, _ => h.elim
theorem RReps.of : ∀ {vs : List (List Value)} {xs : List (List LV)}, vs.length = xs.length → (∀ (j : Nat) (v : List Value) (x : List LV), vs[j]? = some v → xs[j]? = some x → XReps w O v x) → RReps w O vs xs
  | [], [], _, _ => trivial
  | v :: vs, x :: xs, hl, h => ⟨h 0 v x rfl rfl, RReps.of (by simpa using hl) fun j u y hu hy => h (j + 1) u y (by simpa using hu) (by simpa using hy)⟩
  | [], _ :: _, h, _ => by simp at h
  | _ :: _, [], h, _ => by simp at h
theorem RReps.get' {vs : List (List Value)} {xs : List (List LV)} (h : RReps w O vs xs) {j : Nat} {x : List LV} {v : List Value} (hv : vs[j]? = some v) (hx : xs[j]? = some x) : XReps w O v x := by
  obtain ⟨u, hu, hr⟩ := h.get hx
  rw [hv] at hu; injection hu with hu; subst hu; exact hr
theorem RReps.append : ∀ {vs us : List (List Value)} {xs ys : List (List LV)}, RReps w O vs xs → RReps w O us ys → RReps w O (vs ++ us) (xs ++ ys)
  | [], _, [], _, _, h => h
  | v :: vs, _, x :: xs, _, h, h' => ⟨h.1, h.2.append h'⟩
  | [], _, _ :: _, _, h, _ => h.elim
  | _ :: _, _, [], _, h, _ => h.elim
theorem RReps.all {sz : Nat} {vs : List (List Value)} {xs : List (List LV)} (h : RReps w O vs xs) (hx : ∀ c ∈ xs, c.length = sz) : ∀ c ∈ vs, c.length = sz := by
  intro c hc
  obtain ⟨j, hj⟩ := List.mem_iff_getElem?.1 hc
  have hl := (List.getElem?_eq_some_iff.1 hj).1
  rw [h.len] at hl
  have := (h.get' hj (List.getElem?_eq_getElem hl)).len
  rw [this]; exact hx _ (List.getElem_mem hl)
theorem OBRep.keep (hle : Le w O w' O') {b : OB} {Bo : List Blk} (h : OBRep w O b Bo) : OBRep w' O' b Bo := by
  cases b with
  | blk g T xs => obtain ⟨cs, e, h⟩ := h; exact ⟨cs, e, h.keep hle⟩
  | row r E sz ls =>
    rcases r with _ | ⟨g, c⟩
    · exact h
    · obtain ⟨h1, h2, h2', vss, ex, h3, h4⟩ := h
      exact ⟨h1, h2, h2', vss, ex, h3.keep hle, h4⟩
  | mpb g es => exact h
theorem BsRep.keep (hle : Le w O w' O') : ∀ {B : List OB} {Bs : List Blk}, BsRep w O B Bs → BsRep w' O' B Bs
  | [], _, h => h
  | b :: B, Bs, h => by
    obtain ⟨Bo, Bs', e, h1, h2⟩ := h
    exact ⟨Bo, Bs', e, h1.keep hle, h2.keep hle⟩
theorem BsRep.front : ∀ {B : List OB} {Bs : List Blk} {i : Nat} {b : OB}, BsRep w O B Bs → B[i]? = some b → ∃ Bo Bs', Bs.Perm (Bo ++ Bs') ∧ OBRep w O b Bo ∧ BsRep w O (B.eraseIdx i) Bs'
  | [], _, i, b, _, hi => by simp at hi
  | x :: B, Bs, 0, b, h, hi => by
    simp at hi; subst hi
    obtain ⟨Bo, Bs', e, h1, h2⟩ := h
    exact ⟨Bo, Bs', e ▸ .refl _, h1, h2⟩
  | x :: B, Bs, i + 1, b, h, hi => by
    obtain ⟨Bx, Bs1, e, h1, h2⟩ := h
    obtain ⟨Bo, Bs', hp, h3, h4⟩ := h2.front (i := i) (by simpa using hi)
    refine ⟨Bo, Bx ++ Bs', ?_, h3, ⟨Bx, Bs', rfl, h1, h4⟩⟩
    subst e
    refine (hp.append_left Bx).trans ?_
    rw [← List.append_assoc, ← List.append_assoc]
    exact List.perm_append_comm.append_right _
end
def lk : List (Nat × AV) → Nat → Option AV
  | [], _ => none
  | (t, v) :: l, s => match Nat.beq s t with
    | true => some v
    | false => lk l s
def SA (K Ob : Nat → Prop) (w0 w : World) (a : Act) (n : Nat) (L : List (Nat × AV)) (B : List OB) : Prop :=
  ∃ L' Bs, St K Ob w0 w a n L' [] Bs ∧ (∀ t x, lk L t = some x → ∃ v, look L' t = some v ∧ ARep w (owns Ob Bs) v x) ∧ BsRep w (owns Ob Bs) B Bs
def cst : Value → Option AV
  | .int k n => some (.one (.int k n))
  | .bool b => some (.one (.bool b))
  | .string s => some (.one (.str s))
  | .pointer none => some (.one .nilp)
  | .slice none 0 0 => some (.one .nils)
  | _ => none
def evA (L : List (Nat × AV)) : Operand → Option AV
  | .tmp t => lk L t
  | .const v => cst v
  | .func f => some (.one (.fn f [] []))
  | .global _ => none
def evAl (L : List (Nat × AV)) : List Operand → Option (List AV)
  | [] => some []
  | x :: r => match evA L x with
    | none => none
    | some v => match evAl L r with
      | none => none
      | some vs => some (v :: vs)
def evAp (L : List (Nat × AV)) : List (Nat × Operand) → Option (List (Nat × AV))
  | [] => some []
  | (i, x) :: r => match evA L x with
    | none => none
    | some v => match evAp L r with
      | none => none
      | some vs => some ((i, v) :: vs)
theorem cst_rep {w : World} {O : Nat → Prop} {v : Value} {x : AV} (h : cst v = some x) : ARep w O v x := by
  unfold cst at h
  split at h <;> first | cases h | (injection h with h; subst h)
  · exact LRep.int _ _
  · exact LRep.bool _
  · exact LRep.str _
  · exact LRep.nilp
  · exact LRep.nils
section
variable {K Ob : Nat → Prop} {w0 w : World} {a : Act} {n : Nat} {L : List (Nat × AV)} {B : List OB} {L' : List (Nat × Value)} {Bs : List Blk} {O : Nat → Prop}
theorem ev_of (hL : ∀ t x, lk L t = some x → ∃ v, look L' t = some v ∧ ARep w O v x) {x : Operand} {u : AV} (h : evA L x = some u) : ∃ v, ev L' x = some v ∧ ARep w O v u := by
  cases x with
  | tmp t => exact hL t u h
  | const v => exact ⟨v, rfl, cst_rep h⟩
  | func f =>
    simp only [evA, Option.some.injEq] at h
    subst h
    exact ⟨_, rfl, LRep.fn f [] [] [] [] rfl rfl (fun j v x h => by simp at h) (fun j v x h => by simp at h)⟩
  | global g => cases h
theorem evl_of (hL : ∀ t x, lk L t = some x → ∃ v, look L' t = some v ∧ ARep w O v x) : ∀ {xs : List Operand} {us : List AV}, evAl L xs = some us → ∃ vs, evl L' xs = some vs ∧ vs.length = us.length ∧ ∀ (j : Nat) (v : Value) (u : AV), vs[j]? = some v → us[j]? = some u → ARep w O v u
  | [], us, h => by simp [evAl] at h; subst h; exact ⟨[], rfl, rfl, fun j v u hv => by simp at hv⟩
  | x :: r, us, h => by
    simp only [evAl] at h
    split at h
    · cases h
    · rename_i u hx
      split at h
      · cases h
      · rename_i us' hr
        injection h with h; subst h
        obtain ⟨v, h1, h2⟩ := ev_of hL hx
        obtain ⟨vs, h3, h4, h5⟩ := evl_of hL hr
        refine ⟨v :: vs, by simp [evl, h1, h3], by simp [h4], fun j y z hy hz => ?_⟩
        cases j with
        | zero => simp at hy hz; subst hy; subst hz; exact h2
        | succ j => exact h5 j y z (by simpa using hy) (by simpa using hz)
theorem evp_of (hL : ∀ t x, lk L t = some x → ∃ v, look L' t = some v ∧ ARep w O v x) : ∀ {xs : List (Nat × Operand)} {us : List (Nat × AV)}, evAp L xs = some us → ∃ vs, evp L' xs = some vs ∧ vs.length = us.length ∧ ∀ (j : Nat) (v : Nat × Value) (u : Nat × AV), vs[j]? = some v → us[j]? = some u → v.1 = u.1 ∧ ARep w O v.2 u.2
  | [], us, h => by simp [evAp] at h; subst h; exact ⟨[], rfl, rfl, fun j v u hv => by simp at hv⟩
  | (i, x) :: r, us, h => by
    simp only [evAp] at h
    split at h
    · cases h
    · rename_i u hx
      split at h
      · cases h
      · rename_i us' hr
        injection h with h; subst h
        obtain ⟨v, h1, h2⟩ := ev_of hL hx
        obtain ⟨vs, h3, h4, h5⟩ := evp_of hL hr
        refine ⟨(i, v) :: vs, by simp [evp, h1, h3], by simp [h4], fun j y z hy hz => ?_⟩
        cases j with
        | zero => simp at hy hz; subst hy; subst hz; exact ⟨rfl, h2⟩
        | succ j => exact h5 j y z (by simpa using hy) (by simpa using hz)
theorem put_of {d : Nat} {v : Value} {u : AV} (hL : ∀ t x, lk L t = some x → ∃ v, look L' t = some v ∧ ARep w O v x) (hv : ARep w O v u) : ∀ t x, lk ((d, u) :: L) t = some x → ∃ y, look ((d, v) :: L') t = some y ∧ ARep w O y x := by
  intro t x hx
  simp only [lk] at hx
  simp only [look]
  cases e : Nat.beq t d <;> rw [e] at hx
  · exact hL t x hx
  · injection hx with hx; subst hx; exact ⟨v, rfl, hv⟩
theorem keep_of {w' : World} {O' : Nat → Prop} (hle : Le w O w' O') (hL : ∀ t x, lk L t = some x → ∃ v, look L' t = some v ∧ ARep w O v x) : ∀ t x, lk L t = some x → ∃ v, look L' t = some v ∧ ARep w' O' v x := fun t x hx => by
  obtain ⟨v, h1, h2⟩ := hL t x hx
  exact ⟨v, h1, h2.keep hle⟩
end
def pickL (L : List (Nat × AV)) : List Nat → Option (List (Nat × AV))
  | [] => some []
  | t :: ts => match lk L t with
    | none => none
    | some v => match pickL L ts with
      | none => none
      | some l => some ((t, v) :: l)
theorem lk_pick {L : List (Nat × AV)} : ∀ {ts : List Nat} {L2 : List (Nat × AV)}, pickL L ts = some L2 → ∀ {t x}, lk L2 t = some x → lk L t = some x
  | [], L2, h, t, x, hx => by simp [pickL] at h; subst h; simp [lk] at hx
  | s :: ts, L2, h, t, x, hx => by
    simp only [pickL] at h
    split at h
    · cases h
    · rename_i v hv
      split at h
      · cases h
      · rename_i l hl
        injection h with h; subst h
        simp only [lk] at hx
        split at hx
        · rename_i e
          have e : t = s := Nat.eq_of_beq_eq_true e
          injection hx with hx
          subst hx; subst e; exact hv
        · exact lk_pick hl hx
theorem SA.pick {K Ob : Nat → Prop} {w0 w : World} {a : Act} {n : Nat} {L L2 : List (Nat × AV)} {B : List OB} (h : SA K Ob w0 w a n L B) {ts : List Nat} (ht : pickL L ts = some L2) : SA K Ob w0 w a n L2 B := by
  obtain ⟨L', Bs, h1, h2, h3⟩ := h
  exact ⟨L', Bs, h1, fun t x hx => h2 t x (lk_pick ht hx), h3⟩
abbrev Sg := List (Nat × AV)
def lift (K Ob : Nat → Prop) (w0 : World) (n : Nat) (Q : Exit → Sg → List OB → Prop) : Exit → Act → World → Prop := fun e a w => ∃ L B, SA K Ob w0 w a n L B ∧ Q e L B
def AC (P : Program) (n : Nat) (c : Code) (Q : Exit → Sg → List OB → Prop) (L : Sg) (B : List OB) : Prop :=
  ∀ K Ob w0 w a, SA K Ob w0 w a n L B → c.wp P (lift K Ob w0 n Q) a w
def AW (P : Program) (ops : Array Oper) (n : Nat) (rest : List Oper) (N : Sg → List OB → Prop) (L : Sg) (B : List OB) : Prop :=
  ∀ K Ob w0 w a (Q : Exit → Act → World → Prop), SA K Ob w0 w a n L B → (∀ a' w', (∃ L' B', SA K Ob w0 w' a' n L' B' ∧ N L' B') → Q .normal a' w') → wpList P ops Q rest a w
end Orr

namespace Orr
open Go
variable {P : Program} {ops : Array Oper} {n : Nat} {rest : List Oper} {N : Sg → List OB → Prop} {L : Sg} {B : List OB}
variable {d : Nat} {ty : TypeId} {pos : String} {after : Array Edge}
theorem rep_int {w : World} {O : Nat → Prop} {v : Value} {k : IntKind} {p : Int} (h : ARep w O v (.one (.int k p))) : v = .int k p := by
  have h : LRep w O v (.int k p) := h
  cases h; rfl
theorem rep_bool {w : World} {O : Nat → Prop} {v : Value} {b : Bool} (h : ARep w O v (.one (.bool b))) : v = .bool b := by
  have h : LRep w O v (.bool b) := h
  cases h; rfl
theorem rep_sh {w : World} {O : Nat → Prop} {v : Value} {l : List LV} (h : ARep w O v (.one (.sh l))) : LRep w O v (.sh l) := h
def SF (L : Sg) (L' : List (Nat × Value)) (B : List OB) (Bs : List Blk) (cs : List Value) (xs : List LV) : Fact :=
  ⟨fun w O => (∀ t x, lk L t = some x → ∃ v, look L' t = some v ∧ ARep w O v x) ∧ BsRep w O B Bs ∧ XReps w O cs xs, fun hle h => ⟨keep_of hle h.1, h.2.1.keep hle, h.2.2.keep hle⟩⟩
def AP (P : Program) (ops : Array Oper) (n : Nat) (o : Oper) (d : Nat) (u : AV) (L : Sg) (B : List OB) : Prop :=
  ∀ (K Ob : Nat → Prop) (w0 w : World) (a : Act) (Bs : List Blk) (L' : List (Nat × Value)) (Fs : List Fact), St K Ob w0 w a n L' Fs Bs →
    (∀ t x, lk L t = some x → ∃ v, look L' t = some v ∧ ARep w (owns Ob Bs) v x) → BsRep w (owns Ob Bs) B Bs →
    wpList P ops (fun e a' w' => e = .normal ∧ ∃ v, St K Ob w0 w' a' n ((d, v) :: L') Fs Bs ∧ ARep w' (owns Ob Bs) v u) [o] a w
theorem wp_next {P : Program} {ops : Array Oper} {o : Oper} {rest : List Oper} {a : Act} {w : World} {R : Act → World → Prop} {Q : Exit → Act → World → Prop} (hd : a.defers = []) (hR : ∀ a w, R a w → a.defers = [])
    (h : wpList P ops (fun e a w => e = .normal ∧ R a w) [o] a w) (hk : ∀ a w, R a w → wpList P ops Q rest a w) : wpList P ops Q (o :: rest) a w := by
  unfold wpList at h ⊢
  split
  · rename_i hw
    rw [if_pos hw] at h
    have hno : ¬ LetsOut fun e a w => e = Exit.normal ∧ R a w := fun ⟨a, w, h1⟩ => by cases h1.1
    replace h := h.resolve_right fun h2 => hno h2.2
    refine .inl (wp_conv hd (fun a' w' h1 => ?_) (fun c a w h1 => by cases h1.1) hno h)
    have h1 : R a' w' := by
      unfold wpList at h1
      exact h1.2
    exact ⟨hR _ _ h1, fun _ => hk _ _ h1⟩
  · rename_i hw
    rw [if_neg hw] at h
    unfold wpList at h
    exact hk _ _ h.2
theorem w_ {o : Oper} {u : AV} (hp : AP P ops n o d u L B) (k : AW P ops n rest N ((d, u) :: L) B) : AW P ops n (o :: rest) N L B := by
  rintro K Ob w0 w a Q ⟨L', Bs, h, hL, hB⟩ hQ
  have h2 := h.add (f := SF L L' B Bs [] []) ⟨hL, hB, trivial⟩
  refine wp_next h.defers (R := fun a' w' => ∃ v, St K Ob w0 w' a' n ((d, v) :: L') [SF L L' B Bs [] []] Bs ∧ ARep w' (owns Ob Bs) v u) (fun a w ⟨v, h, _⟩ => h.defers) (hp K Ob w0 w a Bs L' _ h2 hL hB) fun a' w' ⟨v, h', hr⟩ => ?_
  obtain ⟨h3, h4, _⟩ := h'.fact 0 rfl
  exact k _ _ _ _ _ _ ⟨_, _, h'.noFacts, put_of h3 hr, h4⟩ hQ
theorem aw_nil (k : N L B) : AW P ops n [] N L B := fun _ _ _ _ _ _ hs hQ => wpList_nil (hQ _ _ ⟨_, _, hs, k⟩)
theorem aw_pick (ts : List Nat) {L2 : Sg} (ht : pickL L ts = some L2) (k : AW P ops n rest N L2 B) : AW P ops n rest N L B := fun _ _ _ _ _ _ hs hQ => k _ _ _ _ _ _ (hs.pick ht) hQ
theorem p_move {x : Operand} {u : AV} (hx : evA L x = some u) (hd : Nat.blt d n = true) : AP P ops n { dst := some d, op := .move x, type := ty, pos := pos, after := after, guard := none } d (u) L B := by
  intro K Ob w0 w a Bs L' Fs h hL hB
  obtain ⟨v, hv, hr⟩ := ev_of hL hx
  exact st_move h hv hd fun a' h' => wpList_nil ⟨rfl, _, h', hr⟩
theorem p_assign {x : Operand} {u : AV} (hx : evA L x = some u) (hd : Nat.blt d n = true) : AP P ops n { dst := some d, op := .assign x, type := ty, pos := pos, after := after, guard := none } d (u) L B := by
  intro K Ob w0 w a Bs L' Fs h hL hB
  obtain ⟨v, hv, hr⟩ := ev_of hL hx
  exact st_assign h hv hd fun a' h' => wpList_nil ⟨rfl, _, h', hr⟩
theorem p_pickT {c x y : Operand} {b : Bool} {u : AV} (hc : evA L c = some (.one (.bool b))) (hb : b = true) (hx : evA L x = some u) (hd : Nat.blt d n = true) : AP P ops n { dst := some d, op := .pick c x y, type := ty, pos := pos, after := after, guard := none } d (u) L B := by
  intro K Ob w0 w a Bs L' Fs h hL hB
  obtain ⟨v, hv, hr⟩ := ev_of hL hx
  obtain ⟨vc, hvc, hrc⟩ := ev_of hL hc
  obtain rfl := rep_bool hrc
  exact st_pickT h hvc hb hv hd fun a' h' => wpList_nil ⟨rfl, _, h', hr⟩
theorem p_pickF {c x y : Operand} {b : Bool} {u : AV} (hc : evA L c = some (.one (.bool b))) (hb : b = false) (hx : evA L y = some u) (hd : Nat.blt d n = true) : AP P ops n { dst := some d, op := .pick c x y, type := ty, pos := pos, after := after, guard := none } d (u) L B := by
  intro K Ob w0 w a Bs L' Fs h hL hB
  obtain ⟨v, hv, hr⟩ := ev_of hL hx
  obtain ⟨vc, hvc, hrc⟩ := ev_of hL hc
  obtain rfl := rep_bool hrc
  exact st_pickF h hvc hb hv hd fun a' h' => wpList_nil ⟨rfl, _, h', hr⟩
theorem p_not {x : Operand} {b : Bool} {t : TypeId} (hx : evA L x = some (.one (.bool b))) (hd : Nat.blt d n = true) : AP P ops n { dst := some d, op := .unOp .not t x, type := ty, pos := pos, after := after, guard := none } d (.one (.bool (!b))) L B := by
  intro K Ob w0 w a Bs L' Fs h hL hB
  obtain ⟨v, hv, hr⟩ := ev_of hL hx
  obtain rfl := rep_bool hr
  exact st_not h hv hd fun a' h' => wpList_nil ⟨rfl, _, h', (LRep.bool _)⟩
theorem p_neg {x : Operand} {kd : IntKind} {p r : Int} {t : TypeId} (hx : evA L x = some (.one (.int kd p))) (hr : kd.wrap (-p) = r) (hd : Nat.blt d n = true) : AP P ops n { dst := some d, op := .unOp .neg t x, type := ty, pos := pos, after := after, guard := none } d (.one (.int kd r)) L B := by
  intro K Ob w0 w a Bs L' Fs h hL hB
  obtain ⟨v, hv, hr'⟩ := ev_of hL hx
  obtain rfl := rep_int hr'
  subst hr
  exact st_neg h hv hd fun a' h' => wpList_nil ⟨rfl, _, h', (LRep.int _ _)⟩
def notNil : AV → Bool
  | .one (.ow _ _) => true
  | .one (.sh _) => true
  | .one (.oel _ _ _ _) => true
  | _ => false
theorem p_nilCheck {x : Operand} {u : AV} (hx : evA L x = some u) (hu : notNil u = true) (hd : Nat.blt d n = true) : AP P ops n { dst := some d, op := .nilCheck x, type := ty, pos := pos, after := after, guard := none } d (u) L B := by
  intro K Ob w0 w a Bs L' Fs h hL hB
  obtain ⟨v, hv, hr⟩ := ev_of hL hx
  have hp : ∃ p, v = .pointer (some p) := by
    unfold notNil at hu
    split at hu
    · exact ⟨_, hr⟩
    · have hr := rep_sh hr; cases hr; exact ⟨_, rfl⟩
    · rename_i r _ _ _
      rcases r with _ | ⟨g, c⟩
      · exact (show False from hr).elim
      · exact ⟨_, hr⟩
    · cases hu
  obtain ⟨p, rfl⟩ := hp
  exact st_nilCheck h hv hd fun a' h' => wpList_nil ⟨rfl, _, h', hr⟩
theorem p_extract {x : Operand} {l : List AV} {i : Nat} {u : AV} (hx : evA L x = some (.tup l)) (hi : l[i]? = some u) (hd : Nat.blt d n = true) : AP P ops n { dst := some d, op := .extract x i, type := ty, pos := pos, after := after, guard := none } d (u) L B := by
  intro K Ob w0 w a Bs L' Fs h hL hB
  obtain ⟨v, hv, vs, rfl, hr⟩ := ev_of hL hx
  obtain ⟨y, hy, hry⟩ := hr.get hi
  exact st_extract h hv hy hd fun a' h' => wpList_nil ⟨rfl, _, h', hry.a⟩
theorem p_cmp {op : BinOp} {x y : Operand} {kd : IntKind} {p q : Int} {b : Bool} {t t' : TypeId} (hx : evA L x = some (.one (.int kd p))) (hy : evA L y = some (.one (.int kd q))) (hb : cmpOf op p q = some b) (hd : Nat.blt d n = true) : AP P ops n { dst := some d, op := .binOp op t x y t', type := ty, pos := pos, after := after, guard := none } d (.one (.bool b)) L B := by
  intro K Ob w0 w a Bs L' Fs h hL hB
  obtain ⟨v, hv, hr⟩ := ev_of hL hx
  obtain ⟨u, hu, hs⟩ := ev_of hL hy
  obtain rfl := rep_int hr
  obtain rfl := rep_int hs
  exact st_cmp h hv hu hb hd fun a' h' => wpList_nil ⟨rfl, _, h', (LRep.bool _)⟩
theorem p_add {x y : Operand} {kd : IntKind} {p q r : Int} {t t' : TypeId} (hx : evA L x = some (.one (.int kd p))) (hy : evA L y = some (.one (.int kd q))) (hr : kd.wrap (p + q) = r) (hd : Nat.blt d n = true) : AP P ops n { dst := some d, op := .binOp .add t x y t', type := ty, pos := pos, after := after, guard := none } d (.one (.int kd r)) L B := by
  intro K Ob w0 w a Bs L' Fs h hL hB
  obtain ⟨v, hv, hr1⟩ := ev_of hL hx
  obtain ⟨u, hu, hs⟩ := ev_of hL hy
  obtain rfl := rep_int hr1
  obtain rfl := rep_int hs
  subst hr
  exact st_add h hv hu hd fun a' h' => wpList_nil ⟨rfl, _, h', (LRep.int _ _)⟩
theorem p_sub {x y : Operand} {kd : IntKind} {p q r : Int} {t t' : TypeId} (hx : evA L x = some (.one (.int kd p))) (hy : evA L y = some (.one (.int kd q))) (hr : kd.wrap (p - q) = r) (hd : Nat.blt d n = true) : AP P ops n { dst := some d, op := .binOp .sub t x y t', type := ty, pos := pos, after := after, guard := none } d (.one (.int kd r)) L B := by
  intro K Ob w0 w a Bs L' Fs h hL hB
  obtain ⟨v, hv, hr1⟩ := ev_of hL hx
  obtain ⟨u, hu, hs⟩ := ev_of hL hy
  obtain rfl := rep_int hr1
  obtain rfl := rep_int hs
  subst hr
  exact st_sub h hv hu hd fun a' h' => wpList_nil ⟨rfl, _, h', (LRep.int _ _)⟩
theorem p_mul {x y : Operand} {kd : IntKind} {p q r : Int} {t t' : TypeId} (hx : evA L x = some (.one (.int kd p))) (hy : evA L y = some (.one (.int kd q))) (hr : kd.wrap (p * q) = r) (hd : Nat.blt d n = true) : AP P ops n { dst := some d, op := .binOp .mul t x y t', type := ty, pos := pos, after := after, guard := none } d (.one (.int kd r)) L B := by
  intro K Ob w0 w a Bs L' Fs h hL hB
  obtain ⟨v, hv, hr1⟩ := ev_of hL hx
  obtain ⟨u, hu, hs⟩ := ev_of hL hy
  obtain rfl := rep_int hr1
  obtain rfl := rep_int hs
  subst hr
  exact st_mul h hv hu hd fun a' h' => wpList_nil ⟨rfl, _, h', (LRep.int _ _)⟩
theorem p_rem {x y : Operand} {kd : IntKind} {p q r : Int} {t t' : TypeId} (hx : evA L x = some (.one (.int kd p))) (hy : evA L y = some (.one (.int kd q))) (hq : q ≠ 0) (hr : p.tmod q = r) (hd : Nat.blt d n = true) : AP P ops n { dst := some d, op := .binOp .rem t x y t', type := ty, pos := pos, after := after, guard := none } d (.one (.int kd r)) L B := by
  intro K Ob w0 w a Bs L' Fs h hL hB
  obtain ⟨v, hv, hr1⟩ := ev_of hL hx
  obtain ⟨u, hu, hs⟩ := ev_of hL hy
  obtain rfl := rep_int hr1
  obtain rfl := rep_int hs
  subst hr
  exact st_rem h hv hu hq hd fun a' h' => wpList_nil ⟨rfl, _, h', (LRep.int _ _)⟩
def rlen : LV → Option Nat
  | .row l => some l.length
  | .nils => some 0
  | .orow _ _ _ m => some m
  | _ => none
theorem rlen_of {w : World} {O : Nat → Prop} {v : Value} {x : LV} {m : Nat} (h : XRep w O v x) (hm : rlen x = some m) : ∃ A c, v = .slice A m c := by
  unfold rlen at hm
  split at hm <;> first | cases hm | (injection hm with hm; subst hm)
  · have h : LRep w O v (.row _) := h
    cases h; exact ⟨_, _, rfl⟩
  · have h : LRep w O v .nils := h
    cases h; exact ⟨_, _, rfl⟩
  · rename_i r _ _
    rcases r with _ | ⟨g, c⟩
    · obtain ⟨e, e1, e2⟩ := h; subst e2; exact ⟨_, _, e⟩
    · obtain ⟨_, a, e, _⟩ := h; exact ⟨_, _, e⟩
theorem p_len {x : Operand} {u : LV} {m : Nat} {E t : TypeId} (hu : ∀ w, (underlying t).run P w = .ok (.slice E) w) (hx : evA L x = some (.one u)) (hm : rlen u = some m) (hd : Nat.blt d n = true) : AP P ops n { dst := some d, op := .call { callee := .builtin .len, args := #[x], argTypes := #[t] }, type := ty, pos := pos, after := after, guard := none } d (.one (.int .i64 (m : Int))) L B := by
  intro K Ob w0 w a Bs L' Fs h hL hB
  obtain ⟨v, hv, hr⟩ := ev_of hL hx
  obtain ⟨A, c, rfl⟩ := rlen_of (x := u) hr hm
  exact st_len h hv hu hd fun a' h' => wpList_nil ⟨rfl, _, h', (LRep.int _ _)⟩
theorem row_elem {w : World} {O : Nat → Prop} {v : Value} {l : List (List LV)} {i : Nat} {z : List LV} (h : LRep w O v (.row l)) (hz : l[i]? = some z) :
    ∃ b o c, v = .slice (some ⟨b, o, none⟩) l.length c ∧ LRep w O (.pointer (some ⟨b, o + i * z.length, none⟩)) (.sh z) := by
  cases h with
  | row A c sz b o l f hc hc63 hl hs hA hcell hrep =>
    have h0 : 0 < l.length := Nat.lt_of_le_of_lt (Nat.zero_le _) (List.getElem?_eq_some_iff.1 hz).1
    obtain ⟨rfl, h1, h2⟩ := hA h0
    have hzs := hs z (List.mem_of_getElem? hz)
    subst hzs
    exact ⟨b, o, c, rfl, .sh b _ z (f i) h1 h2 (fun j hj => hcell i z hz j hj) fun j x hx => hrep i z hz j x hx⟩
theorem p_index {x y : Operand} {l : List (List LV)} {kd : IntKind} {p : Int} (i : Nat) {z : List LV} {sz : Nat} {E t : TypeId} (hu : ∀ w, (underlying t).run P w = .ok (.slice E) w) (hs : ∀ w, (Go.sizeOf E).run P w = .ok sz w)
    (hx : evA L x = some (.one (.row l))) (hy : evA L y = some (.one (.int kd p))) (hp : p = (i : Int)) (hz : l[i]? = some z) (hsz : z.length = sz) (hd : Nat.blt d n = true) : AP P ops n { dst := some d, op := .indexAddr t x y, type := ty, pos := pos, after := after, guard := none } d (.one (.sh z)) L B := by
  intro K Ob w0 w a Bs L' Fs h hL hB
  obtain ⟨v, hv, hr⟩ := ev_of hL hx
  obtain ⟨u, hu', hr2⟩ := ev_of hL hy
  obtain rfl := rep_int hr2
  obtain ⟨b, o, c, rfl, hsh⟩ := row_elem hr hz
  subst hsz
  exact st_indexI i h hv hu' hu hs hp (List.getElem?_eq_some_iff.1 hz).1 hd fun a' h' => wpList_nil ⟨rfl, _, h', hsh⟩
def takeL : Nat → List LV → Option (List LV)
  | 0, _ => some []
  | k + 1, x :: l => match takeL k l with
    | some r => some (x :: r)
    | none => none
  | _ + 1, [] => none
def dropL : Nat → List LV → Option (List LV)
  | 0, l => some l
  | k + 1, _ :: l => dropL k l
  | _ + 1, [] => none
theorem takeL_eq : ∀ {k : Nat} {l r : List LV}, takeL k l = some r → r = l.take k ∧ k ≤ l.length
  | 0, l, r, h => by simp [takeL] at h; subst h; simp
  | k + 1, [], r, h => by simp [takeL] at h
  | k + 1, x :: l, r, h => by
    simp only [takeL] at h
    split at h
    · rename_i q hq
      injection h with h; subst h
      obtain ⟨e, hl⟩ := takeL_eq hq
      subst e
      exact ⟨by simp, by simp; exact hl⟩
    · cases h
theorem dropL_eq : ∀ {k : Nat} {l r : List LV}, dropL k l = some r → r = l.drop k ∧ k ≤ l.length
  | 0, l, r, h => by simp [dropL] at h; subst h; simp
  | k + 1, [], r, h => by simp [dropL] at h
  | k + 1, x :: l, r, h => by
    obtain ⟨e, hl⟩ := dropL_eq (k := k) (l := l) (by simpa [dropL] using h)
    exact ⟨by simpa using e, by simp; exact hl⟩
def bundle : Bool → List LV → Option AV
  | true, l => some (.agg l)
  | false, [x] => some (.one x)
  | false, _ => none
theorem bundle_false {r : List LV} {u : AV} (h : bundle false r = some u) : ∃ y, r = [y] ∧ u = .one y := by
  rcases r with _ | ⟨y, _ | ⟨z, r⟩⟩
  · cases h
  · simp [bundle] at h; exact ⟨y, rfl, h.symm⟩
  · cases h
theorem sh_drop {w : World} {O : Nat → Prop} {v : Value} {l r : List LV} {k : Nat} (h : LRep w O v (.sh l)) (hr : dropL k l = some r) : ∃ b o, v = .pointer (some ⟨b, o, none⟩) ∧ LRep w O (.pointer (some ⟨b, o + k, none⟩)) (.sh r) := by
  obtain ⟨rfl, hk⟩ := dropL_eq hr
  cases h with
  | sh b o l f hb hO hcell hrep =>
    refine ⟨b, o, rfl, .sh b _ _ (fun j => f (k + j)) hb hO (fun j hj => ?_) fun j x hx => ?_⟩
    · rw [Nat.add_assoc]; exact hcell _ (by simp at hj; omega)
    · rw [List.getElem?_drop] at hx; exact hrep _ _ hx
theorem p_fieldSh {S : TypeId} {x : Operand} {f off : Nat} {l r : List LV} (hrun : ∀ b o w, (Instr.fieldAt S (.pointer (some ⟨b, o, none⟩)) f).run P w = .ok (.pointer (some ⟨b, o + off, none⟩)) w)
    (hx : evA L x = some (.one (.sh l))) (hr : dropL off l = some r) (hd : Nat.blt d n = true) : AP P ops n { dst := some d, op := .fieldAddr S x f, type := ty, pos := pos, after := after, guard := none } d (.one (.sh r)) L B := by
  intro K Ob w0 w a Bs L' Fs h hL hB
  obtain ⟨v, hv, hr1⟩ := ev_of hL hx
  obtain ⟨b, o, rfl, hs⟩ := sh_drop hr1 hr
  exact st_fieldAddr h hv hrun hd fun a' h' => wpList_nil ⟨rfl, _, h', hs⟩
theorem sh_take {w : World} {O : Nat → Prop} {v : Value} {l r : List LV} {k : Nat} (h : LRep w O v (.sh l)) (hr : takeL k l = some r) :
    ∃ b o vs, v = .pointer (some ⟨b, o, none⟩) ∧ vs.length = k ∧ XReps w O vs r ∧ ∀ j u, vs[j]? = some u → w.cell? ⟨b, o + j, none⟩ = some u := by
  obtain ⟨rfl, hk⟩ := takeL_eq hr
  cases h with
  | sh b o l f hb hO hcell hrep =>
    have hm : ∀ (j : Nat) (u : Value), ((List.range k).map f)[j]? = some u → j < k ∧ f j = u := fun j u hj => by
      rw [List.getElem?_map] at hj
      rcases Nat.lt_or_ge j k with h1 | h1
      · rw [List.getElem?_range h1] at hj
        exact ⟨h1, by simpa using hj⟩
      · rw [List.getElem?_eq_none (by simpa using h1)] at hj; cases hj
    refine ⟨b, o, (List.range k).map f, rfl, by simp, XReps.of (by simp; omega) fun j u x hu hx => ?_, fun j u hj => ?_⟩
    · obtain ⟨h1, rfl⟩ := hm j u hu
      rw [List.getElem?_take, if_pos h1] at hx
      exact (hrep j x hx).x
    · obtain ⟨h1, rfl⟩ := hm j u hj
      exact hcell j (by omega)
theorem p_loadSh {T : TypeId} {x : Operand} {l r : List LV} {m : Nat} {g : Bool} {u : AV} (ht : ∀ w, (isAgg T).run P w = .ok g w) (hs : ∀ w, (Go.sizeOf T).run P w = .ok m w)
    (hx : evA L x = some (.one (.sh l))) (hr : takeL m l = some r) (hu : bundle g r = some u) (hd : Nat.blt d n = true) : AP P ops n { dst := some d, op := .load T x, type := ty, pos := pos, after := after, guard := none } d (u) L B := by
  intro K Ob w0 w a Bs L' Fs h hL hB
  obtain ⟨v, hv, hr1⟩ := ev_of hL hx
  obtain ⟨b, o, vs, rfl, hl, hreps, hc⟩ := sh_take hr1 hr
  cases g with
  | true =>
    simp only [bundle, Option.some.injEq] at hu
    subst hu
    exact st_loadS h hv ht hs hl hc hd fun a' h' => wpList_nil ⟨rfl, _, h', show ARep _ _ _ (.agg r) from ⟨vs, rfl, hreps⟩⟩
  | false =>
    obtain ⟨y, rfl, rfl⟩ := bundle_false hu
    rcases vs with _ | ⟨v0, _ | ⟨v1, vs⟩⟩
    · exact hreps.elim
    · exact st_load h hv ht (by simpa using hc 0 v0 rfl) hd fun a' h' => wpList_nil ⟨rfl, _, h', show ARep _ _ _ (.one y) from hreps.1⟩
    · exact hreps.2.elim
def setB : List OB → Nat → OB → Option (List OB)
  | [], _, _ => none
  | _ :: B, 0, x => some (x :: B)
  | b :: B, i + 1, x => match setB B i x with
    | some r => some (b :: r)
    | none => none
def frontB : List OB → Nat → Option (OB × List OB)
  | [], _ => none
  | b :: B, 0 => some (b, B)
  | b :: B, i + 1 => match frontB B i with
    | some (x, r) => some (x, b :: r)
    | none => none
theorem frontB_eq : ∀ {B : List OB} {i : Nat} {x : OB} {r : List OB}, frontB B i = some (x, r) → B[i]? = some x ∧ r = B.eraseIdx i
  | [], i, x, r, h => by simp [frontB] at h
  | b :: B, 0, x, r, h => by simp [frontB] at h; obtain ⟨rfl, rfl⟩ := h; simp
  | b :: B, i + 1, x, r, h => by
    simp only [frontB] at h
    split at h
    · rename_i y q hq
      injection h with h
      injection h with e1 e2
      subst e1 e2
      obtain ⟨h1, h2⟩ := frontB_eq hq
      exact ⟨by simpa using h1, by simp [h2]⟩
    · cases h
theorem SA.front {K Ob : Nat → Prop} {w0 w : World} {a : Act} {L : Sg} {B : List OB} (h : SA K Ob w0 w a n L B) {i : Nat} {x : OB} {r : List OB} (hi : frontB B i = some (x, r)) :
    ∃ L' Bo Bs, St K Ob w0 w a n L' [] (Bo ++ Bs) ∧ (∀ t u, lk L t = some u → ∃ v, look L' t = some v ∧ ARep w (owns Ob (Bo ++ Bs)) v u) ∧ OBRep w (owns Ob (Bo ++ Bs)) x Bo ∧ BsRep w (owns Ob (Bo ++ Bs)) r Bs := by
  obtain ⟨L', Bs, h1, h2, h3⟩ := h
  obtain ⟨hx, rfl⟩ := frontB_eq hi
  obtain ⟨Bo, Bs', hp, h4, h5⟩ := h3.front hx
  have ho : owns Ob Bs = owns Ob (Bo ++ Bs') := by
    funext b
    simp only [owns]
    rw [show (b ∈ Bs.map (·.1)) = (b ∈ (Bo ++ Bs').map (·.1)) from propext ((hp.map _).mem_iff)]
  rw [ho] at h2 h4 h5
  exact ⟨L', Bo, Bs', h1.perm hp.symm, h2, h4, h5⟩
theorem SA.of {K Ob : Nat → Prop} {w0 w : World} {a : Act} {L : Sg} {B : List OB} {x : OB} {L' : List (Nat × Value)} {Bo Bs : List Blk} (h1 : St K Ob w0 w a n L' [] (Bo ++ Bs)) (h2 : ∀ t u, lk L t = some u → ∃ v, look L' t = some v ∧ ARep w (owns Ob (Bo ++ Bs)) v u) (h3 : OBRep w (owns Ob (Bo ++ Bs)) x Bo) (h4 : BsRep w (owns Ob (Bo ++ Bs)) B Bs) : SA K Ob w0 w a n L (x :: B) :=
  ⟨L', _, h1, h2, ⟨Bo, Bs, rfl, h3, h4⟩⟩
theorem SA.drop {K Ob : Nat → Prop} {w0 w : World} {a : Act} {L : Sg} {B : List OB} (h : SA K Ob w0 w a n L B) {i : Nat} {x : OB} {r : List OB} (hi : frontB B i = some (x, r)) : SA K Ob w0 w a n L r := by
  obtain ⟨L', Bo, Bs, h1, h2, h3, h4⟩ := h.front hi
  have hle : Le w (owns Ob (Bo ++ Bs)) w (owns Ob Bs) := ⟨Nat.le_refl _, fun _ _ _ => rfl, fun b _ ho => ho.imp id fun hm => by simp only [List.map_append, List.mem_append]; exact .inr hm⟩
  exact ⟨L', Bs, h1.tailB, keep_of hle h2, h4.keep hle⟩
theorem aw_drop (i : Nat) {x : OB} {r : List OB} (hi : frontB B i = some (x, r)) (k : AW P ops n rest N L r) : AW P ops n rest N L B := fun _ _ _ _ _ _ hs hQ => k _ _ _ _ _ _ (hs.drop hi) hQ
theorem cells_of {w : World} {O : Nat → Prop} {v : Value} {u : AV} (h : TRep w O v u) : ∃ xs, (u = .agg xs ∨ ∃ x, u = .one x ∧ xs = [x]) ∧ XReps w O v.cells.toList xs := by
  cases u with
  | one x =>
    refine ⟨[x], .inr ⟨x, rfl, rfl⟩, ?_⟩
    have h : XRep w O v x := h
    have h1 := h.one
    cases v <;> first | (simp [Orr.one] at h1; done) | exact ⟨h, trivial⟩
  | agg xs =>
    obtain ⟨vs, rfl, h⟩ := h
    exact ⟨xs, .inl rfl, by simpa [Value.cells] using h⟩
  | tup l => exact h.elim
  | un => exact h.elim
def leaves : AV → Option (List LV)
  | .one x => some [x]
  | .agg xs => some xs
  | _ => none
theorem leaves_of {w : World} {O : Nat → Prop} {v : Value} {u : AV} {xs : List LV} (h : ARep w O v u) (hl : leaves u = some xs) : XReps w O v.cells.toList xs ∧ TRep w O v u := by
  have ht : TRep w O v u := by cases u <;> first | exact h | (simp [leaves] at hl)
  obtain ⟨ys, hy, hr⟩ := cells_of ht
  rcases hy with rfl | ⟨x, rfl, rfl⟩ <;> simp [leaves] at hl <;> subst hl <;> exact ⟨hr, ht⟩
theorem XReps.alloc {w w' : World} {O O' : Nat → Prop} (hle : Le w O w' O') {vs : List Value} {xs : List LV} (h : XReps w O vs xs) : XReps w' O' vs xs := h.keep hle
theorem le_alloc {Ob : Nat → Prop} {w w' : World} {Bs : List Blk} {g : Nat} {T : TypeId} {cs : List Value} (hg : w.heap.size ≤ g) (hgr : Grow w w') : Le w (owns Ob Bs) w' (owns Ob ((g, T, cs) :: Bs)) :=
  ⟨hgr.1, fun b hb _ => hgr.2 b hb, fun b hb ho => by
    simp only [owns, List.map_cons, List.mem_cons] at ho
    rcases ho with e | e | e
    · exact .inl e
    · omega
    · exact .inr e⟩
theorem st_box' {P : Program} {ops : Array Oper} {Q : Exit → Act → World → Prop} {K Ob : Nat → Prop} {w0 w : World} {a : Act} {n : Nat} {L : List (Nat × Value)} {Fs : List Fact} {Bs : List Blk} {rest : List Oper} {T : TypeId} {x : Operand} {v : Value} (h : St K Ob w0 w a n L Fs Bs) (hx : ev L x = some v) (hd : Nat.blt d n = true)
    (k : ∀ g w' a', w.heap.size ≤ g → Grow w w' → St K Ob w0 w' a' n ((d, .pointer (some ⟨g, 0, none⟩)) :: L) Fs ((g, T, v.cells.toList) :: Bs) → wpList P ops Q rest a' w') :
    wpList P ops Q ({ dst := some d, op := .box T x, type := ty, pos := pos, after := after, guard := none } :: rest) a w :=
  step_value (w' := w.alloc (.cells v.cells T)) (v := .pointer (some ⟨w.heap.size, 0, none⟩)) rfl
    (by simp [execOp, Instr.box, h.ev hx, newVar, newRow, run_newObj])
    (k _ _ _ (Nat.le_refl _) ⟨by show w.heap.size ≤ (w.heap.push _).size; simp, fun b hb => by show (w.heap.push _)[b]? = _; simp [Array.getElem?_push, Nat.ne_of_lt hb], rfl, rfl⟩ ((by simpa using h.alloc T v.cells.toList : St K Ob w0 (w.alloc (.cells v.cells T)) a n L Fs ((w.heap.size, T, v.cells.toList) :: Bs)).put _ hd))
theorem a_box {T : TypeId} {x : Operand} {u : AV} {xs : List LV} (hx : evA L x = some u) (hl : leaves u = some xs) (hd : Nat.blt d n = true) (k : ∀ g, AW P ops n rest N ((d, .one (.ow g 0)) :: L) (.blk g T xs :: B)) :
    AW P ops n ({ dst := some d, op := .box T x, type := ty, pos := pos, after := after, guard := none } :: rest) N L B := by
  rintro K Ob w0 w a Q ⟨L', Bs, h, hL, hB⟩ hQ
  obtain ⟨v, hv, hr⟩ := ev_of hL hx
  obtain ⟨hc, _⟩ := leaves_of hr hl
  refine st_box' h hv hd fun g w' a' hg hgr h' => k g _ _ _ _ _ _ (SA.of (Bo := [_]) h' (put_of (keep_of (le_alloc hg hgr) hL) rfl) ⟨_, rfl, hc.keep (le_alloc hg hgr)⟩ (hB.keep (le_alloc hg hgr))) hQ
def zl : Value → Option (List LV)
  | .agg cs => zls cs.toList
  | v => match cst v with
    | some (.one x) => some [x]
    | _ => none
where zls : List Value → Option (List LV)
  | [] => some []
  | v :: vs => match cst v with
    | some (.one x) => match zls vs with
      | some r => some (x :: r)
      | none => none
    | _ => none
theorem zls_of {w : World} {O : Nat → Prop} : ∀ {vs : List Value} {xs : List LV}, zl.zls vs = some xs → XReps w O vs xs
  | [], xs, h => by simp [zl.zls] at h; subst h; trivial
  | v :: vs, xs, h => by
    simp only [zl.zls] at h
    split at h
    · rename_i x hx
      split at h
      · rename_i r hr
        injection h with h; subst h
        exact ⟨(cst_rep (w := w) (O := O) hx : ARep w O v (.one x)), zls_of hr⟩
      · cases h
    · cases h
theorem zl_of {w : World} {O : Nat → Prop} {v : Value} {xs : List LV} (h : zl v = some xs) : XReps w O v.cells.toList xs := by
  unfold zl at h
  split at h
  · simpa [Value.cells] using zls_of h
  · split at h
    · rename_i x hx
      injection h with h; subst h
      have hr : XRep w O v x := (cst_rep (w := w) (O := O) hx : ARep w O v (.one x))
      have h1 := hr.one
      cases v <;> first | (simp [Orr.one] at h1; done) | exact ⟨hr, trivial⟩
    · cases h
theorem st_alloc' {P : Program} {ops : Array Oper} {Q : Exit → Act → World → Prop} {K Ob : Nat → Prop} {w0 w : World} {a : Act} {n : Nat} {L : List (Nat × Value)} {Fs : List Fact} {Bs : List Blk} {rest : List Oper} {T : TypeId} {z : Value} (h : St K Ob w0 w a n L Fs Bs) (hz : ∀ w, (zeroValue T).run P w = .ok z w) (hd : Nat.blt d n = true)
    (k : ∀ g w' a', w.heap.size ≤ g → Grow w w' → St K Ob w0 w' a' n ((d, .pointer (some ⟨g, 0, none⟩)) :: L) Fs ((g, T, z.cells.toList) :: Bs) → wpList P ops Q rest a' w') :
    wpList P ops Q ({ dst := some d, op := .alloc T, type := ty, pos := pos, after := after, guard := none } :: rest) a w :=
  step_value (w' := w.alloc (.cells z.cells T)) (v := .pointer (some ⟨w.heap.size, 0, none⟩)) rfl
    (by simp [execOp, Instr.alloc, hz, newVar, newRow, run_newObj])
    (k _ _ _ (Nat.le_refl _) ⟨by show w.heap.size ≤ (w.heap.push _).size; simp, fun b hb => by show (w.heap.push _)[b]? = _; simp [Array.getElem?_push, Nat.ne_of_lt hb], rfl, rfl⟩ ((by simpa using h.alloc T z.cells.toList : St K Ob w0 (w.alloc (.cells z.cells T)) a n L Fs ((w.heap.size, T, z.cells.toList) :: Bs)).put _ hd))
theorem a_alloc {T : TypeId} {z : Value} {xs : List LV} (hz : ∀ w, (zeroValue T).run P w = .ok z w) (hl : zl z = some xs) (hd : Nat.blt d n = true) (k : ∀ g, AW P ops n rest N ((d, .one (.ow g 0)) :: L) (.blk g T xs :: B)) :
    AW P ops n ({ dst := some d, op := .alloc T, type := ty, pos := pos, after := after, guard := none } :: rest) N L B := by
  rintro K Ob w0 w a Q ⟨L', Bs, h, hL, hB⟩ hQ
  refine st_alloc' h hz hd fun g w' a' hg hgr h' => k g _ _ _ _ _ _ (SA.of (Bo := [_]) h' (put_of (keep_of (le_alloc hg hgr) hL) rfl) ⟨_, rfl, zl_of hl⟩ (hB.keep (le_alloc hg hgr))) hQ
theorem p_fieldOw {S : TypeId} {x : Operand} {f off g o : Nat} (hrun : ∀ b o w, (Instr.fieldAt S (.pointer (some ⟨b, o, none⟩)) f).run P w = .ok (.pointer (some ⟨b, o + off, none⟩)) w)
    (hx : evA L x = some (.one (.ow g o))) (hd : Nat.blt d n = true) : AP P ops n { dst := some d, op := .fieldAddr S x f, type := ty, pos := pos, after := after, guard := none } d (.one (.ow g (o + off))) L B := by
  intro K Ob w0 w a Bs L' Fs h hL hB
  obtain ⟨v, hv, hr1⟩ := ev_of hL hx
  obtain rfl : v = .pointer (some ⟨g, o, none⟩) := hr1
  exact st_fieldAddr h hv hrun hd fun a' h' => wpList_nil ⟨rfl, _, h', rfl⟩
def subL (l : List LV) (off m : Nat) : Option (List LV) := match dropL off l with
  | some r => takeL m r
  | none => none
theorem subL_eq {l r : List LV} {off m : Nat} (h : subL l off m = some r) : r = (l.drop off).take m ∧ off + m ≤ l.length := by
  unfold subL at h
  split at h
  · rename_i q hq
    obtain ⟨rfl, h1⟩ := dropL_eq hq
    obtain ⟨rfl, h2⟩ := takeL_eq h
    exact ⟨rfl, by simp at h2; omega⟩
  · cases h
theorem p_loadOw (i : Nat) {T T' : TypeId} {x : Operand} {g o : Nat} {xs r : List LV} {m : Nat} {ag : Bool} {u : AV} {B' : List OB} (ht : ∀ w, (isAgg T).run P w = .ok ag w) (hs : ∀ w, (Go.sizeOf T).run P w = .ok m w)
    (hi : frontB B i = some (.blk g T' xs, B')) (hx : evA L x = some (.one (.ow g o))) (hr : subL xs o m = some r) (hu : bundle ag r = some u) (hd : Nat.blt d n = true) : AP P ops n { dst := some d, op := .load T x, type := ty, pos := pos, after := after, guard := none } d (u) L B := by
  intro K Ob w0 w a Bs L' Fs h hL hB
  obtain ⟨hxi, rfl⟩ := frontB_eq hi
  obtain ⟨Bo, Bs', hp, ⟨cs, rfl, hreps⟩, _⟩ := hB.front hxi
  obtain ⟨v, hv, hr1⟩ := ev_of hL hx
  obtain rfl : v = .pointer (some ⟨g, o, none⟩) := hr1
  have hmem : (g, Tag.ty T', cs) ∈ Bs := hp.mem_iff.2 (by simp)
  obtain ⟨q, hq⟩ := List.mem_iff_getElem?.1 hmem
  obtain ⟨rfl, hle⟩ := subL_eq hr
  have hlen := hreps.len
  have hreps' : XReps w (owns Ob Bs) ((cs.drop o).take m) ((xs.drop o).take m) := (hreps.drop o).take m
  have hl : ((cs.drop o).take m).length = m := by simp; omega
  have hcell : ∀ j u, ((cs.drop o).take m)[j]? = some u → w.cell? ⟨g, o + j, none⟩ = some u := fun j u hj => by
    rw [h.own_cell hq]
    rw [List.getElem?_take] at hj
    split at hj
    · rwa [List.getElem?_drop] at hj
    · cases hj
  cases ag with
  | true =>
    simp only [bundle, Option.some.injEq] at hu
    subst hu
    exact st_loadS h hv ht hs hl hcell hd fun a' h' => wpList_nil ⟨rfl, _, h', show ARep _ _ _ (.agg _) from ⟨_, rfl, hreps'⟩⟩
  | false =>
    obtain ⟨y, e2, rfl⟩ := bundle_false hu
    rw [e2] at hreps'
    generalize (cs.drop o).take m = vs at *
    rcases vs with _ | ⟨v0, _ | ⟨v1, vs⟩⟩
    · exact hreps'.elim
    · exact st_load h hv ht (by simpa using hcell 0 v0 rfl) hd fun a' h' => wpList_nil ⟨rfl, _, h', show ARep _ _ _ (.one y) from hreps'.1⟩
    · exact hreps'.2.elim
theorem setB_eq : ∀ {B : List OB} {i : Nat} {x : OB} {r : List OB}, setB B i x = some r → r = B.set i x ∧ i < B.length
  | [], i, x, r, h => by simp [setB] at h
  | b :: B, 0, x, r, h => by simp [setB] at h; subst h; simp
  | b :: B, i + 1, x, r, h => by
    simp only [setB] at h
    split at h
    · rename_i q hq
      injection h with h; subst h
      obtain ⟨rfl, hl⟩ := setB_eq hq
      exact ⟨by simp, by simp; exact hl⟩
    · cases h
theorem BsRep.setAt {w : World} {O : Nat → Prop} : ∀ {B : List OB} {Bs : List Blk} {i : Nat} {g : Nat} {T : TypeId} {xs : List LV}, BsRep w O B Bs → B[i]? = some (.blk g T xs) →
    ∃ q cs, Bs[q]? = some (g, Tag.ty T, cs) ∧ cs.length = xs.length ∧ ∀ {w' : World} {O' : Nat → Prop}, BsRep w' O' B Bs → XReps w' O' cs xs ∧ ∀ cs' ys, XReps w' O' cs' ys → BsRep w' O' (B.set i (.blk g T ys)) (Bs.set q (g, T, cs'))
  | [], _, i, g, T, xs, _, hi => by simp at hi
  | b :: B, Bs, 0, g, T, xs, h, hi => by
    simp at hi; subst hi
    obtain ⟨Bo, Bs', rfl, ⟨cs, rfl, hr⟩, h2⟩ := h
    refine ⟨0, cs, rfl, hr.len, fun h' => ?_⟩
    obtain ⟨Bo', Bs2, e, ⟨cs2, e2, hr2⟩, h3⟩ := h'
    subst e2
    simp only [List.cons_append, List.nil_append, List.cons.injEq, Prod.mk.injEq, true_and] at e
    obtain ⟨rfl, rfl⟩ := e
    exact ⟨hr2, fun cs' ys hy => ⟨[(g, Tag.ty T, cs')], Bs', rfl, ⟨cs', rfl, hy⟩, h3⟩⟩
  | b :: B, Bs, i + 1, g, T, xs, h, hi => by
    obtain ⟨Bo, Bs', rfl, h1, h2⟩ := h
    obtain ⟨q, cs, hq, hl, hk⟩ := BsRep.setAt h2 (i := i) (by simpa using hi)
    refine ⟨Bo.length + q, cs, by rw [List.getElem?_append_right (by omega), Nat.add_sub_cancel_left]; exact hq, hl, fun h' => ?_⟩
    obtain ⟨Bo', Bs2, e, h1', h2'⟩ := h'
    have hlen : Bo'.length = Bo.length := by
      cases b with
      | blk g T xs => obtain ⟨_, rfl, _⟩ := h1; obtain ⟨_, rfl, _⟩ := h1'; rfl
      | row r E sz ls =>
        rcases r with _ | ⟨g, c⟩
        · obtain ⟨_, _, rfl⟩ := h1; obtain ⟨_, _, rfl⟩ := h1'; rfl
        · obtain ⟨_, _, _, _, _, _, rfl, _⟩ := h1; obtain ⟨_, _, _, _, _, _, rfl, _⟩ := h1'; rfl
      | mpb g es => obtain ⟨_, _, _, rfl, _⟩ := h1; obtain ⟨_, _, _, rfl, _⟩ := h1'; rfl
    obtain ⟨rfl, rfl⟩ := List.append_inj e hlen.symm
    obtain ⟨h3, h4⟩ := hk h2'
    refine ⟨h3, fun cs' ys hy => ⟨Bo, Bs'.set q (g, T, cs'), by rw [List.set_append_right _ _ (by omega), Nat.add_sub_cancel_left], h1', h4 cs' ys hy⟩⟩
def updO (xs : List LV) (off m : Nat) (ys : List LV) : Option (List LV) := match subL xs off m with
  | some _ => go xs off ys
  | none => none
where go : List LV → Nat → List LV → Option (List LV)
  | l, _, [] => some l
  | [], _, _ :: _ => none
  | _ :: l, 0, v :: vs => match go l 0 vs with
    | some r => some (v :: r)
    | none => none
  | u :: l, i + 1, v :: vs => match go l i (v :: vs) with
    | some r => some (u :: r)
    | none => none
theorem updO_go : ∀ {xs ys r : List LV} {off : Nat}, updO.go xs off ys = some r → r = updL xs off ys
  | xs, [], r, off, h => by cases xs <;> simp [updO.go] at h <;> subst h <;> simp [updL]
  | [], _ :: _, r, off, h => by simp [updO.go] at h
  | x :: l, v :: vs, r, 0, h => by
    simp only [updO.go] at h
    split at h
    · rename_i q hq
      injection h with h; subst h
      rw [updO_go hq]; rfl
    · cases h
  | x :: l, v :: vs, r, i + 1, h => by
    simp only [updO.go] at h
    split at h
    · rename_i q hq
      injection h with h; subst h
      rw [updO_go hq]; rfl
    · cases h
theorem updO_eq {xs ys r : List LV} {off m : Nat} (h : updO xs off m ys = some r) : r = updL xs off ys ∧ off + m ≤ xs.length := by
  unfold updO at h
  split at h
  · rename_i q hq
    exact ⟨updO_go h, (subL_eq hq).2⟩
  · cases h
theorem a_storeOw (i : Nat) {T T' : TypeId} {x y : Operand} {g o : Nat} {xs ys r : List LV} {m : Nat} {u : AV} {B' B2 : List OB} (hs : ∀ w, (Go.sizeOf T).run P w = .ok m w)
    (hi : frontB B i = some (.blk g T' xs, B')) (hx : evA L x = some (.one (.ow g o))) (hy : evA L y = some u) (hl : leaves u = some ys) (hm : ys.length = m) (hr : updO xs o m ys = some r) (hB2 : setB B i (.blk g T' r) = some B2) (k : AW P ops n rest N L B2) :
    AW P ops n ({ dst := none, op := .store T x y, type := ty, pos := pos, after := after, guard := none } :: rest) N L B := by
  intro K Ob w0 w a Q hs0 hQ
  obtain ⟨L', Bs, h, hL, hB⟩ := hs0
  obtain ⟨hxi, rfl⟩ := frontB_eq hi
  obtain ⟨rfl, _⟩ := setB_eq hB2
  obtain ⟨rfl, hlen⟩ := updO_eq hr
  obtain ⟨v, hv, hr1⟩ := ev_of hL hx
  obtain rfl : v = .pointer (some ⟨g, o, none⟩) := hr1
  obtain ⟨v2, hv2, hr2⟩ := ev_of hL hy
  obtain ⟨hc2, ht2⟩ := leaves_of hr2 hl
  obtain ⟨q, cs, hq, hcl, hk⟩ := hB.setAt hxi
  have h2 := h.add (f := SF L L' B Bs v2.cells.toList ys) ⟨hL, hB, hc2⟩
  refine st_store h2 q hq hv hv2 hs rfl (hc2.len.trans hm) (by rw [Nat.ble_eq]; omega) (List.all_eq_true.2 hc2.one) fun w' h' => k _ _ _ _ _ _ ?_ hQ
  obtain ⟨h3, h4, h5⟩ := h'.fact 0 rfl
  obtain ⟨h6, h7⟩ := hk h4
  exact ⟨L', _, h'.noFacts, h3, h7 _ _ (h6.upd o h5)⟩
end Orr
