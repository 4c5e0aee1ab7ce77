/- Core Steps Mem Calls Ctl App Rel Draw Num Types Val -/
import Derived.WalkKit
import Derived.Test.YtdigkdmaagnimaaGreatProg
set_option linter.all false

namespace Orr
open Go
def look : List (Nat × Value) → Nat → Option Value
  | [], _ => none
  | (t, v) :: l, s => match Nat.beq s t with
    | true => some v
    | false => look l s
def ev (L : List (Nat × Value)) : Operand → Option Value
  | .tmp t => look L t
  | .const v => some v
  | .func f => some (.func (.func f) #[] #[])
  | .global g => some (.pointer (some ⟨g, 0, none⟩))
def evl (L : List (Nat × Value)) : List Operand → Option (List Value)
  | [] => some []
  | x :: r => match ev L x with
    | none => none
    | some v => match evl L r with
      | none => none
      | some vs => some (v :: vs)
def evp (L : List (Nat × Value)) : List (Nat × Operand) → Option (List (Nat × Value))
  | [] => some []
  | (i, x) :: r => match ev L x with
    | none => none
    | some v => match evp L r with
      | none => none
      | some vs => some ((i, v) :: vs)
def Le (w : World) (O : Nat → Prop) (w' : World) (O' : Nat → Prop) : Prop :=
  w.heap.size ≤ w'.heap.size ∧ (∀ b, b < w.heap.size → ¬ O b → w'.heap[b]? = w.heap[b]?) ∧ (∀ b, b < w.heap.size → O' b → O b)
structure Grow (w w' : World) : Prop where
  size : w.heap.size ≤ w'.heap.size
  keep : ∀ b, b < w.heap.size → w'.heap[b]? = w.heap[b]?
  io : w'.os = w.os ∧ w'.output = w.output
theorem Grow.refl (w : World) : Grow w w := ⟨Nat.le_refl _, fun _ _ => rfl, rfl, rfl⟩
theorem Grow.trans {w w1 w2 : World} (h : Grow w w1) (h' : Grow w1 w2) : Grow w w2 :=
  ⟨Nat.le_trans h.1 h'.1, fun b hb => (h'.2 b (Nat.lt_of_lt_of_le hb h.1)).trans (h.2 b hb), h'.io.1.trans h.io.1, h'.io.2.trans h.io.2⟩
theorem Grow.le {w w' : World} (h : Grow w w') (O : Nat → Prop) : Le w O w' O := ⟨h.1, fun b hb _ => h.2 b hb, fun _ _ h => h⟩
structure Fact where
  holds : World → (Nat → Prop) → Prop
  keep : ∀ {w w' : World} {O O' : Nat → Prop}, Le w O w' O' → holds w O → holds w' O'
inductive Tag where
  | ty (T : TypeId)
  | mp (es : List MapEntry) (clock : Nat)
instance : Coe Nat Tag := ⟨Tag.ty⟩
instance (n : Nat) : OfNat Tag n := ⟨Tag.ty n⟩
def objOf : Tag → List Value → Obj
  | .ty T, cs => .cells cs.toArray T (0, 0)
  | .mp es ck, [] => .map es.toArray ck
  | .mp _ _, c :: cs => .cells (c :: cs).toArray 0 (0, 0)
abbrev Blk := Nat × Tag × List Value
def owns (Ob : Nat → Prop) (Bs : List Blk) (b : Nat) : Prop := Ob b ∨ b ∈ Bs.map (·.1)
structure St (K Ob : Nat → Prop) (w0 w : World) (a : Act) (n : Nat) (L : List (Nat × Value)) (Fs : List Fact) (Bs : List Blk) : Prop where
  size : a.tmps.size = n
  defers : a.defers = []
  slots : ∀ t v, look L t = some v → a.tmps[t]? = some v
  wsize : w0.heap.size ≤ w.heap.size
  grow : ∀ b, K b → w.heap[b]? = w0.heap[b]?
  own : ∀ g T cs, (g, T, cs) ∈ Bs → ¬ K g ∧ g < w.heap.size ∧ w.heap[g]? = some (objOf T cs)
  nodup : (Bs.map (·.1)).Nodup
  facts : ∀ f ∈ Fs, f.holds w (owns Ob Bs)
  base : ∀ b, K b → b < w0.heap.size
  obase : ∀ b, Ob b → b < w0.heap.size
  ownO : ∀ b, b ∈ Bs.map (·.1) → ¬ Ob b
  io : w.os = w0.os ∧ w.output = w0.output
variable {P : Program} {ops : Array Oper} {Q : Exit → Act → World → Prop}
section
variable {K Ob : Nat → Prop} {w0 w : World} {a : Act} {n : Nat} {L : List (Nat × Value)} {Fs : List Fact} {Bs : List Blk}
theorem St.tmp (h : St K Ob w0 w a n L Fs Bs) {t : Nat} {v : Value} (hv : look L t = some v) : a.eval (.tmp t) = v := by
  have := h.slots t v hv
  simp [Act.eval, Array.getD_eq_getD_getElem?, this]
theorem St.ev (h : St K Ob w0 w a n L Fs Bs) {x : Operand} {v : Value} (hv : ev L x = some v) : a.eval x = v := by
  cases x with
  | tmp t => exact h.tmp hv
  | const u => simp [Orr.ev] at hv; exact hv
  | global g => simp [Orr.ev] at hv; exact hv
  | func f => simp [Orr.ev] at hv; exact hv
theorem St.evl (h : St K Ob w0 w a n L Fs Bs) : ∀ {xs : List Operand} {vs : List Value}, evl L xs = some vs → xs.toArray.map a.eval = vs.toArray
  | [], vs, hv => by simp [Orr.evl] at hv; subst hv; simp
  | x :: r, vs, hv => by
    simp only [Orr.evl] at hv
    split at hv
    · cases hv
    · rename_i v hx
      split at hv
      · cases hv
      · rename_i us hr
        injection hv with hv; subst hv
        have h1 := h.ev hx
        have h2 := h.evl hr
        simp at h2 ⊢
        exact ⟨h1, h2⟩
theorem St.evp (h : St K Ob w0 w a n L Fs Bs) : ∀ {xs : List (Nat × Operand)} {vs : List (Nat × Value)}, evp L xs = some vs → (xs.toArray.map fun (p : Nat × Operand) => (p.1, a.eval p.2)) = vs.toArray
  | [], vs, hv => by simp [Orr.evp] at hv; subst hv; simp
  | (i, x) :: r, vs, hv => by
    simp only [Orr.evp] at hv
    split at hv
    · cases hv
    · rename_i v hx
      split at hv
      · cases hv
      · rename_i us hr
        injection hv with hv; subst hv
        have h1 := h.ev hx
        have h2 := h.evp hr
        simp at h2 ⊢
        exact ⟨h1, h2⟩
theorem St.put (h : St K Ob w0 w a n L Fs Bs) {d : Nat} (v : Value) (hd : Nat.blt d n = true) : St K Ob w0 w (a.put (some d) v) n ((d, v) :: L) Fs Bs := by
  have hd' : d < n := by rwa [Nat.blt_eq] at hd
  refine { h with size := ?_, defers := h.defers, slots := ?_ }
  · simp [Act.put, h.size]
  · intro t u hu
    simp only [look] at hu
    simp only [Act.put]
    split at hu
    · rename_i e
      have e : t = d := Nat.eq_of_beq_eq_true e
      subst e
      injection hu with hu; subst hu
      simp [h.size, hd']
    · rename_i e
      have e : t ≠ d := Nat.ne_of_beq_eq_false e
      rw [Array.getElem?_setIfInBounds_ne (by omega)]
      exact h.slots t u hu
theorem St.nilL (h : St K Ob w0 w a n L Fs Bs) : St K Ob w0 w a n [] Fs Bs := { h with slots := fun _ _ hu => by simp [look] at hu }
theorem St.consL {L' : List (Nat × Value)} (h : St K Ob w0 w a n L Fs Bs) {t : Nat} {v : Value} (hv : look L t = some v) (h' : St K Ob w0 w a n L' Fs Bs) : St K Ob w0 w a n ((t, v) :: L') Fs Bs := by
  refine { h' with slots := fun s u hu => ?_ }
  simp only [look] at hu
  split at hu
  · rename_i e
    have e : s = t := Nat.eq_of_beq_eq_true e
    subst e
    exact hu ▸ h.slots s v hv
  · exact h'.slots s u hu
theorem St.fact (h : St K Ob w0 w a n L Fs Bs) {f : Fact} (i : Nat) (hi : Fs[i]? = some f) : f.holds w (owns Ob Bs) :=
  h.facts f (List.mem_of_getElem? hi)
theorem St.out (h : St K Ob w0 w a n L Fs Bs) {f : Fact} (i : Nat) (hi : Fs[i]? = some f) : f.holds w Ob :=
  f.keep ⟨Nat.le_refl _, fun _ _ _ => rfl, fun _ _ ho => .inl ho⟩ (h.fact i hi)
theorem St.add (h : St K Ob w0 w a n L Fs Bs) {f : Fact} (hf : f.holds w (owns Ob Bs)) : St K Ob w0 w a n L (f :: Fs) Bs := by
  refine { h with facts := fun g hg => ?_ }
  cases List.mem_cons.1 hg with
  | inl e => subst e; exact hf
  | inr e => exact h.facts g e
theorem St.noFacts (h : St K Ob w0 w a n L Fs Bs) : St K Ob w0 w a n L [] Bs := { h with facts := fun g hg => by cases hg }
theorem St.owns_lt (h : St K Ob w0 w a n L Fs Bs) {b : Nat} (hb : owns Ob Bs b) : b < w.heap.size := by
  rcases hb with hb | hb
  · exact Nat.lt_of_lt_of_le (h.obase b hb) h.wsize
  obtain ⟨⟨g, T, cs⟩, hm, rfl⟩ := List.mem_map.1 hb
  exact (h.own g T cs hm).2.1
theorem St.grown (h : St K Ob w0 w a n L Fs Bs) {w' : World} (hg : Grow w w') : St K Ob w0 w' a n L Fs Bs := by
  refine { h with io := ⟨hg.io.1.trans h.io.1, hg.io.2.trans h.io.2⟩, wsize := Nat.le_trans h.wsize hg.1, grow := fun b hb => ?_, own := fun g T cs hm => ?_, facts := fun f hf => f.keep (hg.le _) (h.facts f hf) }
  · exact (hg.2 b (Nat.lt_of_lt_of_le (h.base b hb) h.wsize)).trans (h.grow b hb)
  · obtain ⟨h1, h2, h3⟩ := h.own g T cs hm
    exact ⟨h1, Nat.lt_of_lt_of_le h2 hg.1, (hg.2 g h2).trans h3⟩
theorem St.allocT (h : St K Ob w0 w a n L Fs Bs) (T : Tag) (cs : List Value) : St K Ob w0 (w.alloc (objOf T cs)) a n L Fs ((w.heap.size, T, cs) :: Bs) := by
  have hs : (w.alloc (objOf T cs)).heap.size = w.heap.size + 1 := by
    show (w.heap.push _).size = _
    simp
  have hold : ∀ b, b < w.heap.size → (w.alloc (objOf T cs)).heap[b]? = w.heap[b]? := fun b hb => by
    show (w.heap.push _)[b]? = _
    simp [Array.getElem?_push, Nat.ne_of_lt hb]
  refine { h with wsize := by rw [hs]; exact Nat.le_succ_of_le h.wsize, grow := ?_, own := ?_, nodup := ?_, facts := ?_, ownO := ?_ }
  · intro b hb
    rw [hold b (Nat.lt_of_lt_of_le (h.base b hb) h.wsize)]
    exact h.grow b hb
  · intro g T' cs' hm
    cases List.mem_cons.1 hm with
    | inl e =>
      injection e with e1 e2; injection e2 with e2 e3; subst e1; subst e2; subst e3
      refine ⟨fun hk => ?_, by rw [hs]; exact Nat.lt_succ_self _, by show (w.heap.push _)[w.heap.size]? = _; simp⟩
      have := h.base _ hk
      have := h.wsize
      omega
    | inr e =>
      obtain ⟨h1, h2, h3⟩ := h.own g T' cs' e
      exact ⟨h1, by rw [hs]; omega, (hold g h2).trans h3⟩
  · simp only [List.map_cons, List.nodup_cons]
    refine ⟨fun hm => ?_, h.nodup⟩
    have := h.owns_lt (.inr hm)
    omega
  · intro f hf
    refine f.keep ⟨by rw [hs]; omega, fun b hb _ => hold b hb, fun b hb ho => ?_⟩ (h.facts f hf)
    simp only [owns, List.map_cons, List.mem_cons] at ho
    rcases ho with e | e | e
    · exact .inl e
    · omega
    · exact .inr e
  · intro b hb ho
    rcases List.mem_cons.1 hb with e | e
    · have h1 := h.obase b ho
      have h2 := h.wsize
      have e : b = w.heap.size := e
      omega
    · exact h.ownO b e ho
theorem St.alloc (h : St K Ob w0 w a n L Fs Bs) (T : TypeId) (cs : List Value) : St K Ob w0 (w.alloc (.cells cs.toArray T)) a n L Fs ((w.heap.size, T, cs) :: Bs) := h.allocT (.ty T) cs
theorem St.publish {B : Blk} (h : St K Ob w0 w a n L Fs (B :: Bs)) : St K Ob w0 w a n L Fs Bs := by
  refine { h with own := fun g T cs hm => h.own g T cs (List.mem_cons_of_mem _ hm), nodup := (List.nodup_cons.1 h.nodup).2, facts := fun f hf => ?_, ownO := fun b hb => h.ownO b (List.mem_cons_of_mem _ hb) }
  exact f.keep ⟨Nat.le_refl _, fun _ _ _ => rfl, fun b _ ho => ho.imp id (List.mem_cons_of_mem _)⟩ (h.facts f hf)
theorem St.perm {Bs' : List Blk} (h : St K Ob w0 w a n L Fs Bs) (hp : Bs'.Perm Bs) : St K Ob w0 w a n L Fs Bs' := by
  refine { h with own := fun g T cs hm => h.own g T cs (hp.mem_iff.1 hm), nodup := ((hp.map _).nodup_iff).2 h.nodup, facts := fun f hf => ?_, ownO := fun b hb => h.ownO b (((hp.map _).mem_iff).1 hb) }
  exact f.keep ⟨Nat.le_refl _, fun _ _ _ => rfl, fun b _ ho => ho.imp id ((hp.map _).mem_iff).1⟩ (h.facts f hf)
theorem St.grow0 (h : St (· < w0.heap.size) Ob w0 w a n L Fs Bs) : Grow w0 w := ⟨h.wsize, fun b hb => h.grow b hb, h.io⟩
end
end Orr

namespace Orr
open Go
variable {P : Program} {ops : Array Oper} {Q : Exit → Act → World → Prop}
variable {K Ob : Nat → Prop} {w0 w : World} {a : Act} {n : Nat} {L : List (Nat × Value)} {Fs : List Fact} {Bs : List Blk} {rest : List Oper}
theorem step_value {o : Oper} {v : Value} {w' : World} (hg : o.guard = none) (hrun : (execOp a.eval o).run P w = .ok (.value v) w')
    (k : wpList P ops Q rest (a.put o.dst v) w') : wpList P ops Q (o :: rest) a w := by
  refine wpList_plain hg fun K' hK => ?_
  unfold Oper.wp
  rw [hrun]
  exact hK _ _ k
theorem step_skip {o : Oper} {w' : World} (hg : o.guard = none) (hd : o.dst = none) (hrun : (execOp a.eval o).run P w = .ok .skip w')
    (k : wpList P ops Q rest a w') : wpList P ops Q (o :: rest) a w := by
  refine wpList_plain hg fun K' hK => ?_
  unfold Oper.wp
  rw [hrun]
  simp only [Oper.upon, hd]
  exact hK _ _ k
section
variable {d : Nat} {ty : TypeId} {pos : String} {after : Array Edge}
theorem st_val {op : Op} {v : Value} (h : St K Ob w0 w a n L Fs Bs) (hd : Nat.blt d n = true)
    (hrun : (execOp a.eval { dst := some d, op := op, type := ty, pos := pos, after := after, guard := none }).run P w = .ok (.value v) w)
    (k : ∀ a', St K Ob w0 w a' n ((d, v) :: L) Fs Bs → wpList P ops Q rest a' w) :
    wpList P ops Q ({ dst := some d, op := op, type := ty, pos := pos, after := after, guard := none } :: rest) a w :=
  step_value rfl hrun (k _ (h.put v hd))
theorem st_move {x : Operand} {v : Value} (h : St K Ob w0 w a n L Fs Bs) (hx : ev L x = some v) (hd : Nat.blt d n = true)
    (k : ∀ a', St K Ob w0 w a' n ((d, v) :: L) Fs Bs → wpList P ops Q rest a' w) :
    wpList P ops Q ({ dst := some d, op := .move x, type := ty, pos := pos, after := after, guard := none } :: rest) a w :=
  st_val h hd (by simp only [execOp, h.ev hx]; rfl) k
theorem st_assign {x : Operand} {v : Value} (h : St K Ob w0 w a n L Fs Bs) (hx : ev L x = some v) (hd : Nat.blt d n = true)
    (k : ∀ a', St K Ob w0 w a' n ((d, v) :: L) Fs Bs → wpList P ops Q rest a' w) :
    wpList P ops Q ({ dst := some d, op := .assign x, type := ty, pos := pos, after := after, guard := none } :: rest) a w :=
  st_val h hd (by simp only [execOp, h.ev hx]; rfl) k
theorem st_not {x : Operand} {b : Bool} {t : TypeId} (h : St K Ob w0 w a n L Fs Bs) (hx : ev L x = some (.bool b)) (hd : Nat.blt d n = true)
    (k : ∀ a', St K Ob w0 w a' n ((d, .bool (!b)) :: L) Fs Bs → wpList P ops Q rest a' w) :
    wpList P ops Q ({ dst := some d, op := .unOp .not t x, type := ty, pos := pos, after := after, guard := none } :: rest) a w :=
  st_val h hd (by simp only [execOp, h.ev hx, Op.unary, Sem.run_bind, Sem.run_pure, Result.andThen_ok]) k
theorem st_neg {x : Operand} {kd : IntKind} {m : Int} {t : TypeId} (h : St K Ob w0 w a n L Fs Bs) (hx : ev L x = some (.int kd m)) (hd : Nat.blt d n = true)
    (k : ∀ a', St K Ob w0 w a' n ((d, .int kd (kd.wrap (-m))) :: L) Fs Bs → wpList P ops Q rest a' w) :
    wpList P ops Q ({ dst := some d, op := .unOp .neg t x, type := ty, pos := pos, after := after, guard := none } :: rest) a w :=
  st_val h hd (by simp [execOp, h.ev hx, Op.unary, Op.intArith]) k
theorem st_nilCheck {x : Operand} {p : Addr} (h : St K Ob w0 w a n L Fs Bs) (hx : ev L x = some (.pointer (some p))) (hd : Nat.blt d n = true)
    (k : ∀ a', St K Ob w0 w a' n ((d, .pointer (some p)) :: L) Fs Bs → wpList P ops Q rest a' w) :
    wpList P ops Q ({ dst := some d, op := .nilCheck x, type := ty, pos := pos, after := after, guard := none } :: rest) a w :=
  st_val h hd (by simp only [execOp, h.ev hx, Sem.run_bind, Sem.run_pure, Result.andThen_ok]) k
theorem st_extract {x : Operand} {vs : List Value} {i : Nat} {v : Value} (h : St K Ob w0 w a n L Fs Bs) (hx : ev L x = some (.tuple vs.toArray)) (hi : vs[i]? = some v) (hd : Nat.blt d n = true)
    (k : ∀ a', St K Ob w0 w a' n ((d, v) :: L) Fs Bs → wpList P ops Q rest a' w) :
    wpList P ops Q ({ dst := some d, op := .extract x i, type := ty, pos := pos, after := after, guard := none } :: rest) a w :=
  st_val h hd (by simp [execOp, h.ev hx, Instr.extract, hi]) k
def cmpOf : BinOp → Int → Int → Option Bool
  | .lss, x, y => some (decide (x < y))
  | .leq, x, y => some (decide (x ≤ y))
  | .gtr, x, y => some (decide (y < x))
  | .geq, x, y => some (decide (y ≤ x))
  | .eql, x, y => some (decide (x = y))
  | .neq, x, y => some (decide (x ≠ y))
  | _, _, _ => none
theorem st_cmp {op : BinOp} {x y : Operand} {kd : IntKind} {p q : Int} {b : Bool} {t t' : TypeId} (h : St K Ob w0 w a n L Fs Bs) (hx : ev L x = some (.int kd p)) (hy : ev L y = some (.int kd q))
    (hb : cmpOf op p q = some b) (hd : Nat.blt d n = true)
    (k : ∀ a', St K Ob w0 w a' n ((d, .bool b) :: L) Fs Bs → wpList P ops Q rest a' w) :
    wpList P ops Q ({ dst := some d, op := .binOp op t x y t', type := ty, pos := pos, after := after, guard := none } :: rest) a w :=
  st_val h hd (by
    cases op <;> simp only [cmpOf, Option.some.injEq, reduceCtorEq] at hb <;> subst hb <;>
      simp [execOp, h.ev hx, h.ev hy, eqGuard, Go.binOp, Op.intCmp] <;> first | rfl | (rw [Bool.eq_iff_iff]; simp)) k
theorem st_add {x y : Operand} {kd : IntKind} {p q : Int} {t t' : TypeId} (h : St K Ob w0 w a n L Fs Bs) (hx : ev L x = some (.int kd p)) (hy : ev L y = some (.int kd q)) (hd : Nat.blt d n = true)
    (k : ∀ a', St K Ob w0 w a' n ((d, .int kd (kd.wrap (p + q))) :: L) Fs Bs → wpList P ops Q rest a' w) :
    wpList P ops Q ({ dst := some d, op := .binOp .add t x y t', type := ty, pos := pos, after := after, guard := none } :: rest) a w :=
  st_val h hd (by simp [execOp, h.ev hx, h.ev hy, eqGuard, Go.binOp, Op.intArith]) k
theorem st_sub {x y : Operand} {kd : IntKind} {p q : Int} {t t' : TypeId} (h : St K Ob w0 w a n L Fs Bs) (hx : ev L x = some (.int kd p)) (hy : ev L y = some (.int kd q)) (hd : Nat.blt d n = true)
    (k : ∀ a', St K Ob w0 w a' n ((d, .int kd (kd.wrap (p - q))) :: L) Fs Bs → wpList P ops Q rest a' w) :
    wpList P ops Q ({ dst := some d, op := .binOp .sub t x y t', type := ty, pos := pos, after := after, guard := none } :: rest) a w :=
  st_val h hd (by simp [execOp, h.ev hx, h.ev hy, eqGuard, Go.binOp, Op.intArith]) k
theorem st_mul {x y : Operand} {kd : IntKind} {p q : Int} {t t' : TypeId} (h : St K Ob w0 w a n L Fs Bs) (hx : ev L x = some (.int kd p)) (hy : ev L y = some (.int kd q)) (hd : Nat.blt d n = true)
    (k : ∀ a', St K Ob w0 w a' n ((d, .int kd (kd.wrap (p * q))) :: L) Fs Bs → wpList P ops Q rest a' w) :
    wpList P ops Q ({ dst := some d, op := .binOp .mul t x y t', type := ty, pos := pos, after := after, guard := none } :: rest) a w :=
  st_val h hd (by simp [execOp, h.ev hx, h.ev hy, eqGuard, Go.binOp, Op.intArith]) k
theorem st_quo {x y : Operand} {kd : IntKind} {p q : Int} {t t' : TypeId} (h : St K Ob w0 w a n L Fs Bs) (hx : ev L x = some (.int kd p)) (hy : ev L y = some (.int kd q)) (hq : q ≠ 0) (hd : Nat.blt d n = true)
    (k : ∀ a', St K Ob w0 w a' n ((d, .int kd (kd.wrap (p.tdiv q))) :: L) Fs Bs → wpList P ops Q rest a' w) :
    wpList P ops Q ({ dst := some d, op := .binOp .quo t x y t', type := ty, pos := pos, after := after, guard := none } :: rest) a w :=
  st_val h hd (by simp [execOp, h.ev hx, h.ev hy, eqGuard, Go.binOp, Op.intDiv, hq]) k
theorem st_rem {x y : Operand} {kd : IntKind} {p q : Int} {t t' : TypeId} (h : St K Ob w0 w a n L Fs Bs) (hx : ev L x = some (.int kd p)) (hy : ev L y = some (.int kd q)) (hq : q ≠ 0) (hd : Nat.blt d n = true)
    (k : ∀ a', St K Ob w0 w a' n ((d, .int kd (p.tmod q)) :: L) Fs Bs → wpList P ops Q rest a' w) :
    wpList P ops Q ({ dst := some d, op := .binOp .rem t x y t', type := ty, pos := pos, after := after, guard := none } :: rest) a w :=
  st_val h hd (by simp [execOp, h.ev hx, h.ev hy, eqGuard, Go.binOp, Op.intDiv, hq]) k
theorem st_eqb {x y : Operand} {p q : Bool} {t t' : TypeId} (h : St K Ob w0 w a n L Fs Bs) (hx : ev L x = some (.bool p)) (hy : ev L y = some (.bool q)) (hu : P.underlying t = some .bool) (hd : Nat.blt d n = true)
    (k : ∀ a', St K Ob w0 w a' n ((d, .bool (p == q)) :: L) Fs Bs → wpList P ops Q rest a' w) :
    wpList P ops Q ({ dst := some d, op := .binOp .eql t x y t', type := ty, pos := pos, after := after, guard := none } :: rest) a w :=
  st_val h hd (by simp only [execOp, h.ev hx, h.ev hy]; simp [go_sem, run_eql_bool, hu]) k
theorem st_neb {x y : Operand} {p q : Bool} {t t' : TypeId} (h : St K Ob w0 w a n L Fs Bs) (hx : ev L x = some (.bool p)) (hy : ev L y = some (.bool q)) (hu : P.underlying t = some .bool) (hd : Nat.blt d n = true)
    (k : ∀ a', St K Ob w0 w a' n ((d, .bool (!(p == q))) :: L) Fs Bs → wpList P ops Q rest a' w) :
    wpList P ops Q ({ dst := some d, op := .binOp .neq t x y t', type := ty, pos := pos, after := after, guard := none } :: rest) a w :=
  st_val h hd (by simp only [execOp, h.ev hx, h.ev hy]; simp [go_sem, run_neq_bool, hu]) k
theorem st_convert {x : Operand} {kd kd' : IntKind} {p : Int} {s t : TypeId} (h : St K Ob w0 w a n L Fs Bs) (hx : ev L x = some (.int kd p))
    (hs : ∀ w, (underlying s).run P w = .ok (.int kd) w) (ht : ∀ w, (underlying t).run P w = .ok (.int kd') w) (hd : Nat.blt d n = true)
    (k : ∀ a', St K Ob w0 w a' n ((d, .int kd' (kd'.wrap p)) :: L) Fs Bs → wpList P ops Q rest a' w) :
    wpList P ops Q ({ dst := some d, op := .convert s t x, type := ty, pos := pos, after := after, guard := none } :: rest) a w :=
  st_val h hd (by simp [execOp, h.ev hx, Go.convert, hs, ht, Conv.intToInt]) k
theorem st_shl {x y : Operand} {kd kd' : IntKind} {p : Int} {m : Nat} {t t' : TypeId} (h : St K Ob w0 w a n L Fs Bs) (hx : ev L x = some (.int kd p)) (hy : ev L y = some (.int kd' (m : Int))) (hm : m ≤ kd.bits) (hd : Nat.blt d n = true)
    (k : ∀ a', St K Ob w0 w a' n ((d, .int kd (kd.wrap (p * 2 ^ m))) :: L) Fs Bs → wpList P ops Q rest a' w) :
    wpList P ops Q ({ dst := some d, op := .binOp .shl t x y t', type := ty, pos := pos, after := after, guard := none } :: rest) a w :=
  st_val h hd (by
    have h0 : ¬ ((m : Int) < 0) := by omega
    simp [execOp, h.ev hx, h.ev hy, eqGuard, Go.binOp, Op.shift, h0, Nat.min_eq_left hm]) k
theorem st_shr {x y : Operand} {kd kd' : IntKind} {p : Int} {m : Nat} {t t' : TypeId} (h : St K Ob w0 w a n L Fs Bs) (hx : ev L x = some (.int kd p)) (hy : ev L y = some (.int kd' (m : Int))) (hm : m ≤ kd.bits) (hd : Nat.blt d n = true)
    (k : ∀ a', St K Ob w0 w a' n ((d, .int kd (p / 2 ^ m)) :: L) Fs Bs → wpList P ops Q rest a' w) :
    wpList P ops Q ({ dst := some d, op := .binOp .shr t x y t', type := ty, pos := pos, after := after, guard := none } :: rest) a w :=
  st_val h hd (by
    have h0 : ¬ ((m : Int) < 0) := by omega
    simp [execOp, h.ev hx, h.ev hy, eqGuard, Go.binOp, Op.shift, h0, Nat.min_eq_left hm]
    exact Int.fdiv_eq_ediv_of_nonneg _ (by have := Int.natCast_nonneg (2 ^ m); simpa using this)) k
theorem st_len {x : Operand} {A : Option Addr} {m c : Nat} {E t : TypeId} (h : St K Ob w0 w a n L Fs Bs) (hx : ev L x = some (.slice A m c)) (hu : ∀ w, (underlying t).run P w = .ok (.slice E) w) (hd : Nat.blt d n = true)
    (k : ∀ a', St K Ob w0 w a' n ((d, .int .i64 (m : Int)) :: L) Fs Bs → wpList P ops Q rest a' w) :
    wpList P ops Q ({ dst := some d, op := .call { callee := .builtin .len, args := #[x], argTypes := #[t] }, type := ty, pos := pos, after := after, guard := none } :: rest) a w :=
  st_val h hd (by simp [execOp, resolve, invoke, h.ev hx, builtin, Builtin.len_, hu, goInt]) k
theorem st_index {x y : Operand} {b o m c i sz : Nat} {E t : TypeId} {kd : IntKind} (h : St K Ob w0 w a n L Fs Bs) (hx : ev L x = some (.slice (some ⟨b, o, none⟩) m c)) (hy : ev L y = some (.int kd (i : Int)))
    (hu : ∀ w, (underlying t).run P w = .ok (.slice E) w) (hs : ∀ w, (Go.sizeOf E).run P w = .ok sz w) (hi : i < m) (hd : Nat.blt d n = true)
    (k : ∀ a', St K Ob w0 w a' n ((d, .pointer (some ⟨b, o + i * sz, none⟩)) :: L) Fs Bs → wpList P ops Q rest a' w) :
    wpList P ops Q ({ dst := some d, op := .indexAddr t x y, type := ty, pos := pos, after := after, guard := none } :: rest) a w :=
  st_val h hd (by
    have : (⟨b, o, none⟩ : Addr).add (i * sz) = ⟨b, o + i * sz, none⟩ := by
      unfold Addr.add
      split
      · rename_i e; rw [e]; rfl
      · rfl
    simp [execOp, h.ev hx, h.ev hy, Instr.indexAt, asIntOf, hu, hs, hi, this]) k
end
end Orr

namespace Orr
open Go
variable {P : Program} {ops : Array Oper} {Q : Exit → Act → World → Prop}
variable {K Ob : Nat → Prop} {w0 w : World} {a : Act} {n : Nat} {L : List (Nat × Value)} {Fs : List Fact} {Bs : List Blk} {rest : List Oper}
def upd : List Value → Nat → List Value → List Value
  | l, _, [] => l
  | [], _, _ :: _ => []
  | _ :: l, 0, v :: vs => v :: upd l 0 vs
  | u :: l, i + 1, vs => u :: upd l i vs
def sub (l : List Value) (off k : Nat) : Option (List Value) :=
  if off + k ≤ l.length then some ((l.drop off).take k) else none
theorem getElem?_heap_setCell (w : World) (p : Addr) (v : Value) (b : Nat) (hb : b ≠ p.block) : (w.setCell p v).heap[b]? = w.heap[b]? := by
  unfold World.setCell
  rw [Array.getElem?_modify]
  split
  · rename_i e; exact absurd e.symm hb
  · rfl
theorem heap_setCell_same (w : World) (g off : Nat) (v : Value) (cs : List Value) (T : TypeId) (h : w.heap[g]? = some (.cells cs.toArray T (0, 0))) :
    (w.setCell ⟨g, off, none⟩ v).heap[g]? = some (.cells (cs.set off v).toArray T (0, 0)) := by
  unfold World.setCell
  rw [Array.getElem?_modify]
  simp [h]
theorem size_setCell (w : World) (p : Addr) (v : Value) : (w.setCell p v).heap.size = w.heap.size := by
  unfold World.setCell; simp
theorem St.setCell {g T : Nat} {cs : List Value} (h : St K Ob w0 w a n L Fs Bs) {i : Nat} (hi : Bs[i]? = some (g, Tag.ty T, cs)) (off : Nat) (v : Value) :
    St K Ob w0 (w.setCell ⟨g, off, none⟩ v) a n L Fs (Bs.set i (g, T, cs.set off v)) := by
  have hm := List.mem_of_getElem? hi
  obtain ⟨hg1, hg2, hg3⟩ := h.own g T cs hm
  have hil : i < Bs.length := (List.getElem?_eq_some_iff.1 hi).1
  have hbi : Bs[i] = (g, Tag.ty T, cs) := (List.getElem?_eq_some_iff.1 hi).2
  have hmap : (Bs.set i (g, T, cs.set off v)).map (·.1) = Bs.map (·.1) := by
    rw [List.map_set]
    apply List.ext_getElem?
    intro k
    rw [List.getElem?_set]
    split
    · rename_i e; subst e
      split
      · rw [List.getElem?_map, hi]; rfl
      · rename_i hx; simp at hx; omega
    · rfl
  refine { h with wsize := by rw [size_setCell]; exact h.wsize, grow := ?_, own := ?_, nodup := by rw [hmap]; exact h.nodup, facts := ?_, ownO := by rw [hmap]; exact h.ownO }
  · intro b hb
    rw [getElem?_heap_setCell _ _ _ _ (fun e => by subst e; exact hg1 hb)]
    exact h.grow b hb
  · intro g' T' cs' hm'
    rw [size_setCell]
    obtain ⟨k, hk⟩ := List.mem_iff_getElem?.1 hm'
    rw [List.getElem?_set] at hk
    split at hk
    · injection hk with hk
      injection hk with e1 e2; injection e2 with e2 e3
      subst e1; subst e2; subst e3
      exact ⟨hg1, hg2, heap_setCell_same w g off v cs T hg3⟩
    · rename_i hne
      have hkm := List.mem_of_getElem? hk
      obtain ⟨h1, h2, h3⟩ := h.own g' T' cs' hkm
      refine ⟨h1, h2, ?_⟩
      rw [getElem?_heap_setCell _ _ _ _ ?_]
      · exact h3
      · intro e
        have e : g' = g := e
        subst e
        have hkl : k < Bs.length := (List.getElem?_eq_some_iff.1 hk).1
        have hbk : Bs[k] = (g', T', cs') := (List.getElem?_eq_some_iff.1 hk).2
        have := (List.getElem_inj (xs := Bs.map (·.1)) (i := i) (j := k) (h₀ := by simpa using hil) (h₁ := by simpa using hkl) h.nodup).1 (by simp [hbi, hbk])
        exact hne this
  · intro f hf
    have ho : owns Ob (Bs.set i (g, T, cs.set off v)) = owns Ob Bs := by funext b; simp only [owns, hmap]
    rw [ho]
    refine f.keep ⟨by rw [size_setCell]; exact Nat.le_refl _, fun b _ hno => ?_, fun b _ h => h⟩ (h.facts f hf)
    exact getElem?_heap_setCell _ _ _ _ (fun e => hno (by
      have e : b = g := e
      subst e
      exact .inr (List.mem_map.2 ⟨_, hm, rfl⟩)))
theorem St.own_cell {g T : Nat} {cs : List Value} (h : St K Ob w0 w a n L Fs Bs) {i : Nat} (hi : Bs[i]? = some (g, Tag.ty T, cs)) (off : Nat) : w.cell? ⟨g, off, none⟩ = cs[off]? := by
  obtain ⟨_, _, h3⟩ := h.own g T cs (List.mem_of_getElem? hi)
  simp [World.cell?, h3, objOf]
theorem St.own_frozen {g T : Nat} {cs : List Value} (h : St K Ob w0 w a n L Fs Bs) {i : Nat} (hi : Bs[i]? = some (g, Tag.ty T, cs)) (off : Nat) : w.frozen? ⟨g, off, none⟩ = false := by
  obtain ⟨_, _, h3⟩ := h.own g T cs (List.mem_of_getElem? hi)
  simp [World.frozen?, h3, objOf]
def one : Value → Bool
  | .agg _ => false
  | .tuple _ => false
  | _ => true
theorem run_load_some {α : Type} (m : Mode) (p : Addr) (v : Value) (k : Value → Sem α) (w : World) (h : w.cell? p = some v) : (Sem.load m p k).run P w = (k v).run P w := by
  simp [Sem.run, h]
theorem add_spot (b o i : Nat) : (⟨b, o, none⟩ : Addr).add i = ⟨b, o + i, none⟩ := by
  unfold Addr.add
  split
  · rename_i e; subst e; rfl
  · rfl
theorem run_loadCellsFrom (b o : Nat) (w : World) : ∀ (k i : Nat) (vs : List Value) (acc : Array Value), vs.length = k → (∀ j v, vs[j]? = some v → w.cell? ⟨b, o + (i + j), none⟩ = some v) →
    (loadCellsFrom ⟨b, o, none⟩ i k acc).run P w = .ok (acc ++ vs.toArray) w
  | 0, i, vs, acc, hl, _ => by
    have : vs = [] := List.eq_nil_of_length_eq_zero hl
    subst this
    simp [loadCellsFrom]
  | k + 1, i, v :: vs, acc, hl, hc => by
    have h0 := hc 0 v rfl
    simp only [loadCellsFrom]
    rw [Sem.run_bind]
    have e : (load ((⟨b, o, none⟩ : Addr).add i)).run P w = .ok v w := by
      rw [add_spot]
      unfold load
      rw [run_load_some _ _ v _ _ (by simpa using h0)]
      rfl
    rw [e]
    simp only [Result.andThen_ok]
    rw [run_loadCellsFrom b o w k (i + 1) vs (acc.push v) (by simpa using hl) (fun j u hj => by
      have := hc (j + 1) u (by simpa using hj)
      rw [show i + 1 + j = i + (j + 1) from by omega]; exact this)]
    simp
theorem run_loadCells (b o : Nat) (w : World) (vs : List Value) (hc : ∀ j v, vs[j]? = some v → w.cell? ⟨b, o + j, none⟩ = some v) :
    (loadCells ⟨b, o, none⟩ vs.length).run P w = .ok vs.toArray w := by
  unfold loadCells
  rw [run_loadCellsFrom b o w vs.length 0 vs #[] rfl (fun j v hj => by simpa using hc j v hj)]
  simp
section
variable {d : Nat} {ty : TypeId} {pos : String} {after : Array Edge}
theorem run_newObj (o : Obj) (w : World) : (newObj o).run P w = .ok w.heap.size (w.alloc o) := rfl
theorem st_alloc {T : TypeId} {z : Value} (h : St K Ob w0 w a n L Fs Bs) (hz : ∀ w, (zeroValue T).run P w = .ok z w) (hd : Nat.blt d n = true)
    (k : ∀ g w' a', St K Ob w0 w' a' n ((d, .pointer (some ⟨g, 0, none⟩)) :: L) Fs ((g, T, z.cells.toList) :: Bs) → wpList P ops Q rest a' w') :
    wpList P ops Q ({ dst := some d, op := .alloc T, type := ty, pos := pos, after := after, guard := none } :: rest) a w :=
  step_value (w' := w.alloc (.cells z.cells T)) (v := .pointer (some ⟨w.heap.size, 0, none⟩)) rfl
    (by simp [execOp, Instr.alloc, hz, newVar, newRow, run_newObj])
    (k _ _ _ ((by simpa using h.alloc T z.cells.toList : St K Ob w0 (w.alloc (.cells z.cells T)) a n L Fs ((w.heap.size, T, z.cells.toList) :: Bs)).put _ hd))
theorem st_box {T : TypeId} {x : Operand} {v : Value} (h : St K Ob w0 w a n L Fs Bs) (hx : ev L x = some v) (hd : Nat.blt d n = true)
    (k : ∀ g w' a', St K Ob w0 w' a' n ((d, .pointer (some ⟨g, 0, none⟩)) :: L) Fs ((g, T, v.cells.toList) :: Bs) → wpList P ops Q rest a' w') :
    wpList P ops Q ({ dst := some d, op := .box T x, type := ty, pos := pos, after := after, guard := none } :: rest) a w :=
  step_value (w' := w.alloc (.cells v.cells T)) (v := .pointer (some ⟨w.heap.size, 0, none⟩)) rfl
    (by simp [execOp, Instr.box, h.ev hx, newVar, newRow, run_newObj])
    (k _ _ _ ((by simpa using h.alloc T v.cells.toList : St K Ob w0 (w.alloc (.cells v.cells T)) a n L Fs ((w.heap.size, T, v.cells.toList) :: Bs)).put _ hd))
theorem st_build {T : TypeId} {ps : List (Nat × Operand)} {vs : List (Nat × Value)} {v : Value} (h : St K Ob w0 w a n L Fs Bs) (hx : evp L ps = some vs)
    (hrun : ∀ w, (Instr.build T vs.toArray).run P w = .ok v w) (hd : Nat.blt d n = true)
    (k : ∀ a', St K Ob w0 w a' n ((d, v) :: L) Fs Bs → wpList P ops Q rest a' w) :
    wpList P ops Q ({ dst := some d, op := .build T ps.toArray, type := ty, pos := pos, after := after, guard := none } :: rest) a w :=
  st_val h hd (by
    have := h.evp hx
    simp only [execOp]
    rw [show (Array.map (fun x => match x with | (i, x) => (i, a.eval x)) ps.toArray) = vs.toArray from this, Sem.run_bind, hrun]
    rfl) k
theorem st_buildSlice {T E : TypeId} {m : Nat} {ps : List (Nat × Operand)} {vs : List (Nat × Value)} {cs : List Value} (h : St K Ob w0 w a n L Fs Bs) (hx : evp L ps = some vs)
    (hrun : ∀ w, (Instr.buildSlice T m vs.toArray).run P w = .ok (.slice (some ⟨w.heap.size, 0, none⟩) m m) (w.alloc (.cells cs.toArray E))) (hd : Nat.blt d n = true)
    (k : ∀ g w' a', St K Ob w0 w' a' n ((d, .slice (some ⟨g, 0, none⟩) m m) :: L) Fs ((g, E, cs) :: Bs) → wpList P ops Q rest a' w') :
    wpList P ops Q ({ dst := some d, op := .buildSlice T m ps.toArray, type := ty, pos := pos, after := after, guard := none } :: rest) a w :=
  step_value (w' := w.alloc (.cells cs.toArray E)) (v := .slice (some ⟨w.heap.size, 0, none⟩) m m) rfl
    (by
      have := h.evp hx
      simp only [execOp]
      rw [show (Array.map (fun x => match x with | (i, x) => (i, a.eval x)) ps.toArray) = vs.toArray from this, Sem.run_bind, hrun]
      rfl)
    (k _ _ _ ((h.alloc E cs).put _ hd))
theorem st_fieldAddr {S : TypeId} {x : Operand} {f b o off : Nat} (h : St K Ob w0 w a n L Fs Bs) (hx : ev L x = some (.pointer (some ⟨b, o, none⟩)))
    (hrun : ∀ b o w, (Instr.fieldAt S (.pointer (some ⟨b, o, none⟩)) f).run P w = .ok (.pointer (some ⟨b, o + off, none⟩)) w) (hd : Nat.blt d n = true)
    (k : ∀ a', St K Ob w0 w a' n ((d, .pointer (some ⟨b, o + off, none⟩)) :: L) Fs Bs → wpList P ops Q rest a' w) :
    wpList P ops Q ({ dst := some d, op := .fieldAddr S x f, type := ty, pos := pos, after := after, guard := none } :: rest) a w :=
  st_val h hd (by simp only [execOp, h.ev hx]; rw [Sem.run_bind, hrun]; rfl) k
theorem st_field {S : TypeId} {x : Operand} {f : Nat} {v u : Value} (h : St K Ob w0 w a n L Fs Bs) (hx : ev L x = some v)
    (hrun : ∀ w, (Instr.field S v f).run P w = .ok u w) (hd : Nat.blt d n = true)
    (k : ∀ a', St K Ob w0 w a' n ((d, u) :: L) Fs Bs → wpList P ops Q rest a' w) :
    wpList P ops Q ({ dst := some d, op := .field S x f, type := ty, pos := pos, after := after, guard := none } :: rest) a w :=
  st_val h hd (by simp only [execOp, h.ev hx]; rw [Sem.run_bind, hrun]; rfl) k
theorem st_load {T : TypeId} {x : Operand} {p : Addr} {v : Value} (h : St K Ob w0 w a n L Fs Bs) (hx : ev L x = some (.pointer (some p)))
    (ht : ∀ w, (isAgg T).run P w = .ok false w) (hc : w.cell? p = some v) (hd : Nat.blt d n = true)
    (k : ∀ a', St K Ob w0 w a' n ((d, v) :: L) Fs Bs → wpList P ops Q rest a' w) :
    wpList P ops Q ({ dst := some d, op := .load T x, type := ty, pos := pos, after := after, guard := none } :: rest) a w :=
  st_val h hd (by
    simp only [execOp, h.ev hx, Instr.loadAt, Instr.sureAddr, loadVar, Sem.run_bind, Sem.run_pure, Result.andThen_ok, ht, Bool.false_eq_true, if_false]
    unfold load
    rw [run_load_some _ _ v _ _ hc]
    rfl) k
theorem st_loadS {T : TypeId} {x : Operand} {b o m : Nat} {vs : List Value} (h : St K Ob w0 w a n L Fs Bs) (hx : ev L x = some (.pointer (some ⟨b, o, none⟩)))
    (ht : ∀ w, (isAgg T).run P w = .ok true w) (hs : ∀ w, (Go.sizeOf T).run P w = .ok m w) (hl : vs.length = m) (hc : ∀ j v, vs[j]? = some v → w.cell? ⟨b, o + j, none⟩ = some v) (hd : Nat.blt d n = true)
    (k : ∀ a', St K Ob w0 w a' n ((d, .agg vs.toArray) :: L) Fs Bs → wpList P ops Q rest a' w) :
    wpList P ops Q ({ dst := some d, op := .load T x, type := ty, pos := pos, after := after, guard := none } :: rest) a w :=
  st_val h hd (by
    subst hl
    simp only [execOp, h.ev hx, Instr.loadAt, Instr.sureAddr, loadVar, Sem.run_bind, Sem.run_pure, Result.andThen_ok, ht, hs, if_true]
    rw [run_loadCells b o w vs hc]
    rfl) k
theorem st_loadO {T : TypeId} {x : Operand} {g o T' : Nat} {cs : List Value} {v : Value} (h : St K Ob w0 w a n L Fs Bs) (i : Nat) (hi : Bs[i]? = some (g, Tag.ty T', cs)) (hx : ev L x = some (.pointer (some ⟨g, o, none⟩)))
    (ht : ∀ w, (isAgg T).run P w = .ok false w) (hc : cs[o]? = some v) (hd : Nat.blt d n = true)
    (k : ∀ a', St K Ob w0 w a' n ((d, v) :: L) Fs Bs → wpList P ops Q rest a' w) :
    wpList P ops Q ({ dst := some d, op := .load T x, type := ty, pos := pos, after := after, guard := none } :: rest) a w :=
  st_load h hx ht ((h.own_cell hi o).trans hc) hd k
theorem st_loadOS {T : TypeId} {x : Operand} {g o m T' : Nat} {cs vs : List Value} (h : St K Ob w0 w a n L Fs Bs) (i : Nat) (hi : Bs[i]? = some (g, Tag.ty T', cs)) (hx : ev L x = some (.pointer (some ⟨g, o, none⟩)))
    (ht : ∀ w, (isAgg T).run P w = .ok true w) (hs : ∀ w, (Go.sizeOf T).run P w = .ok m w) (hc : sub cs o m = some vs) (hd : Nat.blt d n = true)
    (k : ∀ a', St K Ob w0 w a' n ((d, .agg vs.toArray) :: L) Fs Bs → wpList P ops Q rest a' w) :
    wpList P ops Q ({ dst := some d, op := .load T x, type := ty, pos := pos, after := after, guard := none } :: rest) a w := by
  have hsub : o + m ≤ cs.length ∧ vs = (cs.drop o).take m := by
    unfold sub at hc
    split at hc
    · injection hc with hc; exact ⟨by assumption, hc.symm⟩
    · cases hc
  refine st_loadS h hx ht hs (by rw [hsub.2]; simp; omega) (fun j v hj => ?_) hd k
  rw [h.own_cell hi]
  rw [hsub.2, List.getElem?_take] at hj
  split at hj
  · rwa [List.getElem?_drop] at hj
  · cases hj
end
end Orr

namespace Orr
open Go
variable {P : Program} {ops : Array Oper} {Q : Exit → Act → World → Prop}
variable {K Ob : Nat → Prop} {w0 w : World} {a : Act} {n : Nat} {L : List (Nat × Value)} {Fs : List Fact} {Bs : List Blk} {rest : List Oper}
variable {d : Nat} {ty : TypeId} {pos : String} {after : Array Edge}
theorem run_store_one {α : Type} (m : Mode) (p : Addr) (v u : Value) (k : Sem α) (w : World) (hv : one v = true) (h : w.cell? p = some u) (hf : w.frozen? p = false) :
    (Sem.store m p v k).run P w = k.run P (w.setCell p v) := by
  cases v <;> simp [one] at hv <;> simp [Sem.run, h, hf]
theorem upd_cons (cs : List Value) (off : Nat) (v : Value) (vs : List Value) (hl : off + (vs.length + 1) ≤ cs.length) : upd cs off (v :: vs) = upd (cs.set off v) (off + 1) vs := by
  induction cs generalizing off v vs with
  | nil => simp at hl
  | cons c cs ih =>
    cases off with
    | zero => simp [upd]
              cases vs <;> simp [upd]
    | succ off =>
      simp only [upd, List.set_cons_succ]
      cases vs with
      | nil =>
        have := ih off v [] (by simp at hl ⊢; omega)
        simp only [upd] at this ⊢
        rw [this]
      | cons u us =>
        simp only [upd]
        rw [ih off v (u :: us) (by simp at hl ⊢; omega)]
theorem length_upd (cs : List Value) (off : Nat) (vs : List Value) : (upd cs off vs).length = cs.length := by
  induction cs generalizing off vs with
  | nil => cases vs <;> simp [upd]
  | cons c cs ih =>
    cases vs with
    | nil => simp [upd]
    | cons v vs => cases off <;> simp [upd, ih]
theorem St.storeCells {g T : Nat} : ∀ (vs : List Value) (cs : List Value) (off j : Nat) (w : World) (Bs : List Blk) (i : Nat), St K Ob w0 w a n L Fs Bs → Bs[i]? = some (g, Tag.ty T, cs) → off + j + vs.length ≤ cs.length → (∀ v ∈ vs, one v = true) →
    ∃ w', (storeCells ⟨g, off, none⟩ vs j).run P w = .ok () w' ∧ St K Ob w0 w' a n L Fs (Bs.set i (g, T, upd cs (off + j) vs))
  | [], cs, off, j, w, Bs, i, h, hi, _, _ => by
    refine ⟨w, by simp [Go.storeCells], ?_⟩
    have : upd cs (off + j) [] = cs := by cases cs <;> simp [upd]
    rw [this]
    have hset : Bs.set i (g, T, cs) = Bs := by
      obtain ⟨hl, hb⟩ := List.getElem?_eq_some_iff.1 hi
      rw [← hb]; exact List.set_getElem_self hl
    rw [hset]; exact h
  | v :: vs, cs, off, j, w, Bs, i, h, hi, hl, h1 => by
    have hil := (List.getElem?_eq_some_iff.1 hi).1
    have hjl : off + j < cs.length := by simp at hl; omega
    have hc : w.cell? ⟨g, off + j, none⟩ = some (cs[off + j]) := (h.own_cell hi _).trans (List.getElem?_eq_getElem hjl)
    have hst : (store ((⟨g, off, none⟩ : Addr).add j) v).run P w = .ok () (w.setCell ⟨g, off + j, none⟩ v) := by
      rw [add_spot]
      unfold store
      rw [run_store_one _ _ v _ _ _ (h1 v (List.mem_cons_self ..)) hc (h.own_frozen hi _)]
      rfl
    have h' := h.setCell hi (off + j) v
    obtain ⟨w', hr, hw⟩ := St.storeCells vs (cs.set (off + j) v) off (j + 1) _ _ i h' (List.getElem?_set_self hil) (by simp at hl ⊢; omega) (fun u hu => h1 u (List.mem_cons_of_mem _ hu))
    refine ⟨w', ?_, ?_⟩
    · simp only [Go.storeCells]
      rw [Sem.run_bind, hst]
      exact hr
    · rw [upd_cons _ _ _ _ (by simp at hl; omega)]
      rw [List.set_set] at hw
      exact hw
theorem st_store {T : TypeId} {x y : Operand} {g o m T' : Nat} {cs vs : List Value} {v : Value} (h : St K Ob w0 w a n L Fs Bs) (i : Nat) (hi : Bs[i]? = some (g, Tag.ty T', cs)) (hx : ev L x = some (.pointer (some ⟨g, o, none⟩)))
    (hy : ev L y = some v) (hs : ∀ w, (Go.sizeOf T).run P w = .ok m w) (hv : v.cells.toList = vs) (hm : vs.length = m) (hl : Nat.ble (o + m) cs.length = true) (h1 : vs.all one = true)
    (k : ∀ w', St K Ob w0 w' a n L Fs (Bs.set i (g, T', upd cs o vs)) → wpList P ops Q rest a w') :
    wpList P ops Q ({ dst := none, op := .store T x y, type := ty, pos := pos, after := after, guard := none } :: rest) a w := by
  obtain ⟨w', hr, hw⟩ := St.storeCells (P := P) vs cs o 0 w Bs i h hi (by have := Nat.le_of_ble_eq_true hl; omega) (fun u hu => List.all_eq_true.1 h1 u hu)
  refine step_skip (w' := w') rfl rfl ?_ (k w' hw)
  have hsz : v.cells.size = m := by rw [← hm, ← hv]; simp
  simp only [execOp, h.ev hx, h.ev hy, Instr.storeAt, Instr.sureAddr, storeVar, Sem.run_bind, Sem.run_pure, Result.andThen_ok, hs, hsz, ne_eq, not_true_eq_false, if_false, hv, hr]
def reps : Nat → List Value → List Value
  | 0, _ => []
  | m + 1, zs => zs ++ reps m zs
theorem length_reps (m : Nat) (zs : List Value) : (reps m zs).length = m * zs.length := by
  induction m with
  | zero => simp [reps]
  | succ m ih => simp [reps, ih, Nat.succ_mul, Nat.add_comm]
theorem getElem?_reps (m : Nat) (zs : List Value) (i : Nat) (hi : i < m * zs.length) : (reps m zs)[i]? = zs[i % zs.length]? := by
  induction m generalizing i with
  | zero => simp at hi
  | succ m ih =>
    simp only [reps]
    by_cases h : i < zs.length
    · rw [List.getElem?_append_left h, Nat.mod_eq_of_lt h]
    · have e : i % zs.length = (i - zs.length) % zs.length := Nat.mod_eq_sub_mod (by omega)
      have h2 : (m + 1) * zs.length = m * zs.length + zs.length := Nat.succ_mul _ _
      rw [List.getElem?_append_right (by omega), ih (i - zs.length) (by omega), e]
theorem range_reps (m : Nat) (zs : List Value) (hz : 0 < zs.length) :
    ((Array.range (m * zs.length)).map fun i => (zs.toArray)[i % zs.length]!) = (reps m zs).toArray := by
  apply Array.ext
  · simp [length_reps]
  · intro i h1 h2
    have hi : i < m * zs.length := by simpa using h1
    have hm : i % zs.length < zs.length := Nat.mod_lt _ hz
    have h3 := getElem?_reps m zs i hi
    simp at h2 ⊢
    rw [List.getElem?_eq_getElem h2, List.getElem?_eq_getElem hm] at h3
    injection h3 with h3
    rw [h3, List.getElem?_eq_getElem hm]
    rfl
theorem wrap_small (m : Nat) (hm : m < 2 ^ 40) : IntKind.i64.wrap (m : Int) = (m : Int) := by
  have : (2 : Nat) ^ 40 = 1099511627776 := by decide
  simp [IntKind.wrap, IntKind.bits, IntKind.signed]; omega
theorem run_makeSlice {T E : TypeId} {m : Nat} {zs : List Value} {z : Value} {info : TypeInfo} (w : World)
    (hu : ∀ w, (underlying T).run P w = .ok (.slice E) w) (hi : ∀ w, (typeInfo E).run P w = .ok info w) (hb : Nat.ble info.bytes 256 = true) (hs : ∀ w, (Go.sizeOf E).run P w = .ok zs.length w)
    (hz : ∀ w, (zeroValue E).run P w = .ok z w) (hz1 : z.cells = zs.toArray) (hz0 : 0 < zs.length) (hm : m < 2 ^ 38) :
    (Instr.makeSlice T (.int .i64 (m : Int)) (.int .i64 (m : Int))).run P w = .ok (.slice (some ⟨w.heap.size, 0, none⟩) m m) (w.alloc (.cells (reps m zs).toArray E)) := by
  have h38 : (2 : Nat) ^ 38 = 274877906944 := by decide
  have hw := wrap_small m (by have : (2 : Nat) ^ 40 = 1099511627776 := by decide
                              omega)
  have hb' : info.bytes ≤ 256 := Nat.le_of_ble_eq_true hb
  have hle : m * info.bytes ≤ 274877906944 * 256 := Nat.mul_le_mul (by omega) hb'
  have e1 : ¬ ((m : Int) < 0) := by omega
  have e : (info.bytes : Int) * (m : Int) = ((m * info.bytes : Nat) : Int) := by push_cast; exact Int.mul_comm _ _
  have e2 : ¬ ((info.bytes : Int) * (m : Int) > 2 ^ 48) := by
    rw [e]
    have : (2 : Int) ^ 48 = 281474976710656 := by decide
    omega
  have e3 : ¬ (m * info.bytes > roomBytes) := by
    unfold roomBytes
    have : (2 : Nat) ^ 47 = 140737488355328 := by decide
    omega
  unfold Instr.makeSlice
  simp only [hu, hi, hs, asInt, asIntOf, Sem.run_bind, Sem.run_pure, Result.andThen_ok, hw, Int.toNat_natCast, e1, e2, decide_false, Bool.or_false, Int.lt_irrefl, gt_iff_lt, Bool.false_eq_true, if_false, askRoom, e3]
  rcases Nat.eq_zero_or_pos m with h0 | h0
  · subst h0
    simp only [Nat.zero_mul, if_true, Sem.run_pure, Result.andThen_ok, newRow, Sem.run_bind, run_newObj, reps]
    have h0 : ∀ f : Nat → Value, Array.map f (Array.range 0) = #[] := fun f => by apply Array.ext <;> simp
    rw [h0]
  · have hne : ¬ (m * zs.length = 0) := by
      have := Nat.mul_pos h0 hz0; omega
    simp only [hne, if_false, Sem.run_bind, Sem.run_pure, Result.andThen_ok, hz, newRow, run_newObj, hz1]
    have := range_reps m zs hz0
    simp only [List.size_toArray]
    rw [this]
theorem st_make {T E : TypeId} {x y : Operand} {m : Nat} {zs : List Value} {z : Value} {info : TypeInfo} (h : St K Ob w0 w a n L Fs Bs) (hx : ev L x = some (.int .i64 (m : Int))) (hy : ev L y = some (.int .i64 (m : Int)))
    (hu : ∀ w, (underlying T).run P w = .ok (.slice E) w) (hi : ∀ w, (typeInfo E).run P w = .ok info w) (hb : Nat.ble info.bytes 256 = true) (hs : ∀ w, (Go.sizeOf E).run P w = .ok zs.length w)
    (hz : ∀ w, (zeroValue E).run P w = .ok z w) (hz1 : z.cells = zs.toArray) (hz0 : Nat.blt 0 zs.length = true) (hm : m < 2 ^ 38) (hd : Nat.blt d n = true)
    (k : ∀ g w' a', St K Ob w0 w' a' n ((d, .slice (some ⟨g, 0, none⟩) m m) :: L) Fs ((g, E, reps m zs) :: Bs) → wpList P ops Q rest a' w') :
    wpList P ops Q ({ dst := some d, op := .makeSlice T x y, type := ty, pos := pos, after := after, guard := none } :: rest) a w :=
  step_value (w' := w.alloc (.cells (reps m zs).toArray E)) (v := .slice (some ⟨w.heap.size, 0, none⟩) m m) rfl
    (by
      simp only [execOp, h.ev hx, h.ev hy, Sem.run_bind]
      rw [run_makeSlice w hu hi hb hs hz hz1 (by rwa [Nat.blt_eq] at hz0) hm]
      rfl)
    (k _ _ _ ((h.alloc E (reps m zs)).put _ hd))
theorem run_callFunc {f : FuncId} {fn : Func} {args : Array Value} (w : World) (hf : P.funcs[f]? = some fn) (hn : (fn.name == "runtime.NumGoroutine") = false) (hb : fn.body.isNone = false) :
    (callFunc f args).run P w = .ok (.enter f args) w := by
  simp only [callFunc, Sem.run_bind, run_program, Result.andThen_ok, hf, hn, hb, Bool.false_eq_true, if_false, Sem.run_pure]
theorem st_call {f : FuncId} {fn : Func} {xs : List Operand} {vs : List Value} {ats : Array TypeId} {Φ : Value → World → Prop} (h : St K Ob w0 w a n L Fs Bs)
    (hf : P.funcs[f]? = some fn) (hn : (fn.name == "runtime.NumGoroutine") = false) (hb : fn.body.isNone = false) (hx : evl L xs = some vs)
    (hc : Calls P f vs.toArray w fun e w' => ∃ r, e = .returned r ∧ Grow w w' ∧ Φ r w') (hd : Nat.blt d n = true)
    (k : ∀ r w' a', Grow w w' → Φ r w' → St K Ob w0 w' a' n ((d, r) :: L) Fs Bs → wpList P ops Q rest a' w') :
    wpList P ops Q ({ dst := some d, op := .call { callee := .value (.func f), args := xs.toArray, argTypes := ats }, type := ty, pos := pos, after := after, guard := none } :: rest) a w := by
  refine wpList_plain rfl fun K' hK => ?_
  unfold Oper.wp
  have e : (execOp a.eval { dst := some d, op := .call { callee := .value (.func f), args := xs.toArray, argTypes := ats }, type := ty, pos := pos, after := after, guard := none }).run P w = .ok (.enter f vs.toArray) w := by
    have hxs := h.evl hx
    have he : a.eval (.func f) = .func (.func f) #[] #[] := rfl
    simp only [execOp, resolve, he, Deferred.ofValue, hxs, Sem.run_bind, Sem.run_pure, Result.andThen_ok, invoke]
    rw [show (#[] : Array Value) ++ vs.toArray ++ #[] = vs.toArray from by simp]
    exact run_callFunc w hf hn hb
  rw [e]
  simp only [Oper.upon]
  refine hc.mono fun e' w' hr => ?_
  obtain ⟨r, rfl, hg, hΦ⟩ := hr
  exact hK _ _ (k r w' _ hg hΦ ((h.grown hg).put r hd))
end Orr

namespace Orr
open Go
variable {P : Program} {ops : Array Oper} {Q : Exit → Act → World → Prop}
variable {K Ob : Nat → Prop} {w0 w : World} {a : Act} {n : Nat} {L : List (Nat × Value)} {Fs : List Fact} {Bs : List Blk} {rest : List Oper}
def argsL : Nat → List Value → List (Nat × Value)
  | _, [] => []
  | i, v :: vs => (i, v) :: argsL (i + 1) vs
theorem look_argsL (i : Nat) (vs : List Value) (t : Nat) (v : Value) (h : look (argsL i vs) t = some v) : i ≤ t ∧ vs[t - i]? = some v := by
  induction vs generalizing i with
  | nil => simp [argsL, look] at h
  | cons u us ih =>
    simp only [argsL, look] at h
    split at h
    · rename_i e
      have e : t = i := Nat.eq_of_beq_eq_true e
      subst e
      exact ⟨Nat.le_refl _, by simpa using h⟩
    · rename_i e
      have e : t ≠ i := Nat.ne_of_beq_eq_false e
      obtain ⟨h1, h2⟩ := ih (i + 1) h
      refine ⟨by omega, ?_⟩
      rw [show t - i = (t - (i + 1)) + 1 from by omega, List.getElem?_cons_succ]
      exact h2
theorem enter {f : FuncId} {fn : Func} {c : Code} {vs : List Value} {R : Ending → World → Prop} (hf : P.funcs[f]? = some fn) (hb : fn.body = some c) (hn : fn.ntmps = n) (hl : Nat.ble vs.length n = true)
    (hK : ∀ b, K b → b < w.heap.size) (hO : ∀ b, Ob b → b < w.heap.size) (hfs : ∀ f ∈ Fs, f.holds w Ob)
    (k : ∀ a, St K Ob w w a n (argsL 0 vs) Fs [] → c.wp P (bodyPost P fn R) a w) : Calls P f vs.toArray w R := by
  have hl' := Nat.le_of_ble_eq_true hl
  refine calls_of_wp hf hb (k _ ?_)
  refine ⟨by simp [hn]; omega, rfl, fun t v hv => ?_, Nat.le_refl _, fun _ _ => rfl, fun _ _ _ hm => (by cases hm), List.nodup_nil, fun f hf => ?_, hK, hO, fun b hb => (by cases hb), rfl, rfl⟩
  · obtain ⟨_, h2⟩ := look_argsL 0 vs t v hv
    have ht : t < vs.length := by
      have := (List.getElem?_eq_some_iff.1 h2).1; simpa using this
    simp only [Nat.sub_zero] at h2
    rw [Array.getElem?_append_left (by simpa using ht)]
    simpa using h2
  · exact f.keep ⟨Nat.le_refl _, fun _ _ _ => rfl, fun b _ ho => ho.elim id (fun x => by cases x)⟩ (hfs f hf)
theorem seq_ {x y : Code} (h : x.wp P (Exit.then (y.wp P Q) Q) a w) : (Code.seq x y).wp P Q a w := wp_seq h
theorem reg_ {id : Nat} {l : List Oper} (h : wpList P l.toArray Q l a w) : (Code.region id l.toArray false).wp P Q a w := wp_region_lit h
theorem cond_ {c : Operand} {x y : Code} {b : Bool} (h : St K Ob w0 w a n L Fs Bs) (hc : ev L c = some (.bool b)) (ht : b = true → x.wp P Q a w) (hf : b = false → y.wp P Q a w) : (Code.cond c x y).wp P Q a w :=
  wp_cond_split (h.ev hc) ht hf
theorem cond_t {c : Operand} {x y : Code} {b : Bool} (h : St K Ob w0 w a n L Fs Bs) (hc : ev L c = some (.bool b)) (hb : b = true) (ht : x.wp P Q a w) : (Code.cond c x y).wp P Q a w :=
  cond_ h hc (fun _ => ht) (fun e => by rw [hb] at e; cases e)
theorem cond_f {c : Operand} {x y : Code} {b : Bool} (h : St K Ob w0 w a n L Fs Bs) (hc : ev L c = some (.bool b)) (hb : b = false) (hf : y.wp P Q a w) : (Code.cond c x y).wp P Q a w :=
  cond_ h hc (fun e => by rw [hb] at e; cases e) (fun _ => hf)
theorem loop_ {c : Code} (I : Nat → Act → World → Prop) {m : Nat} (h0 : I m a w)
    (round : ∀ m a w, I m a w → c.wp P (Exit.then (fun a' w' => ∃ m', m' < m ∧ I m' a' w') Q) a w) : (Code.loop c).wp P Q a w := by
  have key : ∀ m a w, I m a w → ∀ (b : Frame) (k : List Item) (cs : List Frame),
      ∃ e a' w', Q e a' w' ∧ Arrives P (lone (b.at a (.code c :: .inLoop c :: k)) cs w) b k cs e a' w' := by
    intro m
    induction m using Nat.strongRecOn with
    | _ m ih =>
      intro a w hI b k cs
      obtain ⟨e, a₁, w₁, hq, harr⟩ := round m a w hI b (.inLoop c :: k) cs
      have past : ∀ e' : Exit, e' ≠ .normal → Q e' a₁ w₁ → Arrives P (lone (b.at a (.code c :: .inLoop c :: k)) cs w) b (.inLoop c :: k) cs e' a₁ w₁ →
          ∃ e a' w', Q e a' w' ∧ Arrives P (lone (b.at a (.code c :: .inLoop c :: k)) cs w) b k cs e a' w' := fun e' hne hq harr =>
        ⟨e', a₁, w₁, hq, .pass (x := .inLoop c) rfl (fun _ _ => .inl hne) harr⟩
      cases e with
      | normal =>
        obtain ⟨m', hlt, hI'⟩ := hq
        obtain ⟨e₂, a₂, w₂, hq₂, harr₂⟩ := ih m' hlt a₁ w₁ hI' b k cs
        exact ⟨e₂, a₂, w₂, hq₂, .of_steps (Steps.trans harr (.one step_inLoop)) harr₂⟩
      | exit id => exact past _ (by simp) hq harr
      | goto l => exact past _ (by simp) hq harr
      | ret => exact past _ (by simp) hq harr
      | panic ch => exact past _ (by simp) hq harr
      | outgrown => exact past _ (by simp) hq harr
  intro b k cs
  obtain ⟨e, a', w', hq, harr⟩ := key m a w h0 b k cs
  exact ⟨e, a', w', hq, .of_steps (.one step_loop) harr⟩
def resv (P : Program) (w : World) (a : Act) : ResultVar → Value → Prop
  | .tmp t, v => a.eval (.tmp t) = v
  | .cell t T, v => (do loadVar T (← asAddr (a.eval (.tmp t)))).run P w = .ok v w
theorem resv_tmp {t : Nat} {v : Value} (h : St K Ob w0 w a n L Fs Bs) (hv : look L t = some v) : resv P w a (.tmp t) v := h.tmp hv
theorem resv_cell {t T g T' : Nat} {cs : List Value} {v : Value} (h : St K Ob w0 w a n L Fs Bs) (i : Nat) (hi : Bs[i]? = some (g, Tag.ty T', cs)) (hv : look L t = some (.pointer (some ⟨g, 0, none⟩)))
    (ht : ∀ w, (isAgg T).run P w = .ok false w) (hc : cs[0]? = some v) : resv P w a (.cell t T) v := by
  unfold resv
  simp only [h.tmp hv, asAddr, Sem.run_bind, Sem.run_pure, Result.andThen_ok, loadVar, ht, Bool.false_eq_true, if_false]
  unfold load
  rw [run_load_some _ _ v _ _ ((h.own_cell hi 0).trans hc)]
  rfl
theorem resv_agg {t T g m T' : Nat} {cs : List Value} (h : St K Ob w0 w a n L Fs Bs) (i : Nat) (hi : Bs[i]? = some (g, Tag.ty T', cs)) (hv : look L t = some (.pointer (some ⟨g, 0, none⟩)))
    (ht : ∀ w, (isAgg T).run P w = .ok true w) (hs : ∀ w, (Go.sizeOf T).run P w = .ok m w) (hm : cs.length = m) : resv P w a (.cell t T) (.agg cs.toArray) := by
  unfold resv
  subst hm
  simp only [h.tmp hv, asAddr, Sem.run_bind, Sem.run_pure, Result.andThen_ok, loadVar, ht, hs, if_true]
  rw [run_loadCells g 0 w cs (fun j v hj => by rw [h.own_cell hi]; simpa using hj)]
  rfl
def resOf (tmps : Array Value) : ResultVar → Sem Value
  | .tmp t => pure (tmps.getD t undef)
  | .cell a t => do loadVar t (← asAddr (tmps.getD a undef))
theorem results_eq (fn : Func) (tmps : Array Value) : results fn tmps = (do
    let vs ← fn.results.mapM (resOf tmps)
    pure (if h : vs.size = 1 then vs[0] else .tuple vs)) := by
  unfold results
  congr 1
theorem run_resOf {r : ResultVar} {v : Value} (h : resv P w a r v) : (resOf a.tmps r).run P w = .ok v w := by
  cases r with
  | tmp t =>
    simp only [resv, Act.eval] at h
    simp only [resOf, h, Sem.run_pure]
  | cell p t => exact h
theorem ret1 {fn : Func} {r : ResultVar} {v : Value} {R : Ending → World → Prop} (hr : fn.results = #[r]) (h : St K Ob w0 w a n L Fs Bs) (h1 : resv P w a r v) (hR : R (.returned v) w) : bodyPost P fn R .ret a w := by
  refine ⟨h.defers, v, ?_, hR⟩
  have e1 := run_resOf h1
  simp [results_eq, hr, e1]
theorem ret2 {fn : Func} {r s : ResultVar} {v u : Value} {R : Ending → World → Prop} (hr : fn.results = #[r, s]) (h : St K Ob w0 w a n L Fs Bs) (h1 : resv P w a r v) (h2 : resv P w a s u) (hR : R (.returned (.tuple #[v, u])) w) : bodyPost P fn R .ret a w := by
  refine ⟨h.defers, _, ?_, hR⟩
  have e1 := run_resOf h1
  have e2 := run_resOf h2
  simp [results_eq, hr, e1, e2]
theorem ret3 {fn : Func} {r s t : ResultVar} {v u x : Value} {R : Ending → World → Prop} (hr : fn.results = #[r, s, t]) (h : St K Ob w0 w a n L Fs Bs) (h1 : resv P w a r v) (h2 : resv P w a s u) (h3 : resv P w a t x) (hR : R (.returned (.tuple #[v, u, x])) w) : bodyPost P fn R .ret a w := by
  refine ⟨h.defers, _, ?_, hR⟩
  have e1 := run_resOf h1
  have e2 := run_resOf h2
  have e3 := run_resOf h3
  simp [results_eq, hr, e1, e2, e3]
theorem then_exit {id : Nat} {N : Act → World → Prop} (h : Q (.exit id) a w) : Exit.then N Q (.exit id) a w := h
theorem inBlock_exit {id : Nat} (h : Q .normal a w) : Exit.inBlock id Q (.exit id) a w := by
  simp only [Exit.inBlock, if_true]; exact h
theorem inBlock_other {id id' : Nat} (hne : (id == id') = false) (h : Q (.exit id) a w) : Exit.inBlock id' Q (.exit id) a w := by
  have : id ≠ id' := by simpa using hne
  simp only [Exit.inBlock, this, if_false]; exact h
theorem guard_run {d : Option Nat} {op : Op} {ty : TypeId} {pos : String} {after : Array Edge} {j t : Nat} {want b : Bool} (h : St K Ob w0 w a n L Fs Bs) (hj : (ops[j]?).bind (·.dst) = some t) (hv : look L t = some (.bool b)) (hb : b = want)
    (k : wpList P ops Q ({ dst := d, op := op, type := ty, pos := pos, after := after, guard := none } :: rest) a w) :
    wpList P ops Q ({ dst := d, op := op, type := ty, pos := pos, after := after, guard := some (j, want) } :: rest) a w := by
  have hs := h.slots t _ hv
  have hw : Region.wanted { dst := d, op := op, type := ty, pos := pos, after := after, guard := some (j, want) } (yielded ops a.tmps) = true := by
    simp [Region.wanted, yielded, hj, hs, hb]
  have hw' : Region.wanted { dst := d, op := op, type := ty, pos := pos, after := after, guard := none } (yielded ops a.tmps) = true := rfl
  unfold wpList at k ⊢
  rw [if_pos hw]
  rw [if_pos hw'] at k
  exact k
theorem guard_skip {d : Nat} {op : Op} {ty : TypeId} {pos : String} {after : Array Edge} {j t : Nat} {want b : Bool} (h : St K Ob w0 w a n L Fs Bs) (hj : (ops[j]?).bind (·.dst) = some t) (hv : look L t = some (.bool b)) (hb : b = !want) (hd : Nat.blt d n = true)
    (k : ∀ a', St K Ob w0 w a' n ((d, undef) :: L) Fs Bs → wpList P ops Q rest a' w) :
    wpList P ops Q ({ dst := some d, op := op, type := ty, pos := pos, after := after, guard := some (j, want) } :: rest) a w := by
  have hs := h.slots t _ hv
  have hw : Region.wanted { dst := some d, op := op, type := ty, pos := pos, after := after, guard := some (j, want) } (yielded ops a.tmps) = false := by
    simp [Region.wanted, yielded, hj, hs, hb]
  unfold wpList
  rw [if_neg (by rw [hw]; simp)]
  exact k _ (h.put undef hd)
theorem st_pickT {d : Nat} {ty : TypeId} {pos : String} {after : Array Edge} {c x y : Operand} {b : Bool} {v : Value} (h : St K Ob w0 w a n L Fs Bs) (hc : ev L c = some (.bool b)) (hb : b = true) (hx : ev L x = some v) (hd : Nat.blt d n = true)
    (k : ∀ a', St K Ob w0 w a' n ((d, v) :: L) Fs Bs → wpList P ops Q rest a' w) :
    wpList P ops Q ({ dst := some d, op := .pick c x y, type := ty, pos := pos, after := after, guard := none } :: rest) a w :=
  st_val h hd (by simp only [execOp, h.ev hc, h.ev hx, hb, asBool, Sem.run_bind, Sem.run_pure, Result.andThen_ok, if_true]) k
theorem st_pickF {d : Nat} {ty : TypeId} {pos : String} {after : Array Edge} {c x y : Operand} {b : Bool} {v : Value} (h : St K Ob w0 w a n L Fs Bs) (hc : ev L c = some (.bool b)) (hb : b = false) (hx : ev L y = some v) (hd : Nat.blt d n = true)
    (k : ∀ a', St K Ob w0 w a' n ((d, v) :: L) Fs Bs → wpList P ops Q rest a' w) :
    wpList P ops Q ({ dst := some d, op := .pick c x y, type := ty, pos := pos, after := after, guard := none } :: rest) a w :=
  st_val h hd (by simp only [execOp, h.ev hc, h.ev hx, hb, asBool, Sem.run_bind, Sem.run_pure, Result.andThen_ok, Bool.false_eq_true, if_false]) k
theorem wrap64_of {x : Int} (h1 : -9223372036854775808 ≤ x) (h2 : x ≤ 9223372036854775807) : IntKind.i64.wrap x = x := by
  simp [IntKind.wrap, IntKind.bits, IntKind.signed]; omega
theorem wrapu64_of {x : Int} (h1 : 0 ≤ x) (h2 : x ≤ 18446744073709551615) : IntKind.u64.wrap x = x := by
  simp [IntKind.wrap, IntKind.bits, IntKind.signed]; omega
theorem wrapu32_of {x : Int} : IntKind.u32.wrap x = x % 4294967296 := by
  simp [IntKind.wrap, IntKind.bits, IntKind.signed]
theorem wrapu64_is {x : Int} : IntKind.u64.wrap x = x % 18446744073709551616 := by
  simp [IntKind.wrap, IntKind.bits, IntKind.signed]
section
variable {d : Nat} {ty : TypeId} {pos : String} {after : Array Edge}
theorem St.respell {d : Nat} {v u : Value} (h : St K Ob w0 w a n ((d, v) :: L) Fs Bs) (e : v = u) : St K Ob w0 w a n ((d, u) :: L) Fs Bs := e ▸ h
theorem st_addI {x y : Operand} {p q : Int} {t t' : TypeId} (h : St K Ob w0 w a n L Fs Bs) (hx : ev L x = some (.int .i64 p)) (hy : ev L y = some (.int .i64 q)) (h1 : -9223372036854775808 ≤ p + q ∧ p + q ≤ 9223372036854775807) (hd : Nat.blt d n = true)
    (k : ∀ a', St K Ob w0 w a' n ((d, .int .i64 (p + q)) :: L) Fs Bs → wpList P ops Q rest a' w) :
    wpList P ops Q ({ dst := some d, op := .binOp .add t x y t', type := ty, pos := pos, after := after, guard := none } :: rest) a w :=
  st_add h hx hy hd fun a' h' => k a' (h'.respell (by rw [wrap64_of h1.1 h1.2]))
theorem st_subI {x y : Operand} {p q : Int} {t t' : TypeId} (h : St K Ob w0 w a n L Fs Bs) (hx : ev L x = some (.int .i64 p)) (hy : ev L y = some (.int .i64 q)) (h1 : -9223372036854775808 ≤ p - q ∧ p - q ≤ 9223372036854775807) (hd : Nat.blt d n = true)
    (k : ∀ a', St K Ob w0 w a' n ((d, .int .i64 (p - q)) :: L) Fs Bs → wpList P ops Q rest a' w) :
    wpList P ops Q ({ dst := some d, op := .binOp .sub t x y t', type := ty, pos := pos, after := after, guard := none } :: rest) a w :=
  st_sub h hx hy hd fun a' h' => k a' (h'.respell (by rw [wrap64_of h1.1 h1.2]))
theorem st_mulI {x y : Operand} {p q : Int} {t t' : TypeId} (h : St K Ob w0 w a n L Fs Bs) (hx : ev L x = some (.int .i64 p)) (hy : ev L y = some (.int .i64 q)) (h1 : -9223372036854775808 ≤ p * q ∧ p * q ≤ 9223372036854775807) (hd : Nat.blt d n = true)
    (k : ∀ a', St K Ob w0 w a' n ((d, .int .i64 (p * q)) :: L) Fs Bs → wpList P ops Q rest a' w) :
    wpList P ops Q ({ dst := some d, op := .binOp .mul t x y t', type := ty, pos := pos, after := after, guard := none } :: rest) a w :=
  st_mul h hx hy hd fun a' h' => k a' (h'.respell (by rw [wrap64_of h1.1 h1.2]))
theorem st_indexI {x y : Operand} {b o m c sz : Nat} {p : Int} {E t : TypeId} {kd : IntKind} (i : Nat) (h : St K Ob w0 w a n L Fs Bs) (hx : ev L x = some (.slice (some ⟨b, o, none⟩) m c)) (hy : ev L y = some (.int kd p))
    (hu : ∀ w, (underlying t).run P w = .ok (.slice E) w) (hs : ∀ w, (Go.sizeOf E).run P w = .ok sz w) (hp : p = (i : Int)) (hi : i < m) (hd : Nat.blt d n = true)
    (k : ∀ a', St K Ob w0 w a' n ((d, .pointer (some ⟨b, o + i * sz, none⟩)) :: L) Fs Bs → wpList P ops Q rest a' w) :
    wpList P ops Q ({ dst := some d, op := .indexAddr t x y, type := ty, pos := pos, after := after, guard := none } :: rest) a w := by
  subst hp
  exact st_index h hx hy hu hs hi hd k
end
section
variable {d : Nat} {ty : TypeId} {pos : String} {after : Array Edge}
theorem run_sliceBound {kd : IntKind} {i y : Nat} (c : BoundsCode) (h : i ≤ y) (w : World) : (Instr.sliceBound (.int kd (i : Int)) y c).run P w = .ok i w := by
  simp [Instr.sliceBound, asIntOf, h]
theorem st_cutHi {T E : TypeId} {x y : Operand} {A : Option Addr} {m c i sz : Nat} {kd : IntKind} (h : St K Ob w0 w a n L Fs Bs) (hx : ev L x = some (.slice A m c)) (hy : ev L y = some (.int kd (i : Int)))
    (hu : ∀ w, (underlying T).run P w = .ok (.slice E) w) (hs : ∀ w, (Go.sizeOf E).run P w = .ok sz w) (hi : i ≤ c) (hd : Nat.blt d n = true)
    (k : ∀ a', St K Ob w0 w a' n ((d, .slice (if c = 0 then A else A.map (·.add (0 * sz))) i c) :: L) Fs Bs → wpList P ops Q rest a' w) :
    wpList P ops Q ({ dst := some d, op := .slice T x none (some y) none, type := ty, pos := pos, after := after, guard := none } :: rest) a w :=
  st_val h hd (by simp [execOp, h.ev hx, h.ev hy, Instr.sliceAt, Instr.slice, Instr.sliceBounds, hu, hs, run_sliceBound _ hi]) k
end
end Orr

namespace Orr
open Go
variable {P : Program} {ops : Array Oper} {Q : Exit → Act → World → Prop}
variable {K Ob : Nat → Prop} {w0 w : World} {a : Act} {n : Nat} {L : List (Nat × Value)} {Fs : List Fact} {Bs : List Blk} {rest : List Oper}
def OwnRow (v : Value) (E : TypeId) (size m : Nat) (cs : List Value) (Bo : List Blk) : Prop :=
  cs.length = m * size ∧ ((v = .slice none 0 0 ∧ m = 0 ∧ Bo = []) ∨
    ∃ g c ex, v = .slice (some ⟨g, 0, none⟩) m c ∧ Bo = [(g, Tag.ty E, cs ++ ex)] ∧ (cs ++ ex).length = c * size ∧ m ≤ c ∧ c < 2 ^ 63)
def Src (w : World) (x : Value) (size m : Nat) (news : List Value) : Prop :=
  news.length = m * size ∧ ∃ A c, x = .slice A m c ∧ (0 < m → ∃ b o, A = some ⟨b, o, none⟩ ∧ ∀ (j : Nat) (v : Value), news[j]? = some v → w.cell? ⟨b, o + j, none⟩ = some v)
theorem run_firstCells {size m : Nat} {x : Value} {news : List Value} (h : Src w x size m news) : (Builtin.firstCells size m x).run P w = .ok news.toArray w := by
  obtain ⟨hl, A, c, rfl, hA⟩ := h
  rcases Nat.eq_zero_or_pos m with h0 | h0
  · subst h0
    have : news = [] := List.eq_nil_of_length_eq_zero (by simpa using hl)
    subst this
    cases A with
    | none => rfl
    | some p => simp [Builtin.firstCells, loadCells, loadCellsFrom]
  · obtain ⟨b, o, rfl, hc⟩ := hA h0
    simp only [Builtin.firstCells]
    rw [← hl]
    exact run_loadCells b o w news hc
theorem Src.keep {x : Value} {size m : Nat} {news : List Value} (h : Src w x size m news) {w' : World} (hk : ∀ p v, w.cell? p = some v → w'.cell? p = some v) : Src w' x size m news := by
  obtain ⟨hl, A, c, rfl, hA⟩ := h
  refine ⟨hl, A, c, rfl, fun h0 => ?_⟩
  obtain ⟨b, o, rfl, hc⟩ := hA h0
  exact ⟨b, o, rfl, fun j v hj => hk _ _ (hc j v hj)⟩
theorem nextslicecap_le (need old : Nat) (h : old < need) : Builtin.nextslicecap need old ≤ 4 * need + 2048 := by
  unfold Builtin.nextslicecap
  split
  · omega
  · split
    · omega
    · simp only [Builtin.growBy]
      repeat' split
      all_goals omega
theorem upd_append (cs ex news : List Value) : upd (cs ++ ex) cs.length news = cs ++ upd ex 0 news := by
  induction cs with
  | nil => rfl
  | cons c cs ih =>
    cases news with
    | nil => simp [upd]
    | cons v vs =>
      simp only [List.cons_append, List.length_cons, upd]
      rw [ih]
theorem upd_zero (ex news : List Value) (h : news.length ≤ ex.length) : upd ex 0 news = news ++ ex.drop news.length := by
  induction news generalizing ex with
  | nil => cases ex <;> simp [upd]
  | cons v vs ih =>
    cases ex with
    | nil => simp at h
    | cons e ex => simp only [upd, List.cons_append, List.length_cons, List.drop_succ_cons]; rw [ih ex (by simpa using h)]
theorem St.same {w' : World} (h : St K Ob w0 w a n L Fs Bs) (he : w'.heap = w.heap) (hio : w'.os = w.os ∧ w'.output = w.output := by exact ⟨rfl, rfl⟩) : St K Ob w0 w' a n L Fs Bs :=
  h.grown ⟨by rw [he]; exact Nat.le_refl _, fun b _ => by rw [he], hio⟩
theorem St.tailB {Bo : List Blk} (h : St K Ob w0 w a n L Fs (Bo ++ Bs)) : St K Ob w0 w a n L Fs Bs := by
  induction Bo with
  | nil => exact h
  | cons B Bo ih => exact ih h.publish
theorem run_grow {E : TypeId} {size m k c bytes : Nat} {zs : List Value} {z : Value} {info : TypeInfo} {v x : Value} {cs news : List Value} {Bs : List Blk} (h : St K Ob w0 w a n L Fs Bs)
    (hi : ∀ w, (typeInfo E).run P w = .ok info w) (hb : info.bytes = bytes) (hz : ∀ w, (zeroValue E).run P w = .ok z w) (hz1 : z.cells = zs.toArray) (hz0 : zs.length = size)
    (hold : ∀ w', w'.heap = w.heap → (Builtin.firstCells size m v).run P w' = .ok cs.toArray w') (hx : Src w x size k news) (hcl : cs.length = m * size) (hm : m + k < 2 ^ 33) :
    ∃ v' w' Bo', (do
        let newCap ← choose (.appendCap (m + k) c E)
        askRoom (newCap * (← typeInfo E).bytes)
        let old ← Builtin.firstCells size m v
        let new ← Builtin.firstCells size k x
        let rest := Builtin.zeroCells (← zeroValue E).cells (newCap - (m + k))
        pure (.slice (some (← newRow E (old ++ new ++ rest))) (m + k) newCap) : Sem Value).run P w = .ok v' w' ∧ OwnRow v' E size (m + k) (cs ++ news) Bo' ∧ St K Ob w0 w' a n L Fs (Bo' ++ Bs) := by
  have h33 : (2 : Nat) ^ 33 = 8589934592 := by decide
  have h63 : (2 : Nat) ^ 63 = 9223372036854775808 := by decide
  let w1 : World := { w with drawn := w.drawn + 1 }
  let cap := (m + k) + (w.tape w.drawn (.appendCap (m + k) c E)) % (2 ^ 63 - (m + k))
  have hcap : m + k ≤ cap ∧ cap < 2 ^ 63 := by
    have := Nat.mod_lt (w.tape w.drawn (.appendCap (m + k) c E)) (show 0 < 2 ^ 63 - (m + k) by omega)
    constructor
    · exact Nat.le_add_right _ _
    · show (m + k) + _ < _
      omega
  have hch : (choose (.appendCap (m + k) c E)).run P w = .ok cap w1 := rfl
  have hnews := run_firstCells (P := P) (hx.keep (w' := w1) (fun p v hp => hp))
  have hroom : ∀ b w, (askRoom b).run P w = .ok () w := by
    intro b w
    unfold askRoom
    split <;> rfl
  have hzero : Builtin.zeroCells zs.toArray (cap - (m + k)) = (reps (cap - (m + k)) zs).toArray := by
    unfold Builtin.zeroCells
    rcases Nat.eq_zero_or_pos zs.length with hz | hz
    · have : zs = [] := List.eq_nil_of_length_eq_zero hz
      subst this
      have : (reps (cap - (m + k)) ([] : List Value)) = [] := List.eq_nil_of_length_eq_zero (by simp [length_reps])
      rw [this]
      apply Array.ext <;> simp
    · have := range_reps (cap - (m + k)) zs hz
      simpa using this
  refine ⟨.slice (some ⟨w1.heap.size, 0, none⟩) (m + k) cap, w1.alloc (.cells ((cs ++ news) ++ reps (cap - (m + k)) zs).toArray E), [(w1.heap.size, E, (cs ++ news) ++ reps (cap - (m + k)) zs)], ?_, ⟨?_, .inr ⟨_, cap, reps (cap - (m + k)) zs, rfl, rfl, ?_, hcap.1, hcap.2⟩⟩, ?_⟩
  · simp only [Sem.run_bind, hch, Result.andThen_ok, hi, hroom, hold w1 rfl, hnews, hz, hz1, hzero, newRow, run_newObj, Sem.run_pure]
    simp
  · have := hx.1
    simp [hcl, this, Nat.add_mul]
  · have := hx.1
    simp only [List.length_append, length_reps, hcl, this, hz0]
    rw [← Nat.add_mul, ← Nat.add_mul]
    congr 1
    omega
  · have := (h.same (w' := w1) rfl).alloc E ((cs ++ news) ++ reps (cap - (m + k)) zs)
    exact this
section
variable {d : Nat} {ty : TypeId} {pos : String} {after : Array Edge}
theorem run_append {T E T2 E2 : TypeId} {size m k bytes : Nat} {zs : List Value} {z : Value} {info : TypeInfo} {v x : Value} {cs news : List Value} {Bo : List Blk} (h : St K Ob w0 w a n L Fs (Bo ++ Bs))
    (hu : ∀ w, (underlying T).run P w = .ok (.slice E) w) (hu2 : ∀ w, (underlying T2).run P w = .ok (.slice E2) w) (hi : ∀ w, (typeInfo E).run P w = .ok info w) (hb : info.bytes = bytes) (hb2 : Nat.ble bytes 4096 = true) (hb3 : Nat.blt 0 bytes = true) (hs : ∀ w, (Go.sizeOf E).run P w = .ok size w)
    (hz : ∀ w, (zeroValue E).run P w = .ok z w) (hz1 : z.cells = zs.toArray) (hz0 : zs.length = size)
    (hv : OwnRow v E size m cs Bo) (hx : Src w x size k news) (h1 : ∀ u ∈ news, one u = true) (hm : m + k < 2 ^ 33) :
    ∃ v' w' Bo', (Builtin.append_ #[T, T2] ty #[v, x]).run P w = .ok v' w' ∧ OwnRow v' E size (m + k) (cs ++ news) Bo' ∧ St K Ob w0 w' a n L Fs (Bo' ++ Bs) := by
  subst hb
  have h33 : (2 : Nat) ^ 33 = 8589934592 := by decide
  have hb2' := Nat.le_of_ble_eq_true hb2
  have hb3' : 0 < info.bytes := by rwa [Nat.blt_eq] at hb3
  have hbig : ∀ c, c < m + k → ¬ (Builtin.nextslicecap (m + k) c * info.bytes > 2 ^ 48) := fun c hc => by
    have := nextslicecap_le (m + k) c hc
    have h2 : Builtin.nextslicecap (m + k) c * info.bytes ≤ (4 * (m + k) + 2048) * 4096 := Nat.mul_le_mul this hb2'
    have h48 : (2 : Nat) ^ 48 = 281474976710656 := by decide
    omega
  obtain ⟨A', c', rfl, hA'⟩ := hx.2
  have hlen : ∀ w, (Builtin.lenOf (.slice A' k c')).run P w = .ok k w := fun _ => rfl
  obtain ⟨hcl, ⟨rfl, rfl, rfl⟩ | ⟨g, c, ex, rfl, rfl, hl, hmc, hc63⟩⟩ := hv
  · have hcs : cs = [] := List.eq_nil_of_length_eq_zero (by simpa using hcl)
    subst hcs
    rcases Nat.eq_zero_or_pos k with h0 | h0
    · subst h0
      have hn : news = [] := List.eq_nil_of_length_eq_zero (by simpa using hx.1)
      subst hn
      refine ⟨.slice none 0 0, w, [], ?_, ⟨by simp, .inl ⟨rfl, rfl, rfl⟩⟩, h⟩
      have hf := run_firstCells (P := P) hx
      simp [Builtin.append_, hu, hu2, hs, hlen, hf]
    · obtain ⟨v', w', Bo', hr, ho, hst⟩ := run_grow (P := P) (v := .slice none 0 0) (c := 0) (cs := []) h hi rfl hz hz1 hz0 (fun w' _ => rfl) hx hcl hm
      refine ⟨v', w', Bo', ?_, ho, hst⟩
      rw [← hr]
      have hne : ¬ (0 + k ≤ 0) := by omega
      have hb' := hbig 0 (by omega)
      have hbb : ¬ (info.bytes = 0) := by omega
      simp only [Builtin.append_, hu, hu2, hs, hlen, hi, Sem.run_bind, Sem.run_pure, Result.andThen_ok, List.getElem?_toArray, List.getElem?_cons_zero, List.getElem?_cons_succ, hne, if_false, Bool.false_eq_true, false_or, hbb, and_false, hb', Bool.not_false, if_true]
  · have h0 : (([(g, Tag.ty E, cs ++ ex)] : List Blk) ++ Bs)[0]? = some (g, Tag.ty E, cs ++ ex) := rfl
    have hold : ∀ w', w'.heap = w.heap → (Builtin.firstCells size m (.slice (some ⟨g, 0, none⟩) m c)).run P w' = .ok cs.toArray w' := fun w' he => by
      simp only [Builtin.firstCells]
      rw [← hcl]
      refine run_loadCells g 0 w' cs fun j u hj => ?_
      rw [show ∀ p, w'.cell? p = w.cell? p from fun p => by simp only [World.cell?, he], h.own_cell h0, Nat.zero_add, List.getElem?_append_left (List.getElem?_eq_some_iff.1 hj).1]
      exact hj
    by_cases hroom : m + k ≤ c
    · have hexl : news.length ≤ ex.length := by
        have e1 := hx.1
        rw [List.length_append, hcl] at hl
        have : (m + k) * size ≤ c * size := Nat.mul_le_mul_right _ hroom
        rw [Nat.add_mul] at this
        omega
      obtain ⟨w', hr, hst⟩ := St.storeCells (P := P) news (cs ++ ex) (m * size) 0 w _ 0 h h0 (by rw [List.length_append, hcl]; omega) h1
      have he : upd (cs ++ ex) (m * size + 0) news = (cs ++ news) ++ ex.drop news.length := by
        rw [Nat.add_zero, ← hcl, upd_append, upd_zero ex news hexl, List.append_assoc]
      rw [he] at hst
      refine ⟨.slice (some ⟨g, 0, none⟩) (m + k) c, w', [(g, Tag.ty E, (cs ++ news) ++ ex.drop news.length)], ?_, ⟨by have := hx.1; simp [hcl, this, Nat.add_mul], .inr ⟨g, c, ex.drop news.length, rfl, rfl, ?_, hroom, hc63⟩⟩, ?_⟩
      · have hf := run_firstCells (P := P) hx
        simp only [Builtin.append_, hu, hu2, hs, hlen, Sem.run_bind, Sem.run_pure, Result.andThen_ok, List.getElem?_toArray, List.getElem?_cons_zero, List.getElem?_cons_succ, hroom, if_true, Bool.false_eq_true, if_false, Bool.not_false, hf]
        rw [show ((⟨g, 0, none⟩ : Addr).add (m * size)) = ⟨g, m * size, none⟩ from by rw [add_spot, Nat.zero_add]]
        rw [hr]
        rfl
      · rw [← hl]; simp; omega
      · simpa using hst
    · obtain ⟨v', w', Bo', hr, ho, hst⟩ := run_grow (P := P) (v := .slice (some ⟨g, 0, none⟩) m c) (c := c) (cs := cs) (m := m) h.tailB hi rfl hz hz1 hz0 hold hx hcl hm
      refine ⟨v', w', Bo', ?_, ho, hst⟩
      rw [← hr]
      have hb' := hbig c (by omega)
      have hbb : ¬ (info.bytes = 0) := by omega
      simp only [Builtin.append_, hu, hu2, hs, hlen, hi, Sem.run_bind, Sem.run_pure, Result.andThen_ok, List.getElem?_toArray, List.getElem?_cons_zero, List.getElem?_cons_succ, hroom, if_false, Bool.false_eq_true, false_or, hbb, and_false, hb', Bool.not_false, if_true]
theorem st_append2 {T E T2 E2 : TypeId} {x y : Operand} {size m k : Nat} {zs : List Value} {z : Value} {info : TypeInfo} {v u : Value} {cs news : List Value} {Bo : List Blk} (h : St K Ob w0 w a n L Fs (Bo ++ Bs)) (hv : ev L x = some v) (hu' : ev L y = some u)
    (hu : ∀ w, (underlying T).run P w = .ok (.slice E) w) (hu2 : ∀ w, (underlying T2).run P w = .ok (.slice E2) w) (hi : ∀ w, (typeInfo E).run P w = .ok info w) (hb2 : Nat.ble info.bytes 4096 = true) (hb3 : Nat.blt 0 info.bytes = true) (hs : ∀ w, (Go.sizeOf E).run P w = .ok size w)
    (hz : ∀ w, (zeroValue E).run P w = .ok z w) (hz1 : z.cells = zs.toArray) (hz0 : zs.length = size)
    (ho : OwnRow v E size m cs Bo) (hx : Src w u size k news) (h1 : ∀ u ∈ news, one u = true) (hm : m + k < 2 ^ 33) (hd : Nat.blt d n = true)
    (kk : ∀ v' w' Bo' a', OwnRow v' E size (m + k) (cs ++ news) Bo' → St K Ob w0 w' a' n ((d, v') :: L) Fs (Bo' ++ Bs) → wpList P ops Q rest a' w') :
    wpList P ops Q ({ dst := some d, op := .call { callee := .builtin .append, args := #[x, y], argTypes := #[T, T2] }, type := ty, pos := pos, after := after, guard := none } :: rest) a w := by
  obtain ⟨v', w', Bo', hr, ho', hst⟩ := run_append (P := P) (ty := ty) h hu hu2 hi rfl hb2 hb3 hs hz hz1 hz0 ho hx h1 hm
  refine step_value (w' := w') (v := v') rfl ?_ (kk v' w' Bo' _ ho' (hst.put v' hd))
  simp [execOp, resolve, invoke, h.ev hv, h.ev hu', builtin, hr]
theorem st_append {T E : TypeId} {x y : Operand} {size m k : Nat} {zs : List Value} {z : Value} {info : TypeInfo} {v u : Value} {cs news : List Value} {Bo : List Blk} (h : St K Ob w0 w a n L Fs (Bo ++ Bs)) (hv : ev L x = some v) (hu' : ev L y = some u)
    (hu : ∀ w, (underlying T).run P w = .ok (.slice E) w) (hi : ∀ w, (typeInfo E).run P w = .ok info w) (hb2 : Nat.ble info.bytes 4096 = true) (hb3 : Nat.blt 0 info.bytes = true) (hs : ∀ w, (Go.sizeOf E).run P w = .ok size w)
    (hz : ∀ w, (zeroValue E).run P w = .ok z w) (hz1 : z.cells = zs.toArray) (hz0 : zs.length = size)
    (ho : OwnRow v E size m cs Bo) (hx : Src w u size k news) (h1 : ∀ u ∈ news, one u = true) (hm : m + k < 2 ^ 33) (hd : Nat.blt d n = true)
    (kk : ∀ v' w' Bo' a', OwnRow v' E size (m + k) (cs ++ news) Bo' → St K Ob w0 w' a' n ((d, v') :: L) Fs (Bo' ++ Bs) → wpList P ops Q rest a' w') :
    wpList P ops Q ({ dst := some d, op := .call { callee := .builtin .append, args := #[x, y], argTypes := #[T, T] }, type := ty, pos := pos, after := after, guard := none } :: rest) a w :=
  st_append2 h hv hu' hu hu hi hb2 hb3 hs hz hz1 hz0 ho hx h1 hm hd kk
end
end Orr

namespace Orr
open Go
structure Rel (α : Type) where
  size : Nat
  at_ : World → (Nat → Prop) → List Value → α → Prop
  len : ∀ {w O cs x}, at_ w O cs x → cs.length = size
  keep : ∀ {w w' : World} {O O' : Nat → Prop} {cs x}, Le w O w' O' → at_ w O cs x → at_ w' O' cs x
def Rel.fact {α : Type} (R : Rel α) (cs : List Value) (x : α) : Fact := ⟨fun w O => R.at_ w O cs x, fun h => R.keep h⟩
def Rel.num (kd : IntKind) : Rel Int where
  size := 1
  at_ := fun _ _ cs x => cs = [.int kd x]
  len := fun h => by rw [h]; rfl
  keep := fun _ h => h
def Rel.bool : Rel Bool where
  size := 1
  at_ := fun _ _ cs x => cs = [.bool x]
  len := fun h => by rw [h]; rfl
  keep := fun _ h => h
def rowAt {α : Type} (R : Rel α) (w : World) (O : Nat → Prop) (A : Option Addr) (xs : List α) : Prop :=
  0 < xs.length → ∃ b o, A = some ⟨b, o, none⟩ ∧ b < w.heap.size ∧ ¬ O b ∧
    ∀ i x, xs[i]? = some x → ∃ cs, R.at_ w O cs x ∧ ∀ j v, cs[j]? = some v → w.cell? ⟨b, o + i * R.size + j, none⟩ = some v
def Rel.slice {α : Type} (R : Rel α) : Rel (List α) where
  size := 1
  at_ := fun w O cs xs => ∃ A c, cs = [.slice A xs.length c] ∧ xs.length ≤ c ∧ c < 2 ^ 63 ∧ xs.length < 2 ^ 47 ∧ rowAt R w O A xs
  len := fun ⟨_, _, h, _⟩ => by rw [h]; rfl
  keep := fun {w w' O O' cs xs} hle ⟨A, c, h, hc, hb, hb', hr⟩ => ⟨A, c, h, hc, hb, hb', fun h0 => by
    obtain ⟨b, o, hA, hlt, hno, hi⟩ := hr h0
    refine ⟨b, o, hA, Nat.lt_of_lt_of_le hlt hle.1, fun ho => hno (hle.2.2 b hlt ho), fun i x hx => ?_⟩
    obtain ⟨cs, hx', hc⟩ := hi i x hx
    refine ⟨cs, R.keep hle hx', fun j v hj => ?_⟩
    have := hc j v hj
    simp only [World.cell?] at this ⊢
    rw [hle.2.1 b hlt hno]
    exact this⟩
def Rel.prod {α β : Type} (R : Rel α) (S : Rel β) : Rel (α × β) where
  size := R.size + S.size
  at_ := fun w O cs x => ∃ c1 c2, cs = c1 ++ c2 ∧ R.at_ w O c1 x.1 ∧ S.at_ w O c2 x.2
  len := fun ⟨c1, c2, h, h1, h2⟩ => by rw [h, List.length_append, R.len h1, S.len h2]
  keep := fun hle ⟨c1, c2, h, h1, h2⟩ => ⟨c1, c2, h, R.keep hle h1, S.keep hle h2⟩
def Rel.view {α β : Type} (R : Rel α) (p : α → β → Prop) : Rel β where
  size := R.size
  at_ := fun w O cs y => ∃ x, R.at_ w O cs x ∧ p x y
  len := fun ⟨_, h, _⟩ => R.len h
  keep := fun hle ⟨x, h, hp⟩ => ⟨x, R.keep hle h, hp⟩
def Rel.sliceF {α : Type} (R : Rel α) (x : α) (v : Value) : Fact := ⟨fun w O => ∃ A n c, v = .slice A n c ∧ R.at_ w O [.slice A n c] x, fun hle ⟨A, n, c, e, h⟩ => ⟨A, n, c, e, R.keep hle h⟩⟩
def Rel.aggF {α : Type} (R : Rel α) (x : α) (v : Value) : Fact := ⟨fun w O => ∃ cs : List Value, v = .agg cs.toArray ∧ R.at_ w O cs x, fun hle ⟨cs, e, h⟩ => ⟨cs, e, R.keep hle h⟩⟩
def tup2 (f g : Value → Fact) (v : Value) : Fact := ⟨fun w O => ∃ x y, v = .tuple #[x, y] ∧ (f x).holds w O ∧ (g y).holds w O, fun hle ⟨x, y, e, h1, h2⟩ => ⟨x, y, e, (f x).keep hle h1, (g y).keep hle h2⟩⟩
def tup3 (f g k : Value → Fact) (v : Value) : Fact := ⟨fun w O => ∃ x y z, v = .tuple #[x, y, z] ∧ (f x).holds w O ∧ (g y).holds w O ∧ (k z).holds w O, fun hle ⟨x, y, z, e, h1, h2, h3⟩ => ⟨x, y, z, e, (f x).keep hle h1, (g y).keep hle h2, (k z).keep hle h3⟩⟩
def eqF (c v : Value) : Fact := ⟨fun _ _ => v = c, fun _ h => h⟩
def noF (_ : Value) : Fact := ⟨fun _ _ => True, fun _ h => h⟩
def Ret (W : World) (Ob : Nat → Prop) (F : Value → Fact) (e : Ending) (w' : World) : Prop := ∃ r, e = .returned r ∧ Grow W w' ∧ (F r).holds w' Ob
def Rel.row : Rel (List Int) := (Rel.num .u32).slice
end Orr

namespace Orr
open Go
variable {P : Program} {Q : Exit → Act → World → Prop}
variable {K Ob : Nat → Prop} {w0 w : World} {a : Act} {n : Nat} {L : List (Nat × Value)} {Fs : List Fact} {Bs : List Blk}
def preds (ops : List Oper) (i : Nat) : List Nat := match ops[i]? with
  | none => []
  | some o => o.after.toList.filterMap fun e => if Region.binds .any e then some e.on else none
def tpreds (ops : List Oper) : Nat → Nat → List Nat
  | 0, _ => []
  | f + 1, i => (preds ops i).flatMap fun j => j :: tpreds ops f j
def dd (D : List (Option Nat)) (j : Nat) : Nat := (D.getD j none).getD 0
def dE (D : List (Option Nat)) (j : Nat) : Bool := (D.getD j none).isSome
def dL (D : List (Option Nat)) (v : Nat → Value) (ls : List Nat) : List (Nat × Value) := (ls.filter (dE D)).map fun j => (dd D j, v j)
def chkDraw (ops : List Oper) (m : Nat) (D : List (Option Nat)) (deps : List (List Nat)) : Bool :=
  Nat.ble m ops.length && Nat.beq D.length m && Nat.beq deps.length m &&
  (List.range ops.length).all (fun i => (preds ops i).all fun j => Nat.blt j i) &&
  (List.range m).all (fun i => match ops[i]? with
    | none => false
    | some o => (o.dst == D.getD i none) && (deps.getD i []).all fun j => (preds ops i).contains j && Nat.blt j i) &&
  (List.range m).all (fun i => (List.range m).all fun j => i == j || !(dE D i) || !(dE D j) || !(dd D i == dd D j)) &&
  (List.range ops.length).all (fun i => Nat.blt i m || (List.range i).all fun j => (tpreds ops (i + 1) i).contains j)
def DrawOp (P : Program) (ops : Array Oper) (K Ob : Nat → Prop) (w0 : World) (n : Nat) (L : List (Nat × Value)) (Fs : List Fact) (BF : (Nat → Bool) → (Nat → Value) → List Blk) (D : List (Option Nat)) (S : List (Value → Fact)) (i : Nat) (dep : List Nat) (o : Oper) : Prop :=
  ∀ (p : Nat → Bool) (_ : p i = false) (_ : ∀ j ∈ dep, p j = true) (v : Nat → Value) (Fx : List Fact) (a : Act) (w : World), St K Ob w0 w a n (dL D v dep ++ L) (dep.map (fun j => (S.getD j noF) (v j)) ++ (Fs ++ Fx)) (BF p v) →
    wpList P ops (fun e a' w' => e = .normal ∧ ∃ u, St K Ob w0 w' a' n (if dE D i then [(dd D i, u)] else []) ((S.getD i noF) u :: (Fs ++ Fx)) (BF (fun j => j == i || p j) (fun j => if j = i then u else v j))) [o] a w
def DrawOps (P : Program) (ops : Array Oper) (K Ob : Nat → Prop) (w0 : World) (n : Nat) (L : List (Nat × Value)) (Fs : List Fact) (BF : (Nat → Bool) → (Nat → Value) → List Blk) (D : List (Option Nat)) (S : List (Value → Fact)) : Nat → List (List Nat) → List Oper → Prop
  | i, dep :: deps, o :: os => DrawOp P ops K Ob w0 n L Fs BF D S i dep o ∧ DrawOps P ops K Ob w0 n L Fs BF D S (i + 1) deps os
  | _, _, _ => True
theorem DrawOps.get {ops : Array Oper} {BF : (Nat → Bool) → (Nat → Value) → List Blk} {D : List (Option Nat)} {S : List (Value → Fact)} : ∀ {k : Nat} {deps : List (List Nat)} {os : List Oper}, DrawOps P ops K Ob w0 n L Fs BF D S k deps os →
    ∀ (i : Nat) (dep : List Nat) (o : Oper), deps[i]? = some dep → os[i]? = some o → DrawOp P ops K Ob w0 n L Fs BF D S (k + i) dep o
  | k, [], os, _, i, dep, o, hd, _ => by simp at hd
  | k, d :: deps, [], _, i, dep, o, _, ho => by simp at ho
  | k, d :: deps, p :: os, h, i, dep, o, hd, ho => by
    cases i with
    | zero => simp at hd ho; subst hd; subst ho; exact h.1
    | succ i =>
      have := DrawOps.get h.2 i dep o (by simpa using hd) (by simpa using ho)
      rw [show k + (i + 1) = k + 1 + i from by omega]
      exact this
def Mid (K Ob : Nat → Prop) (w0 : World) (n : Nat) (L : List (Nat × Value)) (Fs : List Fact) (BF : (Nat → Bool) → (Nat → Value) → List Blk) (D : List (Option Nat)) (S : List (Value → Fact)) (ls : List Nat) (a : Act) (w : World) : Prop :=
  ∃ v : Nat → Value, St K Ob w0 w a n (dL D v ls ++ L) (Fs ++ ls.map (fun j => (S.getD j noF) (v j))) (BF (fun j => decide (j ∈ ls)) v)
theorem St.spellE {L' : List (Nat × Value)} {t : Nat} {x c : Value} (h : St K Ob w0 w a n L Fs Bs) (e : x = c) (hx : look L t = some x) (h' : St K Ob w0 w a n L' Fs Bs) : St K Ob w0 w a n ((t, c) :: L') Fs Bs :=
  h.consL (by rw [hx, e]) h'
theorem St.drawEnd0 {F' F : List Fact} {f : Fact} (h : St K Ob w0 w a n L (F' ++ F) Bs) (hf : f.holds w (owns Ob Bs)) : St K Ob w0 w a n [] (f :: F) Bs := by
  have h1 : St K Ob w0 w a n [] (F' ++ F) Bs := h.nilL
  refine { h1 with facts := fun g hg => ?_ }
  rcases List.mem_cons.1 hg with rfl | hg
  · exact hf
  · exact h1.facts g (List.mem_append.2 (.inr hg))
theorem St.drawEnd {F' F : List Fact} {d : Nat} {u : Value} {f : Fact} (h : St K Ob w0 w a n L (F' ++ F) Bs) (hl : look L d = some u) (hf : f.holds w (owns Ob Bs)) : St K Ob w0 w a n [(d, u)] (f :: F) Bs := by
  have h1 : St K Ob w0 w a n [(d, u)] (F' ++ F) Bs := h.consL hl h.nilL
  refine { h1 with facts := fun g hg => ?_ }
  rcases List.mem_cons.1 hg with rfl | hg
  · exact hf
  · exact h1.facts g (List.mem_append.2 (.inr hg))
theorem look_map {D : Nat → Nat} {v : Nat → Value} : ∀ {ls : List Nat} {L : List (Nat × Value)} {j : Nat}, j ∈ ls → (∀ i ∈ ls, ∀ k ∈ ls, D i = D k → i = k) → look (ls.map (fun j => (D j, v j)) ++ L) (D j) = some (v j)
  | [], _, _, h, _ => by cases h
  | i :: ls, L, j, h, hinj => by
    simp only [List.map_cons, List.cons_append, look]
    cases e : Nat.beq (D j) (D i)
    · simp only []
      have hne : j ≠ i := fun e' => by subst e'; simp at e
      have hm : j ∈ ls := (List.mem_cons.1 h).resolve_left hne
      exact look_map hm fun a ha b hb => hinj a (List.mem_cons_of_mem _ ha) b (List.mem_cons_of_mem _ hb)
    · simp only []
      have := hinj j h i (List.mem_cons_self ..) (Nat.eq_of_beq_eq_true e)
      rw [this]
theorem look_fresh {D : Nat → Nat} {v : Nat → Value} {t : Nat} {u : Value} : ∀ {ls : List Nat} {L : List (Nat × Value)}, (∀ i ∈ ls, D i ≠ t) → look L t = some u → look (ls.map (fun j => (D j, v j)) ++ L) t = some u
  | [], _, _, h => h
  | i :: ls, L, hne, h => by
    simp only [List.map_cons, List.cons_append, look]
    have h0 := hne i (List.mem_cons_self ..)
    cases e : Nat.beq t (D i)
    · exact look_fresh (fun k hk => hne k (List.mem_cons_of_mem _ hk)) h
    · exact absurd (Nat.eq_of_beq_eq_true e).symm h0
theorem look_split {D : Nat → Nat} {v : Nat → Value} {t : Nat} {u : Value} : ∀ {ls : List Nat} {L : List (Nat × Value)}, look (ls.map (fun j => (D j, v j)) ++ L) t = some u → (∃ j ∈ ls, D j = t) ∨ look L t = some u
  | [], _, h => .inr h
  | i :: ls, L, h => by
    simp only [List.map_cons, List.cons_append, look] at h
    cases e : Nat.beq t (D i)
    · rw [e] at h
      rcases look_split h with ⟨j, hj, hd⟩ | h
      · exact .inl ⟨j, List.mem_cons_of_mem _ hj, hd⟩
      · exact .inr h
    · exact .inl ⟨i, List.mem_cons_self .., (Nat.eq_of_beq_eq_true e).symm⟩
theorem wp_conv {o : Oper} {a : Act} {w : World} {K1 K2 : Act → World → Prop} {Q1 Q2 : Exit → Act → World → Prop} (hd : a.defers = [])
    (hK : ∀ a' w', K1 a' w' → a'.defers = [] ∧ ((∃ v, a' = a.put o.dst v) → K2 a' w')) (hp : ∀ c a w, ¬ Q1 (.panic c) a w) (ho : ¬ LetsOut Q1) (h : o.wp P a w K1 Q1) : o.wp P a w K2 Q2 := by
  unfold Oper.wp at *
  generalize (execOp a.eval o).run P w = r at *
  cases r with
  | ok nx w' =>
    cases nx <;> simp only [Oper.upon] at h ⊢
    case value v => exact (hK _ _ h).2 ⟨v, rfl⟩
    case skip => exact (hK _ _ h).2 ⟨_, rfl⟩
    case defer d =>
      have := (hK _ _ h).1
      cases hdst : o.dst <;> simp [Act.put, hdst] at this
    case enter f args =>
      refine Calls.mono h fun e w'' he => ?_
      cases e with
      | returned v => exact (hK _ _ he).2 ⟨v, rfl⟩
      | panicked c => exact absurd he (hp _ _ _)
      | outgrown => exact absurd he ho
    case row row args => exact Rows.mono h fun v w'' he => (hK _ _ he).2 ⟨v, rfl⟩
  | halt x w' =>
    cases x <;> simp only [Oper.upon] at h ⊢
    case panic v => exact absurd h (hp _ _ _)
theorem preds_of_ready {l : List Oper} {listed : Array Bool} {i : Nat} (h : i ∈ Region.ready .any l.toArray listed) : listed.getD i true = false ∧ i < l.length ∧ ∀ j ∈ preds l i, listed.getD j false = true := by
  obtain ⟨h0, o, ho, hall⟩ := mem_ready.1 h
  have ho' : l[i]? = some o := by simpa using ho
  refine ⟨h0, (List.getElem?_eq_some_iff.1 ho').1, fun j hj => ?_⟩
  simp only [preds, ho', List.mem_filterMap] at hj
  obtain ⟨e, he, hb⟩ := hj
  split at hb
  · rename_i hbind
    injection hb with hb; subst hb
    exact hall e (by simpa using he) hbind
  · cases hb
theorem ready_of_preds {l : List Oper} {listed : Array Bool} {i : Nat} (hi : i < l.length) (h0 : listed.getD i true = false) (hp : ∀ j ∈ preds l i, listed.getD j false = true) : i ∈ Region.ready .any l.toArray listed := by
  refine mem_ready.2 ⟨h0, l[i], by simp [hi], fun e he hb => hp _ ?_⟩
  simp only [preds, List.getElem?_eq_getElem hi, List.mem_filterMap]
  exact ⟨e, by simpa using he, by simp [hb]⟩
theorem tpreds_closed {l : List Oper} {p : Nat → Prop} (hc : ∀ i, p i → ∀ j ∈ preds l i, p j) : ∀ (f i : Nat), (∀ j ∈ preds l i, p j) → ∀ j ∈ tpreds l f i, p j
  | 0, _, _, j, hj => by simp [tpreds] at hj
  | f + 1, i, hi, j, hj => by
    simp only [tpreds, List.mem_flatMap, List.mem_cons] at hj
    obtain ⟨k, hk, rfl | hj⟩ := hj
    · exact hi _ hk
    · exact tpreds_closed hc f k (hc k (hi k hk)) j hj
structure Chk (l : List Oper) (m : Nat) (D : List (Option Nat)) (deps : List (List Nat)) : Prop where
  le : m ≤ l.length
  dlen : D.length = m
  deplen : deps.length = m
  down : ∀ i, i < l.length → ∀ j ∈ preds l i, j < i
  op : ∀ i, i < m → ∃ o, l[i]? = some o ∧ o.dst = D.getD i none ∧ ∀ j ∈ deps.getD i [], j ∈ preds l i ∧ j < i
  inj : ∀ i, i < m → ∀ j, j < m → dE D i = true → dE D j = true → dd D i = dd D j → i = j
  late : ∀ i, i < l.length → m ≤ i → ∀ j, j < i → j ∈ tpreds l (i + 1) i
theorem chk_of {l : List Oper} {m : Nat} {D : List (Option Nat)} {deps : List (List Nat)} (h : chkDraw l m D deps = true) : Chk l m D deps := by
  simp only [chkDraw, Bool.and_eq_true, List.all_eq_true, List.mem_range, Bool.or_eq_true] at h
  obtain ⟨⟨⟨⟨⟨⟨h1, h2⟩, h3⟩, h4⟩, h5⟩, h6⟩, h7⟩ := h
  refine ⟨Nat.le_of_ble_eq_true h1, Nat.eq_of_beq_eq_true h2, Nat.eq_of_beq_eq_true h3, fun i hi j hj => ?_, fun i hi => ?_, fun i hi j hj e1 e2 e3 => ?_, fun i hi hm j hj => ?_⟩
  · have := h4 i hi j hj; rwa [Nat.blt_eq] at this
  · have h := h5 i hi
    split at h
    · cases h
    · rename_i o ho
      simp only [Bool.and_eq_true, beq_iff_eq, List.all_eq_true, List.contains_iff_mem] at h
      obtain ⟨hd, hp⟩ := h
      refine ⟨o, ho, hd, fun j hj => ?_⟩
      have := hp j hj
      exact ⟨this.1, by have := this.2; rwa [Nat.blt_eq] at this⟩
  · have := h6 i hi j hj
    simp [e1, e2, e3] at this
    exact this
  · have := h7 i hi
    rcases this with h | h
    · rw [Nat.blt_eq] at h; omega
    · simpa using h j hj
theorem sub_len : ∀ {m : Nat} {ls : List Nat}, ls.Nodup → (∀ j ∈ ls, j < m) → ls.length ≤ m
  | 0, ls, _, h => by
    cases ls with
    | nil => simp
    | cons x ls => have := h x (List.mem_cons_self ..); omega
  | m + 1, ls, hn, h => by
    have := sub_len (m := m) (ls := ls.erase m) (hn.erase m) (fun j hj => by
      have h1 := h j (List.mem_of_mem_erase hj)
      have h2 : j ≠ m := fun e => by subst e; exact (List.Nodup.not_mem_erase hn) hj
      omega)
    have h2 := List.le_length_erase (a := m) (l := ls)
    omega
theorem full_of_len {ls : List Nat} {m : Nat} (hn : ls.Nodup) (h : ∀ j ∈ ls, j < m) (hl : m ≤ ls.length) : ∀ j, j < m → j ∈ ls := by
  intro j hj
  apply Classical.byContradiction
  intro hno
  have h1 : (j :: ls).Nodup := List.nodup_cons.2 ⟨hno, hn⟩
  have := sub_len h1 (m := m) (fun k hk => by
    rcases List.mem_cons.1 hk with rfl | hk
    · exact hj
    · exact h k hk)
  simp at this
  omega
section
variable {l : List Oper} {m : Nat} {BF : (Nat → Bool) → (Nat → Value) → List Blk} {D : List (Option Nat)} {S : List (Value → Fact)} {deps : List (List Nat)}
theorem mem_filt {ls : List Nat} {j : Nat} (h : j ∈ ls.filter (dE D)) : j ∈ ls ∧ dE D j = true := List.mem_filter.1 h
theorem mid_step (hc : Chk l m D deps) (hL : ∀ j, j < m → dE D j = true → look L (dd D j) = none) (hops : DrawOps P l.toArray K Ob w0 n L Fs BF D S 0 deps l)
    {ls : List Nat} (hls : ∀ j ∈ ls, j < m) {i : Nat} (hi : i < m) (hni : i ∉ ls) (hp : ∀ j ∈ preds l i, j ∈ ls) {a : Act} {w : World} (h : Mid K Ob w0 n L Fs BF D S ls a w)
    {N : Act → World → Prop} (hN : ∀ a w, Mid K Ob w0 n L Fs BF D S (i :: ls) a w → N a w) : wpOp P l.toArray Q i N a w := by
  obtain ⟨v, hst⟩ := h
  obtain ⟨o, ho, hd, hdep⟩ := hc.op i hi
  have hdepsi : deps[i]? = some (deps.getD i []) := by
    have : i < deps.length := by rw [hc.deplen]; exact hi
    rw [List.getD_eq_getElem?_getD, List.getElem?_eq_getElem this]; rfl
  have hinj : ∀ ls' : List Nat, (∀ j ∈ ls', j < m) → ∀ x ∈ ls'.filter (dE D), ∀ y ∈ ls'.filter (dE D), dd D x = dd D y → x = y := fun ls' hl' x hx y hy e =>
    hc.inj x (hl' x (mem_filt hx).1) y (hl' y (mem_filt hy).1) (mem_filt hx).2 (mem_filt hy).2 e
  have hop := hops.get i (deps.getD i []) o hdepsi ho
  rw [Nat.zero_add] at hop
  have hdl : ∀ j ∈ deps.getD i [], j ∈ ls := fun j hj => hp j (hdep j hj).1
  have hstart : St K Ob w0 w a n (dL D v (deps.getD i []) ++ L) ((deps.getD i []).map (fun j => (S.getD j noF) (v j)) ++ (Fs ++ ls.map (fun j => (S.getD j noF) (v j)))) (BF (fun j => decide (j ∈ ls)) v) := by
    refine { hst with slots := fun t u hu => ?_, facts := fun f hf => ?_ }
    · rcases look_split (D := dd D) hu with ⟨j, hj, rfl⟩ | hu'
      · have hj' := mem_filt hj
        have hjls := hdl j hj'.1
        have e1 := look_map (D := dd D) (v := v) (L := L) hj (hinj _ (fun x hx => hls x (hdl x hx)))
        unfold dL at hu
        rw [e1] at hu; injection hu with hu; subst hu
        exact hst.slots _ _ (look_map (D := dd D) (v := v) (L := L) (List.mem_filter.2 ⟨hjls, hj'.2⟩) (hinj _ hls))
      · refine hst.slots _ _ (look_fresh (D := dd D) (fun x hx e => ?_) hu')
        have := hL x (hls x (mem_filt hx).1) (mem_filt hx).2
        rw [e, hu'] at this; cases this
    · rcases List.mem_append.1 hf with hf | hf
      · obtain ⟨j, hj, rfl⟩ := List.mem_map.1 hf
        exact hst.facts _ (List.mem_append.2 (.inr (List.mem_map.2 ⟨j, hdl j hj, rfl⟩)))
      · exact hst.facts _ hf
  have hwp := hop (fun j => decide (j ∈ ls)) (by simpa using hni) (fun j hj => by simpa using hdl j hj) v (ls.map (fun j => (S.getD j noF) (v j))) a w hstart
  have hBF : (fun j => j == i || decide (j ∈ ls)) = fun j => decide (j ∈ i :: ls) := by
    funext j; simp only [List.mem_cons]; by_cases e : j = i <;> simp [e]
  rw [hBF] at hwp
  -- what is known behind the operation
  have key : ∀ a' w', (∃ x, a' = a.put o.dst x) → (∃ u, St K Ob w0 w' a' n (if dE D i then [(dd D i, u)] else []) ((S.getD i noF) u :: (Fs ++ ls.map (fun j => (S.getD j noF) (v j)))) (BF (fun j => decide (j ∈ i :: ls)) (fun j => if j = i then u else v j))) → N a' w' := by
    intro a' w' ⟨x, hx⟩ ⟨u, hst'⟩
    refine hN a' w' ⟨fun j => if j = i then u else v j, { hst' with slots := fun t y hy => ?_, facts := fun f hf => ?_ }⟩
    · have hcongr : (ls.filter (dE D)).map (fun j => (dd D j, if j = i then u else v j)) = (ls.filter (dE D)).map (fun j => (dd D j, v j)) := List.map_congr_left fun j hj => by
        have : j ≠ i := fun e => hni (e ▸ (mem_filt hj).1)
        simp [this]
      have hold : ∀ {y}, look (dL D v ls ++ L) t = some y → (dE D i = true → t ≠ dd D i) → a'.tmps[t]? = some y := fun {y} hy hne => by
        have hsame : a'.tmps[t]? = a.tmps[t]? := by
          rw [hx, hd]
          cases e : D.getD i none with
          | none => rfl
          | some d =>
            have h1 : dE D i = true := by unfold dE; rw [e]; rfl
            have h2 : dd D i = d := by unfold dd; rw [e]; rfl
            have := hne h1
            rw [h2] at this
            simp only [Act.put]
            rw [Array.getElem?_setIfInBounds_ne (fun e => this e.symm)]
        rw [hsame]
        exact hst.slots t y hy
      by_cases hE : dE D i = true
      · unfold dL at hy
        rw [List.filter_cons_of_pos hE] at hy
        simp only [List.map_cons, List.cons_append, look, hcongr] at hy
        cases e : Nat.beq t (dd D i)
        · rw [e] at hy
          exact hold hy fun _ => Nat.ne_of_beq_eq_false e
        · rw [e] at hy
          simp only [if_true] at hy
          injection hy with hy; subst hy
          have e' := Nat.eq_of_beq_eq_true e
          subst e'
          refine hst'.slots _ _ ?_
          simp [look, hE]
      · unfold dL at hy
        rw [List.filter_cons_of_neg hE, hcongr] at hy
        exact hold hy fun h => absurd h hE
    · rcases List.mem_append.1 hf with hf | hf
      · exact hst'.facts f (List.mem_cons_of_mem _ (List.mem_append.2 (.inl hf)))
      · rcases List.mem_map.1 hf with ⟨j, hj, rfl⟩
        rcases List.mem_cons.1 hj with rfl | hj
        · simp only [if_true]
          exact hst'.facts _ (List.mem_cons_self ..)
        · have hne : j ≠ i := fun e => hni (e ▸ hj)
          simp only [hne, if_false]
          exact hst'.facts _ (List.mem_cons_of_mem _ (List.mem_append.2 (.inr (List.mem_map.2 ⟨j, hj, rfl⟩))))
  unfold wpOp
  have hoa : l.toArray[i]? = some o := by simpa using ho
  simp only [hoa]
  have hno : ¬ LetsOut (fun (e : Exit) (a' : Act) (w' : World) => e = .normal ∧ ∃ u, St K Ob w0 w' a' n (if dE D i then [(dd D i, u)] else []) ((S.getD i noF) u :: (Fs ++ ls.map (fun j => (S.getD j noF) (v j)))) (BF (fun j => decide (j ∈ i :: ls)) (fun j => if j = i then u else v j))) := by
    rintro ⟨_, _, h, _⟩; cases h
  by_cases hw : Region.wanted o (yielded l.toArray a.tmps) = true
  · rw [if_pos hw]
    simp only [wpList, hw, if_true] at hwp
    have hwp := hwp.resolve_right (fun h => hno h.2)
    refine .inl (wp_conv hst.defers (fun a' w' hk => ?_) (fun c a w h => by cases h.1) hno hwp)
    obtain ⟨_, hk⟩ := hk
    exact ⟨by obtain ⟨u, hu⟩ := hk; exact hu.defers, fun hx => key a' w' hx hk⟩
  · rw [if_neg hw]
    simp only [wpList, hw] at hwp
    exact key _ _ ⟨_, rfl⟩ hwp.2
theorem getD_tf {listed : Array Bool} {j : Nat} (hj : j < listed.size) : listed.getD j true = listed.getD j false := by
  simp [Array.getD, hj]
theorem late_ (hc : Chk l m D deps) : ∀ (fuel i : Nat) (listed : Array Bool) (a : Act) (w : World), listed.size = l.length → (∀ j, j < l.length → (listed.getD j true = true ↔ j < i)) → m ≤ i → l.length ≤ i + fuel →
    wpList P l.toArray Q (l.drop i) a w → wpAny P .any l.toArray Q fuel listed a w := by
  intro fuel
  induction fuel with
  | zero =>
    intro i listed a w hs hlisted hmi hf h
    rw [List.drop_eq_nil_of_le (by omega)] at h
    refine ⟨?_, h⟩
    apply List.eq_nil_iff_forall_not_mem.2
    intro j hj
    obtain ⟨h0, hjl, _⟩ := preds_of_ready hj
    have := (hlisted j hjl).2 (by omega)
    rw [h0] at this; cases this
  | succ fuel ih =>
    intro i listed a w hs hlisted hmi hf h
    have hready : ∀ j, j ∈ Region.ready .any l.toArray listed → j = i := by
      intro j hj
      obtain ⟨h0, hjl, hp⟩ := preds_of_ready hj
      have hji : ¬ j < i := fun h => by have := (hlisted j hjl).2 h; rw [h0] at this; cases this
      apply Classical.byContradiction
      intro hne
      have hmem := hc.late j hjl (by omega) i (by omega)
      have hcl : ∀ x, (x < i) → ∀ y ∈ preds l x, y < i := fun x hx y hy => by
        have := hc.down x (by omega) y hy
        omega
      have := tpreds_closed (p := fun x => x < i) hcl (j + 1) j (fun x hx => by
        have hxl : x < l.length := by have := hc.down j hjl x hx; omega
        exact (hlisted x hxl).1 (by rw [getD_tf (by omega)]; exact hp x hx)) i hmem
      omega
    refine ⟨fun hnil => ?_, fun j hj => ?_⟩
    · have hil : ¬ i < l.length := fun hil => by
        have : i ∈ Region.ready .any l.toArray listed := ready_of_preds hil (by
          cases e : listed.getD i true
          · rfl
          · have := (hlisted i hil).1 e; omega) (fun x hx => by
          have hxi := hc.down i hil x hx
          rw [← getD_tf (by omega)]
          exact (hlisted x (by omega)).2 hxi)
        rw [hnil] at this; cases this
      rw [List.drop_eq_nil_of_le (by omega)] at h
      exact h
    · have e := hready j hj
      subst e
      obtain ⟨h0, hjl, hp⟩ := preds_of_ready hj
      rw [List.drop_eq_getElem_cons hjl] at h
      unfold wpOp
      have hoa : l.toArray[j]? = some l[j] := by simp [hjl]
      simp only [hoa]
      simp only [wpList] at h
      have hnext : ∀ a w, wpList P l.toArray Q (l.drop (j + 1)) a w → wpAny P .any l.toArray Q fuel (listed.setIfInBounds j true) a w := fun a w h => by
        refine ih (j + 1) _ a w (by simp [hs]) (fun x hx => ?_) (by omega) (by omega) h
        by_cases hxj : j = x
        · subst hxj
          simp [hs, hjl]
        · rw [getD_set_ne true hxj, hlisted x hx]
          omega
      split
      · rename_i hw
        rw [if_pos hw] at h
        exact h.imp (Oper.wp_mono hnext) id
      · rename_i hw
        rw [if_neg hw] at h
        exact hnext _ _ h
theorem early_ (hc : Chk l m D deps) (hL : ∀ j, j < m → dE D j = true → look L (dd D j) = none) (hops : DrawOps P l.toArray K Ob w0 n L Fs BF D S 0 deps l)
    (hfin : ∀ (p : Nat → Bool), (∀ j, j < m → p j = true) → ∀ (v : Nat → Value) a w, St K Ob w0 w a n (dL D v (List.range m) ++ L) ((List.range m).map (fun j => (S.getD j noF) (v j)) ++ Fs) (BF p v) → wpList P l.toArray Q (l.drop m) a w) :
    ∀ (fuel : Nat) (listed : Array Bool) (ls : List Nat) (a : Act) (w : World), listed.size = l.length → (∀ j, j < l.length → (listed.getD j true = true ↔ j ∈ ls)) → (∀ j ∈ ls, j < m) → ls.Nodup → (∀ i ∈ ls, ∀ j ∈ preds l i, j ∈ ls) →
      l.length ≤ ls.length + fuel → Mid K Ob w0 n L Fs BF D S ls a w → wpAny P .any l.toArray Q fuel listed a w := by
  have hall : ∀ (ls : List Nat) (a : Act) (w : World), (∀ j ∈ ls, j < m) → (∀ j, j < m → j ∈ ls) → Mid K Ob w0 n L Fs BF D S ls a w → wpList P l.toArray Q (l.drop m) a w := by
    intro ls a w hls hfull ⟨v, h⟩
    have hinj : ∀ ls' : List Nat, (∀ j ∈ ls', j < m) → ∀ x ∈ ls'.filter (dE D), ∀ y ∈ ls'.filter (dE D), dd D x = dd D y → x = y := fun ls' hl' x hx y hy e =>
      hc.inj x (hl' x (mem_filt hx).1) y (hl' y (mem_filt hy).1) (mem_filt hx).2 (mem_filt hy).2 e
    refine hfin (fun j => decide (j ∈ ls)) (fun j hj => by simpa using hfull j hj) v a w { h with slots := fun t u hu => ?_, facts := fun f hf => ?_ }
    · rcases look_split (D := dd D) hu with ⟨j, hj, rfl⟩ | hu'
      · have hj' := mem_filt hj
        have hjm : j < m := List.mem_range.1 hj'.1
        have e1 := look_map (D := dd D) (v := v) (L := L) hj (hinj _ (fun x hx => List.mem_range.1 hx))
        unfold dL at hu
        rw [e1] at hu; injection hu with hu; subst hu
        exact h.slots _ _ (look_map (D := dd D) (v := v) (L := L) (List.mem_filter.2 ⟨hfull j hjm, hj'.2⟩) (hinj _ hls))
      · refine h.slots _ _ (look_fresh (D := dd D) (fun x hx e => ?_) hu')
        have := hL x (hls x (mem_filt hx).1) (mem_filt hx).2
        rw [e, hu'] at this; cases this
    · rcases List.mem_append.1 hf with hf | hf
      · obtain ⟨j, hj, rfl⟩ := List.mem_map.1 hf
        exact h.facts _ (List.mem_append.2 (.inr (List.mem_map.2 ⟨j, hfull j (List.mem_range.1 hj), rfl⟩)))
      · exact h.facts _ (List.mem_append.2 (.inl hf))
  intro fuel
  induction fuel with
  | zero =>
    intro listed ls a w hs hlisted hls hn hcl hf h
    have h1 := sub_len hn hls
    have h2 := hc.le
    have hfull := full_of_len hn hls (by omega)
    have hm : m = l.length := by omega
    have hw := hall ls a w hls hfull h
    rw [List.drop_eq_nil_of_le (by omega)] at hw
    refine ⟨?_, hw⟩
    apply List.eq_nil_iff_forall_not_mem.2
    intro j hj
    obtain ⟨h0, hjl, _⟩ := preds_of_ready hj
    have := (hlisted j hjl).2 (hfull j (by omega))
    rw [h0] at this; cases this
  | succ fuel ih =>
    intro listed ls a w hs hlisted hls hn hcl hf h
    have hunl : ∀ j, j < l.length → j ∉ ls → listed.getD j true = false := fun j hj hno => by
      cases e : listed.getD j true
      · rfl
      · exact absurd ((hlisted j hj).1 e) hno
    refine ⟨fun hnil => ?_, fun i hi => ?_⟩
    · -- nothing is ready: all has been done
      have hdone : ∀ j, j < l.length → j ∈ ls := by
        intro j
        induction j using Nat.strongRecOn with
        | _ j ihj =>
          intro hj
          apply Classical.byContradiction
          intro hno
          have : j ∈ Region.ready .any l.toArray listed := ready_of_preds hj (hunl j hj hno) (fun x hx => by
            have hxj := hc.down j hj x hx
            rw [← getD_tf (by omega)]
            exact (hlisted x (by omega)).2 (ihj x hxj (by omega)))
          rw [hnil] at this; cases this
      have hm : l.length ≤ m := by
        rcases Nat.lt_or_ge m l.length with hlt | hge
        · have := hls m (hdone m hlt); omega
        · exact hge
      have hw := hall ls a w hls (fun j hj => hdone j (by have := hc.le; omega)) h
      rw [List.drop_eq_nil_of_le hm] at hw
      exact hw
    · obtain ⟨h0, hil, hp⟩ := preds_of_ready hi
      have hni : i ∉ ls := fun hin => by have := (hlisted i hil).2 hin; rw [h0] at this; cases this
      have hpl : ∀ j ∈ preds l i, j ∈ ls := fun j hj => by
        have hji := hc.down i hil j hj
        exact (hlisted j (by omega)).1 (by rw [getD_tf (by omega)]; exact hp j hj)
      by_cases him : i < m
      · refine mid_step hc hL hops hls him hni hpl h fun a' w' h' => ?_
        refine ih _ (i :: ls) a' w' (by simp [hs]) (fun x hx => ?_) (fun j hj => ?_) (List.nodup_cons.2 ⟨hni, hn⟩) (fun x hx j hj => ?_) (by simp; omega) h'
        · by_cases hxi : i = x
          · subst hxi; simp [hs, hil]
          · rw [getD_set_ne true hxi, hlisted x hx]
            simp only [List.mem_cons]
            exact ⟨.inr, fun h => h.resolve_left (fun e => hxi e.symm)⟩
        · rcases List.mem_cons.1 hj with rfl | hj
          · exact him
          · exact hls j hj
        · rcases List.mem_cons.1 hx with rfl | hx
          · exact List.mem_cons_of_mem _ (hpl j hj)
          · exact List.mem_cons_of_mem _ (hcl x hx j hj)
      · have hmi : m ≤ i := Nat.le_of_not_lt him
        have hin : ∀ j, j < i → j ∈ ls := fun j hj => tpreds_closed (p := fun x => x ∈ ls) (fun x hx y hy => hcl x hx y hy) (i + 1) i hpl j (hc.late i hil hmi j hj)
        have him' : i = m := by
          rcases Nat.lt_or_ge m i with hlt | hge
          · have := hls m (hin m hlt); omega
          · omega
        subst him'
        have hw := hall ls a w hls hin h
        have hlate := late_ (P := P) (Q := Q) hc (fuel + 1) i listed a w hs (fun j hj => by
          rw [hlisted j hj]
          exact ⟨hls j, hin j⟩) (Nat.le_refl _) (by
            have := sub_len hn hls
            omega) hw
        exact hlate.2 i hi
theorem draw_ {id : Nat} (hm : P.follows .mixedOrders = true) (m : Nat) (D : List (Option Nat)) (deps : List (List Nat)) (S : List (Value → Fact)) (BF : (Nat → Bool) → (Nat → Value) → List Blk) (hchk : chkDraw l m D deps = true) (h : St K Ob w0 w a n L Fs Bs) (hB : ∀ v, BF (fun _ => false) v = Bs)
    (hL : (List.range m).all (fun j => !(dE D j) || (look L (dd D j)).isNone) = true) (hops : DrawOps P l.toArray K Ob w0 n L Fs BF D S 0 deps l)
    (hfin : ∀ (p : Nat → Bool), (∀ j, j < m → p j = true) → ∀ (v : Nat → Value) a w, St K Ob w0 w a n (dL D v (List.range m) ++ L) ((List.range m).map (fun j => (S.getD j noF) (v j)) ++ Fs) (BF p v) → wpList P l.toArray Q (l.drop m) a w) :
    (Code.region id l.toArray true).wp P Q a w := by
  refine wp_region_any hm ?_
  have hL' : ∀ j, j < m → dE D j = true → look L (dd D j) = none := fun j hj hE => by
    have := List.all_eq_true.1 hL j (List.mem_range.2 hj)
    simpa [hE] using this
  refine early_ (chk_of hchk) hL' hops hfin l.toArray.size _ [] a _ (by simp) (fun j hj => ?_) (by simp) List.nodup_nil (by simp) (by simp) ⟨fun _ => undef, ?_⟩
  · have hj' : j < (Array.replicate l.toArray.size false).size := by simpa using hj
    simp [Array.getD, hj]
  · have hB' := hB fun _ => undef
    subst hB'
    simpa [dL] using h.same (w' := { w with drawn := w.drawn + 1 }) rfl
theorem draw0_ {id : Nat} (hm : P.follows .mixedOrders = true) (m : Nat) (D : List (Option Nat)) (deps : List (List Nat)) (S : List (Value → Fact)) (hchk : chkDraw l m D deps = true) (h : St K Ob w0 w a n L Fs Bs)
    (hL : (List.range m).all (fun j => !(dE D j) || (look L (dd D j)).isNone) = true) (hops : DrawOps P l.toArray K Ob w0 n L Fs (fun _ _ => Bs) D S 0 deps l)
    (hfin : ∀ (v : Nat → Value) a w, St K Ob w0 w a n (dL D v (List.range m) ++ L) ((List.range m).map (fun j => (S.getD j noF) (v j)) ++ Fs) Bs → wpList P l.toArray Q (l.drop m) a w) :
    (Code.region id l.toArray true).wp P Q a w :=
  draw_ hm m D deps S (fun _ _ => Bs) hchk h (fun _ => rfl) hL hops fun _ _ v a w h => hfin v a w h
end
end Orr

namespace Orr
open Go
def Rel.u32 : Rel Nat where
  size := 1
  at_ := fun _ _ cs x => cs = [.int .u32 (x : Int)] ∧ x < 4294967296
  len := fun h => by rw [h.1]; rfl
  keep := fun _ h => h
abbrev Rel.row32 : Rel (List Nat) := Rel.u32.slice
theorem row_open {w : World} {O : Nat → Prop} {A : Option Addr} {m c : Nat} {l : List Nat} (h : Rel.row32.at_ w O [.slice A m c] l) : m = l.length ∧ l.length ≤ c ∧ l.length < 140737488355328 := by
  obtain ⟨A', c', h1, h2, _, h3, _⟩ := h
  simp at h1; obtain ⟨rfl, rfl, rfl⟩ := h1
  exact ⟨rfl, h2, h3⟩
theorem row_shape {w : World} {O : Nat → Prop} {cs : List Value} {l : List Nat} (h : Rel.row32.at_ w O cs l) : ∃ A c, cs = [.slice A l.length c] := by
  obtain ⟨A', c', h1, _⟩ := h
  exact ⟨A', c', h1⟩
theorem row_get {w : World} {O : Nat → Prop} {A : Option Addr} {m c : Nat} {l : List Nat} (h : Rel.row32.at_ w O [.slice A m c] l) {i : Nat} (hi : i < l.length) :
    ∃ b o, A = some ⟨b, o, none⟩ ∧ b < w.heap.size ∧ ¬ O b ∧ ∀ (i : Nat) (x : Nat), l[i]? = some x → w.cell? ⟨b, o + i * 1, none⟩ = some (.int .u32 (x : Int)) := by
  obtain ⟨A', c', h1, h2, h3, h4, hr⟩ := h
  simp at h1; obtain ⟨rfl, rfl, rfl⟩ := h1
  obtain ⟨b, o, hA, hlt, hno, hc⟩ := hr (by omega)
  refine ⟨b, o, hA, hlt, hno, fun i x hx => ?_⟩
  obtain ⟨cs, ⟨rfl, _⟩, h2⟩ := hc i x hx
  have := h2 0 _ rfl
  exact this
theorem row_cell {w : World} {O : Nat → Prop} {b o m c : Nat} {l : List Nat} (h : Rel.row32.at_ w O [.slice (some ⟨b, o, none⟩) m c] l) {i x : Nat} (hx : l[i]? = some x) : w.cell? ⟨b, o + i * 1, none⟩ = some (.int .u32 (x : Int)) := by
  obtain ⟨b', o', e, _, _, hc⟩ := row_get h (i := i) (List.getElem?_eq_some_iff.1 hx).1
  injection e with e
  injection e with e1 e2
  subst e1; subst e2
  exact hc i x hx
theorem row_lt {w : World} {O : Nat → Prop} {A : Option Addr} {m c : Nat} {l : List Nat} (h : Rel.row32.at_ w O [.slice A m c] l) : ∀ x ∈ l, x < 4294967296 := by
  intro x hx
  obtain ⟨A', c', h1, h2, h3, h4, hr⟩ := h
  obtain ⟨i, hi⟩ := List.mem_iff_getElem?.1 hx
  have hpos : 0 < l.length := List.length_pos_of_mem hx
  obtain ⟨b, o, hA, hlt, hno, hc⟩ := hr hpos
  obtain ⟨cs, ⟨_, h⟩, _⟩ := hc i x hi
  exact h
theorem row_take {w : World} {O : Nat → Prop} {A : Option Addr} {m c : Nat} {l : List Nat} (h : Rel.row32.at_ w O [.slice A m c] l) (k : Nat) (hk : k ≤ l.length) :
    Rel.row32.at_ w O [.slice (if c = 0 then A else A.map (·.add (0 * 1))) k c] (l.take k) := by
  obtain ⟨A', c', h1, h2, h3, h4, hr⟩ := h
  simp at h1; obtain ⟨rfl, rfl, rfl⟩ := h1
  have hl : (l.take k).length = k := by simp; omega
  refine ⟨_, c, by rw [hl], by omega, h3, by omega, fun h0 => ?_⟩
  obtain ⟨b, o, hA, hlt, hno, hc⟩ := hr (by omega)
  subst hA
  refine ⟨b, o, by rw [if_neg (by omega)]; simp [add_spot], hlt, hno, fun i x hx => hc i x ?_⟩
  rw [List.getElem?_take] at hx
  split at hx
  · exact hx
  · cases hx
def Cut (l : List Nat) (m : Nat) : Prop := m ≤ l.length ∧ (∀ j, m ≤ j → j < l.length → l[j]? = some 0) ∧ (0 < m → ∃ x, l[m - 1]? = some x ∧ x ≠ 0)
def val : List Nat → Nat
  | [] => 0
  | x :: l => x + 4294967296 * val l
def Nrm (l : List Nat) : Prop := (∀ x ∈ l, x < 4294967296) ∧ (l ≠ [] → ∃ x, l[l.length - 1]? = some x ∧ x ≠ 0)
theorem fieldAt_run {P : Program} {S f off T : Nat} {fs : Array Field} {k : Nat} (hu : ∀ w, (underlying S).run P w = .ok (.struct fs) w) (hf : (fs[f]?).map (fun fl => (fl.type, fl.offset)) = some (T, off)) (hs : ∀ w, (Go.sizeOf T).run P w = .ok k w) (hk : k ≠ 0) (b o : Nat) (w : World) :
    (Instr.fieldAt S (.pointer (some ⟨b, o, none⟩)) f).run P w = .ok (.pointer (some ⟨b, o + off, none⟩)) w := by
  cases h : fs[f]? with
  | none => rw [h] at hf; cases hf
  | some fl =>
    rw [h] at hf
    simp only [Option.map_some, Option.some.injEq, Prod.mk.injEq] at hf
    obtain ⟨rfl, rfl⟩ := hf
    simp [Instr.fieldAt, hu, h, Instr.sureAddr, fieldPlace, hs, hk, add_spot]
def placesOf (fs : List Field) (sizes : List Nat) : List (Nat × Nat) := (fs.map (·.offset)).zip sizes
def placed (l : List (Nat × Nat)) (i : Nat) : Option (Nat × Nat) := l[i]?
def FieldSizes (P : Program) : List Field → List Nat → Prop
  | [], [] => True
  | f :: fs, k :: ks => (∀ w, (Go.sizeOf f.type).run P w = .ok k w) ∧ FieldSizes P fs ks
  | _, _ => False
theorem run_places' {P : Program} : ∀ (fs : List Field) (sizes : List Nat) (w : World), FieldSizes P fs sizes →
    (fs.mapM fun f => do pure (f.offset, ← Go.sizeOf f.type) : Sem (List (Nat × Nat))).run P w = .ok (placesOf fs sizes) w
  | [], [], w, _ => rfl
  | [], _ :: _, w, h => h.elim
  | _ :: _, [], w, h => h.elim
  | f :: fs, k :: sizes, w, ⟨h0, h⟩ => by
    have ih := run_places' fs sizes w h
    simp only [List.mapM_cons, Sem.run_bind, h0, Result.andThen_ok, Sem.run_pure]
    rw [ih]
    rfl
theorem build_run {P : Program} {T : Nat} {fs : Array Field} {sizes : List Nat} {z : Value} {vs : List (Nat × Value)} {cs : Array Value} (hu : ∀ w, (underlying T).run P w = .ok (.struct fs) w) (hz : ∀ w, (zeroValue T).run P w = .ok z w)
    (hs : FieldSizes P fs.toList sizes)
    (hf : Instr.fill ((placesOf fs.toList sizes)[·]?) z.cells vs = some cs) (w : World) : (Instr.build T vs.toArray).run P w = .ok (.agg cs) w := by
  have hp := run_places' (P := P) fs.toList sizes w hs
  have hm : (fs.mapM fun f => do pure (f.offset, ← Go.sizeOf f.type) : Sem (Array (Nat × Nat))).run P w = .ok (placesOf fs.toList sizes).toArray w := by
    cases fs with
    | mk l =>
      rw [List.mapM_toArray, map_eq_pure_bind, Sem.run_bind, show (List.mapM (fun f : Field => do pure (f.offset, ← Go.sizeOf f.type) : Field → Sem (Nat × Nat)) l).run P w = _ from hp]
      rfl
  simp only [Instr.build, Sem.run_bind, hz, hu, Result.andThen_ok, hm]
  have e : (fun x : Nat => (placesOf fs.toList sizes).toArray[x]?) = fun x => (placesOf fs.toList sizes)[x]? := by funext x; simp
  rw [e, hf]
  rfl
theorem buildA_run {P : Program} {T E m k : Nat} {z : Value} {vs : List (Nat × Value)} {cs : Array Value} (hu : ∀ w, (underlying T).run P w = .ok (.array m E) w) (hz : ∀ w, (zeroValue T).run P w = .ok z w)
    (hs : ∀ w, (Go.sizeOf E).run P w = .ok k w)
    (hf : Instr.fill (fun i => some (i * k, k)) z.cells vs = some cs) (w : World) : (Instr.build T vs.toArray).run P w = .ok (.agg cs) w := by
  simp only [Instr.build, Sem.run_bind, hz, hu, Result.andThen_ok, hs, hf]
  rfl
theorem buildSlice_run {P : Program} {T E size len : Nat} {z : Value} {zs : List Value} {vs : List (Nat × Value)} {cs : List Value} (hu : ∀ w, (underlying T).run P w = .ok (.slice E) w) (hs : ∀ w, (Go.sizeOf E).run P w = .ok size w) (hz : ∀ w, (zeroValue E).run P w = .ok z w) (hz1 : z.cells = zs.toArray) (hz0 : zs.length = size) (hsz : 0 < size)
    (hl : len * size ≤ 16777216) (hl0 : 0 < len) (hf : Instr.fill (fun i => some (i * size, size)) (reps len zs).toArray vs = some cs.toArray) (w : World) :
    (Instr.buildSlice T len vs.toArray).run P w = .ok (.slice (some ⟨w.heap.size, 0, none⟩) len len) (w.alloc (.cells cs.toArray E)) := by
  have h1 : ¬ (len * size > 2 ^ 24) := by
    have : (2 : Nat) ^ 24 = 16777216 := by decide
    omega
  have h2 : ¬ (len * size = 0) := by
    have := Nat.mul_pos hl0 hsz; omega
  have h3 := range_reps len zs (by omega)
  rw [hz0] at h3
  simp only [Instr.buildSlice, Sem.run_bind, hu, hs, Result.andThen_ok, h1, h2, if_false, hz, Sem.run_pure, hz1]
  simp only [List.size_toArray, hz0, h3, hf, Sem.run_bind, newRow, run_newObj, Result.andThen_ok, Sem.run_pure]
end Orr

namespace Orr
open Go Go.Proofs
theorem mixed_ : Go.Proofs.Tryz.prog.follows .mixedOrders = true := rfl
def zs_188 : Array Value := #[.slice none 0 0]
theorem bd_188 {vs : List (Nat × Value)} {cs : Array Value} (hf : Instr.fill (placed [(0, 1)]) zs_188 vs = some cs) (w : World) : (Instr.build 188 vs.toArray).run Tryz.prog w = .ok (.agg cs) w := build_run (sizes := [1]) Tryz.runUnderlying188 Tryz.zeroValue188 ⟨Tryz.sizeOf143, trivial⟩ (hf : _) w
def zs_23 : Array Value := #[.int .i64 0, .int .i64 0]
theorem bd_23 {vs : List (Nat × Value)} {cs : Array Value} (hf : Instr.fill (fun i => some (i * 1, 1)) zs_23 vs = some cs) (w : World) : (Instr.build 23 vs.toArray).run Tryz.prog w = .ok (.agg cs) w := buildA_run Tryz.runUnderlying23 Tryz.zeroValue23 Tryz.sizeOf3 hf w
def zs_30 : Array Value := #[.bool false, .slice none 0 0]
theorem bd_30 {vs : List (Nat × Value)} {cs : Array Value} (hf : Instr.fill (placed [(0, 1), (1, 1)]) zs_30 vs = some cs) (w : World) : (Instr.build 30 vs.toArray).run Tryz.prog w = .ok (.agg cs) w := build_run (sizes := [1, 1]) Tryz.runUnderlying30 Tryz.zeroValue30 ⟨Tryz.sizeOf4, Tryz.sizeOf28, trivial⟩ (hf : _) w
def zs_32 : Array Value := #[.slice none 0 0, .slice none 0 0, .bool false, .slice none 0 0]
theorem bd_32 {vs : List (Nat × Value)} {cs : Array Value} (hf : Instr.fill (placed [(0, 1), (1, 1), (2, 2)]) zs_32 vs = some cs) (w : World) : (Instr.build 32 vs.toArray).run Tryz.prog w = .ok (.agg cs) w := build_run (sizes := [1, 1, 2]) Tryz.runUnderlying32 Tryz.zeroValue32 ⟨Tryz.sizeOf27, Tryz.sizeOf27, Tryz.sizeOf30, trivial⟩ (hf : _) w
def zs_35 : Array Value := #[.slice none 0 0, .slice none 0 0, .bool false, .slice none 0 0, .int .i64 0]
theorem bd_35 {vs : List (Nat × Value)} {cs : Array Value} (hf : Instr.fill (placed [(0, 4), (4, 1)]) zs_35 vs = some cs) (w : World) : (Instr.build 35 vs.toArray).run Tryz.prog w = .ok (.agg cs) w := build_run (sizes := [4, 1]) Tryz.runUnderlying35 Tryz.zeroValue35 ⟨Tryz.sizeOf32, Tryz.sizeOf3, trivial⟩ (hf : _) w
def zs_41 : Array Value := #[.bool false, .slice none 0 0, .bool false, .slice none 0 0]
theorem bd_41 {vs : List (Nat × Value)} {cs : Array Value} (hf : Instr.fill (placed [(0, 2), (2, 2)]) zs_41 vs = some cs) (w : World) : (Instr.build 41 vs.toArray).run Tryz.prog w = .ok (.agg cs) w := build_run (sizes := [2, 2]) Tryz.runUnderlying41 Tryz.zeroValue41 ⟨Tryz.sizeOf30, Tryz.sizeOf30, trivial⟩ (hf : _) w
def zs_44 : Array Value := #[.slice none 0 0, .bool false, .slice none 0 0, .bool false, .slice none 0 0, .bool false, .slice none 0 0, .bool false, .slice none 0 0]
theorem bd_44 {vs : List (Nat × Value)} {cs : Array Value} (hf : Instr.fill (placed [(0, 1), (1, 4), (5, 4)]) zs_44 vs = some cs) (w : World) : (Instr.build 44 vs.toArray).run Tryz.prog w = .ok (.agg cs) w := build_run (sizes := [1, 4, 4]) Tryz.runUnderlying44 Tryz.zeroValue44 ⟨Tryz.sizeOf27, Tryz.sizeOf41, Tryz.sizeOf41, trivial⟩ (hf : _) w
def zs_51 : Array Value := #[.slice none 0 0]
theorem bd_51 {vs : List (Nat × Value)} {cs : Array Value} (hf : Instr.fill (placed [(0, 1)]) zs_51 vs = some cs) (w : World) : (Instr.build 51 vs.toArray).run Tryz.prog w = .ok (.agg cs) w := build_run (sizes := [1]) Tryz.runUnderlying51 Tryz.zeroValue51 ⟨Tryz.sizeOf25, trivial⟩ (hf : _) w
def zs_54 : Array Value := #[.bool false, .slice none 0 0, .bool false, .slice none 0 0, .bool false, .slice none 0 0, .bool false, .slice none 0 0, .bool false, .slice none 0 0, .slice none 0 0, .int .i64 0, .slice none 0 0, .slice none 0 0]
theorem bd_54 {vs : List (Nat × Value)} {cs : Array Value} (hf : Instr.fill (placed [(0, 12), (12, 1), (13, 1)]) zs_54 vs = some cs) (w : World) : (Instr.build 54 vs.toArray).run Tryz.prog w = .ok (.agg cs) w := build_run (sizes := [12, 1, 1]) Tryz.runUnderlying54 Tryz.zeroValue54 ⟨Tryz.sizeOf49, Tryz.sizeOf51, Tryz.sizeOf52, trivial⟩ (hf : _) w
def zs_69 : Array Value := #[.int .i64 0, .int .i64 0, .int .i64 0, .int .i64 0]
theorem bd_69 {vs : List (Nat × Value)} {cs : Array Value} (hf : Instr.fill (fun i => some (i * 1, 1)) zs_69 vs = some cs) (w : World) : (Instr.build 69 vs.toArray).run Tryz.prog w = .ok (.agg cs) w := buildA_run Tryz.runUnderlying69 Tryz.zeroValue69 Tryz.sizeOf3 hf w
def zs_71 : Array Value := #[.int .i64 0, .int .i64 0, .int .i64 0, .int .i64 0, .int .i64 0]
theorem bd_71 {vs : List (Nat × Value)} {cs : Array Value} (hf : Instr.fill (placed [(0, 1), (1, 4)]) zs_71 vs = some cs) (w : World) : (Instr.build 71 vs.toArray).run Tryz.prog w = .ok (.agg cs) w := build_run (sizes := [1, 4]) Tryz.runUnderlying71 Tryz.zeroValue71 ⟨Tryz.sizeOf3, Tryz.sizeOf69, trivial⟩ (hf : _) w
def zs_73 : Array Value := #[.int .i64 0, .int .i64 0, .int .i64 0, .int .i64 0, .int .i64 0, .slice none 0 0, .int .i64 0]
theorem bd_73 {vs : List (Nat × Value)} {cs : Array Value} (hf : Instr.fill (placed [(0, 5), (5, 1), (6, 1)]) zs_73 vs = some cs) (w : World) : (Instr.build 73 vs.toArray).run Tryz.prog w = .ok (.agg cs) w := build_run (sizes := [5, 1, 1]) Tryz.runUnderlying73 Tryz.zeroValue73 ⟨Tryz.sizeOf71, Tryz.sizeOf27, Tryz.sizeOf3, trivial⟩ (hf : _) w
def zs_75 : Array Value := #[.int .i64 0, .int .i64 0, .int .i64 0, .int .i64 0, .int .i64 0, .slice none 0 0, .int .i64 0, .bool false, .bool false, .slice none 0 0, .bool false, .slice none 0 0, .bool false, .slice none 0 0, .bool false, .slice none 0 0, .bool false, .slice none 0 0]
theorem bd_75 {vs : List (Nat × Value)} {cs : Array Value} (hf : Instr.fill (placed [(0, 7), (7, 1), (8, 1), (9, 9)]) zs_75 vs = some cs) (w : World) : (Instr.build 75 vs.toArray).run Tryz.prog w = .ok (.agg cs) w := build_run (sizes := [7, 1, 1, 9]) Tryz.runUnderlying75 Tryz.zeroValue75 ⟨Tryz.sizeOf73, Tryz.sizeOf4, Tryz.sizeOf4, Tryz.sizeOf44, trivial⟩ (hf : _) w
def zs_78 : Array Value := #[.int .i64 0, .int .i64 0, .int .i64 0]
theorem bd_78 {vs : List (Nat × Value)} {cs : Array Value} (hf : Instr.fill (fun i => some (i * 1, 1)) zs_78 vs = some cs) (w : World) : (Instr.build 78 vs.toArray).run Tryz.prog w = .ok (.agg cs) w := buildA_run Tryz.runUnderlying78 Tryz.zeroValue78 Tryz.sizeOf3 hf w
def zs_79 : Array Value := #[.int .i64 0, .int .i64 0, .int .i64 0, .int .i64 0, .int .i64 0, .int .i64 0]
theorem bd_79 {vs : List (Nat × Value)} {cs : Array Value} (hf : Instr.fill (fun i => some (i * 2, 2)) zs_79 vs = some cs) (w : World) : (Instr.build 79 vs.toArray).run Tryz.prog w = .ok (.agg cs) w := buildA_run Tryz.runUnderlying79 Tryz.zeroValue79 Tryz.sizeOf23 hf w
theorem fa_188_0 (b o : Nat) (w : World) : (Instr.fieldAt 188 (.pointer (some ⟨b, o, none⟩)) 0).run Tryz.prog w = .ok (.pointer (some ⟨b, o + 0, none⟩)) w := fieldAt_run (T := 143) (off := 0) Tryz.runUnderlying188 rfl Tryz.sizeOf143 (by decide) b o w
theorem fa_30_0 (b o : Nat) (w : World) : (Instr.fieldAt 30 (.pointer (some ⟨b, o, none⟩)) 0).run Tryz.prog w = .ok (.pointer (some ⟨b, o + 0, none⟩)) w := fieldAt_run (T := 4) (off := 0) Tryz.runUnderlying30 rfl Tryz.sizeOf4 (by decide) b o w
theorem fa_30_1 (b o : Nat) (w : World) : (Instr.fieldAt 30 (.pointer (some ⟨b, o, none⟩)) 1).run Tryz.prog w = .ok (.pointer (some ⟨b, o + 1, none⟩)) w := fieldAt_run (T := 28) (off := 1) Tryz.runUnderlying30 rfl Tryz.sizeOf28 (by decide) b o w
theorem fa_32_0 (b o : Nat) (w : World) : (Instr.fieldAt 32 (.pointer (some ⟨b, o, none⟩)) 0).run Tryz.prog w = .ok (.pointer (some ⟨b, o + 0, none⟩)) w := fieldAt_run (T := 27) (off := 0) Tryz.runUnderlying32 rfl Tryz.sizeOf27 (by decide) b o w
theorem fa_32_1 (b o : Nat) (w : World) : (Instr.fieldAt 32 (.pointer (some ⟨b, o, none⟩)) 1).run Tryz.prog w = .ok (.pointer (some ⟨b, o + 1, none⟩)) w := fieldAt_run (T := 27) (off := 1) Tryz.runUnderlying32 rfl Tryz.sizeOf27 (by decide) b o w
theorem fa_32_2 (b o : Nat) (w : World) : (Instr.fieldAt 32 (.pointer (some ⟨b, o, none⟩)) 2).run Tryz.prog w = .ok (.pointer (some ⟨b, o + 2, none⟩)) w := fieldAt_run (T := 30) (off := 2) Tryz.runUnderlying32 rfl Tryz.sizeOf30 (by decide) b o w
theorem fa_35_0 (b o : Nat) (w : World) : (Instr.fieldAt 35 (.pointer (some ⟨b, o, none⟩)) 0).run Tryz.prog w = .ok (.pointer (some ⟨b, o + 0, none⟩)) w := fieldAt_run (T := 32) (off := 0) Tryz.runUnderlying35 rfl Tryz.sizeOf32 (by decide) b o w
theorem fa_35_1 (b o : Nat) (w : World) : (Instr.fieldAt 35 (.pointer (some ⟨b, o, none⟩)) 1).run Tryz.prog w = .ok (.pointer (some ⟨b, o + 4, none⟩)) w := fieldAt_run (T := 3) (off := 4) Tryz.runUnderlying35 rfl Tryz.sizeOf3 (by decide) b o w
theorem fa_41_0 (b o : Nat) (w : World) : (Instr.fieldAt 41 (.pointer (some ⟨b, o, none⟩)) 0).run Tryz.prog w = .ok (.pointer (some ⟨b, o + 0, none⟩)) w := fieldAt_run (T := 30) (off := 0) Tryz.runUnderlying41 rfl Tryz.sizeOf30 (by decide) b o w
theorem fa_41_1 (b o : Nat) (w : World) : (Instr.fieldAt 41 (.pointer (some ⟨b, o, none⟩)) 1).run Tryz.prog w = .ok (.pointer (some ⟨b, o + 2, none⟩)) w := fieldAt_run (T := 30) (off := 2) Tryz.runUnderlying41 rfl Tryz.sizeOf30 (by decide) b o w
theorem fa_44_0 (b o : Nat) (w : World) : (Instr.fieldAt 44 (.pointer (some ⟨b, o, none⟩)) 0).run Tryz.prog w = .ok (.pointer (some ⟨b, o + 0, none⟩)) w := fieldAt_run (T := 27) (off := 0) Tryz.runUnderlying44 rfl Tryz.sizeOf27 (by decide) b o w
theorem fa_44_1 (b o : Nat) (w : World) : (Instr.fieldAt 44 (.pointer (some ⟨b, o, none⟩)) 1).run Tryz.prog w = .ok (.pointer (some ⟨b, o + 1, none⟩)) w := fieldAt_run (T := 41) (off := 1) Tryz.runUnderlying44 rfl Tryz.sizeOf41 (by decide) b o w
theorem fa_44_2 (b o : Nat) (w : World) : (Instr.fieldAt 44 (.pointer (some ⟨b, o, none⟩)) 2).run Tryz.prog w = .ok (.pointer (some ⟨b, o + 5, none⟩)) w := fieldAt_run (T := 41) (off := 5) Tryz.runUnderlying44 rfl Tryz.sizeOf41 (by decide) b o w
theorem fa_49_0 (b o : Nat) (w : World) : (Instr.fieldAt 49 (.pointer (some ⟨b, o, none⟩)) 0).run Tryz.prog w = .ok (.pointer (some ⟨b, o + 0, none⟩)) w := fieldAt_run (T := 4) (off := 0) Tryz.runUnderlying49 rfl Tryz.sizeOf4 (by decide) b o w
theorem fa_49_1 (b o : Nat) (w : World) : (Instr.fieldAt 49 (.pointer (some ⟨b, o, none⟩)) 1).run Tryz.prog w = .ok (.pointer (some ⟨b, o + 1, none⟩)) w := fieldAt_run (T := 44) (off := 1) Tryz.runUnderlying49 rfl Tryz.sizeOf44 (by decide) b o w
theorem fa_49_2 (b o : Nat) (w : World) : (Instr.fieldAt 49 (.pointer (some ⟨b, o, none⟩)) 2).run Tryz.prog w = .ok (.pointer (some ⟨b, o + 10, none⟩)) w := fieldAt_run (T := 47) (off := 10) Tryz.runUnderlying49 rfl Tryz.sizeOf47 (by decide) b o w
theorem fa_51_0 (b o : Nat) (w : World) : (Instr.fieldAt 51 (.pointer (some ⟨b, o, none⟩)) 0).run Tryz.prog w = .ok (.pointer (some ⟨b, o + 0, none⟩)) w := fieldAt_run (T := 25) (off := 0) Tryz.runUnderlying51 rfl Tryz.sizeOf25 (by decide) b o w
theorem fa_54_0 (b o : Nat) (w : World) : (Instr.fieldAt 54 (.pointer (some ⟨b, o, none⟩)) 0).run Tryz.prog w = .ok (.pointer (some ⟨b, o + 0, none⟩)) w := fieldAt_run (T := 49) (off := 0) Tryz.runUnderlying54 rfl Tryz.sizeOf49 (by decide) b o w
theorem fa_54_1 (b o : Nat) (w : World) : (Instr.fieldAt 54 (.pointer (some ⟨b, o, none⟩)) 1).run Tryz.prog w = .ok (.pointer (some ⟨b, o + 12, none⟩)) w := fieldAt_run (T := 51) (off := 12) Tryz.runUnderlying54 rfl Tryz.sizeOf51 (by decide) b o w
theorem fa_54_2 (b o : Nat) (w : World) : (Instr.fieldAt 54 (.pointer (some ⟨b, o, none⟩)) 2).run Tryz.prog w = .ok (.pointer (some ⟨b, o + 13, none⟩)) w := fieldAt_run (T := 52) (off := 13) Tryz.runUnderlying54 rfl Tryz.sizeOf52 (by decide) b o w
theorem fa_71_0 (b o : Nat) (w : World) : (Instr.fieldAt 71 (.pointer (some ⟨b, o, none⟩)) 0).run Tryz.prog w = .ok (.pointer (some ⟨b, o + 0, none⟩)) w := fieldAt_run (T := 3) (off := 0) Tryz.runUnderlying71 rfl Tryz.sizeOf3 (by decide) b o w
theorem fa_71_1 (b o : Nat) (w : World) : (Instr.fieldAt 71 (.pointer (some ⟨b, o, none⟩)) 1).run Tryz.prog w = .ok (.pointer (some ⟨b, o + 1, none⟩)) w := fieldAt_run (T := 69) (off := 1) Tryz.runUnderlying71 rfl Tryz.sizeOf69 (by decide) b o w
theorem fa_73_0 (b o : Nat) (w : World) : (Instr.fieldAt 73 (.pointer (some ⟨b, o, none⟩)) 0).run Tryz.prog w = .ok (.pointer (some ⟨b, o + 0, none⟩)) w := fieldAt_run (T := 71) (off := 0) Tryz.runUnderlying73 rfl Tryz.sizeOf71 (by decide) b o w
theorem fa_73_1 (b o : Nat) (w : World) : (Instr.fieldAt 73 (.pointer (some ⟨b, o, none⟩)) 1).run Tryz.prog w = .ok (.pointer (some ⟨b, o + 5, none⟩)) w := fieldAt_run (T := 27) (off := 5) Tryz.runUnderlying73 rfl Tryz.sizeOf27 (by decide) b o w
theorem fa_73_2 (b o : Nat) (w : World) : (Instr.fieldAt 73 (.pointer (some ⟨b, o, none⟩)) 2).run Tryz.prog w = .ok (.pointer (some ⟨b, o + 6, none⟩)) w := fieldAt_run (T := 3) (off := 6) Tryz.runUnderlying73 rfl Tryz.sizeOf3 (by decide) b o w
theorem fa_75_0 (b o : Nat) (w : World) : (Instr.fieldAt 75 (.pointer (some ⟨b, o, none⟩)) 0).run Tryz.prog w = .ok (.pointer (some ⟨b, o + 0, none⟩)) w := fieldAt_run (T := 73) (off := 0) Tryz.runUnderlying75 rfl Tryz.sizeOf73 (by decide) b o w
theorem fa_75_1 (b o : Nat) (w : World) : (Instr.fieldAt 75 (.pointer (some ⟨b, o, none⟩)) 1).run Tryz.prog w = .ok (.pointer (some ⟨b, o + 7, none⟩)) w := fieldAt_run (T := 4) (off := 7) Tryz.runUnderlying75 rfl Tryz.sizeOf4 (by decide) b o w
theorem fa_75_2 (b o : Nat) (w : World) : (Instr.fieldAt 75 (.pointer (some ⟨b, o, none⟩)) 2).run Tryz.prog w = .ok (.pointer (some ⟨b, o + 8, none⟩)) w := fieldAt_run (T := 4) (off := 8) Tryz.runUnderlying75 rfl Tryz.sizeOf4 (by decide) b o w
theorem fa_75_3 (b o : Nat) (w : World) : (Instr.fieldAt 75 (.pointer (some ⟨b, o, none⟩)) 3).run Tryz.prog w = .ok (.pointer (some ⟨b, o + 9, none⟩)) w := fieldAt_run (T := 44) (off := 9) Tryz.runUnderlying75 rfl Tryz.sizeOf44 (by decide) b o w
end Orr

namespace Orr
open Go
def sz (x : Nat) : Nat := if x = 0 then 0 else x.log2 + 1
theorem sz_le {x k : Nat} : sz x ≤ k ↔ x < 2 ^ k := by
  unfold sz
  split
  · rename_i h; subst h; simp [Nat.pow_pos]
  · rename_i h
    rw [Nat.succ_le_iff, Nat.log2_lt h]
theorem lt_sz (x : Nat) : x < 2 ^ sz x := sz_le.1 (Nat.le_refl _)
theorem sz_mono {x y : Nat} (h : x ≤ y) : sz x ≤ sz y := sz_le.2 (Nat.lt_of_le_of_lt h (lt_sz y))
theorem sz_add (x y : Nat) : sz (x + y) ≤ max (sz x) (sz y) + 1 := by
  rw [sz_le, Nat.pow_succ]
  have h1 : x < 2 ^ max (sz x) (sz y) := sz_le.1 (Nat.le_max_left _ _)
  have h2 : y < 2 ^ max (sz x) (sz y) := sz_le.1 (Nat.le_max_right _ _)
  omega
theorem sz_mul (x y : Nat) : sz (x * y) ≤ sz x + sz y := by
  rw [sz_le, Nat.pow_add]
  rcases Nat.eq_zero_or_pos y with h | h
  · subst h; simp [Nat.pow_pos]
  · exact Nat.mul_lt_mul_of_lt_of_le (lt_sz x) (Nat.le_of_lt (lt_sz y)) (by exact Nat.pow_pos (by decide))
theorem sz_pos {x : Nat} (h : 0 < x) : 0 < sz x := by
  unfold sz; split
  · omega
  · omega
theorem val_append (l r : List Nat) : val (l ++ r) = val l + 4294967296 ^ l.length * val r := by
  induction l with
  | nil => simp [val]
  | cons x l ih => simp only [List.cons_append, val, List.length_cons, ih, Nat.pow_succ]; grind
theorem val_zeros (k : Nat) : val (List.replicate k 0) = 0 := by
  induction k with
  | zero => rfl
  | succ k ih => simp [List.replicate_succ, val, ih]
theorem val_lt (l : List Nat) (h : ∀ x ∈ l, x < 4294967296) : val l < 4294967296 ^ l.length := by
  induction l with
  | nil => simp [val]
  | cons x l ih =>
    have h1 := h x (List.mem_cons_self ..)
    have h2 := ih fun y hy => h y (List.mem_cons_of_mem _ hy)
    simp only [val, List.length_cons, Nat.pow_succ]
    omega
theorem val_take_succ (l : List Nat) (i x : Nat) (h : l[i]? = some x) : val (l.take (i + 1)) = val (l.take i) + 4294967296 ^ i * x := by
  have hi : i < l.length := (List.getElem?_eq_some_iff.1 h).1
  rw [List.take_add_one, h, val_append]
  simp only [Option.toList, List.length_take, Nat.min_eq_left (Nat.le_of_lt hi), val]
  simp
theorem cut_zeros {l : List Nat} {m : Nat} (h : Cut l m) : l.drop m = List.replicate (l.length - m) 0 := by
  apply List.ext_getElem?
  intro i
  rw [List.getElem?_drop, List.getElem?_replicate]
  split
  · rename_i hi
    exact h.2.1 (m + i) (by omega) (by omega)
  · rw [List.getElem?_eq_none (by have := h.1; omega)]
theorem cut_val {l : List Nat} {m : Nat} (h : Cut l m) : val (l.take m) = val l := by
  have : l = l.take m ++ l.drop m := (List.take_append_drop m l).symm
  conv => rhs; rw [this, cut_zeros h, val_append, val_zeros]
  simp
theorem cut_nrm {l : List Nat} {m : Nat} (h : Cut l m) (hl : ∀ x ∈ l, x < 4294967296) : Nrm (l.take m) := by
  refine ⟨fun x hx => hl x (List.mem_of_mem_take hx), fun hne => ?_⟩
  have hm : 0 < m := by
    rcases Nat.eq_zero_or_pos m with e | e
    · subst e; simp at hne
    · exact e
  obtain ⟨x, hx, hx0⟩ := h.2.2 hm
  have hlen : (l.take m).length = m := by rw [List.length_take]; have := h.1; omega
  refine ⟨x, ?_, hx0⟩
  rw [hlen, List.getElem?_take, if_pos (by omega), hx]
theorem nrm_low {l : List Nat} (h : Nrm l) (hne : l ≠ []) : 4294967296 ^ (l.length - 1) ≤ val l := by
  obtain ⟨x, hx, hx0⟩ := h.2 hne
  have hlen : 0 < l.length := List.length_pos_iff.2 hne
  have := val_take_succ l (l.length - 1) x hx
  rw [show l.length - 1 + 1 = l.length from by omega, List.take_length] at this
  rw [this]
  calc 4294967296 ^ (l.length - 1) = 4294967296 ^ (l.length - 1) * 1 := by rw [Nat.mul_one]
    _ ≤ 4294967296 ^ (l.length - 1) * x := Nat.mul_le_mul_left _ (by omega)
    _ ≤ _ := Nat.le_add_left _ _
theorem nrm_len {l : List Nat} (h : Nrm l) : 32 * l.length ≤ sz (val l) + 31 := by
  rcases l with _ | ⟨x, l⟩
  · simp
  · have h1 := nrm_low h (by simp)
    have h2 := lt_sz (val (x :: l))
    have h3 : (4294967296 : Nat) ^ ((x :: l).length - 1) < 2 ^ sz (val (x :: l)) := Nat.lt_of_le_of_lt h1 h2
    rw [show (4294967296 : Nat) = 2 ^ 32 from by decide, ← Nat.pow_mul] at h3
    have := (Nat.pow_lt_pow_iff_right (by decide : 1 < 2)).1 h3
    omega
theorem nrm_zero {l : List Nat} (h : Nrm l) : val l = 0 ↔ l = [] := by
  constructor
  · intro h0
    apply Classical.byContradiction
    intro hne
    have := nrm_low h hne
    have : 0 < 4294967296 ^ (l.length - 1) := Nat.pow_pos (by decide)
    omega
  · rintro rfl; rfl
theorem nrm_inj : ∀ {l r : List Nat}, Nrm l → Nrm r → val l = val r → l = r
  | [], r, _, hr, h => ((nrm_zero hr).1 h.symm).symm
  | x :: l, [], hl, _, h => (nrm_zero hl).1 h
  | x :: l, y :: r, hl, hr, h => by
    have hx := hl.1 x (List.mem_cons_self ..)
    have hy := hr.1 y (List.mem_cons_self ..)
    simp only [val] at h
    have h1 : x = y := by omega
    have h2 : val l = val r := by omega
    have tail : ∀ {z : Nat} {l : List Nat}, Nrm (z :: l) → Nrm l := fun {z l} hl => ⟨fun u hu => hl.1 u (List.mem_cons_of_mem _ hu), fun hne => by
      obtain ⟨u, hu, hu0⟩ := hl.2 (by simp)
      refine ⟨u, ?_, hu0⟩
      have := List.length_pos_iff.2 hne
      rw [List.length_cons, show l.length + 1 - 1 = (l.length - 1) + 1 from by omega, List.getElem?_cons_succ] at hu
      exact hu⟩
    rw [h1, nrm_inj (tail hl) (tail hr) h2]
theorem nrm_lt_of_len {l r : List Nat} (hl : Nrm l) (hr : Nrm r) (h : l.length < r.length) : val l < val r := by
  have h1 := val_lt l hl.1
  have h2 := nrm_low hr (by rintro rfl; simp at h)
  have : (4294967296 : Nat) ^ l.length ≤ 4294967296 ^ (r.length - 1) := Nat.pow_le_pow_right (by decide) (by omega)
  omega
theorem val_split (l : List Nat) (k x : Nat) (hx : l[k]? = some x) : val l = val (l.take k) + 4294967296 ^ k * (x + 4294967296 * val (l.drop (k + 1))) := by
  have hk : k < l.length := (List.getElem?_eq_some_iff.1 hx).1
  have e : l = l.take k ++ (x :: l.drop (k + 1)) := by
    have h2 : l[k] = x := (List.getElem?_eq_some_iff.1 hx).2
    rw [← h2, ← List.drop_eq_getElem_cons hk, List.take_append_drop]
  have h1 : (l.take k).length = k := by rw [List.length_take]; omega
  conv => lhs; rw [e, val_append, h1]
  rfl
theorem val_top {l r : List Nat} {k x y : Nat} (hl : ∀ x ∈ l, x < 4294967296) (hd : l.drop (k + 1) = r.drop (k + 1)) (hx : l[k]? = some x) (hy : r[k]? = some y) (h : x < y) : val l < val r := by
  rw [val_split l k x hx, val_split r k y hy, hd]
  have h1 := val_lt (l.take k) (fun x hx => hl x (List.mem_of_mem_take hx))
  have h2 : (l.take k).length ≤ k := by rw [List.length_take]; omega
  have h3 : (4294967296 : Nat) ^ (l.take k).length ≤ 4294967296 ^ k := Nat.pow_le_pow_right (by decide) h2
  have h4 : 4294967296 ^ k * (x + 1 + 4294967296 * val (r.drop (k + 1))) ≤ 4294967296 ^ k * (y + 4294967296 * val (r.drop (k + 1))) := Nat.mul_le_mul_left _ (by omega)
  rw [show x + 1 + 4294967296 * val (r.drop (k + 1)) = (x + 4294967296 * val (r.drop (k + 1))) + 1 from by omega, Nat.mul_add, Nat.mul_one] at h4
  omega
theorem drop_same {l r : List Nat} {k x : Nat} (hd : l.drop (k + 1) = r.drop (k + 1)) (hx : l[k]? = some x) (hy : r[k]? = some x) : l.drop k = r.drop k := by
  obtain ⟨h1, e1⟩ := List.getElem?_eq_some_iff.1 hx
  obtain ⟨h2, e2⟩ := List.getElem?_eq_some_iff.1 hy
  rw [List.drop_eq_getElem_cons h1, List.drop_eq_getElem_cons h2, hd, e1, e2]
def cmpN (x y : Nat) : Int := if x < y then -1 else if y < x then 1 else 0
theorem cmpN_lt {x y : Nat} (h : x < y) : cmpN x y = -1 := by unfold cmpN; rw [if_pos h]
theorem cmpN_gt {x y : Nat} (h : y < x) : cmpN x y = 1 := by unfold cmpN; rw [if_neg (by omega), if_pos h]
theorem cmpN_eq {x y : Nat} (h : x = y) : cmpN x y = 0 := by unfold cmpN; rw [if_neg (by omega), if_neg (by omega)]
def Rel.natA : Rel Nat := Rel.row32.view fun l x => (∀ y ∈ l, y < 4294967296) ∧ val l = x
def Rel.natN : Rel Nat := Rel.row32.view fun l x => Nrm l ∧ val l = x
theorem natA_of_natN {w : World} {O : Nat → Prop} {cs : List Value} {x : Nat} (h : Rel.natN.at_ w O cs x) : Rel.natA.at_ w O cs x := by
  obtain ⟨l, h1, h2, h3⟩ := h
  exact ⟨l, h1, h2.1, h3⟩
def u32s (l : List Nat) : List Value := l.map fun (x : Nat) => .int .u32 (x : Int)
theorem length_u32s (l : List Nat) : (u32s l).length = l.length := by simp [u32s]
theorem getElem?_u32s (l : List Nat) (i : Nat) : (u32s l)[i]? = l[i]?.map fun (x : Nat) => .int .u32 (x : Int) := by simp [u32s]
theorem reps_u32s (m : Nat) : reps m [.int .u32 0] = u32s (List.replicate m 0) := by
  induction m with
  | zero => rfl
  | succ m ih => simp [reps, ih, u32s, List.replicate_succ]
theorem upd_u32s (l : List Nat) (i x : Nat) (h : i < l.length) : upd (u32s l) i [.int .u32 (x : Int)] = u32s (l.set i x) := by
  induction l generalizing i with
  | nil => simp at h
  | cons y l ih =>
    cases i with
    | zero => simp [u32s, upd]
    | succ i =>
      have := ih i (by simpa using h)
      simp only [u32s, List.map_cons, upd, List.set_cons_succ] at this ⊢
      rw [this]
section
variable {K Ob : Nat → Prop} {w0 w : World} {a : Act} {n : Nat} {L : List (Nat × Value)} {Fs : List Fact} {Bs : List Blk}
theorem own_notin {g T : Nat} {cs : List Value} (h : St K Ob w0 w a n L Fs ((g, T, cs) :: Bs)) : ¬ owns Ob Bs g := by
  rintro (ho | ho)
  · exact h.ownO g (by simp) ho
  · have := (List.nodup_cons.1 h.nodup).1
    exact this ho
theorem own_row32 {g T : Nat} {cs : List Value} {r : List Nat} (c : Nat) (h : St K Ob w0 w a n L Fs ((g, T, cs) :: Bs)) (hc : ∀ i, i < r.length → cs[i]? = (u32s r)[i]?) (hr : ∀ x ∈ r, x < 4294967296) (hl : r.length < 2 ^ 47) (hrc : r.length ≤ c) (hc63 : c < 2 ^ 63) :
    Rel.row32.at_ w (owns Ob Bs) [.slice (some ⟨g, 0, none⟩) r.length c] r := by
  refine ⟨_, c, rfl, hrc, hc63, hl, fun h0 => ⟨g, 0, rfl, (h.own g T cs (by simp)).2.1, own_notin h, fun i x hx => ⟨[.int .u32 (x : Int)], ⟨rfl, hr x (List.mem_of_getElem? hx)⟩, fun j v hj => ?_⟩⟩⟩
  have hi : i < r.length := (List.getElem?_eq_some_iff.1 hx).1
  rcases j with _ | j
  · simp at hj; subst hj
    rw [h.own_cell (i := 0) rfl]
    show cs[0 + i * 1 + 0]? = _
    rw [Nat.zero_add, Nat.mul_one, Nat.add_zero, hc i hi, getElem?_u32s, hx]; rfl
  · simp at hj
theorem St.respellB {g T : Nat} {cs cs' : List Value} (h : St K Ob w0 w a n L Fs ((g, T, cs) :: Bs)) (e : cs = cs') : St K Ob w0 w a n L Fs ((g, T, cs') :: Bs) := e ▸ h
theorem src_row32 {O : Nat → Prop} {A : Option Addr} {m c : Nat} {r : List Nat} (h : Rel.row32.at_ w O [.slice A m c] r) : Src w (.slice A m c) 1 m (u32s r) := by
  obtain ⟨e, _, _⟩ := row_open h
  subst e
  refine ⟨by rw [length_u32s, Nat.mul_one], A, c, rfl, fun h0 => ?_⟩
  obtain ⟨b, o, hA, _, _, hc⟩ := row_get h (i := 0) h0
  refine ⟨b, o, hA, fun j v hj => ?_⟩
  rw [getElem?_u32s] at hj
  cases hx : r[j]? with
  | none => rw [hx] at hj; cases hj
  | some x =>
    rw [hx] at hj
    injection hj with hj; subst hj
    have := hc j x hx
    rwa [Nat.mul_one] at this
theorem ownRow_row32 {v : Value} {E m : Nat} {r : List Nat} {Bo : List Blk} (h : St K Ob w0 w a n L Fs (Bo ++ Bs)) (ho : OwnRow v E 1 m (u32s r) Bo) (hr : ∀ x ∈ r, x < 4294967296) (hl : r.length < 2 ^ 47) :
    ∃ A c, v = .slice A r.length c ∧ Rel.row32.at_ w (owns Ob Bs) [.slice A r.length c] r := by
  obtain ⟨hlen, ⟨rfl, rfl, rfl⟩ | ⟨g, c, ex, rfl, rfl, hl2, hmc, hc63⟩⟩ := ho
  · have : r = [] := List.eq_nil_of_length_eq_zero (by simpa [length_u32s] using hlen)
    subst this
    exact ⟨none, 0, rfl, none, 0, rfl, Nat.le_refl _, by decide, by decide, fun h0 => absurd h0 (by simp)⟩
  · rw [length_u32s, Nat.mul_one] at hlen
    subst hlen
    exact ⟨_, c, rfl, own_row32 c h (fun i hi => by rw [List.getElem?_append_left (by rw [length_u32s]; exact hi)]) hr hl hmc hc63⟩
theorem u32s_one (r : List Nat) : ∀ u ∈ u32s r, one u = true := by
  intro u hu
  obtain ⟨x, _, rfl⟩ := List.mem_map.1 hu
  rfl
end
end Orr
