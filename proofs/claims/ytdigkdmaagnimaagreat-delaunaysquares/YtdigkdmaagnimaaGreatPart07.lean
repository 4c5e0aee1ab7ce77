/- Av8 DrawM Av9 AvCopy CertL ACert AKin NewsL ANews PairL DetL HullL AvDrawS AvFn AvDrawAS -/
import Derived.Test.YtdigkdmaagnimaaGreatPart06
import Derived.DeepKeys
import Derived.LoopN
import Derived.Test.YtdigkdmaagnimaaGreatPart05
import Derived.Laws.StructEq
set_option linter.all false

namespace Orr
open Go
variable {P : Program} {ops : Array Oper} {n : Nat} {rest : List Oper} {N : Sg → List OB → Prop} {L : Sg} {B : List OB} {d : Nat} {ty : TypeId} {pos : String} {after : Array Edge}
theorem run_indexArr {t E len sz i : Nat} {kd : IntKind} {p : Int} (hu : ∀ w, (underlying t).run P w = .ok (.array len E) w) (hs : ∀ w, (Go.sizeOf E).run P w = .ok sz w) (hp : p = (i : Int)) (hi : i < len)
    (b o : Nat) (w : World) : (Instr.indexAt t (.pointer (some ⟨b, o, none⟩)) (.int kd p)).run P w = .ok (.pointer (some ⟨b, o + i * sz, none⟩)) w := by
  subst hp
  have h0 : (0 : Int) ≤ (i : Int) ∧ (i : Int) < (len : Int) := ⟨by omega, by omega⟩
  simp [Instr.indexAt, asIntOf, hu, hs, Instr.sureAddr, h0, hi, Addr.add]
theorem p_indexArrOw (i : Nat) {t E len sz g o : Nat} {x y : Operand} {kd : IntKind} {p : Int} (hu : ∀ w, (underlying t).run P w = .ok (.array len E) w) (hs : ∀ w, (Go.sizeOf E).run P w = .ok sz w)
    (hx : evA L x = some (.one (.ow g o))) (hy : evA L y = some (.one (.int kd p))) (hp : p = (i : Int)) (hi : i < len) (hd : Nat.blt d n = true) :
    AP P ops n { dst := some d, op := .indexAddr t x y, type := ty, pos := pos, after := after, guard := none } d (.one (.ow g (o + i * sz))) L B :=
  p_val hd fun K Ob w0 w a Bs L' Fs h hL hB => by
    obtain ⟨v, hv, hr1⟩ := ev_of hL hx
    obtain rfl : v = .pointer (some ⟨g, o, none⟩) := hr1
    obtain ⟨u, hu', hr2⟩ := ev_of hL hy
    obtain rfl := rep_int hr2
    refine ⟨.pointer (some ⟨g, o + i * sz, none⟩), ?_, rfl⟩
    simp only [execOp, h.ev hv, h.ev hu']
    rw [Sem.run_bind, run_indexArr hu hs hp hi]
    rfl
theorem p_indexArrO (i : Nat) {t E len sz j szR o : Nat} {r : Option (Nat × Nat)} {x y : Operand} {kd : IntKind} {p : Int} (hu : ∀ w, (underlying t).run P w = .ok (.array len E) w) (hs : ∀ w, (Go.sizeOf E).run P w = .ok sz w)
    (hx : evA L x = some (.one (.oel r szR j o))) (hy : evA L y = some (.one (.int kd p))) (hp : p = (i : Int)) (hi : i < len) (hd : Nat.blt d n = true) :
    AP P ops n { dst := some d, op := .indexAddr t x y, type := ty, pos := pos, after := after, guard := none } d (.one (.oel r szR j (o + i * sz))) L B :=
  p_val hd fun K Ob w0 w a Bs L' Fs h hL hB => by
    obtain ⟨v, hv, hr1⟩ := ev_of hL hx
    obtain ⟨u, hu', hr2⟩ := ev_of hL hy
    obtain rfl := rep_int hr2
    rcases r with _ | ⟨g, c⟩
    · exact hr1.elim
    · obtain rfl : v = .pointer (some ⟨g, j * szR + o, none⟩) := hr1
      refine ⟨.pointer (some ⟨g, j * szR + o + i * sz, none⟩), ?_, by show _ = _; rw [Nat.add_assoc]⟩
      simp only [execOp, h.ev hv, h.ev hu']
      rw [Sem.run_bind, run_indexArr hu hs hp hi]
      rfl
theorem p_indexArrSh (i : Nat) {t E len sz : Nat} {l r : List LV} {x y : Operand} {kd : IntKind} {p : Int} (hu : ∀ w, (underlying t).run P w = .ok (.array len E) w) (hs : ∀ w, (Go.sizeOf E).run P w = .ok sz w)
    (hx : evA L x = some (.one (.sh l))) (hy : evA L y = some (.one (.int kd p))) (hp : p = (i : Int)) (hi : i < len) (hr : dropL (i * sz) l = some r) (hd : Nat.blt d n = true) :
    AP P ops n { dst := some d, op := .indexAddr t x y, type := ty, pos := pos, after := after, guard := none } d (.one (.sh r)) L B :=
  p_val hd fun K Ob w0 w a Bs L' Fs h hL hB => by
    obtain ⟨v, hv, hr1⟩ := ev_of hL hx
    obtain ⟨u, hu', hr2⟩ := ev_of hL hy
    obtain rfl := rep_int hr2
    obtain ⟨b, o, rfl, h2⟩ := sh_drop (rep_sh hr1) hr
    refine ⟨.pointer (some ⟨b, o + i * sz, none⟩), ?_, h2⟩
    simp only [execOp, h.ev hv, h.ev hu']
    rw [Sem.run_bind, run_indexArr hu hs hp hi]
    rfl
theorem index_run {t E len sz i : Nat} {kd : IntKind} {p : Int} (hu : ∀ w, (underlying t).run P w = .ok (.array len E) w) (hs : ∀ w, (Go.sizeOf E).run P w = .ok sz w) (ht : ∀ w, (isAgg E).run P w = .ok false w)
    (hp : p = (i : Int)) (hi : i < len) {vs : List Value} {v : Value} (hv : vs[i * sz]? = some v) (w : World) : (Instr.index t (.agg vs.toArray) (.int kd p)).run P w = .ok v w := by
  subst hp
  have h0 : (0 : Int) ≤ (i : Int) ∧ (i : Int) < (len : Int) := ⟨by omega, by omega⟩
  simp [Instr.index, asIntOf, hu, hs, h0, hi, Go.part, ht, hv]
theorem p_indexV (i : Nat) {t E len sz : Nat} {x y : Operand} {kd : IntKind} {p : Int} {xs : List LV} {z : LV} (hu : ∀ w, (underlying t).run P w = .ok (.array len E) w) (hs : ∀ w, (Go.sizeOf E).run P w = .ok sz w) (ht : ∀ w, (isAgg E).run P w = .ok false w)
    (hx : evA L x = some (.agg xs)) (hy : evA L y = some (.one (.int kd p))) (hp : p = (i : Int)) (hi : i < len) (hz : xs[i * sz]? = some z) (hd : Nat.blt d n = true) :
    AP P ops n { dst := some d, op := .index t x y, type := ty, pos := pos, after := after, guard := none } d (.one z) L B :=
  p_val hd fun K Ob w0 w a Bs L' Fs h hL hB => by
    obtain ⟨v, hv, vs, rfl, hreps⟩ := ev_of hL hx
    obtain ⟨u, hu', hr2⟩ := ev_of hL hy
    obtain rfl := rep_int hr2
    obtain ⟨v, hv2, hr⟩ := hreps.get hz
    refine ⟨v, ?_, hr⟩
    simp only [execOp, h.ev hv, h.ev hu']
    rw [Sem.run_bind, index_run hu hs ht hp hi hv2]
    rfl
def ints (l : List Int) : List LV := l.map (LV.int .i64)
theorem ints_of {w : World} {O : Nat → Prop} : ∀ {l : List Int} {vs : List Value}, XReps w O vs (ints l) → vs = l.map (Value.int .i64)
  | [], [], _ => rfl
  | [], _ :: _, h => h.elim
  | _ :: _, [], h => h.elim
  | x :: l, v :: vs, h => by
    obtain ⟨h1, h2⟩ := h
    have e : v = .int .i64 x := rep_int (h := show ARep w O v (.one (.int .i64 x)) from h1)
    rw [e, ints_of h2]; rfl
theorem run_eqV {t : TypeId} {a b : List Int} (hg : P.eqGuardType P.depth t = false) (he : ∀ w, (Op.equal t (.agg (a.map (Value.int .i64)).toArray) (.agg (b.map (Value.int .i64)).toArray)).run P w = .ok (decide (a = b)) w)
    {ev : Operand → Value} {x y : Operand} {t' : TypeId} (hx : ev x = .agg (a.map (Value.int .i64)).toArray) (hy : ev y = .agg (b.map (Value.int .i64)).toArray) (w : World) :
    (execOp ev { dst := some d, op := .binOp .eql t x y t', type := ty, pos := pos, after := after, guard := none }).run P w = .ok (.value (.bool (decide (a = b)))) w
    ∧ (execOp ev { dst := some d, op := .binOp .neq t x y t', type := ty, pos := pos, after := after, guard := none }).run P w = .ok (.value (.bool (!decide (a = b)))) w := by
  constructor <;> simp [execOp, hx, hy, eqGuard, run_program, hg, Go.binOp, he]
theorem p_eqV {x y : Operand} {xs ys : List LV} (a b : List Int) {r : Bool} {t t' : TypeId} (hg : P.eqGuardType P.depth t = false)
    (he : ∀ w, (Op.equal t (.agg (a.map (Value.int .i64)).toArray) (.agg (b.map (Value.int .i64)).toArray)).run P w = .ok (decide (a = b)) w)
    (hx : evA L x = some (.agg xs)) (hy : evA L y = some (.agg ys)) (hxs : xs = ints a) (hys : ys = ints b) (hr : decide (a = b) = r) (hd : Nat.blt d n = true) :
    AP P ops n { dst := some d, op := .binOp .eql t x y t', type := ty, pos := pos, after := after, guard := none } d (.one (.bool r)) L B :=
  p_val hd fun K Ob w0 w aa Bs L' Fs h hL hB => by
    subst hxs hys hr
    obtain ⟨v, hv, vs, rfl, h1⟩ := ev_of hL hx
    obtain ⟨u, hu, us, rfl, h2⟩ := ev_of hL hy
    obtain rfl := ints_of h1
    obtain rfl := ints_of h2
    exact ⟨.bool (decide (a = b)), (run_eqV hg he (h.ev hv) (h.ev hu) w).1, LRep.bool _⟩
theorem p_neV {x y : Operand} {xs ys : List LV} (a b : List Int) {r : Bool} {t t' : TypeId} (hg : P.eqGuardType P.depth t = false)
    (he : ∀ w, (Op.equal t (.agg (a.map (Value.int .i64)).toArray) (.agg (b.map (Value.int .i64)).toArray)).run P w = .ok (decide (a = b)) w)
    (hx : evA L x = some (.agg xs)) (hy : evA L y = some (.agg ys)) (hxs : xs = ints a) (hys : ys = ints b) (hr : (!decide (a = b)) = r) (hd : Nat.blt d n = true) :
    AP P ops n { dst := some d, op := .binOp .neq t x y t', type := ty, pos := pos, after := after, guard := none } d (.one (.bool r)) L B :=
  p_val hd fun K Ob w0 w aa Bs L' Fs h hL hB => by
    subst hxs hys hr
    obtain ⟨v, hv, vs, rfl, h1⟩ := ev_of hL hx
    obtain ⟨u, hu, us, rfl, h2⟩ := ev_of hL hy
    obtain rfl := ints_of h1
    obtain rfl := ints_of h2
    exact ⟨.bool (!decide (a = b)), (run_eqV hg he (h.ev hv) (h.ev hu) w).2, LRep.bool _⟩
def isNilp : LV → Option Bool
  | .nilp => some true
  | .sh _ => some false
  | .ow _ _ => some false
  | .oel (some _) _ _ _ => some false
  | _ => none
theorem ptr_of {w : World} {O : Nat → Prop} {v : Value} {x : LV} {b : Bool} (h : ARep w O v (.one x)) (hb : isNilp x = some b) : ∃ p : Option Addr, v = .pointer p ∧ p.isNone = b := by
  cases x <;> first | (simp [isNilp] at hb; done) | skip
  case nilp => simp [isNilp] at hb; subst hb; cases (show LRep w O v .nilp from h); exact ⟨none, rfl, rfl⟩
  case sh l =>
    simp [isNilp] at hb; subst hb
    cases (show LRep w O v (.sh l) from h); exact ⟨_, rfl, rfl⟩
  case ow g o => simp [isNilp] at hb; subst hb; exact ⟨_, h, rfl⟩
  case oel r sz i o =>
    rcases r with _ | ⟨g, c⟩
    · simp [isNilp] at hb
    · simp [isNilp] at hb; subst hb; exact ⟨_, h, rfl⟩
theorem run_eqNil {t E : TypeId} {p : Option Addr} (hu : ∀ w, (underlying t).run P w = .ok (.pointer E) w) {ev : Operand → Value} {x y : Operand} {t' : TypeId} (hx : ev x = .pointer p) (hy : ev y = .pointer none) (w : World) :
    (execOp ev { dst := some d, op := .binOp .eql t x y t', type := ty, pos := pos, after := after, guard := none }).run P w = .ok (.value (.bool p.isNone)) w
    ∧ (execOp ev { dst := some d, op := .binOp .neq t x y t', type := ty, pos := pos, after := after, guard := none }).run P w = .ok (.value (.bool (!p.isNone))) w := by
  have he : (Op.equal t (.pointer p) (.pointer none)).run P w = .ok p.isNone w := by
    have key : ∀ d, (Op.equalIn (d + 1) t (.pointer p) (.pointer none)).run P w = .ok p.isNone w := fun d => by cases p <;> simp [Op.equalIn, hu]
    exact key 9999
  constructor <;> simp [execOp, hx, hy, eqGuard, Go.binOp, he]
theorem p_eqNil {x y : Operand} {u : LV} {b r : Bool} {t t' E : TypeId} (hu : ∀ w, (underlying t).run P w = .ok (.pointer E) w) (hx : evA L x = some (.one u)) (hy : evA L y = some (.one .nilp)) (hb : isNilp u = some b) (hr : b = r) (hd : Nat.blt d n = true) :
    AP P ops n { dst := some d, op := .binOp .eql t x y t', type := ty, pos := pos, after := after, guard := none } d (.one (.bool r)) L B :=
  p_val hd fun K Ob w0 w aa Bs L' Fs h hL hB => by
    subst hr
    obtain ⟨v, hv, h1⟩ := ev_of hL hx
    obtain ⟨u', hu', h2⟩ := ev_of hL hy
    obtain ⟨p, rfl, rfl⟩ := ptr_of h1 hb
    obtain ⟨q, rfl, hq⟩ := ptr_of h2 rfl
    obtain rfl : q = none := by cases q <;> simp_all
    exact ⟨.bool p.isNone, (run_eqNil hu (h.ev hv) (h.ev hu') w).1, LRep.bool _⟩
theorem p_neNil {x y : Operand} {u : LV} {b r : Bool} {t t' E : TypeId} (hu : ∀ w, (underlying t).run P w = .ok (.pointer E) w) (hx : evA L x = some (.one u)) (hy : evA L y = some (.one .nilp)) (hb : isNilp u = some b) (hr : (!b) = r) (hd : Nat.blt d n = true) :
    AP P ops n { dst := some d, op := .binOp .neq t x y t', type := ty, pos := pos, after := after, guard := none } d (.one (.bool r)) L B :=
  p_val hd fun K Ob w0 w aa Bs L' Fs h hL hB => by
    subst hr
    obtain ⟨v, hv, h1⟩ := ev_of hL hx
    obtain ⟨u', hu', h2⟩ := ev_of hL hy
    obtain ⟨p, rfl, rfl⟩ := ptr_of h1 hb
    obtain ⟨q, rfl, hq⟩ := ptr_of h2 rfl
    obtain rfl : q = none := by cases q <;> simp_all
    exact ⟨.bool (!p.isNone), (run_eqNil hu (h.ev hv) (h.ev hu') w).2, LRep.bool _⟩
end Orr

namespace Orr
open Go
variable {P : Program} {Q : Exit → Act → World → Prop}
variable {K Ob : Nat → Prop} {w0 w : World} {a : Act} {n : Nat} {L : List (Nat × Value)} {Fs : List Fact} {Bs : List Blk}
def DrawOpI (P : Program) (ops : Array Oper) (K Ob : Nat → Prop) (w0 : World) (n : Nat) (L : List (Nat × Value)) (Fs : List Fact) (Inv : (Nat → Bool) → (Nat → Value) → World → List Blk → Prop) (D : List (Option Nat)) (S : List (Value → Fact)) (i : Nat) (dep : List Nat) (o : Oper) : Prop :=
  ∀ (p : Nat → Bool) (_ : p i = false) (_ : ∀ j ∈ dep, p j = true) (v : Nat → Value) (Fx : List Fact) (a : Act) (w : World) (Bs : List Blk), Inv p v w Bs → St K Ob w0 w a n (dL D v dep ++ L) (dep.map (fun j => (S.getD j noF) (v j)) ++ (Fs ++ Fx)) Bs →
    wpList P ops (fun e a' w' => e = .normal ∧ ∃ u Bs', Inv (fun j => j == i || p j) (fun j => if j = i then u else v j) w' Bs' ∧ St K Ob w0 w' a' n (if dE D i then [(dd D i, u)] else []) ((S.getD i noF) u :: (Fs ++ Fx)) Bs') [o] a w
def DrawOpsI (P : Program) (ops : Array Oper) (K Ob : Nat → Prop) (w0 : World) (n : Nat) (L : List (Nat × Value)) (Fs : List Fact) (Inv : (Nat → Bool) → (Nat → Value) → World → List Blk → Prop) (D : List (Option Nat)) (S : List (Value → Fact)) : Nat → List (List Nat) → List Oper → Prop
  | i, dep :: deps, o :: os => DrawOpI P ops K Ob w0 n L Fs Inv D S i dep o ∧ DrawOpsI P ops K Ob w0 n L Fs Inv D S (i + 1) deps os
  | _, _, _ => True
theorem DrawOpsI.get {ops : Array Oper} {Inv : (Nat → Bool) → (Nat → Value) → World → List Blk → Prop} {D : List (Option Nat)} {S : List (Value → Fact)} : ∀ {k : Nat} {deps : List (List Nat)} {os : List Oper}, DrawOpsI P ops K Ob w0 n L Fs Inv D S k deps os →
    ∀ (i : Nat) (dep : List Nat) (o : Oper), deps[i]? = some dep → os[i]? = some o → DrawOpI P ops K Ob w0 n L Fs Inv D S (k + i) dep o
  | k, [], os, _, i, dep, o, hd, _ => by simp at hd
  | k, d :: deps, [], _, i, dep, o, _, ho => by simp at ho
  | k, d :: deps, p :: os, h, i, dep, o, hd, ho => by
    cases i with
    | zero => simp at hd ho; subst hd; subst ho; exact h.1
    | succ i =>
      have := DrawOpsI.get h.2 i dep o (by simpa using hd) (by simpa using ho)
      rw [show k + (i + 1) = k + 1 + i from by omega]
      exact this
def MidI (K Ob : Nat → Prop) (w0 : World) (n : Nat) (L : List (Nat × Value)) (Fs : List Fact) (Inv : (Nat → Bool) → (Nat → Value) → World → List Blk → Prop) (D : List (Option Nat)) (S : List (Value → Fact)) (ls : List Nat) (a : Act) (w : World) : Prop :=
  ∃ (v : Nat → Value) (Bs : List Blk), Inv (fun j => decide (j ∈ ls)) v w Bs ∧ St K Ob w0 w a n (dL D v ls ++ L) (Fs ++ ls.map (fun j => (S.getD j noF) (v j))) Bs
section
variable {l : List Oper} {m : Nat} {Inv : (Nat → Bool) → (Nat → Value) → World → List Blk → Prop} {D : List (Option Nat)} {S : List (Value → Fact)} {deps : List (List Nat)}
theorem midI_step (hc : Chk l m D deps) (hL : ∀ j, j < m → dE D j = true → look L (dd D j) = none) (hops : DrawOpsI P l.toArray K Ob w0 n L Fs Inv D S 0 deps l)
    {ls : List Nat} (hls : ∀ j ∈ ls, j < m) {i : Nat} (hi : i < m) (hni : i ∉ ls) (hp : ∀ j ∈ preds l i, j ∈ ls) {a : Act} {w : World} (h : MidI K Ob w0 n L Fs Inv D S ls a w)
    {N : Act → World → Prop} (hN : ∀ a w, MidI K Ob w0 n L Fs Inv D S (i :: ls) a w → N a w) : wpOp P l.toArray Q i N a w := by
  obtain ⟨v, Bs, hinv, hst⟩ := h
  obtain ⟨o, ho, hd, hdep⟩ := hc.op i hi
  have hdepsi : deps[i]? = some (deps.getD i []) := by
    have : i < deps.length := by rw [hc.deplen]; exact hi
    rw [List.getD_eq_getElem?_getD, List.getElem?_eq_getElem this]; rfl
  have hinj : ∀ ls' : List Nat, (∀ j ∈ ls', j < m) → ∀ x ∈ ls'.filter (dE D), ∀ y ∈ ls'.filter (dE D), dd D x = dd D y → x = y := fun ls' hl' x hx y hy e =>
    hc.inj x (hl' x (mem_filt hx).1) y (hl' y (mem_filt hy).1) (mem_filt hx).2 (mem_filt hy).2 e
  have hop := hops.get i (deps.getD i []) o hdepsi ho
  rw [Nat.zero_add] at hop
  have hdl : ∀ j ∈ deps.getD i [], j ∈ ls := fun j hj => hp j (hdep j hj).1
  have hstart : St K Ob w0 w a n (dL D v (deps.getD i []) ++ L) ((deps.getD i []).map (fun j => (S.getD j noF) (v j)) ++ (Fs ++ ls.map (fun j => (S.getD j noF) (v j)))) Bs := by
    refine { hst with slots := fun t u hu => ?_, facts := fun f hf => ?_ }
    · rcases look_split (D := dd D) hu with ⟨j, hj, rfl⟩ | hu'
      · have hj' := mem_filt hj
        have hjls := hdl j hj'.1
        have e1 := look_map (D := dd D) (v := v) (L := L) hj (hinj _ (fun x hx => hls x (hdl x hx)))
        unfold dL at hu
        rw [e1] at hu; injection hu with hu; subst hu
        exact hst.slots _ _ (look_map (D := dd D) (v := v) (L := L) (List.mem_filter.2 ⟨hjls, hj'.2⟩) (hinj _ hls))
      · refine hst.slots _ _ (look_fresh (D := dd D) (fun x hx e => ?_) hu')
        have := hL x (hls x (mem_filt hx).1) (mem_filt hx).2
        rw [e, hu'] at this; cases this
    · rcases List.mem_append.1 hf with hf | hf
      · obtain ⟨j, hj, rfl⟩ := List.mem_map.1 hf
        exact hst.facts _ (List.mem_append.2 (.inr (List.mem_map.2 ⟨j, hdl j hj, rfl⟩)))
      · exact hst.facts _ hf
  have hwp := hop (fun j => decide (j ∈ ls)) (by simpa using hni) (fun j hj => by simpa using hdl j hj) v (ls.map (fun j => (S.getD j noF) (v j))) a w Bs hinv hstart
  have hBF : (fun j => j == i || decide (j ∈ ls)) = fun j => decide (j ∈ i :: ls) := by
    funext j; simp only [List.mem_cons]; by_cases e : j = i <;> simp [e]
  rw [hBF] at hwp
  -- what is known behind the operation
  have key : ∀ a' w', (∃ x, a' = a.put o.dst x) → (∃ u Bs', Inv (fun j => decide (j ∈ i :: ls)) (fun j => if j = i then u else v j) w' Bs' ∧ St K Ob w0 w' a' n (if dE D i then [(dd D i, u)] else []) ((S.getD i noF) u :: (Fs ++ ls.map (fun j => (S.getD j noF) (v j)))) Bs') → N a' w' := by
    intro a' w' ⟨x, hx⟩ ⟨u, Bs', hinv', hst'⟩
    refine hN a' w' ⟨fun j => if j = i then u else v j, Bs', hinv', { hst' with slots := fun t y hy => ?_, facts := fun f hf => ?_ }⟩
    · have hcongr : (ls.filter (dE D)).map (fun j => (dd D j, if j = i then u else v j)) = (ls.filter (dE D)).map (fun j => (dd D j, v j)) := List.map_congr_left fun j hj => by
        have : j ≠ i := fun e => hni (e ▸ (mem_filt hj).1)
        simp [this]
      have hold : ∀ {y}, look (dL D v ls ++ L) t = some y → (dE D i = true → t ≠ dd D i) → a'.tmps[t]? = some y := fun {y} hy hne => by
        have hsame : a'.tmps[t]? = a.tmps[t]? := by
          rw [hx, hd]
          cases e : D.getD i none with
          | none => rfl
          | some d =>
            have h1 : dE D i = true := by unfold dE; rw [e]; rfl
            have h2 : dd D i = d := by unfold dd; rw [e]; rfl
            have := hne h1
            rw [h2] at this
            simp only [Act.put]
            rw [Array.getElem?_setIfInBounds_ne (fun e => this e.symm)]
        rw [hsame]
        exact hst.slots t y hy
      by_cases hE : dE D i = true
      · unfold dL at hy
        rw [List.filter_cons_of_pos hE] at hy
        simp only [List.map_cons, List.cons_append, look, hcongr] at hy
        cases e : Nat.beq t (dd D i)
        · rw [e] at hy
          exact hold hy fun _ => Nat.ne_of_beq_eq_false e
        · rw [e] at hy
          simp only [if_true] at hy
          injection hy with hy; subst hy
          have e' := Nat.eq_of_beq_eq_true e
          subst e'
          refine hst'.slots _ _ ?_
          simp [look, hE]
      · unfold dL at hy
        rw [List.filter_cons_of_neg hE, hcongr] at hy
        exact hold hy fun h => absurd h hE
    · rcases List.mem_append.1 hf with hf | hf
      · exact hst'.facts f (List.mem_cons_of_mem _ (List.mem_append.2 (.inl hf)))
      · rcases List.mem_map.1 hf with ⟨j, hj, rfl⟩
        rcases List.mem_cons.1 hj with rfl | hj
        · simp only [if_true]
          exact hst'.facts _ (List.mem_cons_self ..)
        · have hne : j ≠ i := fun e => hni (e ▸ hj)
          simp only [hne, if_false]
          exact hst'.facts _ (List.mem_cons_of_mem _ (List.mem_append.2 (.inr (List.mem_map.2 ⟨j, hj, rfl⟩))))
  unfold wpOp
  have hoa : l.toArray[i]? = some o := by simpa using ho
  simp only [hoa]
  have hno : ¬ LetsOut (fun (e : Exit) (a' : Act) (w' : World) => e = .normal ∧ ∃ u Bs', Inv (fun j => decide (j ∈ i :: ls)) (fun j => if j = i then u else v j) w' Bs' ∧ St K Ob w0 w' a' n (if dE D i then [(dd D i, u)] else []) ((S.getD i noF) u :: (Fs ++ ls.map (fun j => (S.getD j noF) (v j)))) Bs') := by
    rintro ⟨_, _, h, _⟩; cases h
  by_cases hw : Region.wanted o (yielded l.toArray a.tmps) = true
  · rw [if_pos hw]
    simp only [wpList, hw, if_true] at hwp
    have hwp := hwp.resolve_right (fun h => hno h.2)
    refine .inl (wp_conv hst.defers (fun a' w' hk => ?_) (fun c a w h => by cases h.1) hno hwp)
    obtain ⟨_, hk⟩ := hk
    exact ⟨by obtain ⟨u, _, _, hu⟩ := hk; exact hu.defers, fun hx => key a' w' hx hk⟩
  · rw [if_neg hw]
    simp only [wpList, hw] at hwp
    exact key _ _ ⟨_, rfl⟩ hwp.2
theorem earlyI_ (hc : Chk l m D deps) (hL : ∀ j, j < m → dE D j = true → look L (dd D j) = none) (hops : DrawOpsI P l.toArray K Ob w0 n L Fs Inv D S 0 deps l)
    (hfin : ∀ (p : Nat → Bool), (∀ j, j < m → p j = true) → ∀ (v : Nat → Value) a w Bs, Inv p v w Bs → St K Ob w0 w a n (dL D v (List.range m) ++ L) ((List.range m).map (fun j => (S.getD j noF) (v j)) ++ Fs) Bs → wpList P l.toArray Q (l.drop m) a w) :
    ∀ (fuel : Nat) (listed : Array Bool) (ls : List Nat) (a : Act) (w : World), listed.size = l.length → (∀ j, j < l.length → (listed.getD j true = true ↔ j ∈ ls)) → (∀ j ∈ ls, j < m) → ls.Nodup → (∀ i ∈ ls, ∀ j ∈ preds l i, j ∈ ls) →
      l.length ≤ ls.length + fuel → MidI K Ob w0 n L Fs Inv D S ls a w → wpAny P .any l.toArray Q fuel listed a w := by
  have hall : ∀ (ls : List Nat) (a : Act) (w : World), (∀ j ∈ ls, j < m) → (∀ j, j < m → j ∈ ls) → MidI K Ob w0 n L Fs Inv D S ls a w → wpList P l.toArray Q (l.drop m) a w := by
    intro ls a w hls hfull ⟨v, Bs, hinv, h⟩
    have hinj : ∀ ls' : List Nat, (∀ j ∈ ls', j < m) → ∀ x ∈ ls'.filter (dE D), ∀ y ∈ ls'.filter (dE D), dd D x = dd D y → x = y := fun ls' hl' x hx y hy e =>
      hc.inj x (hl' x (mem_filt hx).1) y (hl' y (mem_filt hy).1) (mem_filt hx).2 (mem_filt hy).2 e
    refine hfin (fun j => decide (j ∈ ls)) (fun j hj => by simpa using hfull j hj) v a w Bs hinv { h with slots := fun t u hu => ?_, facts := fun f hf => ?_ }
    · rcases look_split (D := dd D) hu with ⟨j, hj, rfl⟩ | hu'
      · have hj' := mem_filt hj
        have hjm : j < m := List.mem_range.1 hj'.1
        have e1 := look_map (D := dd D) (v := v) (L := L) hj (hinj _ (fun x hx => List.mem_range.1 hx))
        unfold dL at hu
        rw [e1] at hu; injection hu with hu; subst hu
        exact h.slots _ _ (look_map (D := dd D) (v := v) (L := L) (List.mem_filter.2 ⟨hfull j hjm, hj'.2⟩) (hinj _ hls))
      · refine h.slots _ _ (look_fresh (D := dd D) (fun x hx e => ?_) hu')
        have := hL x (hls x (mem_filt hx).1) (mem_filt hx).2
        rw [e, hu'] at this; cases this
    · rcases List.mem_append.1 hf with hf | hf
      · obtain ⟨j, hj, rfl⟩ := List.mem_map.1 hf
        exact h.facts _ (List.mem_append.2 (.inr (List.mem_map.2 ⟨j, hfull j (List.mem_range.1 hj), rfl⟩)))
      · exact h.facts _ (List.mem_append.2 (.inl hf))
  intro fuel
  induction fuel with
  | zero =>
    intro listed ls a w hs hlisted hls hn hcl hf h
    have h1 := sub_len hn hls
    have h2 := hc.le
    have hfull := full_of_len hn hls (by omega)
    have hm : m = l.length := by omega
    have hw := hall ls a w hls hfull h
    rw [List.drop_eq_nil_of_le (by omega)] at hw
    refine ⟨?_, hw⟩
    apply List.eq_nil_iff_forall_not_mem.2
    intro j hj
    obtain ⟨h0, hjl, _⟩ := preds_of_ready hj
    have := (hlisted j hjl).2 (hfull j (by omega))
    rw [h0] at this; cases this
  | succ fuel ih =>
    intro listed ls a w hs hlisted hls hn hcl hf h
    have hunl : ∀ j, j < l.length → j ∉ ls → listed.getD j true = false := fun j hj hno => by
      cases e : listed.getD j true
      · rfl
      · exact absurd ((hlisted j hj).1 e) hno
    refine ⟨fun hnil => ?_, fun i hi => ?_⟩
    · -- nothing is ready: all has been done
      have hdone : ∀ j, j < l.length → j ∈ ls := by
        intro j
        induction j using Nat.strongRecOn with
        | _ j ihj =>
          intro hj
          apply Classical.byContradiction
          intro hno
          have : j ∈ Region.ready .any l.toArray listed := ready_of_preds hj (hunl j hj hno) (fun x hx => by
            have hxj := hc.down j hj x hx
            rw [← getD_tf (by omega)]
            exact (hlisted x (by omega)).2 (ihj x hxj (by omega)))
          rw [hnil] at this; cases this
      have hm : l.length ≤ m := by
        rcases Nat.lt_or_ge m l.length with hlt | hge
        · have := hls m (hdone m hlt); omega
        · exact hge
      have hw := hall ls a w hls (fun j hj => hdone j (by have := hc.le; omega)) h
      rw [List.drop_eq_nil_of_le hm] at hw
      exact hw
    · obtain ⟨h0, hil, hp⟩ := preds_of_ready hi
      have hni : i ∉ ls := fun hin => by have := (hlisted i hil).2 hin; rw [h0] at this; cases this
      have hpl : ∀ j ∈ preds l i, j ∈ ls := fun j hj => by
        have hji := hc.down i hil j hj
        exact (hlisted j (by omega)).1 (by rw [getD_tf (by omega)]; exact hp j hj)
      by_cases him : i < m
      · refine midI_step hc hL hops hls him hni hpl h fun a' w' h' => ?_
        refine ih _ (i :: ls) a' w' (by simp [hs]) (fun x hx => ?_) (fun j hj => ?_) (List.nodup_cons.2 ⟨hni, hn⟩) (fun x hx j hj => ?_) (by simp; omega) h'
        · by_cases hxi : i = x
          · subst hxi; simp [hs, hil]
          · rw [getD_set_ne true hxi, hlisted x hx]
            simp only [List.mem_cons]
            exact ⟨.inr, fun h => h.resolve_left (fun e => hxi e.symm)⟩
        · rcases List.mem_cons.1 hj with rfl | hj
          · exact him
          · exact hls j hj
        · rcases List.mem_cons.1 hx with rfl | hx
          · exact List.mem_cons_of_mem _ (hpl j hj)
          · exact List.mem_cons_of_mem _ (hcl x hx j hj)
      · have hmi : m ≤ i := Nat.le_of_not_lt him
        have hin : ∀ j, j < i → j ∈ ls := fun j hj => tpreds_closed (p := fun x => x ∈ ls) (fun x hx y hy => hcl x hx y hy) (i + 1) i hpl j (hc.late i hil hmi j hj)
        have him' : i = m := by
          rcases Nat.lt_or_ge m i with hlt | hge
          · have := hls m (hin m hlt); omega
          · omega
        subst him'
        have hw := hall ls a w hls hin h
        have hlate := late_ (P := P) (Q := Q) hc (fuel + 1) i listed a w hs (fun j hj => by
          rw [hlisted j hj]
          exact ⟨hls j, hin j⟩) (Nat.le_refl _) (by
            have := sub_len hn hls
            omega) hw
        exact hlate.2 i hi
theorem drawI_ {id : Nat} (hm : P.follows .mixedOrders = true) (m : Nat) (D : List (Option Nat)) (deps : List (List Nat)) (S : List (Value → Fact)) (Inv : (Nat → Bool) → (Nat → Value) → World → List Blk → Prop) (hchk : chkDraw l m D deps = true) (h : St K Ob w0 w a n L Fs Bs) (hB : ∀ w', w'.heap = w.heap → Inv (fun _ => false) (fun _ => undef) w' Bs)
    (hL : (List.range m).all (fun j => !(dE D j) || (look L (dd D j)).isNone) = true) (hops : DrawOpsI P l.toArray K Ob w0 n L Fs Inv D S 0 deps l)
    (hfin : ∀ (p : Nat → Bool), (∀ j, j < m → p j = true) → ∀ (v : Nat → Value) a w Bs, Inv p v w Bs → St K Ob w0 w a n (dL D v (List.range m) ++ L) ((List.range m).map (fun j => (S.getD j noF) (v j)) ++ Fs) Bs → wpList P l.toArray Q (l.drop m) a w) :
    (Code.region id l.toArray true).wp P Q a w := by
  refine wp_region_any hm ?_
  have hL' : ∀ j, j < m → dE D j = true → look L (dd D j) = none := fun j hj hE => by
    have := List.all_eq_true.1 hL j (List.mem_range.2 hj)
    simpa [hE] using this
  refine earlyI_ (chk_of hchk) hL' hops hfin l.toArray.size _ [] a _ (by simp) (fun j hj => ?_) (by simp) List.nodup_nil (by simp) (by simp) ⟨fun _ => undef, Bs, hB _ rfl, ?_⟩
  · have hj' : j < (Array.replicate l.toArray.size false).size := by simpa using hj
    simp [Array.getD, hj]
  · simpa [dL] using h.same (w' := { w with drawn := w.drawn + 1 }) rfl
end
end Orr

namespace Orr
open Go
variable {P : Program} {ops : Array Oper} {n : Nat} {rest : List Oper} {N : Sg → List OB → Prop} {L : Sg} {B : List OB} {d : Nat} {ty : TypeId} {pos : String} {after : Array Edge}
def AM (P : Program) (ops : Array Oper) (n : Nat) (o : Oper) (d : Nat) (L : Sg) (B : List OB) (R : AV → List OB → Prop) : Prop :=
  ∀ (K Ob : Nat → Prop) (w0 w : World) (a : Act) (Bs : List Blk) (L' : List (Nat × Value)) (Fs : List Fact), St K Ob w0 w a n L' Fs Bs → (∀ t x, lk L t = some x → ∃ v, look L' t = some v ∧ ARep w (owns Ob Bs) v x) → BsRep w (owns Ob Bs) B Bs →
    wpList P ops (fun e a' w' => e = .normal ∧ ∃ v Bs' u B1, R u B1 ∧ St K Ob w0 w' a' n [(d, v)] Fs Bs' ∧ ARep w' (owns Ob Bs') v u ∧ BsRep w' (owns Ob Bs') B1 Bs') [o] a w
theorem bs_split {w : World} {O : Nat → Prop} : ∀ {Bin Br : List OB} {Bs : List Blk}, BsRep w O (Bin ++ Br) Bs → ∃ Bi Bq, Bs = Bi ++ Bq ∧ BsRep w O Bin Bi ∧ BsRep w O Br Bq
  | [], Br, Bs, h => ⟨[], Bs, rfl, rfl, h⟩
  | b :: Bin, Br, Bs, h => by
    obtain ⟨Bo, Bs', rfl, h1, h2⟩ := h
    obtain ⟨Bi, Bq, rfl, h3, h4⟩ := bs_split h2
    exact ⟨Bo ++ Bi, Bq, by simp, ⟨Bo, Bi, rfl, h1, h3⟩, h4⟩
theorem bs_join {w : World} {O : Nat → Prop} : ∀ {B1 B2 : List OB} {b1 b2 : List Blk}, BsRep w O B1 b1 → BsRep w O B2 b2 → BsRep w O (B1 ++ B2) (b1 ++ b2)
  | [], B2, b1, b2, h1, h2 => by rw [show b1 = [] from h1]; exact h2
  | b :: B1, B2, b1, b2, h1, h2 => by
    obtain ⟨Bo, Bs', rfl, h3, h4⟩ := h1
    exact ⟨Bo, Bs' ++ b2, by simp, h3, bs_join h4 h2⟩
theorem am_of_aw {o : Oper} {R : AV → List OB → Prop} (haw : ∀ N : Sg → List OB → Prop, (∀ u B1, R u B1 → N ((d, u) :: L) B1) → AW P ops n [o] N L B) : AM P ops n o d L B R := by
  intro K Ob w0 w a Bs L' Fs h hL hB
  have h0 : St (fun b => b < w.heap.size ∧ b ∉ Bs.map (·.1)) Ob w w a n L' [] Bs :=
    { size := h.size, defers := h.defers, slots := h.slots, wsize := Nat.le_refl _, grow := fun _ _ => rfl, own := fun g T cs hm => ⟨fun hk => hk.2 (List.mem_map.2 ⟨_, hm, rfl⟩), (h.own g T cs hm).2⟩, nodup := h.nodup,
      facts := fun f hf => by simp at hf, base := fun b hk => hk.1, obase := fun b hb => Nat.lt_of_lt_of_le (h.obase b hb) h.wsize, ownO := h.ownO, io := ⟨rfl, rfl⟩ }
  refine haw (fun L2 B2 => ∃ u B1, R u B1 ∧ L2 = (d, u) :: L ∧ B2 = B1) (fun u B1 hR => ⟨u, B1, hR, rfl, rfl⟩) _ Ob w w a _ ⟨L', Bs, h0, hL, hB⟩ ?_
  rintro a' w' ⟨L2, B2, ⟨L2', Bs2, h1, h2, h3⟩, u, B1, hR, rfl, rfl⟩
  obtain ⟨v, hv, hr⟩ := h2 d u (by simp [lk])
  have hle : Le w (owns Ob Bs) w' (owns Ob Bs2) := by
    refine ⟨h1.wsize, fun b hb hno => h1.grow b ⟨hb, fun hm => hno (.inr hm)⟩, fun b hb ho => ?_⟩
    rcases ho with ho | hm
    · exact .inl ho
    · by_cases hb2 : b ∈ Bs.map (·.1)
      · exact .inr hb2
      · obtain ⟨⟨g, T, cs⟩, hg, rfl⟩ := List.mem_map.1 hm
        exact absurd ⟨hb, hb2⟩ (h1.own g T cs hg).1
  have hnk : ∀ b, K b → b < w.heap.size ∧ b ∉ Bs.map (·.1) := fun b hk => ⟨Nat.lt_of_lt_of_le (h.base b hk) h.wsize, fun hm => by
    obtain ⟨⟨g, T, cs⟩, hg, rfl⟩ := List.mem_map.1 hm
    exact (h.own g T cs hg).1 hk⟩
  refine ⟨rfl, v, Bs2, u, B2, hR, ?_, hr, h3⟩
  exact { size := h1.size, defers := h1.defers, slots := fun t x hx => by
            simp only [look] at hx
            cases e : Nat.beq t d <;> rw [e] at hx
            · cases hx
            · injection hx with hx; subst hx; rw [Nat.eq_of_beq_eq_true e]; exact h1.slots d v hv
          wsize := Nat.le_trans h.wsize h1.wsize, grow := fun b hk => (h1.grow b (hnk b hk)).trans (h.grow b hk), own := fun g T cs hm => ⟨fun hk => (h1.own g T cs hm).1 (hnk g hk), (h1.own g T cs hm).2⟩,
          nodup := h1.nodup, facts := fun f hf => f.keep hle (h.facts f hf), base := h.base, obase := h.obase, ownO := h1.ownO, io := ⟨h1.io.1.trans h.io.1, h1.io.2.trans h.io.2⟩ }
def MOp0 (P : Program) (ops : Array Oper) (n : Nat) (L : Sg) (B : List OB) (R : AV → List OB → Prop) (c i d : Nat) (u : AV) (dep : Sg) (o : Oper) : Prop :=
  match Nat.beq i c with
  | true => AM P ops n o d (dep ++ L) B R
  | false => AP P ops n o d u (dep ++ L) B
def MOp1 (P : Program) (ops : Array Oper) (n : Nat) (L : Sg) (B : List OB) (c i d : Nat) (u : AV) (dep : Sg) (o : Oper) : Prop :=
  match Nat.beq i c with
  | true => True
  | false => AP P ops n o d u (dep ++ L) B
def MOps0 (P : Program) (ops : Array Oper) (n : Nat) (L : Sg) (B : List OB) (R : AV → List OB → Prop) (c : Nat) (D : List Nat) (us : List AV) : Nat → List Sg → List Oper → Prop
  | i, dep :: deps, o :: os => MOp0 P ops n L B R c i (D.getD i 0) (us.getD i .un) dep o ∧ MOps0 P ops n L B R c D us (i + 1) deps os
  | _, _, _ => True
def MOps1 (P : Program) (ops : Array Oper) (n : Nat) (L : Sg) (B : List OB) (c : Nat) (D : List Nat) (us : List AV) : Nat → List Sg → List Oper → Prop
  | i, dep :: deps, o :: os => MOp1 P ops n L B c i (D.getD i 0) (us.getD i .un) dep o ∧ MOps1 P ops n L B c D us (i + 1) deps os
  | _, _, _ => True
theorem MOps0.get {R : AV → List OB → Prop} {c : Nat} {D : List Nat} {us : List AV} : ∀ {os : List Oper} {ds : List Sg} {k : Nat}, MOps0 P ops n L B R c D us k ds os → ∀ (i : Nat) dep o, ds[i]? = some dep → os[i]? = some o → MOp0 P ops n L B R c (k + i) (D.getD (k + i) 0) (us.getD (k + i) .un) dep o
  | [], _, _, _, i, _, _, _, ho => by simp at ho
  | _ :: _, [], _, _, i, _, _, hd, _ => by simp at hd
  | o :: os, dp :: ds, k, h, 0, dep, o', hd, ho => by simp at hd ho; subst hd; subst ho; exact h.1
  | o :: os, dp :: ds, k, h, i + 1, dep, o', hd, ho => by
    have := MOps0.get h.2 i dep o' (by simpa using hd) (by simpa using ho)
    rw [show k + (i + 1) = k + 1 + i from by omega]
    exact this
theorem MOps1.get {c : Nat} {D : List Nat} {us : List AV} : ∀ {os : List Oper} {ds : List Sg} {k : Nat}, MOps1 P ops n L B c D us k ds os → ∀ (i : Nat) dep o, ds[i]? = some dep → os[i]? = some o → MOp1 P ops n L B c (k + i) (D.getD (k + i) 0) (us.getD (k + i) .un) dep o
  | [], _, _, _, i, _, _, _, ho => by simp at ho
  | _ :: _, [], _, _, i, _, _, hd, _ => by simp at hd
  | o :: os, dp :: ds, k, h, 0, dep, o', hd, ho => by simp at hd ho; subst hd; subst ho; exact h.1
  | o :: os, dp :: ds, k, h, i + 1, dep, o', hd, ho => by
    have := MOps1.get h.2 i dep o' (by simpa using hd) (by simpa using ho)
    rw [show k + (i + 1) = k + 1 + i from by omega]
    exact this
theorem same_le {w w' : World} (h : w'.heap = w.heap) (O : Nat → Prop) : Le w O w' O := ⟨Nat.le_of_eq (by rw [h]), fun _ _ _ => by rw [h], fun _ _ ho => ho⟩
theorem ac_drawM {id : Nat} {l : List Oper} {Q : Exit → Sg → List OB → Prop} (hm : P.follows .mixedOrders = true) (m : Nat) (D : List Nat) (deps : List (List Nat)) (us : List AV) (c : Nat) (R : AV → List OB → Prop) (hchk : chkDraw l m (D.map some) deps = true)
    (hDm : (Nat.beq D.length m && Nat.beq us.length m && Nat.blt c m && deps.all fun js => js.all fun j => Nat.blt j m && !(Nat.beq j c)) = true) (hun : us[c]? = some .un) (hnone : (D.all fun t => (lk L t).isNone) = true)
    (hops0 : MOps0 P l.toArray n L B R c D us 0 (depsOf D us deps) (l.take m)) (hops1 : ∀ u B1, R u B1 → MOps1 P l.toArray n L B1 c D us 0 (depsOf D us deps) (l.take m))
    (k : ∀ u B1, R u B1 → ∃ L2, zipD D (us.set c u) L = some L2 ∧ AW P l.toArray n (l.drop m) (fun L B => Q .normal L B) L2 B1) : AC P n (.region id l.toArray true) Q L B := by
  rintro K Ob w0 w a ⟨L', Bs, h, hL, hB⟩
  simp only [Bool.and_eq_true, List.all_eq_true] at hDm hnone
  obtain ⟨⟨⟨hD, hU⟩, hcm⟩, hdl⟩ := hDm
  have hD := Nat.eq_of_beq_eq_true hD
  have hU := Nat.eq_of_beq_eq_true hU
  have hcm : c < m := by rwa [Nat.blt_eq] at hcm
  have hdl : ∀ js ∈ deps, ∀ j ∈ js, j < m := fun js hj j hjj => by have := (hdl js hj j hjj).1; rwa [Nat.blt_eq] at this
  obtain ⟨L3, h1, h2, h3⟩ := only L hL
  have hst : St K Ob w0 w a n L3 [] Bs := { h with slots := fun t v hv => h.slots t v (h2 t v hv) }
  have hst2 := hst.add (f := SF L L3 [] [] [] []) ⟨h3, rfl, trivial⟩
  have hc := chk_of hchk
  let Inv : (Nat → Bool) → (Nat → Value) → World → List Blk → Prop := fun p v w Bs => (p c = false ∧ BsRep w (owns Ob Bs) B Bs) ∨ (p c = true ∧ ∃ u B1, R u B1 ∧ ARep w (owns Ob Bs) (v c) u ∧ BsRep w (owns Ob Bs) B1 Bs)
  have hone : ∀ (i : Nat) (dj : List Nat) (o : Oper), deps[i]? = some dj → l[i]? = some o → i < m → DrawOpI P l.toArray K Ob w0 n L3 [SF L L3 [] [] [] []] Inv (D.map some) (us.map avF) i dj o := by
    intro i dj o hdj ho hi p hpi _ v Fx a' w' Bs hinv hs
    have hjm := hdl dj (List.mem_of_getElem? hdj)
    rw [dL_some D v dj fun j hj => by rw [hD]; exact hjm j hj] at hs
    have hfacts : ∀ j ∈ dj, ARep w' (owns Ob Bs) (v j) (us.getD j .un) := fun j hj => by
      have := hs.facts ((us.map avF).getD j noF (v j)) (List.mem_append.2 (.inl (List.mem_map.2 ⟨j, hj, rfl⟩)))
      rw [List.getD_eq_getElem?_getD, List.getElem?_map, List.getElem?_eq_getElem (by rw [hU]; exact hjm j hj)] at this
      rw [List.getD_eq_getElem?_getD, List.getElem?_eq_getElem (by rw [hU]; exact hjm j hj)]
      exact this
    obtain ⟨h6, _, _⟩ : (SF L L3 [] [] [] []).holds w' (owns Ob Bs) := hs.facts _ (List.mem_append.2 (.inr (by simp)))
    have hdk := dd_some D i (by rw [hD]; exact hi)
    have e5 : (us.map avF).getD i noF = avF (us[i]'(by rw [hU]; exact hi)) := by
      rw [List.getD_eq_getElem?_getD, List.getElem?_map, List.getElem?_eq_getElem (by rw [hU]; exact hi)]; rfl
    have e6 : us.getD i .un = us[i]'(by rw [hU]; exact hi) := by
      rw [List.getD_eq_getElem?_getD, List.getElem?_eq_getElem (by rw [hU]; exact hi)]; rfl
    have hdep := depsOf_get (D := D) (us := us) hdj
    have hl : (l.take m)[i]? = some o := by rw [List.getElem?_take, if_pos hi]; exact ho
    have plain : ∀ (BX : List OB) (y : Value) (uy : AV), BsRep w' (owns Ob Bs) BX Bs → ARep w' (owns Ob Bs) y uy → AP P l.toArray n o (D.getD i 0) (us.getD i .un) (dj.map (fun j => (D.getD j 0, us.getD j .un)) ++ L) BX →
        (∀ (w2 : World) (x : Value), BsRep w2 (owns Ob Bs) BX Bs → ARep w2 (owns Ob Bs) y uy → Inv (fun j => j == i || p j) (fun j => if j = i then x else v j) w2 Bs) →
        wpList P l.toArray (fun e a' w' => e = .normal ∧ ∃ u Bs', Inv (fun j => j == i || p j) (fun j => if j = i then u else v j) w' Bs' ∧ St K Ob w0 w' a' n (if dE (D.map some) i then [(dd (D.map some) i, u)] else []) (((us.map avF).getD i noF) u :: ([SF L L3 [] [] [] []] ++ Fx)) Bs') [o] a' w' := by
      intro BX y uy hBX hy hap hinv2
      have hs2 := (hs.add (f := avF uy y) hy).add (f := SF [] [] BX Bs [] []) ⟨fun t x (hh : none = some x) => (nomatch hh), hBX, trivial⟩
      have hw := hap K Ob w0 w' a' Bs _ _ hs2 (lk_dep h6 hfacts) hBX
      refine wp_next hs.defers (fun _ _ ⟨_, hh, _⟩ => hh.defers) hw fun a2 w2 hh => ?_
      obtain ⟨x, h8, h9⟩ := hh
      obtain ⟨_, h10, _⟩ := h8.fact 0 rfl
      have h11 : ARep w2 (owns Ob Bs) y uy := h8.fact 1 rfl
      refine wpList_nil ⟨rfl, x, Bs, hinv2 w2 x h10 h11, ?_⟩
      rw [if_pos hdk.2, hdk.1, e5]
      rw [e6] at h9
      have h8 : St K Ob w0 w2 a2 n _ ((SF [] [] BX Bs [] [] :: avF uy y :: List.map (fun j => (List.map avF us).getD j noF (v j)) dj) ++ ([SF L L3 [] [] [] []] ++ Fx)) Bs := h8
      exact h8.drawEnd (by simp [look]) h9
    cases hic : Nat.beq i c with
    | true =>
      have hic' := Nat.eq_of_beq_eq_true hic
      subst hic'
      have hop := hops0.get i _ o hdep hl
      rw [Nat.zero_add] at hop
      unfold MOp0 at hop
      rw [hic] at hop
      have hBX : BsRep w' (owns Ob Bs) B Bs := by
        rcases hinv with ⟨_, hh⟩ | ⟨hh, _⟩
        · exact hh
        · rw [hpi] at hh; cases hh
      have hw := hop K Ob w0 w' a' Bs _ _ hs (lk_dep h6 hfacts) hBX
      refine wp_next hs.defers (fun _ _ ⟨_, _, _, _, _, hh, _⟩ => hh.defers) hw fun a2 w2 hh => ?_
      obtain ⟨x, Bs', u, B1, hR, h8, h9, h10⟩ := hh
      refine wpList_nil ⟨rfl, x, Bs', .inr ⟨by simp, u, B1, hR, by simpa using h9, h10⟩, ?_⟩
      rw [if_pos hdk.2, hdk.1, e5]
      have e7 : us[i]'(by rw [hU]; exact hi) = .un := by
        have := List.getElem?_eq_getElem (l := us) (i := i) (by rw [hU]; exact hi)
        rw [hun] at this; injection this with this; exact this.symm
      rw [e7]
      exact h8.drawEnd (f := avF .un x) (by simp [look]) trivial
    | false =>
      have hne : c ≠ i := fun e => by subst e; simp at hic
      have hpc : (c == i || p c) = p c := by simp [hne]
      have hvc : ∀ x : Value, (if c = i then x else v c) = v c := fun x => if_neg hne
      rcases hinv with ⟨hp, hh⟩ | ⟨hp, u1, B1, hR, hv1, hh⟩
      · have hop := hops0.get i _ o hdep hl
        rw [Nat.zero_add] at hop
        unfold MOp0 at hop
        rw [hic] at hop
        exact plain B (.bool true) (.one (.bool true)) hh (LRep.bool _) hop fun w2 x h10 _ => .inl ⟨hpc.trans hp, h10⟩
      · have hop := (hops1 u1 B1 hR).get i _ o hdep hl
        rw [Nat.zero_add] at hop
        unfold MOp1 at hop
        rw [hic] at hop
        exact plain B1 (v c) u1 hh hv1 hop fun w2 x h10 h11 => .inr ⟨hpc.trans hp, u1, B1, hR, by show ARep _ _ (if c = i then x else v c) u1; rw [hvc x]; exact h11, h10⟩
  have hdrawops : ∀ (js : List (List Nat)) (os : List Oper) (k : Nat), (∀ i dj o, js[i]? = some dj → os[i]? = some o → DrawOpI P l.toArray K Ob w0 n L3 [SF L L3 [] [] [] []] Inv (D.map some) (us.map avF) (k + i) dj o) →
      DrawOpsI P l.toArray K Ob w0 n L3 [SF L L3 [] [] [] []] Inv (D.map some) (us.map avF) k js os := by
    intro js
    induction js with
    | nil => intro os k _; cases os <;> trivial
    | cons dj js ih =>
      intro os k hall
      rcases os with _ | ⟨o, os⟩
      · trivial
      · refine ⟨by have := hall 0 dj o rfl rfl; rwa [Nat.add_zero] at this, ih os (k + 1) fun i dj' o' hd ho => ?_⟩
        have := hall (i + 1) dj' o' (by simpa using hd) (by simpa using ho)
        rwa [show k + (i + 1) = k + 1 + i from by omega] at this
  refine drawI_ hm m (D.map some) deps (us.map avF) Inv hchk hst2 (fun w' hw' => .inl ⟨rfl, hB.keep (same_le hw' _)⟩) ?_ (hdrawops deps l 0 fun i dj o hd ho => by
    rw [Nat.zero_add]
    exact hone i dj o hd ho (by have := (List.getElem?_eq_some_iff.1 hd).1; rw [hc.deplen] at this; exact this)) fun p hp v a' w' Bs hinv hs => ?_
  · rw [List.all_eq_true]
    intro j hj
    have hjm : j < m := List.mem_range.1 hj
    rw [(dd_some D j (by rw [hD]; exact hjm)).1]
    have hmem : D.getD j 0 ∈ D := by rw [List.getD_eq_getElem?_getD, List.getElem?_eq_getElem (by rw [hD]; exact hjm)]; exact List.getElem_mem _
    have := hnone _ hmem
    rw [Option.isNone_iff_eq_none] at this
    rw [h1 _ this]; simp
  · rw [dL_some D v _ fun j hj => by rw [hD]; exact List.mem_range.1 hj] at hs
    have hfacts : ∀ j ∈ List.range m, ARep w' (owns Ob Bs) (v j) (us.getD j .un) := fun j hj => by
      have hjm := List.mem_range.1 hj
      have := hs.facts ((us.map avF).getD j noF (v j)) (List.mem_append.2 (.inl (List.mem_map.2 ⟨j, hj, rfl⟩)))
      rw [List.getD_eq_getElem?_getD, List.getElem?_map, List.getElem?_eq_getElem (by rw [hU]; exact hjm)] at this
      rw [List.getD_eq_getElem?_getD, List.getElem?_eq_getElem (by rw [hU]; exact hjm)]
      exact this
    obtain ⟨h6, _, _⟩ : (SF L L3 [] [] [] []).holds w' (owns Ob Bs) := hs.facts _ (List.mem_append.2 (.inr (by simp)))
    rcases hinv with ⟨hh, _⟩ | ⟨_, u1, B1, hR, hv1, hB1⟩
    · rw [hp c hcm] at hh; cases hh
    · obtain ⟨L2, hz, k⟩ := k u1 B1 hR
      obtain ⟨_, rfl⟩ := zipD_eq hz
      have hU2 : (us.set c u1).length = m := by rw [List.length_set]; exact hU
      have hzip : D.zip (us.set c u1) = (List.range m).map fun j => (D.getD j 0, (us.set c u1).getD j .un) := by
        apply List.ext_getElem
        · simp [hD, hU]
        · intro i h1 h2
          simp at h1 h2
          have e1 : D[i]? = some D[i] := List.getElem?_eq_getElem (by omega)
          have e2 : (us.set c u1)[i]? = some ((us.set c u1)[i]'(by omega)) := List.getElem?_eq_getElem (by omega)
          rw [List.getElem_zip, List.getElem_map, List.getElem_range, List.getD_eq_getElem?_getD, List.getD_eq_getElem?_getD, e1, e2]; rfl
      rw [hzip] at k
      have hfacts2 : ∀ j ∈ List.range m, ARep w' (owns Ob Bs) (v j) ((us.set c u1).getD j .un) := fun j hj => by
        have hjm := List.mem_range.1 hj
        by_cases hjc : c = j
        · subst hjc
          rw [List.getD_eq_getElem?_getD, List.getElem?_set_self (by omega)]; exact hv1
        · have := hfacts j hj
          rw [List.getD_eq_getElem?_getD] at this ⊢
          rwa [List.getElem?_set_ne hjc]
      exact k K Ob w0 w' a' _ ⟨_, Bs, hs.noFacts, lk_dep h6 hfacts2, hB1⟩ fun a2 w2 h => h
end Orr

namespace Orr
open Go
variable {P : Program} {ops : Array Oper} {n : Nat} {rest : List Oper} {N : Sg → List OB → Prop} {L : Sg} {B : List OB} {d : Nat} {ty : TypeId} {pos : String} {after : Array Edge}
def Src' (w : World) (x : Value) (size m : Nat) (news : List Value) : Prop :=
  news.length = m * size ∧ ∃ A M c, x = .slice A M c ∧ (0 < m → ∃ b o, A = some ⟨b, o, none⟩ ∧ ∀ (j : Nat) (v : Value), news[j]? = some v → w.cell? ⟨b, o + j, none⟩ = some v)
theorem run_firstCells' {size m : Nat} {x : Value} {news : List Value} {w : World} (h : Src' w x size m news) : (Builtin.firstCells size m x).run P w = .ok news.toArray w := by
  obtain ⟨hl, A, M, c, rfl, hA⟩ := h
  have := run_firstCells (P := P) (w := w) (x := .slice A m c) ⟨hl, A, c, rfl, hA⟩
  cases A <;> exact this
theorem st_copy' {Q : Exit → Act → World → Prop} {K Ob : Nat → Prop} {w0 w : World} {a : Act} {L : List (Nat × Value)} {Fs : List Fact} {Bs : List Blk} {x y : Operand} {g o m c m' k' sz T T' E : Nat} {v : Value} {cs zs : List Value} {ats : Array TypeId} (h : St K Ob w0 w a n L Fs Bs) (i : Nat) (hi : Bs[i]? = some (g, Tag.ty T', cs)) (hx : ev L x = some (.slice (some ⟨g, o, none⟩) m c)) (hy : ev L y = some v)
    (hu : ∀ w, (underlying T).run P w = .ok (.slice E) w) (hs : ∀ w, (Go.sizeOf E).run P w = .ok sz w) (hat : ats[0]? = some T) (hlen : ∀ w, (Builtin.lenOf v).run P w = .ok k' w) (hm' : Nat.min k' m = m')
    (hsrc : Src' w v sz m' zs) (hl : zs = [] ∨ o + zs.length ≤ cs.length) (h1 : ∀ u ∈ zs, one u = true) (hd : Nat.blt d n = true)
    (k : ∀ w' a', St K Ob w0 w' a' n ((d, .int .i64 (m' : Int)) :: L) Fs (Bs.set i (g, T', upd cs o zs)) → wpList P ops Q rest a' w') :
    wpList P ops Q ({ dst := some d, op := .call { callee := .builtin .copy, args := #[x, y], argTypes := ats }, type := ty, pos := pos, after := after, guard := none } :: rest) a w := by
  have hst : ∃ w', (storeCells ⟨g, o, none⟩ zs 0).run P w = .ok () w' ∧ St K Ob w0 w' a n L Fs (Bs.set i (g, T', upd cs o zs)) := by
    rcases hl with rfl | hl
    · have e : upd cs o [] = cs := by cases cs <;> simp [upd]
      have hset : Bs.set i (g, T', cs) = Bs := by
        obtain ⟨hlt, e⟩ := List.getElem?_eq_some_iff.1 hi
        rw [← e]; exact List.set_getElem_self hlt
      exact ⟨w, by simp [Go.storeCells], by rw [e, hset]; exact h⟩
    · exact St.storeCells (P := P) zs cs o 0 w Bs i h hi (by omega) h1
  obtain ⟨w', hr, hw⟩ := hst
  refine step_value (w' := w') (v := .int .i64 (m' : Int)) rfl ?_ (k _ _ (hw.put _ hd))
  have hf := run_firstCells' (P := P) hsrc
  simp only [execOp, resolve, invoke, builtin, Builtin.copy_, Sem.run_bind, Sem.run_pure, Result.andThen_ok]
  simp [h.ev hx, h.ev hy, hat, hu, hs, hlen, hm', hf, hr, goInt, Sem.run_bind]
theorem upd_append_pre : ∀ (pre post : List Value) (k : Nat) (ys : List Value), k + ys.length ≤ pre.length → upd (pre ++ post) k ys = upd pre k ys ++ post
  | [], post, k, [], _ => by cases post <;> simp [upd]
  | [], post, k, y :: ys, hk => by simp at hk
  | p :: pre, post, k, [], _ => by simp [upd]
  | p :: pre, post, 0, y :: ys, hk => by simp only [List.cons_append, upd]; rw [upd_append_pre pre post 0 ys (by simp at hk ⊢; omega)]
  | p :: pre, post, k + 1, y :: ys, hk => by simp only [List.cons_append, upd]; rw [upd_append_pre pre post k (y :: ys) (by simp at hk ⊢; omega)]
theorem upd_all : ∀ (xs ys : List Value), xs.length = ys.length → upd xs 0 ys = ys
  | [], [], _ => rfl
  | x :: xs, y :: ys, h => by simp only [upd]; rw [upd_all xs ys (by simpa using h)]
  | [], _ :: _, h => by simp at h
  | _ :: _, [], h => by simp at h
theorem RReps.drop {w : World} {O : Nat → Prop} : ∀ {vss : List (List Value)} {ls : List (List LV)} (k : Nat), RReps w O vss ls → RReps w O (vss.drop k) (ls.drop k) := fun k h => by
  refine RReps.of (by simp [h.len]) fun j v x hv hx => ?_
  rw [List.getElem?_drop] at hv hx
  exact h.get' hv hx
theorem RReps.take {w : World} {O : Nat → Prop} : ∀ {vss : List (List Value)} {ls : List (List LV)} (k : Nat), RReps w O vss ls → RReps w O (vss.take k) (ls.take k) := fun k h => by
  refine RReps.of (by simp [h.len]) fun j v x hv hx => ?_
  rw [List.getElem?_take] at hv hx
  split at hv
  · rename_i hlt
    rw [if_pos hlt] at hx
    exact h.get' hv hx
  · cases hv
theorem RReps.app {w : World} {O : Nat → Prop} : ∀ {vss uss : List (List Value)} {ls ms : List (List LV)}, RReps w O vss ls → RReps w O uss ms → RReps w O (vss ++ uss) (ls ++ ms) := fun {vss uss ls ms} h h' => by
  refine RReps.of (by simp [h.len, h'.len]) fun j v x hv hx => ?_
  have hl := h.len
  rw [List.getElem?_append] at hv hx
  split at hv
  · rename_i hlt
    rw [if_pos (by omega)] at hx
    exact h.get' hv hx
  · rename_i hlt
    rw [if_neg (by omega)] at hx
    rw [← hl] at hx
    exact h'.get' hv hx
theorem a_copyO (j : Nat) {T E sz lo1 len1 lo2 len2 m' : Nat} {x y : Operand} {r : Option (Nat × Nat)} {ls ls2 : List (List LV)} {ats : Array TypeId} {B' : List OB} (hu : ∀ w, (underlying T).run P w = .ok (.slice E) w) (hs : ∀ w, (Go.sizeOf E).run P w = .ok sz w) (hat : ats[0]? = some T)
    (hi : frontB B j = some (.row r E sz ls, B')) (hx : evA L x = some (.one (.orow r sz lo1 len1))) (hy : evA L y = some (.one (.orow r sz lo2 len2))) (h1 : lo1 + len1 ≤ ls.length) (h2 : lo2 + len2 ≤ ls.length) (h0 : 0 < ls.length) (hm' : Nat.min len2 len1 = m')
    (hls : ls.take lo1 ++ (ls.drop lo2).take m' ++ ls.drop (lo1 + m') = ls2) (hd : Nat.blt d n = true)
    (k : AW P ops n rest N ((d, .one (.int .i64 (m' : Int))) :: L) (.row r E sz ls2 :: B')) :
    AW P ops n ({ dst := some d, op := .call { callee := .builtin .copy, args := #[x, y], argTypes := ats }, type := ty, pos := pos, after := after, guard := none } :: rest) N L B := by
  intro K Ob w0 w a Q hs0 hQ
  subst hls
  obtain ⟨L', Bo, Bs, h, hL, hob, hB⟩ := hs0.front hi
  obtain ⟨v, hv, hr1⟩ := ev_of hL hx
  obtain ⟨v2, hv2, hr2⟩ := ev_of hL hy
  rcases r with _ | ⟨g, c⟩
  · obtain ⟨_, e, _⟩ := hob; subst e; simp at h0
  · obtain ⟨ho1, a1, rfl, ha1⟩ := hr1
    obtain ⟨ho2, a2, rfl, ha2⟩ := hr2
    obtain ⟨hsz, hw, hfr, vss, ex, h4, rfl, h5, h6, h7⟩ := hob
    have hall := h4.all hw
    have hvl : vss.length = ls.length := h4.len
    have hm1 : m' ≤ len1 := by subst hm'; exact Nat.min_le_right _ _
    have hm2 : m' ≤ len2 := by subst hm'; exact Nat.min_le_left _ _
    let zs := ((vss.drop lo2).take m').flatten
    have hzl : zs.length = m' * sz := by
      show ((vss.drop lo2).take m').flatten.length = _
      rw [flat_len (sz := sz) fun c hc => hall c (List.mem_of_mem_drop (List.mem_of_mem_take hc)), List.length_take, List.length_drop, Nat.min_eq_left (by omega)]
    have htk : ∀ q, q ≤ vss.length → (vss.take q).flatten.length = q * sz := fun q hq => by
      rw [flat_len (sz := sz) fun c hc => hall c (List.mem_of_mem_take hc), List.length_take, Nat.min_eq_left hq]
    have hsp : ∀ q, q + m' ≤ vss.length → vss.flatten = (vss.take q).flatten ++ (((vss.drop q).take m').flatten ++ (vss.drop (q + m')).flatten) := fun q hq => by
      rw [← List.flatten_append, ← List.flatten_append]
      congr 1
      rw [← List.drop_drop, List.take_append_drop, List.take_append_drop]
    have hadd := h.add (f := ⟨fun w O => (∀ t x, lk L t = some x → ∃ v, look L' t = some v ∧ ARep w O v x) ∧ BsRep w O B' Bs ∧ RReps w O vss ls, fun hle h => ⟨keep_of hle h.1, h.2.1.keep hle, h.2.2.keep hle⟩⟩) ⟨hL, hB, h4⟩
    have hsrc : Src' w (.slice (some ⟨g, a2, none⟩) len2 (c - lo2)) sz m' zs := by
      refine ⟨hzl, _, _, _, rfl, fun hpos => ⟨g, a2, rfl, fun q u hq => ?_⟩⟩
      have ha : a2 = lo2 * sz := ha2 (.inr (by omega))
      subst ha
      rw [h.own_cell (i := 0) rfl]
      have hql := (List.getElem?_eq_some_iff.1 hq).1
      rw [hsp lo2 (by omega), List.append_assoc, List.getElem?_append_right (by rw [htk lo2 (by omega)]; omega), htk lo2 (by omega), Nat.add_sub_cancel_left, List.append_assoc, List.getElem?_append_left hql]
      exact hq
    have hone : ∀ u ∈ zs, one u = true := fun u hu => by
      obtain ⟨vs, hvs, huv⟩ := List.mem_flatten.1 hu
      have hvs := List.mem_of_mem_drop (List.mem_of_mem_take hvs)
      obtain ⟨q, hq⟩ := List.mem_iff_getElem?.1 hvs
      have hql : q < ls.length := by rw [← hvl]; exact (List.getElem?_eq_some_iff.1 hq).1
      exact (h4.get' hq (List.getElem?_eq_getElem hql)).one u huv
    refine st_copy' hadd 0 rfl hv hv2 hu hs hat (fun _ => rfl) hm' hsrc ?_ hone hd fun w' a' h' => ?_
    · rcases Nat.eq_zero_or_pos m' with h00 | hpos
      · left; exact List.eq_nil_of_length_eq_zero (by rw [hzl, h00]; simp)
      · right
        have ha : a1 = lo1 * sz := ha1 (.inr (by omega))
        have := Nat.mul_le_mul_right sz (show lo1 + m' ≤ c by omega)
        rw [Nat.add_mul] at this
        omega
    · have h' : St K Ob w0 w' a' n _ _ ((g, E, upd (vss.flatten ++ ex) a1 zs) :: Bs) := h'
      have h'' : St K Ob w0 w' a' n ((d, .int .i64 (m' : Int)) :: L') [] ((g, E, upd (vss.flatten ++ ex) a1 zs) :: Bs) := h'.noFacts
      obtain ⟨h8, h9, h10⟩ := h'.fact 0 rfl
      have e : upd (vss.flatten ++ ex) a1 zs = (vss.take lo1 ++ (vss.drop lo2).take m' ++ vss.drop (lo1 + m')).flatten ++ ex := by
        rcases Nat.eq_zero_or_pos m' with h00 | hpos
        · have : zs = [] := List.eq_nil_of_length_eq_zero (by rw [hzl, h00]; simp)
          rw [this, h00]
          have e : upd (vss.flatten ++ ex) a1 [] = vss.flatten ++ ex := by cases vss.flatten ++ ex <;> simp [upd]
          rw [e]; simp
        · have ha : a1 = lo1 * sz := ha1 (.inr (by omega))
          subst ha
          rw [hsp lo1 (by omega), List.append_assoc, ← htk lo1 (by omega), show ∀ q, upd q (vss.take lo1).flatten.length zs = upd q ((vss.take lo1).flatten.length + 0) zs from fun _ => rfl, upd_append_right, List.append_assoc, upd_append_pre _ _ _ _ (by
            rw [hzl, flat_len (sz := sz) fun c hc => hall c (List.mem_of_mem_drop (List.mem_of_mem_take hc)), List.length_take, List.length_drop, Nat.min_eq_left (by omega)]; omega), upd_all _ _ (by
            rw [hzl, flat_len (sz := sz) fun c hc => hall c (List.mem_of_mem_drop (List.mem_of_mem_take hc)), List.length_take, List.length_drop, Nat.min_eq_left (by omega)])]
          simp [zs, List.flatten_append, List.append_assoc]
      have hlen3 : (upd (vss.flatten ++ ex) a1 zs).length = c * sz := by rw [length_upd]; exact h5
      rw [e] at hlen3 h'' h8 h9 h10
      have hmem : ∀ cc ∈ ls.take lo1 ++ (ls.drop lo2).take m' ++ ls.drop (lo1 + m'), cc ∈ ls := fun cc hc => by
        rcases List.mem_append.1 hc with hc | hc
        · rcases List.mem_append.1 hc with hc | hc
          · exact List.mem_of_mem_take hc
          · exact List.mem_of_mem_drop (List.mem_of_mem_take hc)
        · exact List.mem_of_mem_drop hc
      refine k _ _ _ _ _ _ (SA.of (Bo := [_]) h'' (put_of h8 (LRep.int _ _)) ?_ h9) hQ
      exact ⟨hsz, fun cc hc => hw cc (hmem cc hc), fun cc hc => hfr cc (hmem cc hc), vss.take lo1 ++ (vss.drop lo2).take m' ++ vss.drop (lo1 + m'), ex, ((h10.take _).app ((h10.drop _).take _)).app (h10.drop _), rfl, hlen3, by simp; omega, h7⟩
end Orr
namespace Orr
open Go
variable {P : Program} {n : Nat} {L : Sg} {B : List OB}
def ARounds (P : Program) (n : Nat) (c : Code) (Q : Exit → Sg → List OB → Prop) : Nat → Sg → List OB → Prop
  | 0, _, _ => False
  | k + 1, L, B => AC P n c (seqQ (ARounds P n c Q k) Q) L B
theorem ac_round {c : Code} {Q : Exit → Sg → List OB → Prop} {k : Nat} (h : AC P n c (seqQ (ARounds P n c Q k) Q) L B) : ARounds P n c Q (k + 1) L B := h
theorem ac_rounds {c : Code} {Q : Exit → Sg → List OB → Prop} (k : Nat) (h : ARounds P n c Q k L B) : AC P n (.loop c) Q L B := by
  intro K Ob w0 w a hs
  refine wp_loop_rounds k ?_
  induction k generalizing w a L B with
  | zero => exact h.elim
  | succ k ih =>
    refine wp_mono (h K Ob w0 w a hs) fun e a w ⟨L, B, h3, h4⟩ => ?_
    cases e <;> first | exact ⟨L, B, h3, h4⟩ | skip
    exact ih h4 w a h3
end Orr

namespace Orr
open Go
structure Ct where
  kind : Int
  i0 : Int
  i1 : Int
  i2 : Int
  i3 : Int
  p : List Int
  want : Int
abbrev ofCt (c : Ct) : List LV := [.int .i64 c.kind, .int .i64 c.i0, .int .i64 c.i1, .int .i64 c.i2, .int .i64 c.i3, pl c.p, .int .i64 c.want]
def cts (l : List Ct) : LV := .row (l.map ofCt)
theorem rlen_cts (l : List Ct) : rlen (cts l) = some l.length := by simp [rlen, cts]
def either (p q : List Int) : List Int := if 0 < p.length then p else q
def lessI : List Int → List Int → Bool
  | x :: l, y :: m => if x = y then lessI l m else decide (x < y)
  | _, _ => false
def lessC (a b : Ct) : Bool := lessI [a.kind, a.i0, a.i1, a.i2, a.i3] [b.kind, b.i0, b.i1, b.i2, b.i3]
def posC (out : List Ct) (c : Ct) : Nat → Nat
  | 0 => 0
  | k + 1 => match out[k]? with
    | some x => if lessC c x = true then posC out c k else k + 1
    | none => k + 1
theorem posC_le (out : List Ct) (c : Ct) : ∀ k, posC out c k ≤ k
  | 0 => Nat.le_refl _
  | k + 1 => by
    simp only [posC]
    split
    · split
      · exact Nat.le_succ_of_le (posC_le out c k)
      · exact Nat.le_refl _
    · exact Nat.le_refl _
theorem posC_on {out : List Ct} {c x : Ct} {k : Nat} (hx : out[k]? = some x) (h : lessC c x = true) : posC out c (k + 1) = posC out c k := by
  simp only [posC, hx, h, if_true]
theorem posC_off {out : List Ct} {c x : Ct} {k : Nat} (hx : out[k]? = some x) (h : lessC c x = false) : posC out c (k + 1) = k + 1 := by
  simp [posC, hx, h]
def insC (out : List Ct) (c : Ct) : List Ct := out.take (posC out c out.length) ++ c :: out.drop (posC out c out.length)
theorem insC_len (out : List Ct) (c : Ct) : (insC out c).length = out.length + 1 := by
  have := posC_le out c out.length
  simp [insC]; omega
theorem insC_mem {out : List Ct} {c x : Ct} (h : x ∈ insC out c) : x = c ∨ x ∈ out := by
  simp only [insC, List.mem_append, List.mem_cons] at h
  rcases h with h | h | h
  · exact .inr (List.mem_of_mem_take h)
  · exact .inl h
  · exact .inr (List.mem_of_mem_drop h)
def sortC (l : List Ct) : List Ct := l.foldl insC []
theorem sortC_snoc (l : List Ct) (c : Ct) : sortC (l ++ [c]) = insC (sortC l) c := by simp [sortC, List.foldl_append]
theorem sortC_take {l : List Ct} {i : Nat} {c : Ct} (h : l[i]? = some c) : sortC (l.take (i + 1)) = insC (sortC (l.take i)) c := by
  rw [List.take_succ, h]; exact sortC_snoc _ _
theorem foldl_len : ∀ (l acc : List Ct), (l.foldl insC acc).length = acc.length + l.length
  | [], acc => by simp
  | c :: l, acc => by simp only [List.foldl_cons]; rw [foldl_len l (insC acc c), insC_len]; simp; omega
theorem sortC_len (l : List Ct) : (sortC l).length = l.length := by unfold sortC; rw [foldl_len]; simp
theorem foldl_mem : ∀ (l acc : List Ct) {x : Ct}, x ∈ l.foldl insC acc → x ∈ l ∨ x ∈ acc
  | [], acc, x, h => .inr h
  | c :: l, acc, x, h => by
    simp only [List.foldl_cons] at h
    rcases foldl_mem l _ h with h | h
    · exact .inl (List.mem_cons_of_mem _ h)
    · rcases insC_mem h with rfl | h
      · exact .inl (List.mem_cons_self ..)
      · exact .inr h
theorem sortC_mem {l : List Ct} {x : Ct} (h : x ∈ sortC l) : x ∈ l := by
  rcases foldl_mem l [] h with h | h
  · exact h
  · cases h
theorem ins_copy {α : Type} (l : List α) (z x : α) {k m' : Nat} (hk : k ≤ l.length) (hm : m' = l.length - k) :
    ((l ++ [z]).take (k + 1) ++ ((l ++ [z]).drop k).take m' ++ (l ++ [z]).drop (k + 1 + m')).set k x = l.take k ++ x :: l.drop k := by
  subst hm
  have e1 : ((l ++ [z]).drop k).take (l.length - k) = l.drop k := by
    rw [List.drop_append_of_le_length hk, List.take_append_of_le_length (by simp), List.take_of_length_le (by simp)]
  have e2 : (l ++ [z]).drop (k + 1 + (l.length - k)) = [] := List.drop_eq_nil_of_le (by simp; omega)
  rw [e1, e2, List.append_nil]
  have e3 : (l ++ [z]).take (k + 1) = (l ++ [z]).take k ++ [(l ++ [z])[k]'(by simp; omega)] := by rw [List.take_succ_eq_append_getElem]
  rw [e3, List.take_append_of_le_length hk, List.append_assoc, List.set_append, if_neg (by simp; omega)]
  simp [Nat.min_eq_left hk]
end Orr

namespace Orr
open Go Go.Proofs
theorem eqT_3 (d : Nat) (x y : Int) (w : World) : (Op.equalIn (d + 1) 3 (.int .i64 x) (.int .i64 y)).run Tryz.prog w = .ok (decide (x = y)) w := by
 simp [Op.equalIn, Tryz.runUnderlying3]
 rfl
set_option maxRecDepth 20000 in
theorem eqT_69 (d : Nat) (x0 x1 x2 x3 y0 y1 y2 y3 : Int) (w : World) : (Op.equalIn (d + 1 + 1) 69 (.agg #[.int .i64 x0, .int .i64 x1, .int .i64 x2, .int .i64 x3]) (.agg #[.int .i64 y0, .int .i64 y1, .int .i64 y2, .int .i64 y3])).run Tryz.prog w = .ok (decide ([x0, x1, x2, x3] = [y0, y1, y2, y3])) w := by
 rw [run_equalIn_array w (d + 1) _ _ (n := 4) (e := 3) rfl rfl]
 rw [show List.range 4 = [0, 1, 2, 3] from rfl, show Tryz.prog.cellsOf 3 = 1 from rfl]
 simp [Op.eqItems, Go.part, Tryz.isAgg3, eqT_3]
 by_cases h0 : x0 = y0 <;> by_cases h1 : x1 = y1 <;> by_cases h2 : x2 = y2 <;> by_cases h3 : x3 = y3 <;> simp [h0, h1, h2, h3]
set_option maxRecDepth 20000 in
theorem eqT_71' (d : Nat) (x x0 x1 x2 x3 y y0 y1 y2 y3 : Int) (w : World) : (Op.equalIn (d + 1 + 1 + 1) 71 (.agg #[.int .i64 x, .int .i64 x0, .int .i64 x1, .int .i64 x2, .int .i64 x3]) (.agg #[.int .i64 y, .int .i64 y0, .int .i64 y1, .int .i64 y2, .int .i64 y3])).run Tryz.prog w = .ok (decide ([x, x0, x1, x2, x3] = [y, y0, y1, y2, y3])) w := by
 rw [run_equalIn_struct w (d + 1 + 1) 71 _ _ rfl Tryz.stoodInHeld71]
 have hf : (Tryz.prog.fieldsOf 71).toList = [{ name := "Kind", type := 3, offset := 0, embedded := false, tag := "", pkgPath := "", byteOffset := 0 }, { name := "Ids", type := 69, offset := 1, embedded := false, tag := "", pkgPath := "", byteOffset := 8 }] := by simp [Program.fieldsOf, Tryz.underlying71]
 rw [hf]
 simp [Op.eqFields, Go.part, Tryz.isAgg3, Tryz.isAgg69, Tryz.sizeOf69, Tryz.sizeOf3, eqT_3, eqT_69]
 by_cases h : x = y <;> by_cases h0 : x0 = y0 <;> by_cases h1 : x1 = y1 <;> by_cases h2 : x2 = y2 <;> by_cases h3 : x3 = y3 <;> simp [h, h0, h1, h2, h3]
theorem eqT_71 (a b : List Int) (ha : a.length = 5) (hb : b.length = 5) (w : World) : (Op.equal 71 (.agg (a.map (Value.int .i64)).toArray) (.agg (b.map (Value.int .i64)).toArray)).run Tryz.prog w = .ok (decide (a = b)) w := by
 match a, ha, b, hb with
 | [x, x0, x1, x2, x3], _, [y, y0, y1, y2, y3], _ => exact eqT_71' 9997 x x0 x1 x2 x3 y y0 y1 y2 y3 w
theorem d_cert_points3  : Does Tryz.prog 55 [.one (.int .i64 3)] (.one (.int .i64 3)) := by
 refine does_ (n := 12) Tryz.func55 rfl Tryz.ntmps55 rfl ?_
 refine ac_seq (ac_reg ?_)
 refine w_ (p_assign rfl rfl) ?_
 refine aw_nil ?_
 refine ac_seq (ac_seq (ac_reg ?_))
 refine w_ (p_move rfl rfl) ?_
 refine aw_nil ?_
 refine ac_block (ac_seq (ac_seq (ac_reg ?_)))
 refine w_ (p_cmp (b := false) rfl rfl rfl rfl) ?_
 refine w_ (p_assign rfl rfl) ?_
 refine aw_nil ?_
 refine ac_f rfl (rfl) ?_
 refine ac_reg ?_
 refine w_ (p_cmp (b := false) rfl rfl rfl rfl) ?_
 refine w_ (p_assign rfl rfl) ?_
 refine aw_nil ?_
 refine ac_f rfl (rfl) ?_
 refine ac_seq (ac_reg ?_)
 refine w_ (p_cmp (b := true) rfl rfl rfl rfl) ?_
 refine w_ (p_assign rfl rfl) ?_
 refine aw_nil ?_
 refine ac_t rfl (rfl) ?_
 refine ac_seq (ac_reg ?_)
 refine w_ (p_assign rfl rfl) ?_
 refine aw_nil ?_
 refine ac_ret ?_
 exact retB_1 Tryz.results55 (rv_tmp rfl rfl) (rfl)
theorem d_cert_points4  : Does Tryz.prog 55 [.one (.int .i64 4)] (.one (.int .i64 4)) := by
 refine does_ (n := 12) Tryz.func55 rfl Tryz.ntmps55 rfl ?_
 refine ac_seq (ac_reg ?_)
 refine w_ (p_assign rfl rfl) ?_
 refine aw_nil ?_
 refine ac_seq (ac_seq (ac_reg ?_))
 refine w_ (p_move rfl rfl) ?_
 refine aw_nil ?_
 refine ac_block (ac_seq (ac_seq (ac_reg ?_)))
 refine w_ (p_cmp (b := false) rfl rfl rfl rfl) ?_
 refine w_ (p_assign rfl rfl) ?_
 refine aw_nil ?_
 refine ac_f rfl (rfl) ?_
 refine ac_reg ?_
 refine w_ (p_cmp (b := false) rfl rfl rfl rfl) ?_
 refine w_ (p_assign rfl rfl) ?_
 refine aw_nil ?_
 refine ac_f rfl (rfl) ?_
 refine ac_seq (ac_reg ?_)
 refine w_ (p_cmp (b := false) rfl rfl rfl rfl) ?_
 refine w_ (p_assign rfl rfl) ?_
 refine aw_nil ?_
 refine ac_f rfl (rfl) ?_
 refine ac_seq (ac_seq (ac_reg ?_))
 refine w_ (p_cmp (b := true) rfl rfl rfl rfl) ?_
 refine w_ (p_assign rfl rfl) ?_
 refine aw_nil ?_
 refine ac_t rfl (rfl) ?_
 refine ac_skip ?_
 refine ac_t rfl (rfl) ?_
 refine ac_seq (ac_reg ?_)
 refine w_ (p_assign rfl rfl) ?_
 refine aw_nil ?_
 refine ac_ret ?_
 exact retB_1 Tryz.results55 (rv_tmp rfl rfl) (rfl)
theorem d_cert_Less {k i0 i1 i2 i3 l j0 j1 j2 j3 : Int} : Does Tryz.prog 72 [.agg [.int .i64 k, .int .i64 i0, .int .i64 i1, .int .i64 i2, .int .i64 i3], .agg [.int .i64 l, .int .i64 j0, .int .i64 j1, .int .i64 j2, .int .i64 j3]] (.one (.bool (lessI [k, i0, i1, i2, i3] [l, j0, j1, j2, j3]))) := by
 refine does_ (n := 36) Tryz.func72 rfl Tryz.ntmps72 rfl ?_
 refine ac_seq (ac_reg ?_)
 refine w_ (p_boxS rfl rfl rfl rfl) ?_
 refine w_ (p_boxS rfl rfl rfl rfl) ?_
 refine w_ (p_assign rfl rfl) ?_
 refine aw_nil ?_
 refine ac_seq (ac_seq (ac_reg ?_))
 refine w_ (p_fieldSh fa_71_0 rfl rfl rfl) ?_
 refine w_ (p_loadSh Tryz.isAgg3 Tryz.sizeOf3 rfl rfl rfl rfl) ?_
 refine w_ (p_fieldSh fa_71_0 rfl rfl rfl) ?_
 refine w_ (p_loadSh Tryz.isAgg3 Tryz.sizeOf3 rfl rfl rfl rfl) ?_
 refine w_ (p_cmp rfl rfl rfl rfl) ?_
 refine aw_nil ?_
 refine ac_cond rfl (fun hb_if1 => ?_) (fun hb_if1 => ?_)
 ·try simp only [decide_eq_true_eq, decide_eq_false_iff_not, Bool.not_eq_true', Bool.not_eq_false'] at hb_if1
  refine ac_seq (ac_reg ?_)
  refine w_ (p_fieldSh fa_71_0 rfl rfl rfl) ?_
  refine w_ (p_loadSh Tryz.isAgg3 Tryz.sizeOf3 rfl rfl rfl rfl) ?_
  refine w_ (p_fieldSh fa_71_0 rfl rfl rfl) ?_
  refine w_ (p_loadSh Tryz.isAgg3 Tryz.sizeOf3 rfl rfl rfl rfl) ?_
  refine w_ (p_cmp rfl rfl rfl rfl) ?_
  refine w_ (p_assign rfl rfl) ?_
  refine aw_nil ?_
  refine ac_ret ?_
  exact retB_1 Tryz.results72 (rv_tmp rfl rfl) (by simp_all [lessI])
 try simp only [decide_eq_true_eq, decide_eq_false_iff_not, Bool.not_eq_true', Bool.not_eq_false'] at hb_if1
 refine ac_skip ?_
 refine ac_seq (ac_seq (ac_reg ?_))
 refine w_ (p_fieldSh fa_71_1 rfl rfl rfl) ?_
 refine w_ (p_loadSh Tryz.isAgg69 Tryz.sizeOf69 rfl rfl rfl rfl) ?_
 refine w_ (p_move rfl rfl) ?_
 refine aw_nil ?_
 refine ac_block ?_
 refine ac_rounds 5 ?_
 refine ac_round ?_
 refine ac_seq (ac_reg ?_)
 refine w_ (p_cmp (b := true) rfl rfl rfl rfl) ?_
 refine aw_nil ?_
 refine ac_seq ?_
 refine ac_t rfl (rfl) ?_
 refine ac_skip ?_
 refine ac_seq (ac_block (ac_seq (ac_reg ?_)))
 refine w_ (p_move rfl rfl) ?_
 refine w_ (p_indexV 0 Tryz.runUnderlying69 Tryz.sizeOf3 Tryz.isAgg3 rfl rfl rfl (by decide) rfl rfl) ?_
 refine w_ (p_assign rfl rfl) ?_
 refine w_ (p_assign rfl rfl) ?_
 refine aw_nil ?_
 refine ac_seq (ac_reg ?_)
 refine w_ (p_move rfl rfl) ?_
 refine w_ (p_move rfl rfl) ?_
 refine w_ (p_fieldSh fa_71_1 rfl rfl rfl) ?_
 refine w_ (p_indexArrSh 0 Tryz.runUnderlying69 Tryz.sizeOf3 rfl rfl rfl (by decide) rfl rfl) ?_
 refine w_ (p_loadSh Tryz.isAgg3 Tryz.sizeOf3 rfl rfl rfl rfl) ?_
 refine w_ (p_cmp rfl rfl rfl rfl) ?_
 refine aw_nil ?_
 refine ac_cond rfl (fun hb_if3 => ?_) (fun hb_if3 => ?_)
 ·try simp only [decide_eq_true_eq, decide_eq_false_iff_not, Bool.not_eq_true', Bool.not_eq_false'] at hb_if3
  refine ac_seq (ac_reg ?_)
  refine w_ (p_move rfl rfl) ?_
  refine w_ (p_move rfl rfl) ?_
  refine w_ (p_fieldSh fa_71_1 rfl rfl rfl) ?_
  refine w_ (p_indexArrSh 0 Tryz.runUnderlying69 Tryz.sizeOf3 rfl rfl rfl (by decide) rfl rfl) ?_
  refine w_ (p_loadSh Tryz.isAgg3 Tryz.sizeOf3 rfl rfl rfl rfl) ?_
  refine w_ (p_cmp rfl rfl rfl rfl) ?_
  refine w_ (p_assign rfl rfl) ?_
  refine aw_nil ?_
  refine ac_ret ?_
  exact retB_1 Tryz.results72 (rv_tmp rfl rfl) (by simp_all [lessI])
 try simp only [decide_eq_true_eq, decide_eq_false_iff_not, Bool.not_eq_true', Bool.not_eq_false'] at hb_if3
 refine ac_skip ?_
 refine ac_reg ?_
 refine w_ (p_add (r := ((1 : Nat) : Int)) rfl rfl (rfl) rfl) ?_
 refine w_ (p_move rfl rfl) ?_
 refine aw_nil ?_
 refine ac_round ?_
 refine ac_seq (ac_reg ?_)
 refine w_ (p_cmp (b := true) rfl rfl rfl rfl) ?_
 refine aw_nil ?_
 refine ac_seq ?_
 refine ac_t rfl (rfl) ?_
 refine ac_skip ?_
 refine ac_seq (ac_block (ac_seq (ac_reg ?_)))
 refine w_ (p_move rfl rfl) ?_
 refine w_ (p_indexV 1 Tryz.runUnderlying69 Tryz.sizeOf3 Tryz.isAgg3 rfl rfl rfl (by decide) rfl rfl) ?_
 refine w_ (p_assign rfl rfl) ?_
 refine w_ (p_assign rfl rfl) ?_
 refine aw_nil ?_
 refine ac_seq (ac_reg ?_)
 refine w_ (p_move rfl rfl) ?_
 refine w_ (p_move rfl rfl) ?_
 refine w_ (p_fieldSh fa_71_1 rfl rfl rfl) ?_
 refine w_ (p_indexArrSh 1 Tryz.runUnderlying69 Tryz.sizeOf3 rfl rfl rfl (by decide) rfl rfl) ?_
 refine w_ (p_loadSh Tryz.isAgg3 Tryz.sizeOf3 rfl rfl rfl rfl) ?_
 refine w_ (p_cmp rfl rfl rfl rfl) ?_
 refine aw_nil ?_
 refine ac_cond rfl (fun hb_if3 => ?_) (fun hb_if3 => ?_)
 ·try simp only [decide_eq_true_eq, decide_eq_false_iff_not, Bool.not_eq_true', Bool.not_eq_false'] at hb_if3
  refine ac_seq (ac_reg ?_)
  refine w_ (p_move rfl rfl) ?_
  refine w_ (p_move rfl rfl) ?_
  refine w_ (p_fieldSh fa_71_1 rfl rfl rfl) ?_
  refine w_ (p_indexArrSh 1 Tryz.runUnderlying69 Tryz.sizeOf3 rfl rfl rfl (by decide) rfl rfl) ?_
  refine w_ (p_loadSh Tryz.isAgg3 Tryz.sizeOf3 rfl rfl rfl rfl) ?_
  refine w_ (p_cmp rfl rfl rfl rfl) ?_
  refine w_ (p_assign rfl rfl) ?_
  refine aw_nil ?_
  refine ac_ret ?_
  exact retB_1 Tryz.results72 (rv_tmp rfl rfl) (by simp_all [lessI])
 try simp only [decide_eq_true_eq, decide_eq_false_iff_not, Bool.not_eq_true', Bool.not_eq_false'] at hb_if3
 refine ac_skip ?_
 refine ac_reg ?_
 refine w_ (p_add (r := ((2 : Nat) : Int)) rfl rfl (rfl) rfl) ?_
 refine w_ (p_move rfl rfl) ?_
 refine aw_nil ?_
 refine ac_round ?_
 refine ac_seq (ac_reg ?_)
 refine w_ (p_cmp (b := true) rfl rfl rfl rfl) ?_
 refine aw_nil ?_
 refine ac_seq ?_
 refine ac_t rfl (rfl) ?_
 refine ac_skip ?_
 refine ac_seq (ac_block (ac_seq (ac_reg ?_)))
 refine w_ (p_move rfl rfl) ?_
 refine w_ (p_indexV 2 Tryz.runUnderlying69 Tryz.sizeOf3 Tryz.isAgg3 rfl rfl rfl (by decide) rfl rfl) ?_
 refine w_ (p_assign rfl rfl) ?_
 refine w_ (p_assign rfl rfl) ?_
 refine aw_nil ?_
 refine ac_seq (ac_reg ?_)
 refine w_ (p_move rfl rfl) ?_
 refine w_ (p_move rfl rfl) ?_
 refine w_ (p_fieldSh fa_71_1 rfl rfl rfl) ?_
 refine w_ (p_indexArrSh 2 Tryz.runUnderlying69 Tryz.sizeOf3 rfl rfl rfl (by decide) rfl rfl) ?_
 refine w_ (p_loadSh Tryz.isAgg3 Tryz.sizeOf3 rfl rfl rfl rfl) ?_
 refine w_ (p_cmp rfl rfl rfl rfl) ?_
 refine aw_nil ?_
 refine ac_cond rfl (fun hb_if3 => ?_) (fun hb_if3 => ?_)
 ·try simp only [decide_eq_true_eq, decide_eq_false_iff_not, Bool.not_eq_true', Bool.not_eq_false'] at hb_if3
  refine ac_seq (ac_reg ?_)
  refine w_ (p_move rfl rfl) ?_
  refine w_ (p_move rfl rfl) ?_
  refine w_ (p_fieldSh fa_71_1 rfl rfl rfl) ?_
  refine w_ (p_indexArrSh 2 Tryz.runUnderlying69 Tryz.sizeOf3 rfl rfl rfl (by decide) rfl rfl) ?_
  refine w_ (p_loadSh Tryz.isAgg3 Tryz.sizeOf3 rfl rfl rfl rfl) ?_
  refine w_ (p_cmp rfl rfl rfl rfl) ?_
  refine w_ (p_assign rfl rfl) ?_
  refine aw_nil ?_
  refine ac_ret ?_
  exact retB_1 Tryz.results72 (rv_tmp rfl rfl) (by simp_all [lessI])
 try simp only [decide_eq_true_eq, decide_eq_false_iff_not, Bool.not_eq_true', Bool.not_eq_false'] at hb_if3
 refine ac_skip ?_
 refine ac_reg ?_
 refine w_ (p_add (r := ((3 : Nat) : Int)) rfl rfl (rfl) rfl) ?_
 refine w_ (p_move rfl rfl) ?_
 refine aw_nil ?_
 refine ac_round ?_
 refine ac_seq (ac_reg ?_)
 refine w_ (p_cmp (b := true) rfl rfl rfl rfl) ?_
 refine aw_nil ?_
 refine ac_seq ?_
 refine ac_t rfl (rfl) ?_
 refine ac_skip ?_
 refine ac_seq (ac_block (ac_seq (ac_reg ?_)))
 refine w_ (p_move rfl rfl) ?_
 refine w_ (p_indexV 3 Tryz.runUnderlying69 Tryz.sizeOf3 Tryz.isAgg3 rfl rfl rfl (by decide) rfl rfl) ?_
 refine w_ (p_assign rfl rfl) ?_
 refine w_ (p_assign rfl rfl) ?_
 refine aw_nil ?_
 refine ac_seq (ac_reg ?_)
 refine w_ (p_move rfl rfl) ?_
 refine w_ (p_move rfl rfl) ?_
 refine w_ (p_fieldSh fa_71_1 rfl rfl rfl) ?_
 refine w_ (p_indexArrSh 3 Tryz.runUnderlying69 Tryz.sizeOf3 rfl rfl rfl (by decide) rfl rfl) ?_
 refine w_ (p_loadSh Tryz.isAgg3 Tryz.sizeOf3 rfl rfl rfl rfl) ?_
 refine w_ (p_cmp rfl rfl rfl rfl) ?_
 refine aw_nil ?_
 refine ac_cond rfl (fun hb_if3 => ?_) (fun hb_if3 => ?_)
 ·try simp only [decide_eq_true_eq, decide_eq_false_iff_not, Bool.not_eq_true', Bool.not_eq_false'] at hb_if3
  refine ac_seq (ac_reg ?_)
  refine w_ (p_move rfl rfl) ?_
  refine w_ (p_move rfl rfl) ?_
  refine w_ (p_fieldSh fa_71_1 rfl rfl rfl) ?_
  refine w_ (p_indexArrSh 3 Tryz.runUnderlying69 Tryz.sizeOf3 rfl rfl rfl (by decide) rfl rfl) ?_
  refine w_ (p_loadSh Tryz.isAgg3 Tryz.sizeOf3 rfl rfl rfl rfl) ?_
  refine w_ (p_cmp rfl rfl rfl rfl) ?_
  refine w_ (p_assign rfl rfl) ?_
  refine aw_nil ?_
  refine ac_ret ?_
  exact retB_1 Tryz.results72 (rv_tmp rfl rfl) (by simp_all [lessI])
 try simp only [decide_eq_true_eq, decide_eq_false_iff_not, Bool.not_eq_true', Bool.not_eq_false'] at hb_if3
 refine ac_skip ?_
 refine ac_reg ?_
 refine w_ (p_add (r := ((4 : Nat) : Int)) rfl rfl (rfl) rfl) ?_
 refine w_ (p_move rfl rfl) ?_
 refine aw_nil ?_
 refine ac_round ?_
 refine ac_seq (ac_reg ?_)
 refine w_ (p_cmp (b := false) rfl rfl rfl rfl) ?_
 refine aw_nil ?_
 refine ac_seq ?_
 refine ac_f rfl (rfl) ?_
 refine ac_exit ?_
 repeat refine seqQ_exit ?_
 refine blkQ_here ?_
 refine ac_seq (ac_reg ?_)
 refine w_ (p_assign rfl rfl) ?_
 refine aw_nil ?_
 refine ac_ret ?_
 exact retB_1 Tryz.results72 (rv_tmp rfl rfl) (by simp_all [lessI])
abbrev zCt : List LV := [.int .i64 0, .int .i64 0, .int .i64 0, .int .i64 0, .int .i64 0, .nils, .int .i64 0]
theorem posC_on' {out : List Ct} {c x : Ct} {k : Nat} (h0 : 0 < k) (hx : out[k - 1]? = some x) (h : lessC c x = true) : posC out c k = posC out c (k - 1) := by
 obtain ⟨j, rfl⟩ : ∃ j, k = j + 1 := ⟨k - 1, by omega⟩
 exact posC_on hx h
theorem posC_off' {out : List Ct} {c x : Ct} {k : Nat} (h0 : 0 < k) (hx : out[k - 1]? = some x) (h : lessC c x = false) : posC out c k = k := by
 obtain ⟨j, rfl⟩ : ∃ j, k = j + 1 := ⟨k - 1, by omega⟩
 exact posC_off hx h
theorem seven {ls : List (List LV)} (h : ∀ c ∈ ls, c.length = 7) {k : Nat} (hk : k < ls.length) : ∃ a0 a1 a2 a3 a4 a5 a6, ls[k]? = some [a0, a1, a2, a3, a4, a5, a6] := by
 have h1 := h ls[k] (List.getElem_mem hk)
 rw [List.getElem?_eq_getElem hk]
 match hl : ls[k], h1 with
 | [a0, a1, a2, a3, a4, a5, a6], _ => exact ⟨a0, a1, a2, a3, a4, a5, a6, rfl⟩
theorem ins_w {O : List Ct} {z : List LV} (hz : z.length = 7) {a b m e : Nat} : ∀ c ∈ ((O.map ofCt ++ [z]).take a ++ ((O.map ofCt ++ [z]).drop b).take m ++ (O.map ofCt ++ [z]).drop e), c.length = 7 := by
 intro c hc
 have h1 : c ∈ O.map ofCt ++ [z] := by
  rcases List.mem_append.1 hc with hc | hc
  ·rcases List.mem_append.1 hc with hc | hc
   ·exact List.mem_of_mem_take hc
   ·exact List.mem_of_mem_drop (List.mem_of_mem_take hc)
  ·exact List.mem_of_mem_drop hc
 rcases List.mem_append.1 h1 with h1 | h1
 ·obtain ⟨x, _, rfl⟩ := List.mem_map.1 h1; rfl
 rw [List.mem_singleton.1 h1]; exact hz
theorem ins_eq {O : List Ct} {z : List LV} {c : Ct} {i k : Nat} (hO : O.length = i) (hk : k ≤ i) (hp : posC O c O.length = k) :
  ((O.map ofCt ++ [z]).take (0 + (k + 1)) ++ ((O.map ofCt ++ [z]).drop (0 + k)).take (i - k) ++ (O.map ofCt ++ [z]).drop (0 + (k + 1) + (i - k))).set (0 + k) (ofCt c) = (insC O c).map ofCt := by
 simp only [Nat.zero_add]
 rw [ins_copy (O.map ofCt) z (ofCt c) (by rw [List.length_map]; omega) (by rw [List.length_map]; omega)]
 simp [insC, hp, List.map_take, List.map_drop]
set_option maxRecDepth 20000 in
theorem d_cert_Sort {l : List Ct} (hl : ∀ c ∈ l, Pb c.p) (hn : l.length ≤ 1000000) : Does Tryz.prog 45 [.one (cts l)] (.one (cts ((sortC l)))) := by
 refine does_ (n := 55) Tryz.func45 rfl Tryz.ntmps45 rfl ?_
 refine ac_seq (ac_reg ?_)
 refine w_ (p_assign rfl rfl) ?_
 refine aw_nil ?_
 refine ac_seq (ac_reg ?_)
 refine w_ (p_assign rfl rfl) ?_
 refine aw_nil ?_
 refine ac_seq (ac_seq (ac_reg ?_))
 refine w_ (p_move rfl rfl) ?_
 refine w_ (p_len (m := l.length) Tryz.runUnderlying65 rfl (rlen_cts _) rfl) ?_
 refine w_ (p_move rfl rfl) ?_
 refine aw_nil ?_
 refine ac_block ?_
 refine ac_ownNil [3] 73 7 rfl (allAre1 rfl) rfl ?_
 refine ac_pick [3, 7, 8, 9] rfl ?_
 refine ac_loop (fun m L B => ∃ i r, i ≤ l.length ∧ m = l.length - i ∧ L = [(3, .one (.orow r 7 0 i)), (7, .one (cts l)), (8, .one (.int .i64 (((l.length : Nat) : Int)))), (9, .one (.int .i64 (((i : Nat) : Int))))] ∧ B = [.row r 73 7 ((sortC (l.take i)).map ofCt)]) (m := _) ⟨0, none, Nat.zero_le _, rfl, rfl, rfl⟩ ?_
 rintro m L B ⟨i, r, hp0, hm, rfl, rfl⟩
 by_cases hlt : i < l.length
 ·obtain ⟨c, hc⟩ : ∃ c, l[i]? = some c := ⟨_, List.getElem?_eq_getElem hlt⟩
  have hO : (sortC (l.take i)).length = i := by rw [sortC_len, List.length_take]; omega
  have hcp := hl c (List.mem_of_getElem? hc)
  refine ac_seq (ac_reg ?_)
  refine w_ (p_cmp rfl rfl rfl rfl) ?_
  refine aw_nil ?_
  refine ac_seq ?_
  refine ac_t rfl (decide_eq_true (by omega)) ?_
  refine ac_skip ?_
  refine ac_seq (ac_block (ac_seq (ac_reg ?_)))
  refine w_ (p_index (i) Tryz.runUnderlying65 Tryz.sizeOf73 rfl rfl (rfl) (map_get hc) rfl rfl) ?_
  refine w_ (p_loadSh Tryz.isAgg73 Tryz.sizeOf73 rfl rfl rfl rfl) ?_
  refine a_alloc Tryz.zeroValue73 rfl rfl fun g1 => ?_
  refine a_storeOw 0 Tryz.sizeOf73 rfl rfl rfl rfl rfl rfl rfl ?_
  refine aw_nil ?_
  refine ac_seq (ac_reg ?_)
  refine w_ (p_move rfl rfl) ?_
  refine w_ (p_len (m := i) Tryz.runUnderlying65 rfl (rfl) rfl) ?_
  refine w_ (p_assign rfl rfl) ?_
  refine aw_nil ?_
  refine ac_cut (fun L B => ∃ k, k ≤ i ∧ posC (sortC (l.take i)) c (sortC (l.take i)).length = k ∧ L = [(3, .one (.orow r 7 0 i)), (5, .one (.ow g1 0)), (7, .one (cts l)), (8, .one (.int .i64 (((l.length : Nat) : Int)))), (9, .one (.int .i64 (((i : Nat) : Int)))), (6, .one (.int .i64 (((k : Nat) : Int))))] ∧ B = [.blk g1 73 [.int .i64 c.kind, .int .i64 c.i0, .int .i64 c.i1, .int .i64 c.i2, .int .i64 c.i3, pl c.p, .int .i64 c.want], .row r 73 7 ((sortC (l.take i)).map ofCt)]) ?_ ?_
  ·skip
   refine ac_block ?_
   refine ac_pick [3, 5, 7, 8, 9, 6] rfl ?_
   refine ac_loop (fun m L B => ∃ k, k ≤ i ∧ posC (sortC (l.take i)) c k = posC (sortC (l.take i)) c (sortC (l.take i)).length ∧ m = k ∧ L = [(3, .one (.orow r 7 0 i)), (5, .one (.ow g1 0)), (7, .one (cts l)), (8, .one (.int .i64 (((l.length : Nat) : Int)))), (9, .one (.int .i64 (((i : Nat) : Int)))), (6, .one (.int .i64 (((k : Nat) : Int))))] ∧ B = [.blk g1 73 [.int .i64 c.kind, .int .i64 c.i0, .int .i64 c.i1, .int .i64 c.i2, .int .i64 c.i3, pl c.p, .int .i64 c.want], .row r 73 7 ((sortC (l.take i)).map ofCt)]) (m := _) ⟨i, Nat.le_refl _, by rw [hO], rfl, rfl, rfl⟩ ?_
   rintro m L B ⟨k, hq0, hq1, hm, rfl, rfl⟩
   rcases Nat.eq_zero_or_pos k with h0 | h0
   ·have hpos : posC (sortC (l.take i)) c (sortC (l.take i)).length = k := by rw [← hq1, h0]; rfl
    refine ac_seq (ac_seq ?_)
    refine ac_draw mixed_ 11 [15, 16, 17, 18, 19, 20, 21, 22, 23, 24, 25] [[], [0], [1], [2], [2, 3], [2], [2], [2, 6], [2, 5, 7], [2, 8], [2, 9]] [.one (.int .i64 (((k : Nat) : Int))), .one (.bool ((decide (0 < (((k : Nat) : Int)))))), .one (.bool ((decide (0 < (((k : Nat) : Int)))))), .un, .un, .un, .un, .un, .un, .un, .un] rfl rfl rfl ⟨p_move rfl rfl, p_cmp rfl rfl rfl rfl, p_move rfl rfl, p_gskip rfl rfl (decide_eq_false (by omega)) rfl, p_gskip rfl rfl (decide_eq_false (by omega)) rfl, p_gskip rfl rfl (decide_eq_false (by omega)) rfl, p_gskip rfl rfl (decide_eq_false (by omega)) rfl, p_gskip rfl rfl (decide_eq_false (by omega)) rfl, p_gskip rfl rfl (decide_eq_false (by omega)) rfl, p_gskip rfl rfl (decide_eq_false (by omega)) rfl, p_gskip rfl rfl (decide_eq_false (by omega)) rfl, trivial⟩ rfl ?_
    refine w_ (p_gskip rfl rfl (decide_eq_false (by omega)) rfl) ?_
    refine w_ (p_pickF rfl (decide_eq_false (by omega)) rfl rfl) ?_
    refine aw_nil ?_
    refine ac_f rfl (rfl) ?_
    refine ac_pick [3, 5, 7, 8, 9, 6] rfl ?_
    refine ac_exit ?_
    repeat refine seqQ_exit ?_
    refine blkQ_here ?_
    exact ⟨k, hq0, hpos, rfl, rfl⟩
   obtain ⟨x, hx⟩ : ∃ x, (sortC (l.take i))[k - 1]? = some x := ⟨_, List.getElem?_eq_getElem (by omega)⟩
   cases hls : lessC c x
   ·have hpos : posC (sortC (l.take i)) c (sortC (l.take i)).length = k := by rw [← hq1, posC_off' h0 hx hls]
    refine ac_seq (ac_seq ?_)
    refine ac_draw mixed_ 11 [15, 16, 17, 18, 19, 20, 21, 22, 23, 24, 25] [[], [0], [1], [2], [2, 3], [2], [2], [2, 6], [2, 5, 7], [2, 8], [2, 9]] [.one (.int .i64 (((k : Nat) : Int))), .one (.bool ((decide (0 < (((k : Nat) : Int)))))), .one (.bool ((decide (0 < (((k : Nat) : Int)))))), .one (.ow g1 0), .agg [.int .i64 c.kind, .int .i64 c.i0, .int .i64 c.i1, .int .i64 c.i2, .int .i64 c.i3], .one (.orow r 7 0 i), .one (.int .i64 (((k : Nat) : Int))), .one (.int .i64 (((k - 1 : Nat) : Int))), .one (.oel r 7 ((0 + (k - 1))) 0), .one (.oel r 7 ((0 + (k - 1))) 0), .agg [.int .i64 x.kind, .int .i64 x.i0, .int .i64 x.i1, .int .i64 x.i2, .int .i64 x.i3]] rfl rfl rfl ⟨p_move rfl rfl, p_cmp rfl rfl rfl rfl, p_move rfl rfl, (p_grun rfl rfl (decide_eq_true (by omega)) (p_fieldOw fa_73_0 rfl rfl)), (p_grun rfl rfl (decide_eq_true (by omega)) (p_loadOw 0 Tryz.isAgg71 Tryz.sizeOf71 rfl rfl rfl rfl rfl)), (p_grun rfl rfl (decide_eq_true (by omega)) (p_move rfl rfl)), (p_grun rfl rfl (decide_eq_true (by omega)) (p_move rfl rfl)), (p_grun rfl rfl (decide_eq_true (by omega)) (p_sub (r := ((k - 1 : Nat) : Int)) rfl rfl (i64_is (by omega) (by omega)) rfl)), (p_grun rfl rfl (decide_eq_true (by omega)) (p_indexO (k - 1) Tryz.runUnderlying65 Tryz.sizeOf73 rfl rfl (rfl) (by omega) rfl)), (p_grun rfl rfl (decide_eq_true (by omega)) (p_fieldO fa_73_0 rfl rfl)), (p_grun rfl rfl (decide_eq_true (by omega)) (p_loadO 1 Tryz.isAgg71 Tryz.sizeOf71 rfl rfl (by rw [Nat.zero_add]; exact map_get hx) rfl rfl rfl)), trivial⟩ rfl ?_
    refine w_ ((p_grun rfl rfl (decide_eq_true (by omega)) (p_call Tryz.func72 rfl rfl rfl rfl (d_cert_Less) rfl))) ?_
    refine w_ (p_pickT rfl (decide_eq_true (by omega)) rfl rfl) ?_
    refine aw_nil ?_
    refine ac_f rfl (hls) ?_
    refine ac_pick [3, 5, 7, 8, 9, 6] rfl ?_
    refine ac_exit ?_
    repeat refine seqQ_exit ?_
    refine blkQ_here ?_
    exact ⟨k, hq0, hpos, rfl, rfl⟩
   skip
   refine ac_seq (ac_seq ?_)
   refine ac_draw mixed_ 11 [15, 16, 17, 18, 19, 20, 21, 22, 23, 24, 25] [[], [0], [1], [2], [2, 3], [2], [2], [2, 6], [2, 5, 7], [2, 8], [2, 9]] [.one (.int .i64 (((k : Nat) : Int))), .one (.bool ((decide (0 < (((k : Nat) : Int)))))), .one (.bool ((decide (0 < (((k : Nat) : Int)))))), .one (.ow g1 0), .agg [.int .i64 c.kind, .int .i64 c.i0, .int .i64 c.i1, .int .i64 c.i2, .int .i64 c.i3], .one (.orow r 7 0 i), .one (.int .i64 (((k : Nat) : Int))), .one (.int .i64 (((k - 1 : Nat) : Int))), .one (.oel r 7 ((0 + (k - 1))) 0), .one (.oel r 7 ((0 + (k - 1))) 0), .agg [.int .i64 x.kind, .int .i64 x.i0, .int .i64 x.i1, .int .i64 x.i2, .int .i64 x.i3]] rfl rfl rfl ⟨p_move rfl rfl, p_cmp rfl rfl rfl rfl, p_move rfl rfl, (p_grun rfl rfl (decide_eq_true (by omega)) (p_fieldOw fa_73_0 rfl rfl)), (p_grun rfl rfl (decide_eq_true (by omega)) (p_loadOw 0 Tryz.isAgg71 Tryz.sizeOf71 rfl rfl rfl rfl rfl)), (p_grun rfl rfl (decide_eq_true (by omega)) (p_move rfl rfl)), (p_grun rfl rfl (decide_eq_true (by omega)) (p_move rfl rfl)), (p_grun rfl rfl (decide_eq_true (by omega)) (p_sub (r := ((k - 1 : Nat) : Int)) rfl rfl (i64_is (by omega) (by omega)) rfl)), (p_grun rfl rfl (decide_eq_true (by omega)) (p_indexO (k - 1) Tryz.runUnderlying65 Tryz.sizeOf73 rfl rfl (rfl) (by omega) rfl)), (p_grun rfl rfl (decide_eq_true (by omega)) (p_fieldO fa_73_0 rfl rfl)), (p_grun rfl rfl (decide_eq_true (by omega)) (p_loadO 1 Tryz.isAgg71 Tryz.sizeOf71 rfl rfl (by rw [Nat.zero_add]; exact map_get hx) rfl rfl rfl)), trivial⟩ rfl ?_
   refine w_ ((p_grun rfl rfl (decide_eq_true (by omega)) (p_call Tryz.func72 rfl rfl rfl rfl (d_cert_Less) rfl))) ?_
   refine w_ (p_pickT rfl (decide_eq_true (by omega)) rfl rfl) ?_
   refine aw_nil ?_
   refine ac_t rfl (hls) ?_
   refine ac_skip ?_
   refine ac_block (ac_reg ?_)
   refine w_ (p_move rfl rfl) ?_
   refine w_ (p_sub (r := ((k - 1 : Nat) : Int)) rfl rfl (i64_is (by omega) (by omega)) rfl) ?_
   refine w_ (p_assign rfl rfl) ?_
   refine aw_pick [3, 5, 7, 8, 9, 6] rfl ?_
   refine aw_nil ?_
   refine ⟨_, ?_, k - 1, by omega, by rw [← hq1, posC_on' h0 hx hls], rfl, rfl, rfl⟩
   omega
  rintro L B ⟨k, hp0, hp1, rfl, rfl⟩
  skip
  skip
  refine ac_seq (ac_reg ?_)
  refine w_ (p_move rfl rfl) ?_
  refine w_ (p_build (bd_73) rfl rfl rfl rfl) ?_
  refine w_ (p_lit Tryz.runUnderlying65 Tryz.sizeOf73 Tryz.zeroValue73 rfl rfl rfl rfl rfl rfl rfl rfl rfl rfl) ?_
  refine a_append (ls2 := ((sortC (l.take i)).map ofCt ++ [zCt])) (m2 := i + 1) 1 Tryz.runUnderlying65 Tryz.runUnderlying65 Tryz.typeInfo73 rfl rfl Tryz.sizeOf73 Tryz.zeroValue73 rfl rfl rfl rfl rfl rfl rfl (by rw [List.length_map]; omega) (one_w rfl) (one_f rfl) (by show _ + 1 < _; omega) (by rw [List.take_of_length_le (by rw [List.length_map]; omega)]) (rfl) fun r2 => ?_
  refine w_ (p_assign rfl rfl) ?_
  refine aw_nil ?_
  refine ac_seq ?_
  refine ac_draw mixed_ 7 [34, 35, 36, 37, 38, 39, 40] [[], [], [1], [0, 2], [], [], [4, 5]] [.one (.orow r2 7 0 (i + 1)), .one (.int .i64 (((k : Nat) : Int))), .one (.int .i64 (((k + 1 : Nat) : Int))), .one (.orow r2 7 ((0 + (k + 1))) (((i + 1) - (k + 1)))), .one (.orow r2 7 0 (i + 1)), .one (.int .i64 (((k : Nat) : Int))), .one (.orow r2 7 ((0 + k)) (((i + 1) - k)))] rfl rfl rfl ⟨p_move rfl rfl, p_move rfl rfl, p_add (r := ((k + 1 : Nat) : Int)) rfl rfl (i64_is (by omega) (by omega)) rfl, p_sliceOLo (k + 1) Tryz.runUnderlying65 Tryz.sizeOf73 rfl rfl (rfl) (by omega) rfl, p_move rfl rfl, p_move rfl rfl, p_sliceOLo (k) Tryz.runUnderlying65 Tryz.sizeOf73 rfl rfl (rfl) (by omega) rfl, trivial⟩ rfl ?_
  refine a_copyO (m' := i - k) (ls2 := (((sortC (l.take i)).map ofCt ++ [zCt]).take (0 + (k + 1)) ++ (((sortC (l.take i)).map ofCt ++ [zCt]).drop (0 + k)).take (i - k) ++ ((sortC (l.take i)).map ofCt ++ [zCt]).drop (0 + (k + 1) + (i - k)))) 0 Tryz.runUnderlying65 Tryz.sizeOf73 rfl rfl rfl rfl (by simp; omega) (by simp; omega) (by simp) (by show min _ _ = _; omega) (rfl) rfl ?_
  refine aw_nil ?_
  refine ac_draw mixed_ 10 [42, 43, 44, 45, 46, 47, 48, 49, 50, 51] [[], [], [], [2], [], [4], [5], [], [7], [3, 6, 8]] [.one (.orow r2 7 0 (i + 1)), .one (.int .i64 (((k : Nat) : Int))), .one (.ow g1 0), .agg [.int .i64 c.kind, .int .i64 c.i0, .int .i64 c.i1, .int .i64 c.i2, .int .i64 c.i3], .one (.ow g1 5), .one (pl c.p), .one (pl c.p), .one (.ow g1 6), .one (.int .i64 c.want), .agg [.int .i64 c.kind, .int .i64 c.i0, .int .i64 c.i1, .int .i64 c.i2, .int .i64 c.i3, pl c.p, .int .i64 c.want]] rfl rfl rfl ⟨p_move rfl rfl, p_move rfl rfl, p_fieldOw fa_73_0 rfl rfl, p_loadOw 1 Tryz.isAgg71 Tryz.sizeOf71 rfl rfl rfl rfl rfl, p_fieldOw fa_73_1 rfl rfl, p_loadOw 1 Tryz.isAgg27 Tryz.sizeOf27 rfl rfl rfl rfl rfl, p_call Tryz.func33 rfl rfl rfl rfl (d_poly_NormT hcp.t (Nat.lt_of_le_of_lt hcp.l (by decide)) (bd_mono hcp.b (by omega))) rfl, p_fieldOw fa_73_2 rfl rfl, p_loadOw 1 Tryz.isAgg3 Tryz.sizeOf3 rfl rfl rfl rfl rfl, p_build (bd_73) rfl rfl rfl rfl, trivial⟩ rfl ?_
  refine w_ (p_indexO (k) Tryz.runUnderlying65 Tryz.sizeOf73 rfl rfl (rfl) (by omega) rfl) ?_
  obtain ⟨z0, z1, z2, z3, z4, z5, z6, hz⟩ := seven (k := 0 + k) (ins_w (O := (sortC (l.take i))) (z := zCt) (a := 0 + (k + 1)) (b := 0 + k) (m := i - k) (e := 0 + (k + 1) + (i - k)) rfl) (by simp; omega)
  refine a_storeO (ls2 := ((insC (sortC (l.take i)) c).map ofCt)) 0 Tryz.sizeOf73 rfl rfl rfl rfl rfl rfl (hz) rfl (ins_eq hO hp0 hp1) ?_
  refine aw_nil ?_
  refine ac_reg ?_
  refine w_ (p_add (r := ((i + 1 : Nat) : Int)) rfl rfl (i64_is (by omega) (by omega)) rfl) ?_
  refine w_ (p_move rfl rfl) ?_
  refine aw_rowEq 0 rfl (by rw [← sortC_take hc]) ?_
  refine aw_pick [3, 7, 8, 9] rfl ?_
  refine aw_drop 1 rfl ?_
  refine aw_nil ?_
  refine ⟨_, ?_, i + 1, r2, by omega, rfl, rfl, rfl⟩
  omega
 have hO : (sortC (l.take i)).length = i := by rw [sortC_len, List.length_take]; omega
 have hi : l.take i = l := List.take_of_length_le (by omega)
 refine ac_seq (ac_reg ?_)
 refine w_ (p_cmp rfl rfl rfl rfl) ?_
 refine aw_nil ?_
 refine ac_seq ?_
 refine ac_f rfl (decide_eq_false (by omega)) ?_
 refine ac_exit ?_
 repeat refine seqQ_exit ?_
 refine blkQ_here ?_
 refine ac_seq (ac_reg ?_)
 refine w_ (p_move rfl rfl) ?_
 refine w_ (p_assign rfl rfl) ?_
 refine aw_nil ?_
 refine ac_pub 0 [2] rfl (allAre1 rfl) (by rw [List.length_map, hO]) (by rw [List.length_map, hO]; omega) rfl ?_
 refine ac_ret ?_
 exact retB_1 Tryz.results45 (rv_tmp rfl rfl) (by rw [hi]; rfl)
end Orr

namespace Orr
open Go Go.Proofs
theorem d_alg_LeastQ {q : Rat} (hq : Qs 1073741823 q) : Does Tryz.prog 18 [.one (.row [[pl ([-q.num, (q.den : Int)]), sg q.num, mg q.num, sg ((q.den : Int)), mg ((q.den : Int)), sg q.num, mg q.num, sg ((q.den : Int)), mg ((q.den : Int))]])] (.tup [.agg [pl ([-q.num, (q.den : Int)]), sg q.num, mg q.num, sg ((q.den : Int)), mg ((q.den : Int)), sg q.num, mg q.num, sg ((q.den : Int)), mg ((q.den : Int))], .one (.bool true)]) := by
 refine does_ (n := 29) Tryz.func18 rfl Tryz.ntmps18 rfl ?_
 refine ac_seq (ac_reg ?_)
 refine a_alloc Tryz.zeroValue44 rfl rfl fun g1 => ?_
 refine w_ (p_assign rfl rfl) ?_
 refine aw_nil ?_
 refine ac_seq (ac_seq (ac_reg ?_))
 refine w_ (p_move rfl rfl) ?_
 refine w_ (p_len (m := 1) Tryz.runUnderlying68 rfl (rfl) rfl) ?_
 refine w_ (p_cmp (b := false) rfl rfl rfl rfl) ?_
 refine aw_nil ?_
 refine ac_f rfl (rfl) ?_
 refine ac_skip ?_
 refine ac_seq (ac_reg ?_)
 refine w_ (p_move rfl rfl) ?_
 refine w_ (p_index (0) Tryz.runUnderlying68 Tryz.sizeOf44 rfl rfl rfl rfl rfl rfl) ?_
 refine w_ (p_loadSh Tryz.isAgg44 Tryz.sizeOf44 rfl rfl rfl rfl) ?_
 refine a_alloc Tryz.zeroValue44 rfl rfl fun g2 => ?_
 refine a_storeOw 0 Tryz.sizeOf44 rfl rfl rfl rfl rfl rfl rfl ?_
 refine aw_nil ?_
 refine ac_seq (ac_seq (ac_reg ?_))
 refine w_ (p_move rfl rfl) ?_
 refine w_ (p_sliceLo 1 Tryz.runUnderlying68 Tryz.sizeOf44 rfl rfl rfl (Nat.le_refl 1) (one_w rfl) (l' := []) rfl rfl) ?_
 refine w_ (p_len (m := 0) Tryz.runUnderlying68 rfl (rfl) rfl) ?_
 refine w_ (p_move rfl rfl) ?_
 refine aw_nil ?_
 refine ac_block ?_
 refine ac_rounds 1 ?_
 refine ac_round ?_
 refine ac_seq (ac_reg ?_)
 refine w_ (p_cmp (b := false) rfl rfl rfl rfl) ?_
 refine aw_nil ?_
 refine ac_seq ?_
 refine ac_f rfl (rfl) ?_
 refine ac_exit ?_
 repeat refine seqQ_exit ?_
 refine blkQ_here ?_
 refine ac_seq (ac_reg ?_)
 refine w_ (p_loadOw 0 Tryz.isAgg44 Tryz.sizeOf44 rfl rfl rfl rfl rfl) ?_
 refine w_ (p_call Tryz.func32 rfl rfl rfl rfl (d_alg_freshQ (hq.mono (by omega))) rfl) ?_
 refine a_storeOw 1 Tryz.sizeOf44 rfl rfl rfl rfl rfl rfl rfl ?_
 refine w_ (p_assign rfl rfl) ?_
 refine aw_nil ?_
 refine ac_ret ?_
 exact retB_2 Tryz.results18 (rv_cell 1 Tryz.isAgg44 Tryz.sizeOf44 rfl rfl rfl rfl rfl) (rv_tmp rfl rfl) (rfl)
abbrev ofW (c : Ct) : List LV := [.int .i64 c.kind, .int .i64 c.i0, .int .i64 c.i1, .int .i64 c.i2, .int .i64 c.i3, pl c.p, .int .i64 c.want, .bool false, .bool false, .row [], .bool false, .row [], .bool false, .row [], .bool false, .row [], .bool false, .row []]
def wts (l : List Ct) : LV := .row (l.map ofW)
theorem rlen_wts (l : List Ct) : rlen (wts l) = some l.length := by simp [rlen, wts]
theorem d_kin_Now {g T : Nat} {ys : List LV} {ev : Int} {q : Rat} {ws : List Ct} (hq : Qs 1073741823 q) : DoesB Tryz.prog 30 [.one (.ow g 0)] [.blk g T ((.bool true) :: (pl ([-q.num, (q.den : Int)])) :: (sg q.num) :: (mg q.num) :: (sg ((q.den : Int))) :: (mg ((q.den : Int))) :: (sg q.num) :: (mg q.num) :: (sg ((q.den : Int))) :: (mg ((q.den : Int))) :: (wts ws) :: (.int .i64 ev) :: ys)] fun r B => r = .agg [pl ([-q.num, (q.den : Int)]), sg q.num, mg q.num, sg ((q.den : Int)), mg ((q.den : Int)), sg q.num, mg q.num, sg ((q.den : Int)), mg ((q.den : Int))] ∧ B = [.blk g T ((.bool true) :: (pl ([-q.num, (q.den : Int)])) :: (sg q.num) :: (mg q.num) :: (sg ((q.den : Int))) :: (mg ((q.den : Int))) :: (sg q.num) :: (mg q.num) :: (sg ((q.den : Int))) :: (mg ((q.den : Int))) :: (wts ws) :: (.int .i64 ev) :: ys)] := by
 refine does_ (n := 23) Tryz.func30 rfl Tryz.ntmps30 rfl ?_
 refine ac_seq (ac_reg ?_)
 refine a_alloc Tryz.zeroValue44 rfl rfl fun g1 => ?_
 refine aw_nil ?_
 refine ac_seq (ac_seq (ac_reg ?_))
 refine w_ (p_move rfl rfl) ?_
 refine w_ (p_nilCheck rfl rfl rfl) ?_
 refine w_ (p_fieldOw fa_49_0 rfl rfl) ?_
 refine w_ (p_loadOw 1 Tryz.isAgg4 Tryz.sizeOf4 rfl rfl rfl rfl rfl) ?_
 refine w_ (p_not rfl rfl) ?_
 refine aw_nil ?_
 refine ac_f rfl (rfl) ?_
 refine ac_skip ?_
 refine ac_seq (ac_reg ?_)
 refine w_ (p_move rfl rfl) ?_
 refine w_ (p_nilCheck rfl rfl rfl) ?_
 refine w_ (p_fieldOw fa_49_1 rfl rfl) ?_
 refine w_ (p_loadOw 1 Tryz.isAgg44 Tryz.sizeOf44 rfl rfl rfl rfl rfl) ?_
 refine w_ (p_lit Tryz.runUnderlying68 Tryz.sizeOf44 Tryz.zeroValue44 rfl rfl rfl rfl rfl rfl rfl rfl rfl rfl) ?_
 refine w_ (p_call Tryz.func18 rfl rfl rfl rfl (d_alg_LeastQ (hq)) rfl) ?_
 refine w_ (p_move rfl rfl) ?_
 refine w_ (p_extract rfl rfl rfl) ?_
 refine w_ (p_extract rfl rfl rfl) ?_
 refine a_alloc Tryz.zeroValue44 rfl rfl fun g2 => ?_
 refine a_storeOw 0 Tryz.sizeOf44 rfl rfl rfl rfl rfl rfl rfl ?_
 refine w_ (p_assign rfl rfl) ?_
 refine aw_nil ?_
 refine ac_seq (ac_reg ?_)
 refine w_ (p_loadOw 0 Tryz.isAgg44 Tryz.sizeOf44 rfl rfl rfl rfl rfl) ?_
 refine a_storeOw 1 Tryz.sizeOf44 rfl rfl rfl rfl rfl rfl rfl ?_
 refine aw_nil ?_
 refine ac_ret ?_
 exact ⟨_, [0, 0], _, rvs_1 Tryz.results30 (rv_cell 1 Tryz.isAgg44 Tryz.sizeOf44 rfl rfl rfl rfl rfl), rfl, ⟨rfl, rfl⟩⟩
set_option maxRecDepth 20000 in
theorem d_kin_kept {g T : Nat} {ys : List LV} {ev : Int} {n0 n1 n2 n3 n4 n5 n6 n7 n8 : LV} {b : Bool} {ws : List Ct} {x : Ct} {q : Rat} (hn : ws.length ≤ 1000000) : DoesB Tryz.prog 46 [.one (.ow g 0), .agg [.int .i64 x.kind, .int .i64 x.i0, .int .i64 x.i1, .int .i64 x.i2, .int .i64 x.i3, pl x.p, .int .i64 x.want], .agg [pl ([-q.num, (q.den : Int)]), sg q.num, mg q.num, sg ((q.den : Int)), mg ((q.den : Int)), sg q.num, mg q.num, sg ((q.den : Int)), mg ((q.den : Int))]] [.blk g T ((.bool b) :: n0 :: n1 :: n2 :: n3 :: n4 :: n5 :: n6 :: n7 :: n8 :: (wts ws) :: (.int .i64 ev) :: ys)] fun r B => r = .agg [.int .i64 x.kind, .int .i64 x.i0, .int .i64 x.i1, .int .i64 x.i2, .int .i64 x.i3, pl x.p, .int .i64 x.want, .bool false, .bool false, .row ([]), .bool false, .row ([]), .bool false, .row ([]), .bool false, .row ([]), .bool false, .row ([])] ∧ B = [.blk g T ((.bool b) :: n0 :: n1 :: n2 :: n3 :: n4 :: n5 :: n6 :: n7 :: n8 :: (wts ws) :: (.int .i64 ev) :: ys)] := by
 refine does_ (n := 57) Tryz.func46 rfl Tryz.ntmps46 rfl ?_
 refine ac_seq (ac_reg ?_)
 refine w_ (p_boxS rfl rfl rfl rfl) ?_
 refine w_ (p_boxS rfl rfl rfl rfl) ?_
 refine a_alloc Tryz.zeroValue75 rfl rfl fun g1 => ?_
 refine aw_nil ?_
 refine ac_seq (ac_seq (ac_reg ?_))
 refine w_ (p_move rfl rfl) ?_
 refine w_ (p_nilCheck rfl rfl rfl) ?_
 refine w_ (p_fieldOw fa_49_2 rfl rfl) ?_
 refine w_ (p_loadOw 1 Tryz.isAgg47 Tryz.sizeOf47 rfl rfl rfl rfl rfl) ?_
 refine w_ (p_len (m := ws.length) Tryz.runUnderlying47 rfl (rlen_wts _) rfl) ?_
 refine w_ (p_move rfl rfl) ?_
 refine aw_nil ?_
 refine ac_block ?_
 refine ac_pick [4, 5, 6, 12, 13, 14] rfl ?_
 refine ac_loop (fun m L B => ∃ i, i ≤ ws.length ∧ m = ws.length - i ∧ L = [(4, .one (.sh [.int .i64 x.kind, .int .i64 x.i0, .int .i64 x.i1, .int .i64 x.i2, .int .i64 x.i3, pl x.p, .int .i64 x.want])), (5, .one (.sh [pl ([-q.num, (q.den : Int)]), sg q.num, mg q.num, sg ((q.den : Int)), mg ((q.den : Int)), sg q.num, mg q.num, sg ((q.den : Int)), mg ((q.den : Int))])), (6, .one (.ow g1 0)), (12, .one (wts ws)), (13, .one (.int .i64 (((ws.length : Nat) : Int)))), (14, .one (.int .i64 (((i : Nat) : Int))))] ∧ B = [.blk g1 75 [.int .i64 0, .int .i64 0, .int .i64 0, .int .i64 0, .int .i64 0, .nils, .int .i64 0, .bool false, .bool false, .nils, .bool false, .nils, .bool false, .nils, .bool false, .nils, .bool false, .nils], .blk g T ((.bool b) :: n0 :: n1 :: n2 :: n3 :: n4 :: n5 :: n6 :: n7 :: n8 :: (wts ws) :: (.int .i64 ev) :: ys)]) (m := _) ⟨0, Nat.zero_le _, rfl, rfl, rfl⟩ ?_
 rintro m L B ⟨i, hp0, hm, rfl, rfl⟩
 by_cases hlt : i < ws.length
 ·obtain ⟨w, hw⟩ : ∃ w, ws[i]? = some w := ⟨_, List.getElem?_eq_getElem hlt⟩
  by_cases ht : ([w.kind, w.i0, w.i1, w.i2, w.i3] : List Int) = [x.kind, x.i0, x.i1, x.i2, x.i3]
  ·skip
   refine ac_seq (ac_reg ?_)
   refine w_ (p_cmp rfl rfl rfl rfl) ?_
   refine aw_nil ?_
   refine ac_seq ?_
   refine ac_t rfl (decide_eq_true (by omega)) ?_
   refine ac_skip ?_
   refine ac_seq (ac_block (ac_seq (ac_reg ?_)))
   refine w_ (p_index (i) Tryz.runUnderlying47 Tryz.sizeOf75 rfl rfl (rfl) (map_get hw) rfl rfl) ?_
   refine w_ (p_loadSh Tryz.isAgg75 Tryz.sizeOf75 rfl rfl rfl rfl) ?_
   refine a_alloc Tryz.zeroValue75 rfl rfl fun g2 => ?_
   refine a_storeOw 0 Tryz.sizeOf75 rfl rfl rfl rfl rfl rfl rfl ?_
   refine aw_nil ?_
   refine ac_seq (ac_seq (ac_reg ?_))
   refine w_ (p_fieldOw fa_75_0 rfl rfl) ?_
   refine w_ (p_fieldOw fa_73_0 rfl rfl) ?_
   refine w_ (p_loadOw 0 Tryz.isAgg71 Tryz.sizeOf71 rfl rfl rfl rfl rfl) ?_
   refine w_ (p_fieldSh fa_73_0 rfl rfl rfl) ?_
   refine w_ (p_loadSh Tryz.isAgg71 Tryz.sizeOf71 rfl rfl rfl rfl) ?_
   refine w_ (p_neV (r := (!decide (([w.kind, w.i0, w.i1, w.i2, w.i3] : List Int) = [x.kind, x.i0, x.i1, x.i2, x.i3]))) [w.kind, w.i0, w.i1, w.i2, w.i3] [x.kind, x.i0, x.i1, x.i2, x.i3] Tryz.eqGuardType71 (eqT_71 _ _ rfl rfl) rfl rfl rfl rfl (rfl) rfl) ?_
   refine w_ (p_move rfl rfl) ?_
   refine w_ ((p_grun rfl rfl (by rw [decide_eq_true ht] <;> rfl) (p_fieldOw fa_75_1 rfl rfl))) ?_
   refine w_ ((p_grun rfl rfl (by rw [decide_eq_true ht] <;> rfl) (p_loadOw 0 Tryz.isAgg4 Tryz.sizeOf4 rfl rfl rfl rfl rfl))) ?_
   refine w_ ((p_grun rfl rfl (by rw [decide_eq_true ht] <;> rfl) (p_not rfl rfl))) ?_
   refine w_ (p_pickF rfl (by rw [decide_eq_true ht] <;> rfl) rfl rfl) ?_
   refine w_ (p_move rfl rfl) ?_
   refine w_ (p_gskip rfl rfl (rfl) rfl) ?_
   refine w_ (p_gskip rfl rfl (rfl) rfl) ?_
   refine w_ (p_gskip rfl rfl (rfl) rfl) ?_
   refine w_ (p_gskip rfl rfl (rfl) rfl) ?_
   refine w_ (p_gskip rfl rfl (rfl) rfl) ?_
   refine w_ (p_gskip rfl rfl (rfl) rfl) ?_
   refine w_ (p_gskip rfl rfl (rfl) rfl) ?_
   refine w_ (p_pickT rfl (rfl) rfl rfl) ?_
   refine aw_nil ?_
   refine ac_t rfl (rfl) ?_
   refine ac_exit ?_
   repeat refine seqQ_exit ?_
   refine blkQ_here ?_
   refine ac_reg ?_
   refine w_ (p_add (r := ((i + 1 : Nat) : Int)) rfl rfl (i64_is (by omega) (by omega)) rfl) ?_
   refine w_ (p_move rfl rfl) ?_
   refine aw_pick [4, 5, 6, 12, 13, 14] rfl ?_
   refine aw_drop 0 rfl ?_
   refine aw_nil ?_
   refine ⟨_, ?_, i + 1, by omega, rfl, rfl, rfl⟩
   omega
  skip
  refine ac_seq (ac_reg ?_)
  refine w_ (p_cmp rfl rfl rfl rfl) ?_
  refine aw_nil ?_
  refine ac_seq ?_
  refine ac_t rfl (decide_eq_true (by omega)) ?_
  refine ac_skip ?_
  refine ac_seq (ac_block (ac_seq (ac_reg ?_)))
  refine w_ (p_index (i) Tryz.runUnderlying47 Tryz.sizeOf75 rfl rfl (rfl) (map_get hw) rfl rfl) ?_
  refine w_ (p_loadSh Tryz.isAgg75 Tryz.sizeOf75 rfl rfl rfl rfl) ?_
  refine a_alloc Tryz.zeroValue75 rfl rfl fun g3 => ?_
  refine a_storeOw 0 Tryz.sizeOf75 rfl rfl rfl rfl rfl rfl rfl ?_
  refine aw_nil ?_
  refine ac_seq (ac_seq (ac_reg ?_))
  refine w_ (p_fieldOw fa_75_0 rfl rfl) ?_
  refine w_ (p_fieldOw fa_73_0 rfl rfl) ?_
  refine w_ (p_loadOw 0 Tryz.isAgg71 Tryz.sizeOf71 rfl rfl rfl rfl rfl) ?_
  refine w_ (p_fieldSh fa_73_0 rfl rfl rfl) ?_
  refine w_ (p_loadSh Tryz.isAgg71 Tryz.sizeOf71 rfl rfl rfl rfl) ?_
  refine w_ (p_neV (r := (!decide (([w.kind, w.i0, w.i1, w.i2, w.i3] : List Int) = [x.kind, x.i0, x.i1, x.i2, x.i3]))) [w.kind, w.i0, w.i1, w.i2, w.i3] [x.kind, x.i0, x.i1, x.i2, x.i3] Tryz.eqGuardType71 (eqT_71 _ _ rfl rfl) rfl rfl rfl rfl (rfl) rfl) ?_
  refine w_ (p_move rfl rfl) ?_
  refine w_ (p_gskip rfl rfl (by rw [decide_eq_false ht] <;> rfl) rfl) ?_
  refine w_ (p_gskip rfl rfl (by rw [decide_eq_false ht] <;> rfl) rfl) ?_
  refine w_ (p_gskip rfl rfl (by rw [decide_eq_false ht] <;> rfl) rfl) ?_
  refine w_ (p_pickT rfl (by rw [decide_eq_false ht] <;> rfl) rfl rfl) ?_
  refine w_ (p_move rfl rfl) ?_
  refine w_ (p_gskip rfl rfl (rfl) rfl) ?_
  refine w_ (p_gskip rfl rfl (rfl) rfl) ?_
  refine w_ (p_gskip rfl rfl (rfl) rfl) ?_
  refine w_ (p_gskip rfl rfl (rfl) rfl) ?_
  refine w_ (p_gskip rfl rfl (rfl) rfl) ?_
  refine w_ (p_gskip rfl rfl (rfl) rfl) ?_
  refine w_ (p_gskip rfl rfl (rfl) rfl) ?_
  refine w_ (p_pickT rfl (rfl) rfl rfl) ?_
  refine aw_nil ?_
  refine ac_t rfl (rfl) ?_
  refine ac_exit ?_
  repeat refine seqQ_exit ?_
  refine blkQ_here ?_
  refine ac_reg ?_
  refine w_ (p_add (r := ((i + 1 : Nat) : Int)) rfl rfl (i64_is (by omega) (by omega)) rfl) ?_
  refine w_ (p_move rfl rfl) ?_
  refine aw_pick [4, 5, 6, 12, 13, 14] rfl ?_
  refine aw_drop 0 rfl ?_
  refine aw_nil ?_
  refine ⟨_, ?_, i + 1, by omega, rfl, rfl, rfl⟩
  omega
 skip
 refine ac_seq (ac_reg ?_)
 refine w_ (p_cmp rfl rfl rfl rfl) ?_
 refine aw_nil ?_
 refine ac_seq ?_
 refine ac_f rfl (decide_eq_false (by omega)) ?_
 refine ac_exit ?_
 repeat refine seqQ_exit ?_
 refine blkQ_here ?_
 refine ac_seq (ac_reg ?_)
 refine w_ (p_loadSh Tryz.isAgg73 Tryz.sizeOf73 rfl rfl rfl rfl) ?_
 refine w_ (p_build (bd_75) rfl rfl rfl rfl) ?_
 refine a_storeOw 0 Tryz.sizeOf75 rfl rfl rfl rfl rfl rfl rfl ?_
 refine aw_nil ?_
 refine ac_ret ?_
 exact ⟨_, [0], _, rvs_1 Tryz.results46 (rv_cell 0 Tryz.isAgg75 Tryz.sizeOf75 rfl rfl rfl rfl rfl), rfl, ⟨rfl, rfl⟩⟩
set_option maxRecDepth 20000 in
theorem d_kin_lay {g T : Nat} {ys : List LV} {ev : Int} {n0 n1 n2 n3 n4 n5 n6 n7 n8 : LV} {b later : Bool} {ws l : List Ct} {q : Rat} (hn : ws.length ≤ 1000000) (hl : ∀ c ∈ l, Pb c.p) (hm : l.length ≤ 1000000) (hq : Qs 1073741823 q) : DoesB Tryz.prog 25 [.one (.ow g 0), .agg [pl ([-q.num, (q.den : Int)]), sg q.num, mg q.num, sg ((q.den : Int)), mg ((q.den : Int)), sg q.num, mg q.num, sg ((q.den : Int)), mg ((q.den : Int))], .one (.bool later), .one (cts l)] [.blk g T ((.bool b) :: n0 :: n1 :: n2 :: n3 :: n4 :: n5 :: n6 :: n7 :: n8 :: (wts ws) :: (.int .i64 ev) :: ys)] fun r B => r = .tup [] ∧ B = [.blk g T ((.bool true) :: (pl ([-q.num, (q.den : Int)])) :: (sg q.num) :: (mg q.num) :: (sg ((q.den : Int))) :: (mg ((q.den : Int))) :: (sg q.num) :: (mg q.num) :: (sg ((q.den : Int))) :: (mg ((q.den : Int))) :: (wts ((sortC l))) :: (.int .i64 ev) :: ys)] := by
 refine does_ (n := 47) Tryz.func25 rfl Tryz.ntmps25 rfl ?_
 refine ac_seq (ac_reg ?_)
 refine w_ (p_boxS rfl rfl rfl rfl) ?_
 refine aw_nil ?_
 refine ac_seq (ac_reg ?_)
 refine w_ (p_assign rfl rfl) ?_
 refine aw_nil ?_
 refine ac_seq (ac_seq (ac_reg ?_))
 refine w_ (p_move rfl rfl) ?_
 refine w_ (p_call Tryz.func45 rfl rfl rfl rfl (d_cert_Sort (hl) (hm)) rfl) ?_
 refine w_ (p_len (m := ((sortC l)).length) Tryz.runUnderlying65 rfl (rlen_cts _) rfl) ?_
 refine w_ (p_move rfl rfl) ?_
 refine aw_nil ?_
 refine ac_block ?_
 refine ac_ownNil [8] 75 18 rfl (allAre1 rfl) rfl ?_
 refine ac_pick [0, 2, 5, 8, 13, 14, 15] rfl ?_
 refine ac_loop (fun m L B => ∃ i r, i ≤ (sortC l).length ∧ m = (sortC l).length - i ∧ L = [(0, .one (.ow g 0)), (2, .one (.bool later)), (5, .one (.sh [pl ([-q.num, (q.den : Int)]), sg q.num, mg q.num, sg ((q.den : Int)), mg ((q.den : Int)), sg q.num, mg q.num, sg ((q.den : Int)), mg ((q.den : Int))])), (8, .one (.orow r 18 0 i)), (13, .one (cts ((sortC l)))), (14, .one (.int .i64 (((((sortC l)).length : Nat) : Int)))), (15, .one (.int .i64 (((i : Nat) : Int))))] ∧ B = [.row r 75 18 (((sortC l).take i).map ofW), .blk g T ((.bool b) :: n0 :: n1 :: n2 :: n3 :: n4 :: n5 :: n6 :: n7 :: n8 :: (wts ws) :: (.int .i64 ev) :: ys)]) (m := _) ⟨0, none, Nat.zero_le _, rfl, rfl, rfl⟩ ?_
 rintro m L B ⟨i, r, hp0, hm, rfl, rfl⟩
 by_cases hlt : i < (sortC l).length
 ·obtain ⟨c, hc⟩ : ∃ c, (sortC l)[i]? = some c := ⟨_, List.getElem?_eq_getElem hlt⟩
  have hsl := sortC_len l
  refine ac_seq (ac_reg ?_)
  refine w_ (p_cmp rfl rfl rfl rfl) ?_
  refine aw_nil ?_
  refine ac_seq ?_
  refine ac_t rfl (decide_eq_true (by omega)) ?_
  refine ac_skip ?_
  refine ac_seq (ac_block (ac_seq (ac_reg ?_)))
  refine w_ (p_index (i) Tryz.runUnderlying65 Tryz.sizeOf73 rfl rfl (rfl) (map_get hc) rfl rfl) ?_
  refine w_ (p_loadSh Tryz.isAgg73 Tryz.sizeOf73 rfl rfl rfl rfl) ?_
  refine a_alloc Tryz.zeroValue73 rfl rfl fun g1 => ?_
  refine a_storeOw 0 Tryz.sizeOf73 rfl rfl rfl rfl rfl rfl rfl ?_
  refine aw_nil ?_
  refine ac_seq (ac_reg ?_)
  refine w_ (p_loadOw 0 Tryz.isAgg73 Tryz.sizeOf73 rfl rfl rfl rfl rfl) ?_
  refine w_ (p_build (bd_75) rfl rfl rfl rfl) ?_
  refine a_alloc Tryz.zeroValue75 rfl rfl fun g2 => ?_
  refine a_storeOw 0 Tryz.sizeOf75 rfl rfl rfl rfl rfl rfl rfl ?_
  refine aw_nil ?_
  refine ac_seq (ac_seq (ac_reg ?_))
  refine w_ (p_move rfl rfl) ?_
  refine aw_nil ?_
  refine ac_cond rfl (fun hb_if2 => ?_) (fun hb_if2 => ?_)
  ·try simp only [decide_eq_true_eq, decide_eq_false_iff_not, Bool.not_eq_true', Bool.not_eq_false'] at hb_if2
   refine ac_reg ?_
   refine w_ (p_move rfl rfl) ?_
   refine w_ (p_loadOw 1 Tryz.isAgg73 Tryz.sizeOf73 rfl rfl rfl rfl rfl) ?_
   refine w_ (p_loadSh Tryz.isAgg44 Tryz.sizeOf44 rfl rfl rfl rfl) ?_
   refine aw_front 3 rfl ?_
   refine a_calls (Bin := [.blk g T ((.bool b) :: n0 :: n1 :: n2 :: n3 :: n4 :: n5 :: n6 :: n7 :: n8 :: (wts ws) :: (.int .i64 ev) :: ys)]) Tryz.func46 rfl rfl rfl rfl (d_kin_kept (by omega)) rfl fun r_ B_ hr_ => ?_
   obtain ⟨rfl, rfl⟩ := hr_
   refine a_storeOw 1 Tryz.sizeOf75 rfl rfl rfl rfl rfl rfl rfl ?_
   refine aw_nil ?_
   refine ac_reg ?_
   refine w_ (p_move rfl rfl) ?_
   refine aw_blk (ys := [.int .i64 c.kind, .int .i64 c.i0, .int .i64 c.i1, .int .i64 c.i2, .int .i64 c.i3, pl c.p, .int .i64 c.want, .bool false, .bool false, .row ([]), .bool false, .row ([]), .bool false, .row ([]), .bool false, .row ([]), .bool false, .row ([])]) 1 rfl rfl rfl ?_
   refine w_ (p_loadOw 0 Tryz.isAgg75 Tryz.sizeOf75 rfl rfl rfl rfl rfl) ?_
   refine w_ (p_lit Tryz.runUnderlying47 Tryz.sizeOf75 Tryz.zeroValue75 rfl rfl rfl rfl rfl rfl rfl rfl rfl rfl) ?_
   refine a_append (ls2 := (((sortC l).take (i + 1)).map ofW)) (m2 := i + 1) 3 Tryz.runUnderlying47 Tryz.runUnderlying47 Tryz.typeInfo75 rfl rfl Tryz.sizeOf75 Tryz.zeroValue75 rfl rfl rfl rfl rfl rfl rfl (by rw [List.length_map, List.length_take]; omega) (one_w rfl) (one_f rfl) (by show _ + 1 < _; omega) (by rw [List.take_of_length_le (by rw [List.length_map, List.length_take]; omega), List.take_succ, hc, List.map_append]; rfl) (rfl) fun r3 => ?_
   refine w_ (p_assign rfl rfl) ?_
   refine aw_nil ?_
   refine ac_reg ?_
   refine w_ (p_add (r := ((i + 1 : Nat) : Int)) rfl rfl (i64_is (by omega) (by omega)) rfl) ?_
   refine w_ (p_move rfl rfl) ?_
   refine aw_pick [0, 2, 5, 8, 13, 14, 15] rfl ?_
   refine aw_drop 1 rfl ?_
   refine aw_drop 2 rfl ?_
   refine aw_nil ?_
   refine ⟨_, ?_, i + 1, r3, by omega, rfl, rfl, rfl⟩
   omega
  try simp only [decide_eq_true_eq, decide_eq_false_iff_not, Bool.not_eq_true', Bool.not_eq_false'] at hb_if2
  refine ac_skip ?_
  refine ac_reg ?_
  refine w_ (p_move rfl rfl) ?_
  refine aw_blk (ys := [.int .i64 c.kind, .int .i64 c.i0, .int .i64 c.i1, .int .i64 c.i2, .int .i64 c.i3, pl c.p, .int .i64 c.want, .bool false, .bool false, .row ([]), .bool false, .row ([]), .bool false, .row ([]), .bool false, .row ([]), .bool false, .row ([])]) 0 rfl rfl rfl ?_
  refine w_ (p_loadOw 0 Tryz.isAgg75 Tryz.sizeOf75 rfl rfl rfl rfl rfl) ?_
  refine w_ (p_lit Tryz.runUnderlying47 Tryz.sizeOf75 Tryz.zeroValue75 rfl rfl rfl rfl rfl rfl rfl rfl rfl rfl) ?_
  refine a_append (ls2 := (((sortC l).take (i + 1)).map ofW)) (m2 := i + 1) 2 Tryz.runUnderlying47 Tryz.runUnderlying47 Tryz.typeInfo75 rfl rfl Tryz.sizeOf75 Tryz.zeroValue75 rfl rfl rfl rfl rfl rfl rfl (by rw [List.length_map, List.length_take]; omega) (one_w rfl) (one_f rfl) (by show _ + 1 < _; omega) (by rw [List.take_of_length_le (by rw [List.length_map, List.length_take]; omega), List.take_succ, hc, List.map_append]; rfl) (rfl) fun r4 => ?_
  refine w_ (p_assign rfl rfl) ?_
  refine aw_nil ?_
  refine ac_reg ?_
  refine w_ (p_add (r := ((i + 1 : Nat) : Int)) rfl rfl (i64_is (by omega) (by omega)) rfl) ?_
  refine w_ (p_move rfl rfl) ?_
  refine aw_pick [0, 2, 5, 8, 13, 14, 15] rfl ?_
  refine aw_drop 1 rfl ?_
  refine aw_drop 1 rfl ?_
  refine aw_nil ?_
  refine ⟨_, ?_, i + 1, r4, by omega, rfl, rfl, rfl⟩
  omega
 have hsl := sortC_len l
 have hi : (sortC l).take i = sortC l := List.take_of_length_le (by omega)
 refine ac_pub (L2 := _) 0 [8] rfl (allAre1 rfl) (by rw [List.length_map, hi]; omega) (by rw [List.length_map, hi]; omega) rfl ?_
 refine ac_slotEq 8 (y := .one (wts (sortC l))) rfl (by rw [hi]; rfl) ?_
 refine ac_seq (ac_reg ?_)
 refine w_ (p_cmp rfl rfl rfl rfl) ?_
 refine aw_nil ?_
 refine ac_seq ?_
 refine ac_f rfl (decide_eq_false (by omega)) ?_
 refine ac_exit ?_
 repeat refine seqQ_exit ?_
 refine blkQ_here ?_
 refine ac_seq (ac_reg ?_)
 refine w_ (p_move rfl rfl) ?_
 refine w_ (p_loadSh Tryz.isAgg44 Tryz.sizeOf44 rfl rfl rfl rfl) ?_
 refine w_ (p_lit Tryz.runUnderlying68 Tryz.sizeOf44 Tryz.zeroValue44 rfl rfl rfl rfl rfl rfl rfl rfl rfl rfl) ?_
 refine w_ (p_call Tryz.func18 rfl rfl rfl rfl (d_alg_LeastQ (hq)) rfl) ?_
 refine w_ (p_move rfl rfl) ?_
 refine w_ (p_extract rfl rfl rfl) ?_
 refine w_ (p_extract rfl rfl rfl) ?_
 refine w_ (p_nilCheck rfl rfl rfl) ?_
 refine w_ (p_fieldOw fa_49_1 rfl rfl) ?_
 refine a_storeOw 0 Tryz.sizeOf44 rfl rfl rfl rfl rfl rfl rfl ?_
 refine aw_nil ?_
 refine ac_reg ?_
 refine w_ (p_move rfl rfl) ?_
 refine w_ (p_move rfl rfl) ?_
 refine w_ (p_move rfl rfl) ?_
 refine w_ (p_nilCheck rfl rfl rfl) ?_
 refine w_ (p_fieldOw fa_49_0 rfl rfl) ?_
 refine a_storeOw 0 Tryz.sizeOf4 rfl rfl rfl rfl rfl rfl rfl ?_
 refine w_ (p_nilCheck rfl rfl rfl) ?_
 refine w_ (p_fieldOw fa_49_2 rfl rfl) ?_
 refine a_storeOw 0 Tryz.sizeOf47 rfl rfl rfl rfl rfl rfl rfl ?_
 refine aw_nil ?_
 -- end
 exact ⟨_, [], _, rvs_0 Tryz.results25 , rfl, ⟨rfl, rfl⟩⟩
set_option maxRecDepth 20000 in
theorem d_kin_BeginF {g T : Nat} {ys : List LV} {ev : Int} {n0 n1 n2 n3 n4 n5 n6 n7 n8 : LV} {ws l : List Ct} {q : Rat} (hn : ws.length ≤ 1000000) (hl : ∀ c ∈ l, Pb c.p) (hm : l.length ≤ 1000000) (hq : Qs 1073741823 q) : DoesB Tryz.prog 15 [.one (.ow g 0), .agg [pl ([-q.num, (q.den : Int)]), sg q.num, mg q.num, sg ((q.den : Int)), mg ((q.den : Int)), sg q.num, mg q.num, sg ((q.den : Int)), mg ((q.den : Int))], .one (cts l)] [.blk g T ((.bool false) :: n0 :: n1 :: n2 :: n3 :: n4 :: n5 :: n6 :: n7 :: n8 :: (wts ws) :: (.int .i64 ev) :: ys)] fun r B => r = .tup [] ∧ B = [.blk g T ((.bool true) :: (pl ([-q.num, (q.den : Int)])) :: (sg q.num) :: (mg q.num) :: (sg ((q.den : Int))) :: (mg ((q.den : Int))) :: (sg q.num) :: (mg q.num) :: (sg ((q.den : Int))) :: (mg ((q.den : Int))) :: (wts ((sortC l))) :: (.int .i64 ev) :: ys)] := by
 refine does_ (n := 23) Tryz.func15 rfl Tryz.ntmps15 rfl ?_
 refine ac_seq (ac_reg ?_)
 refine w_ (p_boxS rfl rfl rfl rfl) ?_
 refine aw_nil ?_
 refine ac_draw mixed_ 16 [6, 7, 8, 9, 10, 11, 12, 13, 14, 15, 16, 17, 18, 19, 20, 21] [[], [], [], [2], [3], [4], [5], [6], [6], [6, 8], [6, 9], [6, 10], [6, 7, 11], [6, 12], [6, 13], []] [.one (.ow g 0), .agg [pl ([-q.num, (q.den : Int)]), sg q.num, mg q.num, sg ((q.den : Int)), mg ((q.den : Int)), sg q.num, mg q.num, sg ((q.den : Int)), mg ((q.den : Int))], .one (.ow g 0), .one (.ow g 0), .one (.ow g 0), .one (.bool false), .one (.bool false), .un, .un, .un, .un, .un, .un, .un, .one (.bool false), .one (cts l)] rfl rfl rfl ⟨p_move rfl rfl, p_loadSh Tryz.isAgg44 Tryz.sizeOf44 rfl rfl rfl rfl, p_move rfl rfl, p_nilCheck rfl rfl rfl, p_fieldOw fa_49_0 rfl rfl, p_loadOw 0 Tryz.isAgg4 Tryz.sizeOf4 rfl rfl rfl rfl rfl, p_move rfl rfl, p_gskip rfl rfl (rfl) rfl, p_gskip rfl rfl (rfl) rfl, p_gskip rfl rfl (rfl) rfl, p_gskip rfl rfl (rfl) rfl, p_gskip rfl rfl (rfl) rfl, p_gskip rfl rfl (rfl) rfl, p_gskip rfl rfl (rfl) rfl, p_pickF rfl (rfl) rfl rfl, p_move rfl rfl, trivial⟩ rfl ?_
 refine a_calls (Bin := [.blk g T ((.bool false) :: n0 :: n1 :: n2 :: n3 :: n4 :: n5 :: n6 :: n7 :: n8 :: (wts ws) :: (.int .i64 ev) :: ys)]) Tryz.func25 rfl rfl rfl rfl (d_kin_lay hn hl hm hq) rfl fun r_ B_ hr_ => ?_
 obtain ⟨rfl, rfl⟩ := hr_
 refine aw_nil ?_
 -- end
 exact ⟨_, [], _, rvs_0 Tryz.results15 , rfl, ⟨rfl, rfl⟩⟩
end Orr

namespace Orr
end Orr

namespace Orr
open Go Go.Proofs
theorem snoc_map {α β : Type} (f : α → β) (l : List α) (x : α) : l.map f ++ [f x] = (l ++ [x]).map f := by simp
abbrev GoodP (l : List Pt) : Prop := ∀ a ∈ l, Nml a.c ∧ Cb a.c
theorem newL_mem : ∀ (qs acc : List Pt) {p : Pt}, p ∈ (newL acc qs).1 → p ∈ qs ∨ p ∈ acc
 | [], acc, p, h => .inr h
 | q :: qs, acc, p, h => by
  simp only [newL] at h
  split at h
  ·rcases newL_mem qs _ h with h | h
   ·exact .inl (List.mem_cons_of_mem _ h)
   ·rcases put_mem h with rfl | h
    ·exact .inl (List.mem_cons_self ..)
    ·exact .inr h
  ·cases h
theorem qs_0 : Qs 1 (ratOf 0 0) := by
 unfold ratOf
 exact Qs.divInt (by decide) (by decide) (by decide)
theorem good_still {x y : Int} (hx : -9223372036854775808 ≤ x ∧ x ≤ 9223372036854775807) (hy : -9223372036854775808 ≤ y ∧ y ≤ 9223372036854775807) : Nml (still x y) ∧ Cb (still x y) :=
 ⟨Crv.nml _, ((cs_still hx hy).norm (by decide)).mono (by omega) (by omega)⟩
theorem tmod_neg {v n : Int} (hn : 0 < n) (h : v.tmod n < 0) : v.tmod n + n = v % n := by
 have h1 := Int.tmod_eq_emod (a := v) (b := n)
 have h2 := Int.emod_nonneg v (b := n) (by omega)
 have h3 := Int.emod_lt_of_pos v hn
 rw [h1] at h ⊢
 split at h <;> split <;> omega
theorem tmod_pos {v n : Int} (hn : 0 < n) (h : ¬ v.tmod n < 0) : v.tmod n = v % n := by
 have h1 := Int.tmod_eq_emod (a := v) (b := n)
 have h2 := Int.emod_nonneg v (b := n) (by omega)
 have h3 := Int.emod_lt_of_pos v hn
 rw [h1] at h ⊢
 split at h <;> split <;> omega
theorem d_keep_Within {v n : Int} (hv : -9223372036854775808 ≤ v ∧ v ≤ 9223372036854775807) (hn : 0 < n ∧ n ≤ 1000000) : Does Tryz.prog 4 [.one (.int .i64 v), .one (.int .i64 n)] (.one (.int .i64 ((v % n)))) := by
 refine does_ (n := 17) Tryz.func4 rfl Tryz.ntmps4 rfl ?_
 have hlt := Int.tmod_lt_of_pos v hn.1
 have hgt : -n < v.tmod n := by have := Int.tmod_eq_emod (a := v) (b := n); have := Int.emod_nonneg v (b := n) (by omega); have := Int.emod_lt_of_pos v hn.1; split at * <;> omega
 by_cases h0 : v.tmod n < 0
 ·skip
  refine ac_seq (ac_reg ?_)
  refine w_ (p_assign rfl rfl) ?_
  refine aw_nil ?_
  refine ac_seq (ac_seq (ac_reg ?_))
  refine w_ (p_move rfl rfl) ?_
  refine w_ (p_cmp rfl rfl rfl rfl) ?_
  refine aw_nil ?_
  refine ac_f rfl (decide_eq_false (by omega)) ?_
  refine ac_skip ?_
  refine ac_seq (ac_reg ?_)
  refine w_ (p_move rfl rfl) ?_
  refine w_ (p_move rfl rfl) ?_
  refine w_ (p_rem (r := (v.tmod n)) rfl rfl (by omega) (rfl) rfl) ?_
  refine w_ (p_assign rfl rfl) ?_
  refine aw_nil ?_
  refine ac_seq (ac_seq (ac_reg ?_))
  refine w_ (p_move rfl rfl) ?_
  refine w_ (p_cmp rfl rfl rfl rfl) ?_
  refine aw_nil ?_
  refine ac_t rfl (decide_eq_true h0) ?_
  refine ac_reg ?_
  refine w_ (p_move rfl rfl) ?_
  refine w_ (p_move rfl rfl) ?_
  refine w_ (p_add (r := (v % n)) rfl rfl (by rw [tmod_neg hn.1 h0]; exact wrap64_of (by have := Int.emod_nonneg v (b := n) (by omega); omega) (by have := Int.emod_lt_of_pos v hn.1; omega)) rfl) ?_
  refine w_ (p_assign rfl rfl) ?_
  refine aw_nil ?_
  refine ac_seq (ac_reg ?_)
  refine w_ (p_move rfl rfl) ?_
  refine w_ (p_assign rfl rfl) ?_
  refine aw_nil ?_
  refine ac_ret ?_
  exact retB_1 Tryz.results4 (rv_tmp rfl rfl) (rfl)
 skip
 refine ac_seq (ac_reg ?_)
 refine w_ (p_assign rfl rfl) ?_
 refine aw_nil ?_
 refine ac_seq (ac_seq (ac_reg ?_))
 refine w_ (p_move rfl rfl) ?_
 refine w_ (p_cmp rfl rfl rfl rfl) ?_
 refine aw_nil ?_
 refine ac_f rfl (decide_eq_false (by omega)) ?_
 refine ac_skip ?_
 refine ac_seq (ac_reg ?_)
 refine w_ (p_move rfl rfl) ?_
 refine w_ (p_move rfl rfl) ?_
 refine w_ (p_rem (r := (v.tmod n)) rfl rfl (by omega) (rfl) rfl) ?_
 refine w_ (p_assign rfl rfl) ?_
 refine aw_nil ?_
 refine ac_seq (ac_seq (ac_reg ?_))
 refine w_ (p_move rfl rfl) ?_
 refine w_ (p_cmp rfl rfl rfl rfl) ?_
 refine aw_nil ?_
 refine ac_f rfl (decide_eq_false h0) ?_
 refine ac_skip ?_
 refine ac_seq (ac_reg ?_)
 refine w_ (p_move rfl rfl) ?_
 refine w_ (p_assign rfl rfl) ?_
 refine aw_nil ?_
 refine ac_ret ?_
 exact retB_1 Tryz.results4 (rv_tmp rfl rfl) (by rw [tmod_pos hn.1 h0])
end Orr

namespace Orr
theorem take_snoc {α : Type} {l : List α} {i : Nat} {x : α} (h : l[i]? = some x) : l.take (i + 1) = l.take i ++ [x] := by rw [List.take_succ, h]; rfl
def pairsK : Nat → List Pt → List (Pt × Pt)
  | 0, _ => []
  | _ + 1, [] => []
  | k + 1, x :: l => l.map (fun y => (x, y)) ++ pairsK k l
def pairsOf (l : List Pt) : List (Pt × Pt) := pairsK l.length l
theorem pairsK_next : ∀ (l : List Pt) (i : Nat) (x : Pt), l[i]? = some x → pairsK (i + 1) l = pairsK i l ++ (l.drop (i + 1)).map (fun y => (x, y))
  | [], i, x, h => by simp at h
  | y :: l, 0, x, h => by
    simp at h; subst h
    simp [pairsK]
  | y :: l, i + 1, x, h => by
    have h : l[i]? = some x := by simpa using h
    have ih := pairsK_next l i x h
    show l.map (fun z => (y, z)) ++ pairsK (i + 1) l = (l.map (fun z => (y, z)) ++ pairsK i l) ++ _
    rw [ih, List.append_assoc]
    rfl
theorem pairsK_mem : ∀ (k : Nat) (l : List Pt), ∀ m ∈ pairsK k l, m.1 ∈ l ∧ m.2 ∈ l
  | 0, l, m, h => by simp [pairsK] at h
  | k + 1, [], m, h => by simp [pairsK] at h
  | k + 1, x :: l, m, h => by
    rcases List.mem_append.1 h with h | h
    · obtain ⟨y, hy, rfl⟩ := List.mem_map.1 h
      exact ⟨List.mem_cons_self .., List.mem_cons_of_mem _ hy⟩
    · obtain ⟨h1, h2⟩ := pairsK_mem k l m h
      exact ⟨List.mem_cons_of_mem _ h1, List.mem_cons_of_mem _ h2⟩
theorem pairsK_len : ∀ (k : Nat) (l : List Pt), (pairsK k l).length ≤ k * l.length
  | 0, l => by simp [pairsK]
  | k + 1, [] => by simp [pairsK]
  | k + 1, x :: l => by
    have := pairsK_len k l
    simp only [pairsK, List.length_append, List.length_map, List.length_cons]
    have e : (k + 1) * (l.length + 1) = k * l.length + k + l.length + 1 := by rw [Nat.add_mul, Nat.mul_add]; omega
    omega
def other (s m : Pt × Pt) : Bool := decide (m.1.id ≠ s.1.id) || decide (m.2.id ≠ s.2.id)
end Orr

namespace Orr
def mats (M : List (List (List Int))) : LV := .row (M.map fun r => [pls r])
theorem rlen_mats (M : List (List (List Int))) : rlen (mats M) = some M.length := by simp [rlen, mats]
def minor0 (i : Nat) (M : List (List (List Int))) : List (List (List Int)) := (M.eraseIdx i).map (·.drop 1)
theorem erase_ne {α : Type} {l : List α} {i : Nat} {x : α} (h : l.length ≠ i) : (l ++ [x]).eraseIdx i = l.eraseIdx i ++ [x] := by
  rcases Nat.lt_or_ge i l.length with h1 | h1
  · exact List.eraseIdx_append_of_lt_length h1 _
  · rw [List.eraseIdx_append_of_length_le h1, List.eraseIdx_of_length_le h1, List.eraseIdx_of_length_le]
    simp; omega
theorem erase_eq {α : Type} {l : List α} {i : Nat} {x : α} (h : l.length = i) : (l ++ [x]).eraseIdx i = l.eraseIdx i := by
  rw [List.eraseIdx_append_of_length_le (by omega), List.eraseIdx_of_length_le (by omega : l.length ≤ i), ← h]
  simp
theorem minor_ne {M : List (List (List Int))} {i k : Nat} {r : List (List Int)} (h : M[k]? = some r) (hk : k ≠ i) : minor0 i (M.take (k + 1)) = minor0 i (M.take k) ++ [r.drop 1] := by
  have hl : (M.take k).length = k := by rw [List.length_take]; have := (List.getElem?_eq_some_iff.1 h).1; omega
  unfold minor0
  rw [take_snoc h, erase_ne (by omega), List.map_append]; rfl
theorem minor_eq {M : List (List (List Int))} {i : Nat} {r : List (List Int)} (h : M[i]? = some r) : minor0 i (M.take (i + 1)) = minor0 i (M.take i) := by
  have hl : (M.take i).length = i := by rw [List.length_take]; have := (List.getElem?_eq_some_iff.1 h).1; omega
  unfold minor0
  rw [take_snoc h, erase_eq hl]
def detK (f : List (List (List Int)) → List Int) (M : List (List (List Int))) : Nat → List Int
  | 0 => []
  | i + 1 => if ((M.getD i []).getD 0 []).length = 0 then detK f M i else if i % 2 = 0 then padd (detK f M i) (pmul ((M.getD i []).getD 0 []) (f (minor0 i M))) else psub (detK f M i) (pmul ((M.getD i []).getD 0 []) (f (minor0 i M)))
def det : Nat → List (List (List Int)) → List Int
  | 0, _ => [1]
  | n + 1, M => detK (det n) M (n + 1)
def RowB : List (Nat × Nat) → List (List Int) → Prop
  | [], [] => True
  | (l, b) :: cs, p :: r => (Trim p ∧ p.length ≤ l ∧ Bd b p) ∧ RowB cs r
  | _, _ => False
theorem RowB.len : ∀ {cs : List (Nat × Nat)} {r : List (List Int)}, RowB cs r → r.length = cs.length
  | [], [], _ => rfl
  | _ :: _, _ :: _, h => by simp [RowB.len h.2]
  | [], _ :: _, h => h.elim
  | _ :: _, [], h => h.elim
theorem RowB.get : ∀ {cs : List (Nat × Nat)} {r : List (List Int)}, RowB cs r → ∀ p ∈ r, Trim p ∧ ∃ c ∈ cs, p.length ≤ c.1 ∧ Bd c.2 p
  | [], [], _, p, hp => by cases hp
  | (l, b) :: cs, q :: r, h, p, hp => by
    rcases List.mem_cons.1 hp with rfl | hp
    · exact ⟨h.1.1, (l, b), List.mem_cons_self .., h.1.2⟩
    · obtain ⟨h1, c, hc, h2⟩ := RowB.get h.2 p hp
      exact ⟨h1, c, List.mem_cons_of_mem _ hc, h2⟩
  | [], _ :: _, h, _, _ => h.elim
  | _ :: _, [], h, _, _ => h.elim
def lsum : List (Nat × Nat) → Nat
  | [] => 0
  | c :: cs => c.1 + lsum cs
def bsum : List (Nat × Nat) → Nat
  | [] => 0
  | c :: cs => c.2 + bsum cs
def ColsOk (cs : List (Nat × Nat)) : Prop := ∀ c ∈ cs, 1 ≤ c.1 ∧ c.1 ≤ 31
theorem lsum_ge : ∀ {cs : List (Nat × Nat)}, ColsOk cs → cs.length ≤ lsum cs
  | [], _ => Nat.le_refl _
  | c :: cs, h => by
    have h1 := h c (List.mem_cons_self ..)
    have h2 := lsum_ge (cs := cs) fun x hx => h x (List.mem_cons_of_mem _ hx)
    simp only [lsum, List.length_cons]; omega
theorem bsum_le : ∀ {cs : List (Nat × Nat)} {c : Nat × Nat}, c ∈ cs → c.2 ≤ bsum cs
  | x :: cs, c, h => by
    rcases List.mem_cons.1 h with rfl | h
    · simp only [bsum]; omega
    · have := bsum_le h; simp only [bsum]; omega
theorem minor_rows {c : Nat × Nat} {cs : List (Nat × Nat)} {M : List (List (List Int))} (h : ∀ r ∈ M, RowB (c :: cs) r) (i : Nat) : ∀ r ∈ minor0 i M, RowB cs r := by
  intro r hr
  obtain ⟨s, hs, rfl⟩ := List.mem_map.1 hr
  have hs := h s (List.mem_of_mem_eraseIdx hs)
  match s, hs with
  | p :: s, hs => exact hs.2
theorem minor_len {i : Nat} {M : List (List (List Int))} (h : i < M.length) : (minor0 i M).length = M.length - 1 := by
  unfold minor0; rw [List.length_map, List.length_eraseIdx, if_pos h]
theorem head_of {c : Nat × Nat} {cs : List (Nat × Nat)} {M : List (List (List Int))} (h : ∀ r ∈ M, RowB (c :: cs) r) {i : Nat} {r : List (List Int)} (hr : M[i]? = some r) :
    ∃ p, r[0]? = some p ∧ (M.getD i []).getD 0 [] = p ∧ Trim p ∧ p.length ≤ c.1 ∧ Bd c.2 p := by
  have hb := h r (List.mem_of_getElem? hr)
  match r, hb, hr with
  | p :: r, hb, hr =>
    refine ⟨p, rfl, ?_, hb.1⟩
    have e : M.getD i [] = p :: r := by rw [List.getD_eq_getElem?_getD, hr]; rfl
    rw [e]; rfl
def DetB (cs : List (Nat × Nat)) (p : List Int) : Prop := Trim p ∧ p.length + cs.length ≤ lsum cs + 1 ∧ Bd (bsum cs + 9 * cs.length + 1) p
theorem detK_b {c : Nat × Nat} {cs : List (Nat × Nat)} {M : List (List (List Int))} {f : List (List (List Int)) → List Int} (hc : ColsOk (c :: cs)) (h : ∀ r ∈ M, RowB (c :: cs) r) (hf : ∀ i, i < M.length → DetB cs (f (minor0 i M))) :
    ∀ i, i ≤ M.length → i ≤ 4 → Trim (detK f M i) ∧ (detK f M i).length + (cs.length + 1) ≤ c.1 + lsum cs + 1 ∧ Bd (c.2 + (bsum cs + 9 * cs.length + 1) + 5 + i) (detK f M i)
  | 0, _, _ => by
    have := lsum_ge hc
    simp only [lsum, List.length_cons] at this
    exact ⟨rfl, by simp [detK]; omega, bd_nil⟩
  | i + 1, hi, h4 => by
    obtain ⟨i1, i2, i3⟩ := detK_b hc h hf i (by omega) (by omega)
    obtain ⟨t1, t2, t3⟩ := hf i (by omega)
    obtain ⟨r, hr⟩ : ∃ r, M[i]? = some r := ⟨_, List.getElem?_eq_getElem (by omega)⟩
    obtain ⟨p, _, hp, p1, p2, p3⟩ := head_of h hr
    have hc1 := hc c (List.mem_cons_self ..)
    simp only [detK]
    rw [hp]
    have m1 := len_pmul p (f (minor0 i M))
    have m2 := bd_pmul (u := 5) p3 t3 (by omega)
    split
    · exact ⟨i1, i2, bd_mono i3 (by omega)⟩
    · rename_i h0
      split
      · have := len_padd (detK f M i) (pmul p (f (minor0 i M)))
        exact ⟨each_trim _ _, by omega, bd_mono (bd_padd i3 m2) (by omega)⟩
      · have := len_psub (detK f M i) (pmul p (f (minor0 i M)))
        exact ⟨each_trim _ _, by omega, bd_mono (bd_psub i3 m2) (by omega)⟩
theorem det_b : ∀ (n : Nat) (cs : List (Nat × Nat)) (M : List (List (List Int))), cs.length = n → M.length = n → n ≤ 4 → ColsOk cs → (∀ r ∈ M, RowB cs r) → DetB cs (det n M)
  | 0, cs, M, hn, hM, h4, hc, h => by
    have : cs = [] := List.eq_nil_of_length_eq_zero hn
    subst this
    refine ⟨rfl, by simp [det, lsum], ?_⟩
    intro z hz
    simp only [det, List.mem_singleton] at hz
    subst hz
    decide
  | n + 1, [], M, hn, _, _, _, _ => by simp at hn
  | n + 1, c :: cs, M, hn, hM, h4, hc, h => by
    have hn : cs.length = n := by simpa using hn
    have hf : ∀ i, i < M.length → DetB cs (det n (minor0 i M)) := fun i hi =>
      det_b n cs (minor0 i M) hn (by rw [minor_len hi]; omega) (by omega) (fun x hx => hc x (List.mem_cons_of_mem _ hx)) (minor_rows h i)
    obtain ⟨h1, h2, h3⟩ := detK_b hc h hf (n + 1) (by omega) h4
    refine ⟨h1, ?_, ?_⟩
    · simp only [det, lsum, List.length_cons]; omega
    · simp only [det, bsum, List.length_cons]
      exact bd_mono h3 (by omega)
end Orr

namespace Orr
def mkOrder (q : Rat) (a b : Pt) : Ct := ⟨1, a.id, b.id, 0, 0, either (pright a.c b.c) (pabove a.c b.c), germAt (either (pright a.c b.c) (pabove a.c b.c)) q⟩
def orders (q : Rat) : List Pt → List Ct
  | a :: b :: l => mkOrder q a b :: orders q (b :: l)
  | _ => []
def orow3 (a : Crv) : List (List Int) := [a.x, a.y, [a.d]]
def porient (a b c : Crv) : List Int := det 3 [orow3 a, orow3 b, orow3 c]
abbrev cols3 : List (Nat × Nat) := [(16, 1048576), (16, 1048576), (1, 1048576)]
theorem trim_one {z : Int} (h : z ≠ 0) : Trim [z] := by simp [Trim, trim, h]
theorem orow3_b {a : Crv} (h : Nml a) (c : Cb a) : RowB cols3 (orow3 a) := by
  refine ⟨⟨h.1, c.lx, c.x⟩, ⟨h.2.1, c.ly, c.y⟩, ⟨trim_one (by have := h.2.2.1; omega), Nat.le_refl _, ?_⟩, trivial⟩
  intro z hz
  rw [List.mem_singleton.1 hz]; exact c.d
theorem cols3_ok : ColsOk cols3 := by
  intro c hc
  simp only [List.mem_cons, List.not_mem_nil, or_false] at hc
  rcases hc with rfl | rfl | rfl <;> decide
theorem pb_orient {a b c : Crv} (ha : Nml a) (hb : Nml b) (hc : Nml c) (ca : Cb a) (cb : Cb b) (cc : Cb c) : Pb (porient a b c) := by
  have h := det_b 3 cols3 [orow3 a, orow3 b, orow3 c] rfl rfl (by decide) cols3_ok (by
    intro r hr
    simp only [List.mem_cons, List.not_mem_nil, or_false] at hr
    rcases hr with rfl | rfl | rfl
    · exact orow3_b ha ca
    · exact orow3_b hb cb
    · exact orow3_b hc cc)
  obtain ⟨h1, h2, h3⟩ := h
  have h2 : (porient a b c).length + 3 ≤ 33 + 1 := h2
  exact ⟨h1, by omega, bd_mono h3 (by decide)⟩
def mkOrient (q : Rat) (a b c : Pt) : Ct := ⟨3, a.id, b.id, c.id, 0, porient a.c b.c c.c, germAt (porient a.c b.c c.c) q⟩
def away (a b c : Pt) : Bool := decide (c.id ≠ a.id) && decide (c.id ≠ b.id)
end Orr

namespace Orr
open Go
variable {P : Program} {ops : Array Oper} {n : Nat} {rest : List Oper} {N : Sg → List OB → Prop} {L : Sg} {B : List OB} {d : Nat} {ty : TypeId} {pos : String} {after : Array Edge}
end Orr

namespace Orr
open Go
section
variable {w : World} {O : Nat → Prop}
end
variable {P : Program} {ops : Array Oper} {n d : Nat} {rest : List Oper} {N : Sg → List OB → Prop} {L : Sg} {B : List OB} {ty : TypeId} {pos : String} {after : Array Edge}
end Orr
namespace Orr
open Go
variable {P : Program} {ops : Array Oper} {n d : Nat} {rest : List Oper} {N : Sg → List OB → Prop} {L : Sg} {B : List OB} {c : Code} {Q : Exit → Sg → List OB → Prop}
theorem SA.swap {K Ob : Nat → Prop} {w0 w : World} {a : Act} {A C : List OB} (h : SA K Ob w0 w a n L (A ++ C)) : SA K Ob w0 w a n L (C ++ A) := by
  obtain ⟨L', Bs, h1, h2, h3⟩ := h
  obtain ⟨Bi, Bq, rfl, h4, h5⟩ := bs_split h3
  have hp : (Bi ++ Bq).Perm (Bq ++ Bi) := List.perm_append_comm
  have ho : owns Ob (Bi ++ Bq) = owns Ob (Bq ++ Bi) := by
    funext b
    simp only [owns]
    rw [show (b ∈ (Bi ++ Bq).map (·.1)) = (b ∈ (Bq ++ Bi).map (·.1)) from propext ((hp.map _).mem_iff)]
  rw [ho] at h2 h4 h5
  exact ⟨L', Bq ++ Bi, h1.perm hp.symm, h2, bs_join h5 h4⟩
end Orr
namespace Orr
open Go
variable {P : Program} {ops : Array Oper} {n d : Nat} {rest : List Oper} {N : Sg → List OB → Prop} {L : Sg} {B : List OB} {c : Code} {Q : Exit → Sg → List OB → Prop}
theorem SA.slotNil {K Ob : Nat → Prop} {w0 w : World} {a : Act} (h : SA K Ob w0 w a n L B) {t : Nat} (ht : lk L t = some (.one .nils)) : SA K Ob w0 w a n ((t, .one (.row [])) :: L) B := by
  obtain ⟨L', Bs, h1, h2, h3⟩ := h
  refine ⟨L', Bs, h1, fun s x hx => ?_, h3⟩
  simp only [lk] at hx
  cases e : Nat.beq s t <;> rw [e] at hx
  · exact h2 s x hx
  · injection hx with hx
    subst hx
    rw [Nat.eq_of_beq_eq_true e]
    obtain ⟨v, hv, hr⟩ := h2 t _ ht
    exact ⟨v, hv, (nils_row (w := w) (O := owns Ob Bs) hr).x⟩
theorem ac_slotNil (t : Nat) (ht : lk L t = some (.one .nils)) (k : AC P n c Q ((t, .one (.row [])) :: L) B) : AC P n c Q L B := fun _ _ _ _ _ hs => k _ _ _ _ _ (hs.slotNil ht)
end Orr

namespace Orr
open Go
variable {P : Program} {ops : Array Oper} {n : Nat} {L : Sg} {B : List OB} {ty : TypeId} {pos : String} {after : Array Edge} {Q : Exit → Sg → List OB → Prop}
end Orr
