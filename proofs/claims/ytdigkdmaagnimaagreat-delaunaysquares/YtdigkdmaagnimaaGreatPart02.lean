/- Av3 Av4 Av5 Av6 TypesA -/
import Derived.Test.YtdigkdmaagnimaaGreatPart01
import Derived.Test.YtdigkdmaagnimaaGreatPart00
set_option linter.all false

namespace Orr
open Go
variable {P : Program} {ops : Array Oper} {n : Nat} {rest : List Oper} {N : Sg → List OB → Prop} {L : Sg} {B : List OB}
variable {d : Nat} {ty : TypeId} {pos : String} {after : Array Edge}
theorem p_val {op : Op} {u : AV} (hd : Nat.blt d n = true)
    (hrun : ∀ (K Ob : Nat → Prop) (w0 w : World) (a : Act) (Bs : List Blk) (L' : List (Nat × Value)) (Fs : List Fact), St K Ob w0 w a n L' Fs Bs → (∀ t x, lk L t = some x → ∃ v, look L' t = some v ∧ ARep w (owns Ob Bs) v x) → BsRep w (owns Ob Bs) B Bs →
      ∃ v, (execOp a.eval { dst := some d, op := op, type := ty, pos := pos, after := after, guard := none }).run P w = .ok (.value v) w ∧ ARep w (owns Ob Bs) v u) :
    AP P ops n { dst := some d, op := op, type := ty, pos := pos, after := after, guard := none } d u L B := by
  intro K Ob w0 w a Bs L' Fs h hL hB
  obtain ⟨v, h1, h2⟩ := hrun K Ob w0 w a Bs L' Fs h hL hB
  exact st_val h hd h1 fun a' h' => wpList_nil ⟨rfl, v, h', h2⟩
theorem foldl_upd (off : Nat) : ∀ (vs : List Value) (k : Nat) (cells : List Value), off + k + vs.length ≤ cells.length →
    (vs.zipIdx k).foldl (fun (cs : Array Value) (p : Value × Nat) => cs.setIfInBounds (off + p.2) p.1) cells.toArray = (upd cells (off + k) vs).toArray
  | [], k, cells, _ => by cases cells <;> simp [upd]
  | v :: vs, k, cells, h => by
    simp at h
    have ih := foldl_upd off vs (k + 1) (cells.set (off + k) v) (by simp; omega)
    simp only [List.zipIdx_cons, List.foldl_cons, List.setIfInBounds_toArray]
    rw [upd_cons cells (off + k) v vs (by omega)]
    exact ih
def fillV (place : Nat → Option (Nat × Nat)) : List Value → List (Nat × Value) → Option (List Value)
  | cells, [] => some cells
  | cells, (i, v) :: rest => match place i with
    | none => none
    | some (off, size) => if v.cells.size = size ∧ off + size ≤ cells.length then fillV place (upd cells off v.cells.toList) rest else none
theorem fill_of {place : Nat → Option (Nat × Nat)} : ∀ {parts : List (Nat × Value)} {cells cells' : List Value}, fillV place cells parts = some cells' → Instr.fill place cells.toArray parts = some cells'.toArray
  | [], cells, cells', h => by simp [fillV] at h; subst h; rfl
  | (i, v) :: rest, cells, cells', h => by
    simp only [fillV] at h
    simp only [Instr.fill]
    cases hp : place i with
    | none => rw [hp] at h; cases h
    | some q =>
      obtain ⟨off, size⟩ := q
      rw [hp] at h
      simp only at h ⊢
      split at h
      · rename_i hc
        have ih := fill_of h
        have e : ¬ (v.cells.size ≠ size || decide (off + v.cells.size > cells.toArray.size)) = true := by
          simp only [ne_eq, Bool.or_eq_true, decide_eq_true_eq, not_or, List.size_toArray]
          omega
        have hf := foldl_upd off v.cells.toList 0 cells (by simp; omega)
        rw [if_neg (by simpa using e)]
        rw [← ih]
        congr 1
        rw [Nat.add_zero] at hf
        rw [← hf, ← Array.foldl_toList]
        congr 1
        simp
      · cases h
def fillL (place : Nat → Option (Nat × Nat)) : List LV → List (Nat × AV) → Option (List LV)
  | xs, [] => some xs
  | xs, (i, u) :: rest => match place i with
    | none => none
    | some (off, size) => match leaves u with
      | none => none
      | some ys => match Nat.beq ys.length size with
        | false => none
        | true => match updO xs off size ys with
          | none => none
          | some r => fillL place r rest
theorem fillL_of {w : World} {O : Nat → Prop} {place : Nat → Option (Nat × Nat)} : ∀ {us : List (Nat × AV)} {vs : List (Nat × Value)} {cells : List Value} {xs r : List LV}, fillL place xs us = some r → XReps w O cells xs → vs.length = us.length →
    (∀ (j : Nat) (v : Nat × Value) (u : Nat × AV), vs[j]? = some v → us[j]? = some u → v.1 = u.1 ∧ ARep w O v.2 u.2) → ∃ cells', fillV place cells vs = some cells' ∧ XReps w O cells' r
  | [], [], cells, xs, r, h, hx, _, _ => by simp [fillL] at h; subst h; exact ⟨cells, rfl, hx⟩
  | [], _ :: _, _, _, _, _, _, hl, _ => by simp at hl
  | _ :: _, [], _, _, _, _, _, hl, _ => by simp at hl
  | (i, u) :: us, (i', v) :: vs, cells, xs, r, h, hx, hl, hr => by
    obtain ⟨e1, h1⟩ := hr 0 (i', v) (i, u) rfl rfl
    have e1 : i' = i := e1
    subst e1
    simp only [fillL] at h
    split at h
    · cases h
    · rename_i off size hp
      split at h
      · cases h
      · rename_i ys hy
        split at h
        · cases h
        · rename_i hsz
          have hsz := Nat.eq_of_beq_eq_true hsz
          split at h
          · cases h
          · rename_i q hq
            obtain ⟨rfl, hle⟩ := updO_eq hq
            obtain ⟨hc, _⟩ := leaves_of h1 hy
            have hcl := hc.len
            have hxl := hx.len
            obtain ⟨cells', h2, h3⟩ := fillL_of h (hx.upd off hc) (vs := vs) (by simpa using hl) fun j a b ha hb => hr (j + 1) a b (by simpa using ha) (by simpa using hb)
            refine ⟨cells', ?_, h3⟩
            simp only [fillV, hp]
            rw [if_pos ⟨by rw [← hsz, ← hcl]; simp, by omega⟩]
            exact h2
theorem p_build {T : TypeId} {ps : List (Nat × Operand)} {us : List (Nat × AV)} {place : Nat → Option (Nat × Nat)} {z : Array Value} {zs r : List LV}
    (hrun : ∀ {vs : List (Nat × Value)} {cs : Array Value}, Instr.fill place z vs = some cs → ∀ w, (Instr.build T vs.toArray).run P w = .ok (.agg cs) w)
    (hz : zl.zls z.toList = some zs) (hx : evAp L ps = some us) (hf : fillL place zs us = some r) (hd : Nat.blt d n = true) :
    AP P ops n { dst := some d, op := .build T ps.toArray, type := ty, pos := pos, after := after, guard := none } d (.agg r) L B := by
  intro K Ob w0 w a Bs L' Fs h hL hB
  obtain ⟨vs, h1, h2, h3⟩ := evp_of hL hx
  obtain ⟨cells, h4, h5⟩ := fillL_of (w := w) (O := owns Ob Bs) hf (zls_of hz) h2 h3
  have h6 := fill_of h4
  exact st_build h h1 (fun w => hrun (by simpa using h6) w) hd fun a' h' => wpList_nil ⟨rfl, _, h', show ARep _ _ _ (.agg r) from ⟨cells, rfl, h5⟩⟩
theorem p_field {S : TypeId} {x : Operand} {f off m : Nat} {ag : Bool} {xs r : List LV} {u : AV}
    (hrun : ∀ (vs : List Value) (v : Value), (if ag = true then v = .agg ((vs.drop off).take m).toArray else vs[off]? = some v) → off + m ≤ vs.length → ∀ w, (Instr.field S (.agg vs.toArray) f).run P w = .ok v w)
    (hx : evA L x = some (.agg xs)) (hr : subL xs off m = some r) (hu : bundle ag r = some u) (hd : Nat.blt d n = true) :
    AP P ops n { dst := some d, op := .field S x f, type := ty, pos := pos, after := after, guard := none } d u L B := by
  intro K Ob w0 w a Bs L' Fs h hL hB
  obtain ⟨v, hv, vs, rfl, hreps⟩ := ev_of hL hx
  obtain ⟨rfl, hle⟩ := subL_eq hr
  have hl := hreps.len
  have hreps' : XReps w (owns Ob Bs) ((vs.drop off).take m) ((xs.drop off).take m) := (hreps.drop off).take m
  cases ag with
  | true =>
    simp only [bundle, Option.some.injEq] at hu
    subst hu
    exact st_field h hv (hrun vs _ (by simp) (by omega)) hd fun a' h' => wpList_nil ⟨rfl, _, h', show ARep _ _ _ (.agg _) from ⟨_, rfl, hreps'⟩⟩
  | false =>
    obtain ⟨y, e2, rfl⟩ := bundle_false hu
    rw [e2] at hreps'
    cases hvs : (vs.drop off).take m with
    | nil => rw [hvs] at hreps'; exact hreps'.elim
    | cons v0 r =>
      rw [hvs] at hreps'
      have h0 : vs[off]? = some v0 := by
        have : ((vs.drop off).take m)[0]? = some v0 := by rw [hvs]; rfl
        rw [List.getElem?_take] at this
        split at this
        · simpa using this
        · cases this
      exact st_field h hv (hrun vs v0 (by simpa using h0) (by omega)) hd fun a' h' => wpList_nil ⟨rfl, _, h', show ARep _ _ _ (.one y) from hreps'.1⟩
theorem row_of_block {K Ob : Nat → Prop} {w0 w : World} {a : Act} {L' : List (Nat × Value)} {Fs : List Fact} {Bs : List Blk} {g T : Nat} {vss : List (List Value)} {ex : List Value} {ls : List (List LV)} {sz lo len c o : Nat}
    (h : St K Ob w0 w a n L' Fs ((g, T, vss.flatten ++ ex) :: Bs)) (hr : RReps w (owns Ob ((g, T, vss.flatten ++ ex) :: Bs)) vss ls) (hs : ∀ c ∈ ls, c.length = sz) (hf : ∀ c ∈ ls, ∀ x ∈ c, x.free = true)
    (hlen : lo + len ≤ ls.length) (hc : len ≤ c) (hc63 : c < 2 ^ 63) (h47 : len < 2 ^ 47) (ho : 0 < len → o = lo * sz) : LRep w (owns Ob Bs) (.slice (some ⟨g, o, none⟩) len c) (.row ((ls.drop lo).take len)) := by
  have hl : ((ls.drop lo).take len).length = len := by simp; omega
  have hle : Le w (owns Ob ((g, T, vss.flatten ++ ex) :: Bs)) w (owns Ob Bs) := ⟨Nat.le_refl _, fun _ _ _ => rfl, fun b _ ho => ho.imp id fun hm => List.mem_cons_of_mem _ hm⟩
  have hget : ∀ (i : Nat) (cs : List LV), ((ls.drop lo).take len)[i]? = some cs → i < len ∧ ls[lo + i]? = some cs := fun i cs hi => by
    rw [List.getElem?_take] at hi
    split at hi
    · rw [List.getElem?_drop] at hi; exact ⟨by assumption, hi⟩
    · cases hi
  have hall := hr.all hs
  have key := LRep.row (w := w) (O := owns Ob Bs) (some ⟨g, o, none⟩) c sz g (lo * sz) ((ls.drop lo).take len) (fun i j => ((vss[lo + i]?).bind (·[j]?)).getD undef) (by rw [hl]; exact hc) hc63 (by rw [hl]; exact h47)
    (fun cs hm => hs cs (List.mem_of_mem_drop (List.mem_of_mem_take hm))) (fun h0 => ⟨by rw [ho (by rw [hl] at h0; exact h0)], (h.own g T _ (List.mem_cons_self ..)).2.1, own_notin h⟩)
    (fun i cs hi j hj => by
      obtain ⟨h1, h2⟩ := hget i cs hi
      obtain ⟨vs, h3, h4⟩ := hr.get h2
      have hcl := hs cs (List.mem_of_getElem? h2)
      have hvl := h4.len
      have hj2 : j < vs.length := by omega
      have e2 : vss.flatten[(lo + i) * sz + j]? = vs[j]? := by
        rw [flat_get hall (by omega), h3]; rfl
      have hlt : (lo + i) * sz + j < vss.flatten.length := by
        have := List.getElem?_eq_getElem hj2
        rw [this] at e2
        exact (List.getElem?_eq_some_iff.1 e2).1
      rw [h.own_cell (i := 0) rfl, show lo * sz + i * sz + j = (lo + i) * sz + j from by rw [Nat.add_mul], List.getElem?_append_left hlt, e2, h3]
      simp [List.getElem?_eq_getElem hj2])
    (fun i cs hi j x hx => by
      obtain ⟨h1, h2⟩ := hget i cs hi
      obtain ⟨vs, h3, h4⟩ := hr.get h2
      obtain ⟨v, hv, hvr⟩ := h4.get hx
      rw [h3]
      simp only [Option.bind_some, hv, Option.getD_some]
      exact (hvr.free (hf cs (List.mem_of_getElem? h2) x (List.mem_of_getElem? hx))).keep hle)
  rw [hl] at key
  exact key
def chunkL (sz : Nat) : Nat → List LV → Option (List (List LV))
  | 0, [] => some []
  | 0, _ :: _ => none
  | k + 1, l => match takeL sz l with
    | none => none
    | some a => match dropL sz l with
      | none => none
      | some b => match chunkL sz k b with
        | none => none
        | some r => some (a :: r)
def freeL : List LV → Bool
  | [] => true
  | x :: l => match x.free with
    | true => freeL l
    | false => false
def freeLs : List (List LV) → Bool
  | [] => true
  | x :: l => match freeL x with
    | true => freeLs l
    | false => false
theorem freeL_of : ∀ {l : List LV}, freeL l = true → ∀ x ∈ l, x.free = true
  | [], _, x, h => by cases h
  | y :: l, h, x, hx => by
    simp only [freeL] at h
    split at h
    · rename_i e
      rcases List.mem_cons.1 hx with rfl | hx
      · exact e
      · exact freeL_of h x hx
    · cases h
theorem freeLs_of : ∀ {l : List (List LV)}, freeLs l = true → ∀ c ∈ l, ∀ x ∈ c, x.free = true
  | [], _, x, h => by cases h
  | y :: l, h, x, hx => by
    simp only [freeLs] at h
    split at h
    · rename_i e
      rcases List.mem_cons.1 hx with rfl | hx
      · exact freeL_of e
      · exact freeLs_of h x hx
    · cases h
theorem chunk_of {w : World} {O : Nat → Prop} {sz : Nat} : ∀ {k : Nat} {cs : List Value} {l : List LV} {ls : List (List LV)}, XReps w O cs l → chunkL sz k l = some ls → ∃ vss : List (List Value), cs = vss.flatten ∧ RReps w O vss ls ∧ (∀ c ∈ ls, c.length = sz) ∧ ls.length = k
  | 0, cs, [], ls, h, hc => by
    simp [chunkL] at hc; subst hc
    cases cs with
    | nil => exact ⟨[], rfl, trivial, by simp, rfl⟩
    | cons v vs => exact h.elim
  | 0, cs, _ :: _, ls, h, hc => by simp [chunkL] at hc
  | k + 1, cs, l, ls, h, hc => by
    simp only [chunkL] at hc
    split at hc
    · cases hc
    · rename_i x hx
      split at hc
      · cases hc
      · rename_i y hy
        split at hc
        · cases hc
        · rename_i r hr
          injection hc with hc; subst hc
          obtain ⟨rfl, h1⟩ := takeL_eq hx
          obtain ⟨rfl, h2⟩ := dropL_eq hy
          obtain ⟨vss, h3, h4, h5, h6⟩ := chunk_of (h.drop sz) hr
          refine ⟨cs.take sz :: vss, by rw [List.flatten_cons, ← h3, List.take_append_drop], ⟨h.take sz, h4⟩, ?_, by simp [h6]⟩
          intro c hm
          rcases List.mem_cons.1 hm with rfl | hm
          · simp; omega
          · exact h5 c hm
def zrep : Nat → List LV → List LV
  | 0, _ => []
  | m + 1, zs => go zs (zrep m zs)
where go : List LV → List LV → List LV
  | [], r => r
  | x :: l, r => x :: go l r
theorem zrep_go (l r : List LV) : zrep.go l r = l ++ r := by induction l <;> simp [zrep.go, *]
theorem zrep_of {w : World} {O : Nat → Prop} {vs : List Value} {zs : List LV} (h : XReps w O vs zs) : ∀ m, XReps w O (reps m vs) (zrep m zs)
  | 0 => trivial
  | m + 1 => by
    simp only [zrep, reps, zrep_go]
    exact h.append (zrep_of h m)
theorem p_lit {T E size len : Nat} {z : Value} {zs r : List LV} {ps : List (Nat × Operand)} {us : List (Nat × AV)} {ls : List (List LV)} (hu : ∀ w, (underlying T).run P w = .ok (.slice E) w) (hs : ∀ w, (Go.sizeOf E).run P w = .ok size w) (hz : ∀ w, (zeroValue E).run P w = .ok z w)
    (hz1 : zl z = some zs) (hz2 : Nat.beq zs.length size = true) (hsz : Nat.blt 0 size = true) (hl : Nat.ble (len * size) 16777216 = true) (hl0 : Nat.blt 0 len = true) (hx : evAp L ps = some us) (hf : fillL (fun i => some (i * size, size)) (zrep len zs) us = some r)
    (hc : chunkL size len r = some ls) (hfr : freeLs ls = true) (hd : Nat.blt d n = true) :
    AP P ops n { dst := some d, op := .buildSlice T len ps.toArray, type := ty, pos := pos, after := after, guard := none } d (.one (.row ls)) L B := by
  intro K Ob w0 w a Bs L' Fs h hL hB
  have hz2 := Nat.eq_of_beq_eq_true hz2
  have hsz : 0 < size := by rwa [Nat.blt_eq] at hsz
  have hl := Nat.le_of_ble_eq_true hl
  have hl0 : 0 < len := by rwa [Nat.blt_eq] at hl0
  obtain ⟨vs, h1, h2, h3⟩ := evp_of hL hx
  have hzr := zl_of (w := w) (O := owns Ob Bs) hz1
  have hzl := hzr.len
  obtain ⟨cells, h4, h5⟩ := fillL_of (w := w) (O := owns Ob Bs) hf (zrep_of hzr len) h2 h3
  have h6 := fill_of h4
  obtain ⟨vss, rfl, h7, h8, h9⟩ := chunk_of h5 hc
  have hadd := h.add (f := ⟨fun w O => RReps w O vss ls, fun hle h => h.keep hle⟩) h7
  refine st_buildSlice hadd h1 (fun w => buildSlice_run (size := size) (zs := z.cells.toList) hu hs hz (by simp) (by rw [hzl]; exact hz2) hsz hl hl0 h6 w) hd fun g w' a' h' => ?_
  have h10 := h'.publish
  have h11 : RReps w' _ vss ls := h'.fact 0 rfl
  have h12 := h'
  rw [← List.append_nil vss.flatten] at h12
  have hll : len ≤ 16777216 := Nat.le_trans (Nat.le_mul_of_pos_right len hsz) hl
  have h63 : (2 : Nat) ^ 63 = 9223372036854775808 := by decide
  have h47 : (2 : Nat) ^ 47 = 140737488355328 := by decide
  have key := row_of_block (lo := 0) (len := len) (c := len) (o := 0) h12 (by rw [List.append_nil]; exact h11) h8 (freeLs_of hfr) (by omega) (Nat.le_refl _) (by omega) (by omega) (fun _ => by simp)
  rw [List.drop_zero, List.take_of_length_le (by omega)] at key
  exact wpList_nil ⟨rfl, _, { h10 with facts := fun f hf => h10.facts f (List.mem_cons_of_mem _ hf) }, key⟩
def putL : List Nat → AV → Sg → Option Sg
  | [], _, L => some L
  | t :: ts, x, L => match putL ts x L with
    | some r => some ((t, x) :: r)
    | none => none
theorem lk_putL {x : AV} : ∀ {ts : List Nat} {L L2 : Sg}, putL ts x L = some L2 → ∀ t u, lk L2 t = some u → (t ∈ ts ∧ u = x) ∨ lk L t = some u
  | [], L, L2, h, t, u, hu => by simp [putL] at h; subst h; exact .inr hu
  | s :: ts, L, L2, h, t, u, hu => by
    simp only [putL] at h
    split at h
    · rename_i r hr
      injection h with h; subst h
      simp only [lk] at hu
      cases e : Nat.beq t s <;> rw [e] at hu
      · rcases lk_putL hr t u hu with ⟨h1, h2⟩ | h1
        · exact .inl ⟨List.mem_cons_of_mem _ h1, h2⟩
        · exact .inr h1
      · injection hu with hu
        exact .inl ⟨by rw [Nat.eq_of_beq_eq_true e]; exact List.mem_cons_self .., hu.symm⟩
    · cases h
def allAre (L : Sg) (x : AV) : List Nat → Prop
  | [] => True
  | t :: ts => lk L t = some x ∧ allAre L x ts
theorem allAre_get {L : Sg} {x : AV} : ∀ {ts : List Nat}, allAre L x ts → ∀ t ∈ ts, lk L t = some x
  | [], _, t, h => by cases h
  | s :: ts, h, t, ht => by
    rcases List.mem_cons.1 ht with rfl | ht
    · exact h.1
    · exact allAre_get h.2 t ht
theorem row_rep {K Ob : Nat → Prop} {w0 w : World} {a : Act} {L' : List (Nat × Value)} {Fs : List Fact} {Bo Bs : List Blk} {r : Option (Nat × Nat)} {E sz sz' lo len : Nat} {ls : List (List LV)} {v : Value}
    (h : St K Ob w0 w a n L' Fs (Bo ++ Bs)) (hb : OBRep w (owns Ob (Bo ++ Bs)) (.row r E sz ls) Bo) (hv : XRep w (owns Ob (Bo ++ Bs)) v (.orow r sz' lo len)) (hsz : sz' = sz) (hlen : lo + len ≤ ls.length) (h47 : len < 140737488355328) : LRep w (owns Ob Bs) v (.row ((ls.drop lo).take len)) := by
  subst hsz
  have e47 : (2 : Nat) ^ 47 = 140737488355328 := by decide
  rcases r with _ | ⟨g, c⟩
  · obtain ⟨_, rfl, rfl⟩ := hb
    obtain ⟨rfl, rfl, rfl⟩ := hv
    exact .row none 0 0 0 0 [] (fun _ _ => undef) (Nat.le_refl _) (by decide) (by decide) (by simp) (fun h => absurd h (by simp)) (fun i cs hi => by simp at hi) (fun i cs hi => by simp at hi)
  · obtain ⟨h1, h2, h3, vss, ex, h4, rfl, h5, h6, h7⟩ := hb
    obtain ⟨h8, o, rfl, h9⟩ := hv
    exact row_of_block h h4 h2 h3 hlen (by omega) (by omega) (by omega) (fun h0 => h9 (.inr (by omega)))
theorem aw_pubR (i : Nat) (ts : List Nat) {r : Option (Nat × Nat)} {E sz lo len : Nat} {ls ls' : List (List LV)} {B' : List OB} {L2 : Sg} (hi : frontB B i = some (.row r E sz ls, B')) (hts : allAre L (.one (.orow r sz lo len)) ts) (hlen : lo + len ≤ ls.length) (h47 : len < 140737488355328)
    (hls : (ls.drop lo).take len = ls') (hL2 : putL ts (.one (.row ls')) L = some L2) (k : AW P ops n rest N L2 B') : AW P ops n rest N L B := by
  intro K Ob w0 w a Q hs hQ
  obtain ⟨L', Bo, Bs, h1, h2, h3, h4⟩ := hs.front hi
  have hle : Le w (owns Ob (Bo ++ Bs)) w (owns Ob Bs) := ⟨Nat.le_refl _, fun _ _ _ => rfl, fun b _ ho => ho.imp id fun hm => by simp only [List.map_append, List.mem_append]; exact .inr hm⟩
  refine k _ _ _ _ _ _ ⟨L', Bs, h1.tailB, fun t u hu => ?_, h4.keep hle⟩ hQ
  rcases lk_putL hL2 t u hu with ⟨hm, rfl⟩ | hu
  · obtain ⟨v, hv, hr⟩ := h2 t _ (allAre_get hts t hm)
    subst hls
    exact ⟨v, hv, row_rep h1 h3 hr rfl hlen h47⟩
  · exact keep_of hle h2 t u hu
theorem aw_pub (i : Nat) (ts : List Nat) {r : Option (Nat × Nat)} {E sz len : Nat} {ls : List (List LV)} {B' : List OB} {L2 : Sg} (hi : frontB B i = some (.row r E sz ls, B')) (hts : allAre L (.one (.orow r sz 0 len)) ts) (hlen : len = ls.length) (h47 : ls.length < 140737488355328)
    (hL2 : putL ts (.one (.row ls)) L = some L2) (k : AW P ops n rest N L2 B') : AW P ops n rest N L B := by
  subst hlen
  exact aw_pubR i ts hi hts (by omega) h47 (by rw [List.drop_zero, List.take_length]) hL2 k
theorem a_make (m : Nat) {T E sz : Nat} {x y : Operand} {p q : Int} {zs : List LV} {z : Value} {info : TypeInfo} (hu : ∀ w, (underlying T).run P w = .ok (.slice E) w) (hi : ∀ w, (typeInfo E).run P w = .ok info w) (hb : Nat.ble info.bytes 256 = true) (hs : ∀ w, (Go.sizeOf E).run P w = .ok sz w)
    (hz : ∀ w, (zeroValue E).run P w = .ok z w) (hz1 : zl z = some zs) (hz2 : Nat.beq zs.length sz = true) (hz0 : Nat.blt 0 sz = true) (hfr : freeL zs = true) (hx : evA L x = some (.one (.int .i64 p))) (hy : evA L y = some (.one (.int .i64 q))) (hp : p = (m : Int)) (hq : q = (m : Int)) (hm : m < 274877906944) (hd : Nat.blt d n = true)
    (k : ∀ r, AW P ops n rest N ((d, .one (.orow r sz 0 m)) :: L) (.row r E sz (List.replicate m zs) :: B)) :
    AW P ops n ({ dst := some d, op := .makeSlice T x y, type := ty, pos := pos, after := after, guard := none } :: rest) N L B := by
  rintro K Ob w0 w a Q ⟨L', Bs, h, hL, hB⟩ hQ
  subst hp hq
  have e38 : (2 : Nat) ^ 38 = 274877906944 := by decide
  have e63 : (2 : Nat) ^ 63 = 9223372036854775808 := by decide
  obtain ⟨v, hv, hr⟩ := ev_of hL hx
  obtain rfl := rep_int hr
  obtain ⟨v2, hv2, hr2⟩ := ev_of hL hy
  obtain rfl := rep_int hr2
  have hz2 := Nat.eq_of_beq_eq_true hz2
  have hzr := zl_of (w := w) (O := owns Ob Bs) hz1
  have hzl := hzr.len
  have hzs : z.cells.toList.length = sz := by omega
  have hz0' : 0 < sz := by rwa [Nat.blt_eq] at hz0
  have h2 := h.add (f := SF L L' B Bs z.cells.toList zs) ⟨hL, hB, hzr⟩
  refine st_make (zs := z.cells.toList) h2 hv hv2 hu hi hb (by rw [hzs]; exact hs) hz (by simp) (by rw [hzs]; exact hz0) (by omega) hd fun g w' a' h' => ?_
  obtain ⟨h3, h4, h5⟩ := h'.fact 0 rfl
  refine k (some (g, m)) _ _ _ _ _ _ (SA.of (Bo := [_]) h'.noFacts (put_of h3 ?_) ?_ h4) hQ
  · exact ⟨by omega, 0, rfl, fun _ => by simp⟩
  · refine ⟨hz0', fun c hc => by rw [List.eq_of_mem_replicate hc]; exact hz2, fun c hc => by rw [List.eq_of_mem_replicate hc]; exact freeL_of hfr, List.replicate m z.cells.toList, [], ?_, by rw [reps_flat]; simp, ?_, by simp, by omega⟩
    · refine RReps.of (by simp) fun j v x hv hx => ?_
      have hv := List.eq_of_mem_replicate (List.mem_of_getElem? hv)
      have hx := List.eq_of_mem_replicate (List.mem_of_getElem? hx)
      rw [hv, hx]
      exact h5
    · rw [List.append_nil, flat_len (sz := sz) (fun c hc => by rw [List.eq_of_mem_replicate hc]; exact hzs)]; simp
theorem src_of {w : World} {O : Nat → Prop} {v : Value} {l : List (List LV)} {sz : Nat} (h : LRep w O v (.row l)) (hs : ∀ c ∈ l, c.length = sz) : ∃ vss : List (List Value), RReps w O vss l ∧ Src w v sz l.length vss.flatten := by
  cases h with
  | row A c sz' b o l f hc hc63 hl hs' hA hcell hrep =>
    have hlen : ∀ (i : Nat) (cs : List LV), l[i]? = some cs → cs.length = sz := fun i cs hi => hs cs (List.mem_of_getElem? hi)
    let vss := (List.range l.length).map fun i => (List.range sz).map (f i)
    have hg : ∀ (i : Nat) (vs : List Value), vss[i]? = some vs → i < l.length ∧ vs = (List.range sz).map (f i) := fun i vs hi => by
      simp only [vss, List.getElem?_map] at hi
      rcases Nat.lt_or_ge i l.length with h1 | h1
      · rw [List.getElem?_range h1] at hi
        exact ⟨h1, by simpa using hi.symm⟩
      · rw [List.getElem?_eq_none (by simpa using h1)] at hi; cases hi
    have hall : ∀ c ∈ vss, c.length = sz := fun c hm => by
      obtain ⟨i, hi⟩ := List.mem_iff_getElem?.1 hm
      rw [(hg i c hi).2]; simp
    have hrr : RReps w O vss l := by
      refine RReps.of (by simp [vss]) fun i vs xs hv hx => ?_
      obtain ⟨h1, rfl⟩ := hg i vs hv
      have hxl := hlen i xs hx
      refine XReps.of (by simp [hxl]) fun j u x hu hx2 => ?_
      rw [List.getElem?_map] at hu
      rcases Nat.lt_or_ge j sz with h2 | h2
      · rw [List.getElem?_range h2] at hu
        have hu : f i j = u := by simpa using hu
        subst hu
        exact (hrep i xs hx j x hx2).x
      · rw [List.getElem?_eq_none (by simpa using h2)] at hu; cases hu
    refine ⟨vss, hrr, by rw [flat_len hall]; simp [vss], A, c, rfl, fun h0 => ?_⟩
    obtain ⟨e, _, _⟩ := hA h0
    refine ⟨b, o, e, fun j v hj => ?_⟩
    rcases Nat.eq_zero_or_pos sz with hz | hz
    · have : vss.flatten = [] := List.eq_nil_of_length_eq_zero (by rw [flat_len hall, hz, Nat.mul_zero])
      rw [this] at hj; simp at hj
    · have ej : j = j / sz * sz + j % sz := by rw [Nat.mul_comm]; exact (Nat.div_add_mod j sz).symm
      have hm := Nat.mod_lt j hz
      rw [ej, flat_get hall hm] at hj
      cases hq : vss[j / sz]? with
      | none => rw [hq] at hj; simp at hj
      | some ds =>
        rw [hq] at hj
        obtain ⟨h1, rfl⟩ := hg _ _ hq
        have hx := List.getElem?_eq_getElem h1
        have h2 := hcell _ _ hx (j % sz) (by rw [hlen _ _ hx]; exact hm)
        have e3 : sz' = sz := by rw [← hs' _ (List.getElem_mem h1), hlen _ _ hx]
        subst e3
        have hj : f (j / sz') (j % sz') = v := by simpa [hm] using hj
        subst hj
        have e5 : o + j = o + j / sz' * sz' + j % sz' := by rw [Nat.add_assoc, ← ej]
        rw [e5]
        exact h2
theorem nils_row {w : World} {O : Nat → Prop} {v : Value} (h : LRep w O v .nils) : LRep w O v (.row []) := by
  cases h
  exact .row none 0 0 0 0 [] (fun _ _ => undef) (Nat.le_refl _) (by decide) (by decide) (by simp) (fun h => absurd h (by simp)) (fun i cs hi => by simp at hi) (fun i cs hi => by simp at hi)
def srcL : LV → Option (List (List LV))
  | .row l => some l
  | .nils => some []
  | _ => none
theorem srcL_of {w : World} {O : Nat → Prop} {v : Value} {x : LV} {l : List (List LV)} (h : XRep w O v x) (hl : srcL x = some l) : LRep w O v (.row l) := by
  unfold srcL at hl
  split at hl <;> first | cases hl | (injection hl with hl; subst hl)
  · exact h
  · exact nils_row h
theorem a_appendX (i : Nat) {T E T2 E2 sz len m2 : Nat} {x y : Operand} {z : Value} {info : TypeInfo} {r : Option (Nat × Nat)} {ls l2 ls2 : List (List LV)} {u qx : LV} {B' : List OB} {zs : List LV} (hu : ∀ w, (underlying T).run P w = .ok (.slice E) w) (hu2 : ∀ w, (underlying T2).run P w = .ok (.slice E2) w) (hi' : ∀ w, (typeInfo E).run P w = .ok info w) (hb2 : Nat.ble info.bytes 4096 = true) (hb3 : Nat.blt 0 info.bytes = true) (hs : ∀ w, (Go.sizeOf E).run P w = .ok sz w)
    (hz : ∀ w, (zeroValue E).run P w = .ok z w) (hz1 : zl z = some zs) (hz2 : Nat.beq zs.length sz = true) (hi : frontB B i = some (.row r E sz ls, B')) (hx : evA L x = some (.one qx)) (hq : ∀ w O v, XRep w O v qx → XRep w O v (.orow r sz 0 len)) (hy : evA L y = some (.one u)) (hl2 : srcL u = some l2) (hd : Nat.blt d n = true)
    (hlen : len ≤ ls.length) (hw : ∀ c ∈ l2, c.length = sz) (hfr : ∀ c ∈ l2, ∀ x ∈ c, x.free = true) (hm : len + l2.length < 8589934592) (hls : ls.take len ++ l2 = ls2) (hm2 : len + l2.length = m2)
    (k : ∀ r', AW P ops n rest N ((d, .one (.orow r' sz 0 m2)) :: L) (.row r' E sz ls2 :: B')) :
    AW P ops n ({ dst := some d, op := .call { callee := .builtin .append, args := #[x, y], argTypes := #[T, T2] }, type := ty, pos := pos, after := after, guard := none } :: rest) N L B := by
  intro K Ob w0 w a Q hs0 hQ
  subst hls hm2
  obtain ⟨L', Bo, Bs, h, hL, hb, hB⟩ := hs0.front hi
  have e33 : (2 : Nat) ^ 33 = 8589934592 := by decide
  obtain ⟨v, hv, hr0⟩ := ev_of hL hx
  have hr : XRep w (owns Ob (Bo ++ Bs)) v (.orow r sz 0 len) := hq _ _ _ hr0
  obtain ⟨v2, hv2, hr2⟩ := ev_of hL hy
  have hz2 := Nat.eq_of_beq_eq_true hz2
  have hzl := (zl_of (w := w) (O := owns Ob (Bo ++ Bs)) hz1).len
  have hr2 : XRep w (owns Ob (Bo ++ Bs)) v2 u := hr2
  obtain ⟨nss, hn, hsrc⟩ := src_of (srcL_of hr2 hl2) hw
  have hone : ∀ q ∈ nss.flatten, one q = true := by
    intro q hq
    obtain ⟨c, hc, hqc⟩ := List.mem_flatten.1 hq
    obtain ⟨j, hj⟩ := List.mem_iff_getElem?.1 hc
    have hjl : j < l2.length := by rw [← hn.len]; exact (List.getElem?_eq_some_iff.1 hj).1
    exact (hn.get' hj (List.getElem?_eq_getElem hjl)).one q hqc
  -- the row as it was
  have key : ∃ oss : List (List Value), RReps w (owns Ob (Bo ++ Bs)) oss (ls.take len) ∧ OwnRow v E sz len oss.flatten Bo ∧ 0 < sz ∧ (∀ c ∈ ls, c.length = sz) ∧ (∀ c ∈ ls, ∀ x ∈ c, x.free = true) := by
    rcases r with _ | ⟨g, c⟩
    · obtain ⟨h0, rfl, rfl⟩ := hb
      obtain ⟨rfl, _, rfl⟩ := hr
      exact ⟨[], trivial, ⟨by simp, .inl ⟨rfl, rfl, rfl⟩⟩, h0, by simp, by simp⟩
    · obtain ⟨h0, h2, h3, vss, ex, h4, rfl, h5, h6, h7⟩ := hb
      obtain ⟨h8, o, rfl, h9⟩ := hr
      obtain rfl : o = 0 := by simpa using h9 (.inl rfl)
      have hall := h4.all h2
      have hvl := h4.len
      refine ⟨vss.take len, ?_, ⟨?_, .inr ⟨g, c, (vss.drop len).flatten ++ ex, rfl, ?_, ?_, by omega, h7⟩⟩, h0, h2, h3⟩
      · refine RReps.of (by simp [hvl]) fun j v x hv hx => ?_
        rw [List.getElem?_take] at hv hx
        split at hv <;> first | cases hv | skip
        rename_i hj
        rw [if_pos hj] at hx
        exact h4.get' hv hx
      · rw [flat_len (sz := sz) fun c hc => hall c (List.mem_of_mem_take hc), List.length_take, Nat.min_eq_left (by omega)]
      · have e : vss.flatten = (vss.take len).flatten ++ (vss.drop len).flatten := by rw [← List.flatten_append, List.take_append_drop]
        rw [e, List.append_assoc]
      · rw [← List.append_assoc, ← List.flatten_append, List.take_append_drop]; exact h5
  obtain ⟨oss, ho, hown, h0, hall, hfree⟩ := key
  have h2 := h.add (f := ⟨fun w O => (∀ t x, lk L t = some x → ∃ v, look L' t = some v ∧ ARep w O v x) ∧ BsRep w O B' Bs ∧ RReps w O oss (ls.take len) ∧ RReps w O nss l2, fun hle h => ⟨keep_of hle h.1, h.2.1.keep hle, h.2.2.1.keep hle, h.2.2.2.keep hle⟩⟩) ⟨hL, hB, ho, hn⟩
  refine st_append2 (zs := z.cells.toList) h2 hv hv2 hu hu2 hi' hb2 hb3 hs hz (by simp) (by omega) hown hsrc hone (by omega) hd fun v' w' Bo' a' ho' h' => ?_
  have h3 := h'.fact 0 rfl
  obtain ⟨h4, h5, h6, h7⟩ := h3
  obtain ⟨hcl, ⟨rfl, hm0, rfl⟩ | ⟨g, c, ex, rfl, rfl, hl, hmc, hc63⟩⟩ := ho'
  · refine k none _ _ _ _ _ _ (SA.of (Bo := []) h'.noFacts (put_of h4 ?_) ?_ h5) hQ
    · exact ⟨rfl, rfl, hm0⟩
    · refine ⟨h0, List.eq_nil_of_length_eq_zero ?_, rfl⟩
      rw [List.length_append, List.length_take, Nat.min_eq_left hlen]; exact hm0
  · have e1 : oss.flatten ++ nss.flatten = (oss ++ nss).flatten := by simp
    refine k (some (g, c)) _ _ _ _ _ _ (SA.of (Bo := [_]) h'.noFacts (put_of h4 ?_) ?_ h5) hQ
    · exact ⟨by omega, 0, rfl, fun _ => by simp⟩
    · refine ⟨h0, ?_, ?_, oss ++ nss, ex, h6.append h7, by rw [e1], by rw [← e1]; exact hl, by simp; omega, hc63⟩
      · intro c hc
        rcases List.mem_append.1 hc with hc | hc
        · exact hall c (List.mem_of_mem_take hc)
        · exact hw c hc
      · intro c hc
        rcases List.mem_append.1 hc with hc | hc
        · exact hfree c (List.mem_of_mem_take hc)
        · exact hfr c hc
theorem a_append (i : Nat) {T E T2 E2 sz len m2 : Nat} {x y : Operand} {z : Value} {info : TypeInfo} {r : Option (Nat × Nat)} {ls l2 ls2 : List (List LV)} {u : LV} {B' : List OB} {zs : List LV} (hu : ∀ w, (underlying T).run P w = .ok (.slice E) w) (hu2 : ∀ w, (underlying T2).run P w = .ok (.slice E2) w) (hi' : ∀ w, (typeInfo E).run P w = .ok info w) (hb2 : Nat.ble info.bytes 4096 = true) (hb3 : Nat.blt 0 info.bytes = true) (hs : ∀ w, (Go.sizeOf E).run P w = .ok sz w)
    (hz : ∀ w, (zeroValue E).run P w = .ok z w) (hz1 : zl z = some zs) (hz2 : Nat.beq zs.length sz = true) (hi : frontB B i = some (.row r E sz ls, B')) (hx : evA L x = some (.one (.orow r sz 0 len))) (hy : evA L y = some (.one u)) (hl2 : srcL u = some l2) (hd : Nat.blt d n = true)
    (hlen : len ≤ ls.length) (hw : ∀ c ∈ l2, c.length = sz) (hfr : ∀ c ∈ l2, ∀ x ∈ c, x.free = true) (hm : len + l2.length < 8589934592) (hls : ls.take len ++ l2 = ls2) (hm2 : len + l2.length = m2)
    (k : ∀ r', AW P ops n rest N ((d, .one (.orow r' sz 0 m2)) :: L) (.row r' E sz ls2 :: B')) :
    AW P ops n ({ dst := some d, op := .call { callee := .builtin .append, args := #[x, y], argTypes := #[T, T2] }, type := ty, pos := pos, after := after, guard := none } :: rest) N L B :=
  a_appendX i hu hu2 hi' hb2 hb3 hs hz hz1 hz2 hi hx (fun _ _ _ h => h) hy hl2 hd hlen hw hfr hm hls hm2 k
theorem a_appendN {T E T2 E2 sz m2 : Nat} {x y : Operand} {z : Value} {info : TypeInfo} {l2 ls2 : List (List LV)} {u : LV} {zs : List LV} (hu : ∀ w, (underlying T).run P w = .ok (.slice E) w) (hu2 : ∀ w, (underlying T2).run P w = .ok (.slice E2) w) (hi' : ∀ w, (typeInfo E).run P w = .ok info w) (hb2 : Nat.ble info.bytes 4096 = true) (hb3 : Nat.blt 0 info.bytes = true) (hs : ∀ w, (Go.sizeOf E).run P w = .ok sz w)
    (hz : ∀ w, (zeroValue E).run P w = .ok z w) (hz1 : zl z = some zs) (hz2 : Nat.beq zs.length sz = true) (hsz : Nat.blt 0 sz = true) (hx : evA L x = some (.one .nils)) (hy : evA L y = some (.one u)) (hl2 : srcL u = some l2) (hd : Nat.blt d n = true)
    (hw : ∀ c ∈ l2, c.length = sz) (hfr : ∀ c ∈ l2, ∀ x ∈ c, x.free = true) (hm : l2.length < 8589934592) (hls : l2 = ls2) (hm2 : l2.length = m2)
    (k : ∀ r', AW P ops n rest N ((d, .one (.orow r' sz 0 m2)) :: L) (.row r' E sz ls2 :: B)) :
    AW P ops n ({ dst := some d, op := .call { callee := .builtin .append, args := #[x, y], argTypes := #[T, T2] }, type := ty, pos := pos, after := after, guard := none } :: rest) N L B := by
  rintro K Ob w0 w a Q ⟨L', Bs, h, hL, hB⟩ hQ
  rw [Nat.blt_eq] at hsz
  refine a_appendX (B := .row none E sz [] :: B) (B' := B) (r := none) (len := 0) (ls := []) (ls2 := ls2) (m2 := m2) 0 hu hu2 hi' hb2 hb3 hs hz hz1 hz2 rfl hx (fun _ _ _ h => ?_) hy hl2 hd (Nat.le_refl _) hw hfr (by omega) (by simpa using hls) (by omega) k K Ob w0 w a Q ⟨L', Bs, h, hL, ⟨[], Bs, rfl, ⟨hsz, rfl, rfl⟩, hB⟩⟩ hQ
  have h : LRep _ _ _ .nils := h
  cases h
  exact ⟨rfl, rfl, rfl⟩
end Orr

namespace Orr
open Go
variable {P : Program} {ops : Array Oper} {n : Nat} {rest : List Oper} {N : Sg → List OB → Prop} {L : Sg} {B : List OB} {Q : Exit → Sg → List OB → Prop}
variable {d : Nat} {ty : TypeId} {pos : String} {after : Array Edge}
def seqQ (Y : Sg → List OB → Prop) (Q : Exit → Sg → List OB → Prop) : Exit → Sg → List OB → Prop
  | .normal, L, B => Y L B
  | e, L, B => Q e L B
def blkQ (id : Nat) (Q : Exit → Sg → List OB → Prop) : Exit → Sg → List OB → Prop
  | .exit id', L, B => if id' = id then Q .normal L B else Q (.exit id') L B
  | e, L, B => Q e L B
theorem ac_mono {c : Code} {Q' : Exit → Sg → List OB → Prop} (h : AC P n c Q' L B) (hq : ∀ e L B, Q' e L B → Q e L B) : AC P n c Q L B := fun K Ob w0 w a hs =>
  wp_mono (h K Ob w0 w a hs) fun e a w ⟨L, B, h1, h2⟩ => ⟨L, B, h1, hq e L B h2⟩
theorem ac_seq {x y : Code} (h : AC P n x (seqQ (fun L B => AC P n y Q L B) Q) L B) : AC P n (.seq x y) Q L B := fun K Ob w0 w a hs => by
  refine wp_seq (wp_mono (h K Ob w0 w a hs) fun e a w ⟨L, B, h1, h2⟩ => ?_)
  cases e <;> first | exact h2 K Ob w0 w a h1 | exact ⟨L, B, h1, h2⟩
theorem ac_reg {id : Nat} {l : List Oper} (h : AW P l.toArray n l (fun L B => Q .normal L B) L B) : AC P n (.region id l.toArray false) Q L B := fun K Ob w0 w a hs =>
  wp_region_lit (h K Ob w0 w a _ hs fun a' w' ⟨L, B, h1, h2⟩ => ⟨L, B, h1, h2⟩)
theorem ac_skip (h : Q .normal L B) : AC P n .skip Q L B := fun K Ob w0 w a hs => wp_skip ⟨L, B, hs, h⟩
theorem ac_exit {id : Nat} (h : Q (.exit id) L B) : AC P n (.exit id) Q L B := fun K Ob w0 w a hs => wp_exit ⟨L, B, hs, h⟩
theorem ac_ret (h : Q .ret L B) : AC P n .ret Q L B := fun K Ob w0 w a hs => wp_ret ⟨L, B, hs, h⟩
theorem ac_block {id : Nat} {c : Code} (h : AC P n c (blkQ id Q) L B) : AC P n (.block id c) Q L B := fun K Ob w0 w a hs => by
  refine wp_block (wp_mono (h K Ob w0 w a hs) fun e a w ⟨L, B, h1, h2⟩ => ?_)
  cases e <;> first | exact ⟨L, B, h1, h2⟩ | skip
  rename_i id'
  simp only [Exit.inBlock, blkQ] at h2 ⊢
  split
  · rename_i hi; rw [if_pos hi] at h2; exact ⟨L, B, h1, h2⟩
  · rename_i hi; rw [if_neg hi] at h2; exact ⟨L, B, h1, h2⟩
theorem ac_cond {c : Operand} {x y : Code} {b : Bool} (hc : evA L c = some (.one (.bool b))) (ht : b = true → AC P n x Q L B) (hf : b = false → AC P n y Q L B) : AC P n (.cond c x y) Q L B := by
  rintro K Ob w0 w a ⟨L', Bs, h, hL, hB⟩
  obtain ⟨v, hv, hr⟩ := ev_of hL hc
  obtain rfl := rep_bool hr
  exact cond_ h hv (fun e => ht e K Ob w0 w a ⟨L', Bs, h, hL, hB⟩) (fun e => hf e K Ob w0 w a ⟨L', Bs, h, hL, hB⟩)
theorem ac_t {c : Operand} {x y : Code} {b : Bool} (hc : evA L c = some (.one (.bool b))) (hb : b = true) (ht : AC P n x Q L B) : AC P n (.cond c x y) Q L B := ac_cond hc (fun _ => ht) (fun e => by rw [hb] at e; cases e)
theorem ac_f {c : Operand} {x y : Code} {b : Bool} (hc : evA L c = some (.one (.bool b))) (hb : b = false) (hf : AC P n y Q L B) : AC P n (.cond c x y) Q L B := ac_cond hc (fun e => by rw [hb] at e; cases e) (fun _ => hf)
theorem ac_loop {c : Code} (I : Nat → Sg → List OB → Prop) {m : Nat} (h0 : I m L B) (round : ∀ m L B, I m L B → AC P n c (seqQ (fun L B => ∃ m', m' < m ∧ I m' L B) Q) L B) : AC P n (.loop c) Q L B := fun K Ob w0 w a hs => by
  refine loop_ (fun m a w => ∃ L B, SA K Ob w0 w a n L B ∧ I m L B) (m := m) ⟨L, B, hs, h0⟩ ?_
  rintro m a w ⟨L, B, h1, h2⟩
  refine wp_mono (round m L B h2 K Ob w0 w a h1) fun e a w ⟨L, B, h3, h4⟩ => ?_
  cases e <;> first | exact ⟨L, B, h3, h4⟩ | skip
  obtain ⟨m', hlt, hI⟩ := h4
  exact ⟨m', hlt, L, B, h3, hI⟩
theorem ac_cut {x y : Code} (I : Sg → List OB → Prop) (hx : AC P n x (seqQ I Q) L B) (hy : ∀ L B, I L B → AC P n y Q L B) : AC P n (.seq x y) Q L B :=
  ac_seq (ac_mono hx fun e L B h => by cases e <;> first | exact hy L B h | exact h)
theorem ac_pick {c : Code} (ts : List Nat) {L2 : Sg} (ht : pickL L ts = some L2) (k : AC P n c Q L2 B) : AC P n c Q L B := fun _ _ _ _ _ hs => k _ _ _ _ _ (hs.pick ht)
theorem ac_drop {c : Code} (i : Nat) {x : OB} {r : List OB} (hi : frontB B i = some (x, r)) (k : AC P n c Q L r) : AC P n c Q L B := fun _ _ _ _ _ hs => k _ _ _ _ _ (hs.drop hi)
theorem SA.toFront {K Ob : Nat → Prop} {w0 w : World} {a : Act} (h : SA K Ob w0 w a n L B) {i : Nat} {x : OB} {r : List OB} (hi : frontB B i = some (x, r)) : SA K Ob w0 w a n L (x :: r) := by
  obtain ⟨L', Bo, Bs, h1, h2, h3, h4⟩ := h.front hi
  exact SA.of h1 h2 h3 h4
theorem aw_front (i : Nat) {x : OB} {r : List OB} (hi : frontB B i = some (x, r)) (k : AW P ops n rest N L (x :: r)) : AW P ops n rest N L B := fun _ _ _ _ _ _ hs hQ => k _ _ _ _ _ _ (hs.toFront hi) hQ
structure Held (w : World) (Ob : Nat → Prop) (Bi : List Blk) : Prop where
  own : ∀ g T cs, (g, T, cs) ∈ Bi → g < w.heap.size ∧ w.heap[g]? = some (objOf T cs) ∧ ¬ Ob g
  nodup : (Bi.map (·.1)).Nodup
structure Moved (w w' : World) (Bi Bo : List Blk) : Prop where
  size : w.heap.size ≤ w'.heap.size
  keep : ∀ b, b < w.heap.size → b ∉ Bi.map (·.1) → w'.heap[b]? = w.heap[b]?
  from_ : ∀ b, b < w.heap.size → b ∈ Bo.map (·.1) → b ∈ Bi.map (·.1)
  io : w'.os = w.os ∧ w'.output = w.output
def DoesB (P : Program) (f : Nat) (args : List AV) (Bin : List OB) (Post : AV → List OB → Prop) : Prop :=
  ∀ (Ob : Nat → Prop) (W : World) (vs : List Value) (Bi : List Blk), (∀ b, Ob b → b < W.heap.size) → Held W Ob Bi → TReps W (owns Ob Bi) vs args → BsRep W (owns Ob Bi) Bin Bi →
    Calls P f vs.toArray W fun e w' => ∃ v r Bout Bo, e = .returned v ∧ Post r Bout ∧ ARep w' (owns Ob Bo) v r ∧ BsRep w' (owns Ob Bo) Bout Bo ∧ Moved W w' Bi Bo ∧ Held w' Ob Bo
def Is (r : AV) (x : AV) (B : List OB) : Prop := x = r ∧ B = []
abbrev Does (P : Program) (f : Nat) (args : List AV) (r : AV) : Prop := DoesB P f args [] (Is r)
theorem St.held {K Ob : Nat → Prop} {w0 w : World} {a : Act} {L' : List (Nat × Value)} {Fs : List Fact} {Bi Br : List Blk} (h : St K Ob w0 w a n L' Fs (Bi ++ Br)) : Held w (owns Ob Br) Bi := by
  refine ⟨fun g T cs hm => ?_, ?_⟩
  · obtain ⟨h1, h2, h3⟩ := h.own g T cs (List.mem_append.2 (.inl hm))
    refine ⟨h2, h3, fun ho => ?_⟩
    have hg : g ∈ Bi.map (·.1) := List.mem_map.2 ⟨_, hm, rfl⟩
    rcases ho with ho | ho
    · exact h.ownO g (by simp only [List.map_append, List.mem_append]; exact .inl hg) ho
    · have := h.nodup
      rw [List.map_append, List.nodup_append] at this
      exact this.2.2 g hg g ho rfl
  · have := h.nodup
    rw [List.map_append, List.nodup_append] at this
    exact this.1
theorem owns_owns (Ob : Nat → Prop) (Bi Br : List Blk) : owns (owns Ob Br) Bi = owns Ob (Bi ++ Br) := by
  funext b
  simp only [owns, List.map_append, List.mem_append]
  exact propext ⟨fun h => by rcases h with (h | h) | h <;> simp [h], fun h => by rcases h with h | h | h <;> simp [h]⟩
theorem St.moved {K Ob : Nat → Prop} {w0 w w' : World} {a : Act} {L' : List (Nat × Value)} {Fs : List Fact} {Bi Bo Br : List Blk} (h : St K Ob w0 w a n L' Fs (Bi ++ Br)) (hm : Moved w w' Bi Bo) (hh : Held w' (owns Ob Br) Bo) : St K Ob w0 w' a n L' Fs (Bo ++ Br) := by
  have hheld := h.held
  have hdis : ∀ b, b ∈ Br.map (·.1) → b ∉ Bi.map (·.1) := fun b hb hi => by
    have := h.nodup
    rw [List.map_append, List.nodup_append] at this
    exact this.2.2 b hi b hb rfl
  have hbr : ∀ g T cs, (g, T, cs) ∈ Br → ¬ K g ∧ g < w.heap.size ∧ w'.heap[g]? = some (objOf T cs) := fun g T cs hmem => by
    obtain ⟨h1, h2, h3⟩ := h.own g T cs (List.mem_append.2 (.inr hmem))
    exact ⟨h1, h2, (hm.keep g h2 (hdis g (List.mem_map.2 ⟨_, hmem, rfl⟩))).trans h3⟩
  refine { h with io := ⟨hm.io.1.trans h.io.1, hm.io.2.trans h.io.2⟩, wsize := Nat.le_trans h.wsize hm.size, grow := fun b hb => ?_, own := fun g T cs hmem => ?_, nodup := ?_, facts := fun f hf => ?_, ownO := fun b hb => ?_ }
  · refine (hm.keep b (Nat.lt_of_lt_of_le (h.base b hb) h.wsize) fun hi => ?_).trans (h.grow b hb)
    obtain ⟨⟨g, T, cs⟩, hg, rfl⟩ := List.mem_map.1 hi
    exact (h.own g T cs (List.mem_append.2 (.inl hg))).1 hb
  · rcases List.mem_append.1 hmem with hmem | hmem
    · obtain ⟨h1, h2, h3⟩ := hh.own g T cs hmem
      refine ⟨fun hk => ?_, h1, h2⟩
      have hlt := Nat.lt_of_lt_of_le (h.base g hk) h.wsize
      have hi := hm.from_ g hlt (List.mem_map.2 ⟨_, hmem, rfl⟩)
      obtain ⟨⟨g', T', cs'⟩, hg, e⟩ := List.mem_map.1 hi
      have e : g' = g := e
      subst e
      exact (h.own g' T' cs' (List.mem_append.2 (.inl hg))).1 hk
    · obtain ⟨h1, h2, h3⟩ := hbr g T cs hmem
      exact ⟨h1, Nat.lt_of_lt_of_le h2 hm.size, h3⟩
  · rw [List.map_append, List.nodup_append]
    have hn := h.nodup
    rw [List.map_append, List.nodup_append] at hn
    refine ⟨hh.nodup, hn.2.1, fun x hx y hy e => ?_⟩
    subst e
    obtain ⟨⟨g, T, cs⟩, hg, rfl⟩ := List.mem_map.1 hx
    exact (hh.own g T cs hg).2.2 (.inr hy)
  · refine f.keep ⟨hm.size, fun b hb hno => ?_, fun b hb ho => ?_⟩ (h.facts f hf)
    · refine hm.keep b hb fun hi => hno (.inr ?_)
      simp only [List.map_append, List.mem_append]; exact .inl hi
    · simp only [owns, List.map_append, List.mem_append] at ho ⊢
      rcases ho with ho | ho | ho
      · exact .inl ho
      · exact .inr (.inl (hm.from_ b hb ho))
      · exact .inr (.inr ho)
  · simp only [List.map_append, List.mem_append] at hb
    rcases hb with hb | hb
    · obtain ⟨⟨g, T, cs⟩, hg, rfl⟩ := List.mem_map.1 hb
      exact fun ho => (hh.own g T cs hg).2.2 (.inl ho)
    · exact h.ownO b (by simp only [List.map_append, List.mem_append]; exact .inr hb)
def LV.isNil : LV → Bool
  | .nils => true
  | _ => false
def unNilL : List LV → Option (List LV)
  | [] => some []
  | x :: l => match unNilL l with
    | none => none
    | some r => match x.isNil with
      | true => some (.row [] :: r)
      | false => some (x :: r)
def unNil : List AV → Option (List AV)
  | [] => some []
  | u :: l => match unNil l with
    | none => none
    | some r => match u with
      | .one x => match x.isNil with
        | true => some (.one (.row []) :: r)
        | false => some (.one x :: r)
      | .agg xs => match unNilL xs with
        | some ys => some (.agg ys :: r)
        | none => none
      | _ => none
theorem unNilL_len : ∀ {xs ys : List LV}, unNilL xs = some ys → ys.length = xs.length
  | [], ys, h => by simp [unNilL] at h; subst h; rfl
  | x :: l, ys, h => by
    simp only [unNilL] at h
    split at h
    · cases h
    · rename_i r hl
      have ih := unNilL_len hl
      split at h <;> injection h with h <;> subst h <;> simp [ih]
theorem unNilL_of {w : World} {O : Nat → Prop} : ∀ {xs ys : List LV} {vs : List Value}, unNilL xs = some ys → XReps w O vs xs → XReps w O vs ys
  | [], ys, vs, h, hr => by simp [unNilL] at h; subst h; exact hr
  | x :: l, ys, [], h, hr => hr.elim
  | x :: l, ys, v :: vs, h, hr => by
    simp only [unNilL] at h
    split at h
    · cases h
    · rename_i r hl
      have ih := unNilL_of hl hr.2
      split at h <;> injection h with h <;> subst h
      · rename_i e
        have : x = .nils := by cases x <;> first | rfl | (simp [LV.isNil] at e)
        subst this
        exact ⟨(nils_row hr.1).x, ih⟩
      · exact ⟨hr.1, ih⟩
theorem unNil_of {w : World} {O : Nat → Prop} : ∀ {us ys : List AV} {vs : List Value}, unNil us = some ys → vs.length = us.length → (∀ (j : Nat) (v : Value) (u : AV), vs[j]? = some v → us[j]? = some u → ARep w O v u) → TReps w O vs ys
  | [], ys, vs, h, hl, hr => by
    simp [unNil] at h; subst h
    have : vs = [] := List.eq_nil_of_length_eq_zero hl
    subst this; trivial
  | u :: l, ys, [], h, hl, hr => by simp at hl
  | u :: l, ys, v :: vs, h, hl, hr => by
    simp only [unNil] at h
    split at h
    · cases h
    · rename_i r hr'
      have ih := unNil_of hr' (vs := vs) (by simpa using hl) fun j a b ha hb => hr (j + 1) a b (by simpa using ha) (by simpa using hb)
      have h0 := hr 0 v u rfl rfl
      split at h
      · rename_i x
        split at h <;> injection h with h <;> subst h
        · rename_i e
          have : x = .nils := by cases x <;> first | rfl | (simp [LV.isNil] at e)
          subst this
          exact ⟨(nils_row h0).x, ih⟩
        · exact ⟨h0, ih⟩
      · rename_i xs
        split at h
        · rename_i zs hz
          injection h with h; subst h
          obtain ⟨vs', e, h1⟩ := h0
          exact ⟨⟨vs', e, unNilL_of hz h1⟩, ih⟩
        · cases h
      · cases h
theorem a_calls {f : FuncId} {fn : Func} {xs : List Operand} {us args : List AV} {ats : Array TypeId} {Bin Br : List OB} {Post : AV → List OB → Prop} (hf : P.funcs[f]? = some fn) (hn : (fn.name == "runtime.NumGoroutine") = false) (hb : fn.body.isNone = false)
    (hx : evAl L xs = some us) (hun : unNil us = some args) (hc : DoesB P f args Bin Post) (hd : Nat.blt d n = true) (k : ∀ r Bo, Post r Bo → AW P ops n rest N ((d, r) :: L) (Bo ++ Br)) :
    AW P ops n ({ dst := some d, op := .call { callee := .value (.func f), args := xs.toArray, argTypes := ats }, type := ty, pos := pos, after := after, guard := none } :: rest) N L (Bin ++ Br) := by
  rintro K Ob w0 w a Q ⟨L', Bs, h, hL, hB⟩ hQ
  obtain ⟨vs, h1, h2, h3⟩ := evl_of hL hx
  have hargs := unNil_of hun h2 h3
  have hsplit : ∀ {Bin Br : List OB} {Bs : List Blk}, BsRep w (owns Ob Bs) (Bin ++ Br) Bs → ∀ {O}, O = owns Ob Bs → ∃ Bi Bq, Bs = Bi ++ Bq ∧ BsRep w O Bin Bi ∧ BsRep w O Br Bq := by
    have key : ∀ {O : Nat → Prop} {Bin Br : List OB} {Bs : List Blk}, BsRep w O (Bin ++ Br) Bs → ∃ Bi Bq, Bs = Bi ++ Bq ∧ BsRep w O Bin Bi ∧ BsRep w O Br Bq := by
      intro O Bin
      induction Bin with
      | nil => intro Br Bs h; exact ⟨[], Bs, rfl, rfl, h⟩
      | cons b Bin ih =>
        intro Br Bs h
        obtain ⟨Bo, Bs', rfl, h1, h2⟩ := h
        obtain ⟨Bi, Bq, rfl, h3, h4⟩ := ih h2
        exact ⟨Bo ++ Bi, Bq, by simp, ⟨Bo, Bi, rfl, h1, h3⟩, h4⟩
    intro Bin Br Bs h O e; subst e; exact key h
  obtain ⟨Bi, Bq, rfl, h4, h5⟩ := hsplit hB rfl
  rw [← owns_owns] at hargs h4
  have hcall := hc (owns Ob Bq) w vs Bi (fun b hb => h.owns_lt (by simp only [owns, List.map_append, List.mem_append]; exact hb.imp id .inr)) h.held hargs h4
  refine wpList_plain rfl fun K' hK => ?_
  unfold Oper.wp
  have e : (execOp a.eval { dst := some d, op := .call { callee := .value (.func f), args := xs.toArray, argTypes := ats }, type := ty, pos := pos, after := after, guard := none }).run P w = .ok (.enter f vs.toArray) w := by
    have hxs := h.evl h1
    have he : a.eval (.func f) = .func (.func f) #[] #[] := rfl
    simp only [execOp, resolve, he, Deferred.ofValue, hxs, Sem.run_bind, Sem.run_pure, Result.andThen_ok, invoke]
    rw [show (#[] : Array Value) ++ vs.toArray ++ #[] = vs.toArray from by simp]
    exact run_callFunc w hf hn hb
  rw [e]
  simp only [Oper.upon]
  refine hcall.mono fun e' w' hr => ?_
  obtain ⟨v, r, Bout, Bo, rfl, h6, h7, h8, h9, h10⟩ := hr
  have hadd := h.add (f := SF L L' Br Bq [] []) ⟨hL, h5, trivial⟩
  have h11 := hadd.moved h9 h10
  obtain ⟨h12, h13, _⟩ := h11.fact 0 rfl
  rw [owns_owns] at h7 h8
  refine hK _ _ (k r Bout h6 _ _ _ _ _ _ ⟨(d, v) :: L', Bo ++ Bq, h11.noFacts.put v hd, put_of h12 h7, ?_⟩ hQ)
  have key : ∀ {O : Nat → Prop} {B1 B2 : List OB} {b1 b2 : List Blk}, BsRep w' O B1 b1 → BsRep w' O B2 b2 → BsRep w' O (B1 ++ B2) (b1 ++ b2) := by
    intro O B1
    induction B1 with
    | nil => intro B2 b1 b2 h1 h2; rw [show b1 = [] from h1]; exact h2
    | cons b B1 ih =>
      intro B2 b1 b2 h1 h2
      obtain ⟨Bo, Bs', rfl, h3, h4⟩ := h1
      exact ⟨Bo, Bs' ++ b2, by simp, h3, ih h4 h2⟩
  exact key h8 h13
theorem p_call {f : FuncId} {fn : Func} {xs : List Operand} {us args : List AV} {ats : Array TypeId} {r : AV} (hf : P.funcs[f]? = some fn) (hn : (fn.name == "runtime.NumGoroutine") = false) (hb : fn.body.isNone = false)
    (hx : evAl L xs = some us) (hun : unNil us = some args) (hc : Does P f args r) (hd : Nat.blt d n = true) :
    AP P ops n { dst := some d, op := .call { callee := .value (.func f), args := xs.toArray, argTypes := ats }, type := ty, pos := pos, after := after, guard := none } d r L B := by
  intro K Ob w0 w a Bs L' Fs h hL hB
  obtain ⟨vs, h1, h2, h3⟩ := evl_of hL hx
  have hargs := unNil_of hun h2 h3
  have e0 : owns (owns Ob Bs) [] = owns Ob Bs := by funext b; simp [owns]
  have hcall := hc (owns Ob Bs) w vs [] (fun b hb => h.owns_lt hb) ⟨fun _ _ _ hm => by (cases hm), List.nodup_nil⟩ (by rw [e0]; exact hargs) rfl
  refine st_call (Φ := fun v w' => ARep w' (owns Ob Bs) v r) h hf hn hb h1 (hcall.mono fun e' w' hr => ?_) hd fun v w' a' hg hΦ h' => wpList_nil ⟨rfl, v, h', hΦ⟩
  obtain ⟨v, r', Bout, Bo, rfl, ⟨rfl, rfl⟩, h7, h8, h9, h10⟩ := hr
  have h8 : Bo = [] := h8
  subst h8
  rw [e0] at h7
  exact ⟨v, rfl, ⟨h9.size, fun b hb => h9.keep b hb (by simp), h9.io⟩, h7⟩
def argsA : Nat → List AV → Sg
  | _, [] => []
  | i, v :: vs => (i, v) :: argsA (i + 1) vs
theorem lk_argsA {w : World} {O : Nat → Prop} : ∀ {vs : List Value} {us : List AV} (i : Nat), TReps w O vs us → ∀ t x, lk (argsA i us) t = some x → ∃ v, look (argsL i vs) t = some v ∧ ARep w O v x
  | [], [], i, _, t, x, h => by simp [argsA, lk] at h
  | v :: vs, u :: us, i, h, t, x, hx => by
    simp only [argsA, lk] at hx
    simp only [argsL, look]
    cases e : Nat.beq t i <;> rw [e] at hx
    · exact lk_argsA (i + 1) h.2 t x hx
    · injection hx with hx; subst hx; exact ⟨v, rfl, h.1.a⟩
  | [], _ :: _, _, h, _, _, _ => h.elim
  | _ :: _, [], _, h, _, _, _ => h.elim
def RV (P : Program) (n : Nat) (L : Sg) (B : List OB) (r : ResultVar) (u : AV) : Prop :=
  ∀ (K Ob : Nat → Prop) (w0 w : World) (a : Act) (L' : List (Nat × Value)) (Bs : List Blk), St K Ob w0 w a n L' [] Bs → (∀ t x, lk L t = some x → ∃ v, look L' t = some v ∧ ARep w (owns Ob Bs) v x) → BsRep w (owns Ob Bs) B Bs →
    ∃ v, resv P w a r v ∧ TRep w (owns Ob Bs) v u
def RVs (P : Program) (n : Nat) (L : Sg) (B : List OB) : List ResultVar → List AV → Prop
  | [], [] => True
  | r :: rs, u :: us => RV P n L B r u ∧ RVs P n L B rs us
  | _, _ => False
def unNil1 : AV → Option AV
  | .one x => match x.isNil with
    | true => some (.one (.row []))
    | false => some (.one x)
  | .agg xs => match unNilL xs with
    | some ys => some (.agg ys)
    | none => none
  | _ => none
theorem unNil1_of {w : World} {O : Nat → Prop} {v : Value} {u y : AV} (h : ARep w O v u) (hu : unNil1 u = some y) : TRep w O v y := by
  have := unNil_of (w := w) (O := O) (us := [u]) (ys := [y]) (vs := [v]) (by
    cases u with
    | one x => simp only [unNil1] at hu; simp only [unNil]; split at hu <;> (injection hu with hu; subst hu; rename_i e; simp [e])
    | agg xs =>
      simp only [unNil1] at hu; simp only [unNil]
      split at hu
      · injection hu with hu; subst hu; rename_i e; simp [e]
      · cases hu
    | tup l => cases hu
    | un => cases hu) rfl (fun j a b ha hb => by
      cases j with
      | zero => simp at ha hb; subst ha hb; exact h
      | succ j => simp at ha)
  exact this.1
theorem rv_tmp {t : Nat} {u y : AV} (h : lk L t = some u) (hu : unNil1 u = some y) : RV P n L B (.tmp t) y := fun K Ob w0 w a L' Bs hs hL hB => by
  obtain ⟨v, h1, h2⟩ := hL t u h
  exact ⟨v, resv_tmp hs h1, unNil1_of h2 hu⟩
theorem rv_cell (i : Nat) {t T T' g m : Nat} {ag : Bool} {xs r : List LV} {u : AV} {B' : List OB} (ht : ∀ w, (isAgg T).run P w = .ok ag w) (hs : ∀ w, (Go.sizeOf T).run P w = .ok m w) (hi : frontB B i = some (.blk g T' xs, B')) (hx : lk L t = some (.one (.ow g 0))) (hl : Nat.beq xs.length m = true) (hun : unNilL xs = some r) (hu : bundle ag r = some u) : RV P n L B (.cell t T) u := fun K Ob w0 w a L' Bs h hL hB => by
  obtain ⟨hxi, rfl⟩ := frontB_eq hi
  have hl := Nat.eq_of_beq_eq_true hl
  obtain ⟨Bo, Bs', hp, ⟨cs, rfl, hreps⟩, _⟩ := hB.front hxi
  obtain ⟨v, hv, hr1⟩ := hL t _ hx
  obtain rfl : v = .pointer (some ⟨g, 0, none⟩) := hr1
  have hmem : (g, Tag.ty T', cs) ∈ Bs := hp.mem_iff.2 (by simp)
  obtain ⟨q, hq⟩ := List.mem_iff_getElem?.1 hmem
  replace hreps := unNilL_of hun hreps
  have hlen := hreps.len
  have hrl : r.length = xs.length := by have := unNilL_len hun; exact this
  cases ag with
  | true =>
    simp only [bundle, Option.some.injEq] at hu
    subst hu
    exact ⟨_, resv_agg h q hq hv ht hs (by omega), cs, rfl, hreps⟩
  | false =>
    obtain ⟨y, rfl, rfl⟩ := bundle_false hu
    rcases cs with _ | ⟨v0, _ | ⟨v1, cs⟩⟩
    · exact hreps.elim
    · exact ⟨v0, resv_cell h q hq hv ht rfl, hreps.1⟩
    · exact hreps.2.elim
def bundR : List AV → AV
  | [u] => u
  | us => .tup us
def subB : List Nat → List OB → Option (List OB)
  | [], B => some B
  | i :: is, B => match frontB B i with
    | some (_, r) => subB is r
    | none => none
theorem subB_all : ∀ (B : List OB), ∃ is, subB is B = some []
  | [] => ⟨[], rfl⟩
  | b :: B => by
    obtain ⟨is, h⟩ := subB_all B
    exact ⟨0 :: is, h⟩
def RQ (P : Program) (fn : Func) (n : Nat) (Post : AV → List OB → Prop) : Exit → Sg → List OB → Prop
  | .ret, L, B => ∃ us is B', RVs P n L B fn.results.toList us ∧ subB is B = some B' ∧ Post (bundR us) B'
  | .normal, L, B => ∃ us is B', RVs P n L B fn.results.toList us ∧ subB is B = some B' ∧ Post (bundR us) B'
  | _, _, _ => False
theorem St.sub {K Ob : Nat → Prop} {w0 w : World} {a : Act} {L' : List (Nat × Value)} : ∀ {is : List Nat} {B B' : List OB} {Bs : List Blk}, St K Ob w0 w a n L' [] Bs → BsRep w (owns Ob Bs) B Bs → subB is B = some B' → ∃ Bs', St K Ob w0 w a n L' [] Bs' ∧ BsRep w (owns Ob Bs') B' Bs' ∧ Le w (owns Ob Bs) w (owns Ob Bs')
  | [], B, B', Bs, h, hB, hs => by simp [subB] at hs; subst hs; exact ⟨Bs, h, hB, Nat.le_refl _, fun _ _ _ => rfl, fun _ _ h => h⟩
  | i :: is, B, B', Bs, h, hB, hs => by
    simp only [subB] at hs
    split at hs
    · rename_i x r hi
      obtain ⟨hx, rfl⟩ := frontB_eq hi
      obtain ⟨Bo, Bq, hp, h4, h5⟩ := hB.front hx
      have hle : Le w (owns Ob Bs) w (owns Ob Bq) := ⟨Nat.le_refl _, fun _ _ _ => rfl, fun b _ ho => ho.imp id fun hm => ((hp.map _).mem_iff).2 (by simp only [List.map_append, List.mem_append]; exact .inr hm)⟩
      obtain ⟨Bs', h6, h7, h8⟩ := St.sub (h.perm hp.symm).tailB (h5.keep hle) hs
      exact ⟨Bs', h6, h7, Nat.le_refl _, fun _ _ _ => rfl, fun b hb ho => hle.2.2 b hb (h8.2.2 b hb ho)⟩
    · cases hs
theorem RVs_run {K Ob : Nat → Prop} {w0 w : World} {a : Act} {L' : List (Nat × Value)} {Bs : List Blk} (h : St K Ob w0 w a n L' [] Bs) (hL : ∀ t x, lk L t = some x → ∃ v, look L' t = some v ∧ ARep w (owns Ob Bs) v x) (hB : BsRep w (owns Ob Bs) B Bs) :
    ∀ {rs : List ResultVar} {us : List AV}, RVs P n L B rs us → ∃ vs : List Value, (rs.mapM (resOf a.tmps)).run P w = .ok vs w ∧ TReps w (owns Ob Bs) vs us
  | [], [], _ => ⟨[], rfl, trivial⟩
  | r :: rs, u :: us, hr => by
    obtain ⟨v, h1, h2⟩ := hr.1 K Ob w0 w a L' Bs h hL hB
    obtain ⟨vs, h3, h4⟩ := RVs_run h hL hB hr.2
    refine ⟨v :: vs, ?_, h2, h4⟩
    simp only [List.mapM_cons, Sem.run_bind, run_resOf h1, Result.andThen_ok, h3, Sem.run_pure]
  | [], _ :: _, hr => hr.elim
  | _ :: _, [], hr => hr.elim
theorem does_ {f : FuncId} {fn : Func} {c : Code} {args : List AV} {Bin : List OB} {Post : AV → List OB → Prop} (hf : P.funcs[f]? = some fn) (hb : fn.body = some c) (hn : fn.ntmps = n) (hl : Nat.ble args.length n = true) (h : AC P n c (RQ P fn n Post) (argsA 0 args) Bin) : DoesB P f args Bin Post := by
  intro Ob W vs Bi hO hheld hargs hBin
  have hl' := Nat.le_of_ble_eq_true hl
  have hvl := hargs.len
  refine calls_of_wp hf hb ?_
  have hst : St (fun b => b < W.heap.size ∧ b ∉ Bi.map (·.1)) Ob W W { tmps := vs.toArray ++ Array.replicate (fn.ntmps - vs.toArray.size) undef, defers := [] } n (argsL 0 vs) [] Bi := by
    refine ⟨by simp [hn]; omega, rfl, fun t v hv => ?_, Nat.le_refl _, fun _ _ => rfl, fun g T cs hm => ?_, hheld.nodup, fun f hf => (by cases hf), fun b hb => hb.1, hO, fun b hb => ?_, rfl, rfl⟩
    · obtain ⟨_, h2⟩ := look_argsL 0 vs t v hv
      have ht : t < vs.length := by
        have := (List.getElem?_eq_some_iff.1 h2).1; simpa using this
      simp only [Nat.sub_zero] at h2
      rw [Array.getElem?_append_left (by simpa using ht)]
      simpa using h2
    · obtain ⟨h1, h2, h3⟩ := hheld.own g T cs hm
      exact ⟨fun hk => hk.2 (List.mem_map.2 ⟨_, hm, rfl⟩), h1, h2⟩
    · obtain ⟨⟨g, T, cs⟩, hg, rfl⟩ := List.mem_map.1 hb
      exact (hheld.own g T cs hg).2.2
  refine wp_mono (h _ Ob W W _ ⟨argsL 0 vs, Bi, hst, lk_argsA 0 hargs, hBin⟩) fun e a w ⟨L, B, ⟨L', Bs, h1, h2, h3⟩, h4⟩ => ?_
  have fin : ∀ us is B', RVs P n L B fn.results.toList us → subB is B = some B' → Post (bundR us) B' → a.defers = [] ∧ ∃ v, (results fn a.tmps).run P w = .ok v w ∧ (∃ v' r Bout Bo, Ending.returned v = .returned v' ∧ Post r Bout ∧ ARep w (owns Ob Bo) v' r ∧ BsRep w (owns Ob Bo) Bout Bo ∧ Moved W w Bi Bo ∧ Held w Ob Bo) := by
    intro us is B' hus hsub hpost
    obtain ⟨vs', h5, h6⟩ := RVs_run h1 h2 h3 hus
    obtain ⟨Bs2, k1, k3, hle⟩ := h1.sub h3 hsub
    replace h6 := h6.keep hle
    have hfrom : ∀ b, b < W.heap.size → b ∈ Bs2.map (·.1) → b ∈ Bi.map (·.1) := fun b hb hbo => by
      obtain ⟨⟨g, T, cs⟩, hg, rfl⟩ := List.mem_map.1 hbo
      have := (k1.own g T cs hg).1
      apply Classical.byContradiction
      intro hno
      exact this ⟨hb, hno⟩
    have hmoved : Moved W w Bi Bs2 := ⟨k1.wsize, fun b hb hno => k1.grow b ⟨hb, hno⟩, hfrom, k1.io⟩
    have hheld' : Held w Ob Bs2 := ⟨fun g T cs hg => ⟨(k1.own g T cs hg).2.1, (k1.own g T cs hg).2.2, k1.ownO g (List.mem_map.2 ⟨_, hg, rfl⟩)⟩, k1.nodup⟩
    have hres : (results fn a.tmps).run P w = .ok (if h : vs'.toArray.size = 1 then vs'.toArray[0] else .tuple vs'.toArray) w := by
      rw [results_eq]
      have hm : (fn.results.mapM (resOf a.tmps)).run P w = .ok vs'.toArray w := by
        obtain ⟨l, hl⟩ : ∃ l, fn.results = ⟨l⟩ := ⟨fn.results.toList, by simp⟩
        rw [hl] at h5 ⊢
        rw [List.mapM_toArray, map_eq_pure_bind, Sem.run_bind, show (List.mapM (resOf a.tmps) l).run P w = _ from h5]
        rfl
      simp only [Sem.run_bind, hm, Result.andThen_ok, Sem.run_pure]
    refine ⟨k1.defers, _, hres, _, bundR us, B', _, rfl, hpost, ?_, k3, hmoved, hheld'⟩
    rcases us with _ | ⟨u, _ | ⟨u2, us⟩⟩
    · rcases vs' with _ | ⟨v, vs'⟩
      · exact ⟨[], rfl, trivial⟩
      · exact h6.elim
    · rcases vs' with _ | ⟨v, _ | ⟨v2, vs'⟩⟩
      · exact h6.elim
      · exact h6.1.a
      · exact h6.2.elim
    · rcases vs' with _ | ⟨v, _ | ⟨v2, vs'⟩⟩
      · exact h6.elim
      · exact h6.2.elim
      · exact ⟨v :: v2 :: vs', by simp, h6⟩
  cases e with
  | ret => obtain ⟨us, is, B', h5, h6, h7⟩ := h4; exact fin us is B' h5 h6 h7
  | normal => obtain ⟨us, is, B', h5, h6, h7⟩ := h4; exact fin us is B' h5 h6 h7
  | exit id => exact h4.elim
  | goto l => exact h4.elim
  | panic c => exact h4.elim
  | outgrown => exact h4.elim
end Orr

namespace Orr
open Go
variable {P : Program} {ops : Array Oper} {n : Nat} {rest : List Oper} {N : Sg → List OB → Prop} {L : Sg} {B : List OB} {Q : Exit → Sg → List OB → Prop}
variable {d : Nat} {ty : TypeId} {pos : String} {after : Array Edge}
theorem sh_of_block {K Ob : Nat → Prop} {w0 w : World} {a : Act} {L' : List (Nat × Value)} {Fs : List Fact} {Bs : List Blk} {g T : Nat} {cs : List Value} {xs : List LV}
    (h : St K Ob w0 w a n L' Fs ((g, T, cs) :: Bs)) (hr : XReps w (owns Ob ((g, T, cs) :: Bs)) cs xs) (hf : ∀ x ∈ xs, x.free = true) : LRep w (owns Ob Bs) (.pointer (some ⟨g, 0, none⟩)) (.sh xs) := by
  have hle : Le w (owns Ob ((g, T, cs) :: Bs)) w (owns Ob Bs) := ⟨Nat.le_refl _, fun _ _ _ => rfl, fun b _ ho => ho.imp id fun hm => List.mem_cons_of_mem _ hm⟩
  have hl := hr.len
  refine .sh g 0 xs (fun j => cs.getD j undef) (h.own g T _ (List.mem_cons_self ..)).2.1 (own_notin h) (fun j hj => ?_) fun j x hx => ?_
  · rw [Nat.zero_add, h.own_cell (i := 0) rfl, List.getD_eq_getElem?_getD, List.getElem?_eq_getElem (by omega)]; rfl
  · obtain ⟨v, hv, hvr⟩ := hr.get hx
    rw [List.getD_eq_getElem?_getD, hv]
    exact (hvr.free (hf x (List.mem_of_getElem? hx))).keep hle
theorem p_boxS {T : TypeId} {x : Operand} {u : AV} {xs : List LV} (hx : evA L x = some u) (hl : leaves u = some xs) (hf : freeL xs = true) (hd : Nat.blt d n = true) :
    AP P ops n { dst := some d, op := .box T x, type := ty, pos := pos, after := after, guard := none } d (.one (.sh xs)) L B := by
  intro K Ob w0 w a Bs L' Fs h hL hB
  obtain ⟨v, hv, hr⟩ := ev_of hL hx
  obtain ⟨hc, _⟩ := leaves_of hr hl
  refine st_box' h hv hd fun g w' a' hg hgr h' => ?_
  have hc' : XReps w' (owns Ob ((g, T, v.cells.toList) :: Bs)) v.cells.toList xs := hc.keep (le_alloc hg hgr)
  exact wpList_nil ⟨rfl, _, h'.publish, sh_of_block h' hc' (freeL_of hf)⟩
def ones : List AV → Option (List LV)
  | [] => some []
  | .one x :: l => match ones l with
    | some r => some (x :: r)
    | none => none
  | _ :: _ => none
theorem ones_of {w : World} {O : Nat → Prop} : ∀ {us : List AV} {xs : List LV} {vs : List Value}, ones us = some xs → vs.length = us.length → (∀ (j : Nat) (v : Value) (u : AV), vs[j]? = some v → us[j]? = some u → ARep w O v u) → XReps w O vs xs
  | [], xs, vs, h, hl, _ => by
    simp [ones] at h; subst h
    have : vs = [] := List.eq_nil_of_length_eq_zero hl
    subst this; trivial
  | u :: us, xs, [], h, hl, _ => by simp at hl
  | u :: us, xs, v :: vs, h, hl, hr => by
    cases u with
    | one x =>
      simp only [ones] at h
      split at h
      · rename_i r hr'
        injection h with h; subst h
        exact ⟨hr 0 v (.one x) rfl rfl, ones_of hr' (by simpa using hl) fun j a b ha hb => hr (j + 1) a b (by simpa using ha) (by simpa using hb)⟩
      · cases h
    | agg xs => cases h
    | tup l => cases h
    | un => cases h
theorem p_makeFunc {f : Nat} {pre post : List Operand} {us ys : List AV} {xs zs : List LV} (hx : evAl L pre = some us) (hy : evAl L post = some ys) (hxs : ones us = some xs) (hzs : ones ys = some zs) (hf1 : freeL xs = true) (hf2 : freeL zs = true) (hd : Nat.blt d n = true) :
    AP P ops n { dst := some d, op := .makeFunc (.func f) pre.toArray post.toArray, type := ty, pos := pos, after := after, guard := none } d (.one (.fn f xs zs)) L B := by
  refine p_val hd fun K Ob w0 w a Bs L' Fs h hL hB => ?_
  obtain ⟨vs, h1, h2, h3⟩ := evl_of hL hx
  obtain ⟨qs, h4, h5, h6⟩ := evl_of hL hy
  have e1 := h.evl h1
  have e2 := h.evl h4
  have r1 := ones_of hxs h2 h3
  have r2 := ones_of hzs h5 h6
  refine ⟨.func (.func f) vs.toArray qs.toArray, ?_, LRep.fn f xs zs vs qs r1.len r2.len (fun j v x hv hx => (r1.get' hv hx).free (freeL_of hf1 x (List.mem_of_getElem? hx))) fun j v x hv hx => (r2.get' hv hx).free (freeL_of hf2 x (List.mem_of_getElem? hx))⟩
  simp only [execOp, Instr.makeFunc, e1, e2, Sem.run_bind, Sem.run_pure, Result.andThen_ok]
theorem rep_fn {w : World} {O : Nat → Prop} {v : Value} {f : Nat} {xs zs : List LV} (h : ARep w O v (.one (.fn f xs zs))) : ∃ vs us : List Value, v = .func (.func f) vs.toArray us.toArray ∧ XReps w O vs xs ∧ XReps w O us zs := by
  have h : LRep w O v (.fn f xs zs) := h
  cases h with
  | fn f pre post vs us h1 h2 h3 h4 => exact ⟨vs, us, rfl, XReps.of h1 fun j v x hv hx => (h3 j v x hv hx).x, XReps.of h2 fun j v x hv hx => (h4 j v x hv hx).x⟩
theorem treps_ones {w : World} {O : Nat → Prop} : ∀ {vs : List Value} {xs : List LV}, XReps w O vs xs → TReps w O vs (xs.map .one)
  | [], [], _ => trivial
  | v :: vs, x :: xs, h => ⟨h.1, treps_ones h.2⟩
  | [], _ :: _, h => h.elim
  | _ :: _, [], h => h.elim
theorem TReps.append {w : World} {O : Nat → Prop} : ∀ {vs us : List Value} {xs ys : List AV}, TReps w O vs xs → TReps w O us ys → TReps w O (vs ++ us) (xs ++ ys)
  | [], _, [], _, _, h => h
  | v :: vs, _, x :: xs, _, h, h' => ⟨h.1, h.2.append h'⟩
  | [], _, _ :: _, _, h, _ => h.elim
  | _ :: _, _, [], _, h, _ => h.elim
theorem p_callFn {f : FuncId} {fn : Func} {x : Operand} {xs : List Operand} {us args : List AV} {ats : Array TypeId} {pre post : List LV} {r : AV} (hg : evA L x = some (.one (.fn f pre post))) (hf : P.funcs[f]? = some fn) (hn : (fn.name == "runtime.NumGoroutine") = false) (hb : fn.body.isNone = false)
    (hx : evAl L xs = some us) (hun : unNil us = some args) (hc : Does P f (pre.map .one ++ args ++ post.map .one) r) (hd : Nat.blt d n = true) :
    AP P ops n { dst := some d, op := .call { callee := .value x, args := xs.toArray, argTypes := ats }, type := ty, pos := pos, after := after, guard := none } d r L B := by
  intro K Ob w0 w a Bs L' Fs h hL hB
  obtain ⟨vs, h1, h2, h3⟩ := evl_of hL hx
  have hargs := unNil_of hun h2 h3
  obtain ⟨v0, hv0, hr0⟩ := ev_of hL hg
  obtain ⟨ps, qs, rfl, hp, hq⟩ := rep_fn hr0
  have e0 : owns (owns Ob Bs) [] = owns Ob Bs := by funext b; simp [owns]
  have hall := ((treps_ones hp).append hargs).append (treps_ones hq)
  have hcall := hc (owns Ob Bs) w (ps ++ vs ++ qs) [] (fun b hb => h.owns_lt hb) ⟨fun _ _ _ hm => by (cases hm), List.nodup_nil⟩ (by rw [e0]; exact hall) rfl
  refine wpList_plain rfl fun K' hK => ?_
  unfold Oper.wp
  have e : (execOp a.eval { dst := some d, op := .call { callee := .value x, args := xs.toArray, argTypes := ats }, type := ty, pos := pos, after := after, guard := none }).run P w = .ok (.enter f (ps ++ vs ++ qs).toArray) w := by
    have hxs := h.evl h1
    have he := h.ev hv0
    simp only [execOp, resolve, he, Deferred.ofValue, hxs, Sem.run_bind, Sem.run_pure, Result.andThen_ok, invoke]
    rw [show ps.toArray ++ vs.toArray ++ qs.toArray = (ps ++ vs ++ qs).toArray from by simp]
    exact run_callFunc w hf hn hb
  rw [e]
  simp only [Oper.upon]
  refine hcall.mono fun e' w' hr => ?_
  obtain ⟨v, r', Bout, Bo, rfl, ⟨rfl, rfl⟩, h7, h8, h9, h10⟩ := hr
  have h8 : Bo = [] := h8
  subst h8
  rw [e0] at h7
  have hgr : Grow w w' := ⟨h9.size, fun b hb => h9.keep b hb (by simp), h9.io⟩
  refine hK _ _ (wpList_nil ⟨rfl, v, (h.grown hgr).put v hd, h7⟩)
theorem p_grun {dst : Option Nat} {op : Op} {j t : Nat} {want b : Bool} {u : AV} (hj : (ops[j]?).bind (·.dst) = some t) (hv : lk L t = some (.one (.bool b))) (hb : b = want) (hp : AP P ops n { dst := dst, op := op, type := ty, pos := pos, after := after, guard := none } d u L B) :
    AP P ops n { dst := dst, op := op, type := ty, pos := pos, after := after, guard := some (j, want) } d u L B := by
  intro K Ob w0 w a Bs L' Fs h hL hB
  obtain ⟨v, hv, hr⟩ := hL t _ hv
  obtain rfl := rep_bool hr
  exact guard_run h hj hv hb (hp K Ob w0 w a Bs L' Fs h hL hB)
theorem p_gskip {op : Op} {j t : Nat} {want b : Bool} (hj : (ops[j]?).bind (·.dst) = some t) (hv : lk L t = some (.one (.bool b))) (hb : b = !want) (hd : Nat.blt d n = true) :
    AP P ops n { dst := some d, op := op, type := ty, pos := pos, after := after, guard := some (j, want) } d .un L B := by
  intro K Ob w0 w a Bs L' Fs h hL hB
  obtain ⟨v, hv, hr⟩ := hL t _ hv
  obtain rfl := rep_bool hr
  exact guard_skip h hj hv hb hd fun a' h' => wpList_nil ⟨rfl, _, h', trivial⟩
theorem aw_grun {dst : Option Nat} {op : Op} {j t : Nat} {want b : Bool} (hj : (ops[j]?).bind (·.dst) = some t) (hv : lk L t = some (.one (.bool b))) (hb : b = want) (hp : AW P ops n ({ dst := dst, op := op, type := ty, pos := pos, after := after, guard := none } :: rest) N L B) :
    AW P ops n ({ dst := dst, op := op, type := ty, pos := pos, after := after, guard := some (j, want) } :: rest) N L B := by
  intro K Ob w0 w a Q hs hQ
  obtain ⟨L', Bs, h, hL, hB⟩ := hs
  obtain ⟨v, hv, hr⟩ := hL t _ hv
  obtain rfl := rep_bool hr
  exact guard_run h hj hv hb (hp K Ob w0 w a Q ⟨L', Bs, h, hL, hB⟩ hQ)
def APs (P : Program) (ops : Array Oper) (n : Nat) (L : Sg) (B : List OB) (D : List Nat) (us : List AV) : Nat → List (List (Nat × AV)) → List Oper → Prop
  | i, dep :: deps, o :: os => AP P ops n o (D.getD i 0) (us.getD i .un) (dep ++ L) B ∧ APs P ops n L B D us (i + 1) deps os
  | _, _, _ => True
def depsOf (D : List Nat) (us : List AV) : List (List Nat) → List (List (Nat × AV))
  | [] => []
  | js :: r => go js :: depsOf D us r
where go : List Nat → List (Nat × AV)
  | [] => []
  | j :: js => (D.getD j 0, us.getD j .un) :: go js
def zipD : List Nat → List AV → Sg → Option Sg
  | [], [], L => some L
  | d :: D, u :: us, L => match zipD D us L with
    | some r => some ((d, u) :: r)
    | none => none
  | _, _, _ => none
theorem only {w : World} {O : Nat → Prop} {L' : List (Nat × Value)} : ∀ (L : Sg), (∀ t x, lk L t = some x → ∃ v, look L' t = some v ∧ ARep w O v x) →
    ∃ L2 : List (Nat × Value), (∀ t, lk L t = none → look L2 t = none) ∧ (∀ t v, look L2 t = some v → look L' t = some v) ∧ (∀ t x, lk L t = some x → ∃ v, look L2 t = some v ∧ ARep w O v x)
  | [], _ => ⟨[], fun _ _ => rfl, fun _ _ (h : none = some _) => (nomatch h), fun t x (h : none = some _) => (nomatch h)⟩
  | (s, u) :: L, h => by
    -- a slot that is told twice: the first one counts
    have h1 : ∀ t x, lk (L.filter fun p => !(Nat.beq p.1 s)) t = some x → ∃ v, look L' t = some v ∧ ARep w O v x := fun t x hx => by
      have : Nat.beq t s = false ∧ lk L t = some x := by
        clear h
        induction L with
        | nil => cases hx
        | cons p L ih =>
          obtain ⟨q, y⟩ := p
          cases e : Nat.beq q s
          · simp only [List.filter, e, Bool.not_false, lk] at hx ⊢
            cases e2 : Nat.beq t q <;> rw [e2] at hx
            · exact ih hx
            · have := Nat.eq_of_beq_eq_true e2; subst this; exact ⟨e, hx⟩
          · simp only [List.filter, e, Bool.not_true] at hx
            obtain ⟨h1, h2⟩ := ih hx
            refine ⟨h1, ?_⟩
            simp only [lk]
            have : q = s := Nat.eq_of_beq_eq_true e
            subst this
            rw [h1]; exact h2
      exact h t x (by simp only [lk, this.1]; exact this.2)
    have hlen : (L.filter fun p => !(Nat.beq p.1 s)).length < ((s, u) :: L).length := by
      have := List.length_filter_le (fun p : Nat × AV => !(Nat.beq p.1 s)) L
      simp only [List.length_cons]; omega
    obtain ⟨L2, h2, h3, h4⟩ := only (L.filter fun p => !(Nat.beq p.1 s)) h1
    have hf : ∀ t, Nat.beq t s = false → lk (L.filter fun p => !(Nat.beq p.1 s)) t = lk L t := fun t ht => by
      clear h h1 h2 h3 h4 hlen
      induction L with
      | nil => rfl
      | cons p L ih =>
        obtain ⟨q, y⟩ := p
        cases e : Nat.beq q s
        · simp only [List.filter, e, Bool.not_false, lk]
          rw [ih]
        · simp only [List.filter, e, Bool.not_true, lk]
          have : q = s := Nat.eq_of_beq_eq_true e
          subst this
          rw [ht]; exact ih
    obtain ⟨v, hv, hr⟩ := h s u (by simp [lk])
    refine ⟨(s, v) :: L2, fun t ht => ?_, fun t y hy => ?_, fun t x hx => ?_⟩
    · simp only [lk] at ht
      cases e : Nat.beq t s <;> rw [e] at ht
      · simp only [look, e]; exact h2 t (by rw [hf t e]; exact ht)
      · cases ht
    · simp only [look] at hy
      cases e : Nat.beq t s <;> rw [e] at hy
      · exact h3 t y hy
      · injection hy with hy; subst hy; rw [Nat.eq_of_beq_eq_true e]; exact hv
    · simp only [lk] at hx
      simp only [look]
      cases e : Nat.beq t s <;> rw [e] at hx
      · exact h4 t x (by rw [hf t e]; exact hx)
      · injection hx with hx; subst hx; exact ⟨v, rfl, hr⟩
termination_by L => L.length
def avF (u : AV) (v : Value) : Fact := ⟨fun w O => ARep w O v u, fun hle h => h.keep hle⟩
theorem depsOf_get {D : List Nat} {us : List AV} : ∀ {deps : List (List Nat)} {i : Nat} {js : List Nat}, deps[i]? = some js → (depsOf D us deps)[i]? = some (js.map fun j => (D.getD j 0, us.getD j .un))
  | [], i, js, h => by simp at h
  | x :: r, 0, js, h => by
    simp at h; subst h
    have : ∀ js : List Nat, depsOf.go D us js = js.map fun j => (D.getD j 0, us.getD j .un) := fun js => by induction js <;> simp [depsOf.go, *]
    simp [depsOf, this]
  | x :: r, i + 1, js, h => by simpa [depsOf] using depsOf_get (i := i) (by simpa using h)
theorem zipD_eq : ∀ {D : List Nat} {us : List AV} {L L2 : Sg}, zipD D us L = some L2 → D.length = us.length ∧ L2 = (D.zip us) ++ L
  | [], [], L, L2, h => by simp [zipD] at h; subst h; simp
  | d :: D, u :: us, L, L2, h => by
    simp only [zipD] at h
    split at h
    · rename_i r hr
      injection h with h; subst h
      obtain ⟨h1, rfl⟩ := zipD_eq hr
      simp [h1]
    · cases h
  | [], _ :: _, _, _, h => by simp [zipD] at h
  | _ :: _, [], _, _, h => by simp [zipD] at h
theorem lk_dep {w : World} {O : Nat → Prop} {D : List Nat} {us : List AV} {v : Nat → Value} {L : Sg} {L2 : List (Nat × Value)} (hL : ∀ t x, lk L t = some x → ∃ y, look L2 t = some y ∧ ARep w O y x) : ∀ {js : List Nat}, (∀ j ∈ js, ARep w O (v j) (us.getD j .un)) → ∀ t x, lk (js.map (fun j => (D.getD j 0, us.getD j .un)) ++ L) t = some x → ∃ y, look (js.map (fun j => (D.getD j 0, v j)) ++ L2) t = some y ∧ ARep w O y x
  | [], _, t, x, h => hL t x h
  | j :: js, hj, t, x, h => by
    simp only [List.map_cons, List.cons_append, lk] at h
    simp only [List.map_cons, List.cons_append, look]
    cases e : Nat.beq t (D.getD j 0) <;> rw [e] at h
    · exact lk_dep hL (fun k hk => hj k (List.mem_cons_of_mem _ hk)) t x h
    · injection h with h; subst h; exact ⟨_, rfl, hj j (List.mem_cons_self ..)⟩
theorem dd_some (D : List Nat) (j : Nat) (h : j < D.length) : dd (D.map some) j = D.getD j 0 ∧ dE (D.map some) j = true := by
  unfold dd dE
  simp [List.getD_eq_getElem?_getD, List.getElem?_map, List.getElem?_eq_getElem h]
theorem dL_some (D : List Nat) (v : Nat → Value) (js : List Nat) (h : ∀ j ∈ js, j < D.length) : dL (D.map some) v js = js.map fun j => (D.getD j 0, v j) := by
  unfold dL
  have : js.filter (dE (D.map some)) = js := List.filter_eq_self.2 fun j hj => (dd_some D j (h j hj)).2
  rw [this]
  exact List.map_congr_left fun j hj => by rw [(dd_some D j (h j hj)).1]
theorem ac_draw {id : Nat} {l : List Oper} (hm : P.follows .mixedOrders = true) (m : Nat) (D : List Nat) (deps : List (List Nat)) (us : List AV) {L2 : Sg} (hchk : chkDraw l m (D.map some) deps = true)
    (hDm : (Nat.beq D.length m && Nat.beq us.length m && deps.all fun js => js.all fun j => Nat.blt j m) = true) (hnone : (D.all fun t => (lk L t).isNone) = true) (hops : APs P l.toArray n L B D us 0 (depsOf D us deps) (l.take m))
    (hz : zipD D us L = some L2) (k : AW P l.toArray n (l.drop m) (fun L B => Q .normal L B) L2 B) : AC P n (.region id l.toArray true) Q L B := by
  rintro K Ob w0 w a ⟨L', Bs, h, hL, hB⟩
  simp only [Bool.and_eq_true, List.all_eq_true] at hDm hnone
  obtain ⟨⟨hD, hU⟩, hdl⟩ := hDm
  have hD := Nat.eq_of_beq_eq_true hD
  have hU := Nat.eq_of_beq_eq_true hU
  have hdl : ∀ js ∈ deps, ∀ j ∈ js, j < m := fun js hj j hjj => by have := hdl js hj j hjj; rwa [Nat.blt_eq] at this
  obtain ⟨L3, h1, h2, h3⟩ := only L hL
  have hst : St K Ob w0 w a n L3 [] Bs := { h with slots := fun t v hv => h.slots t v (h2 t v hv) }
  have hst2 := hst.add (f := SF L L3 B Bs [] []) ⟨h3, hB, trivial⟩
  have hc := chk_of hchk
  have hget : ∀ (os : List Oper) (ds : List (List (Nat × AV))) (k : Nat), APs P l.toArray n L B D us k ds os → ∀ (i : Nat) dep o, ds[i]? = some dep → os[i]? = some o → AP P l.toArray n o (D.getD (k + i) 0) (us.getD (k + i) .un) (dep ++ L) B := by
    intro os
    induction os with
    | nil => intro ds k _ i dep o _ ho; simp at ho
    | cons o os ih =>
      intro ds k hap i dep o' hd ho
      rcases ds with _ | ⟨dp, ds⟩
      · simp at hd
      · cases i with
        | zero => simp at hd ho; subst hd ho; exact hap.1
        | succ i =>
          have := ih ds (k + 1) hap.2 i dep o' (by simpa using hd) (by simpa using ho)
          rw [show k + (i + 1) = k + 1 + i from by omega]
          exact this
  have hdrawops : ∀ (js : List (List Nat)) (os : List Oper) (k : Nat), (∀ i dj o, js[i]? = some dj → os[i]? = some o → k + i < m → AP P l.toArray n o (D.getD (k + i) 0) (us.getD (k + i) .un) (dj.map (fun j => (D.getD j 0, us.getD j .un)) ++ L) B ∧ ∀ j ∈ dj, j < m) → k + js.length = m →
      DrawOps P l.toArray K Ob w0 n L3 [SF L L3 B Bs [] []] (fun _ _ => Bs) (D.map some) (us.map avF) k js os := by
    intro js
    induction js with
    | nil => intro os k _ _; cases os <;> trivial
    | cons dj js ih =>
      intro os k hall hlen
      rcases os with _ | ⟨o, os⟩
      · trivial
      · refine ⟨?_, ih os (k + 1) (fun i dj' o' hd ho hlt => ?_) (by simp at hlen ⊢; omega)⟩
        · intro p _ _ v Fx a' w' hs
          obtain ⟨hap, hjm⟩ := hall 0 dj o rfl rfl (by simp at hlen; omega)
          rw [Nat.add_zero] at hap
          have hkm : k < m := by simp at hlen; omega
          rw [dL_some D v dj fun j hj => by rw [hD]; exact hjm j hj] at hs
          have hfacts : ∀ j ∈ dj, ARep w' (owns Ob Bs) (v j) (us.getD j .un) := fun j hj => by
            have := hs.facts ((us.map avF).getD j noF (v j)) (List.mem_append.2 (.inl (List.mem_map.2 ⟨j, hj, rfl⟩)))
            rw [List.getD_eq_getElem?_getD, List.getElem?_map, List.getElem?_eq_getElem (by rw [hU]; exact hjm j hj)] at this
            rw [List.getD_eq_getElem?_getD, List.getElem?_eq_getElem (by rw [hU]; exact hjm j hj)]
            exact this
          obtain ⟨h6, h7, _⟩ : (SF L L3 B Bs [] []).holds w' (owns Ob Bs) := hs.facts _ (List.mem_append.2 (.inr (by simp)))
          have hw := hap K Ob w0 w' a' Bs _ _ hs (lk_dep h6 hfacts) h7
          refine wp_next hs.defers (fun _ _ ⟨_, hh, _⟩ => hh.defers) hw fun a2 w2 hh => ?_
          obtain ⟨x, h8, h9⟩ := hh
          refine wpList_nil ⟨rfl, x, ?_⟩
          have hdk := dd_some D k (by rw [hD]; exact hkm)
          have e5 : (us.map avF).getD k noF = avF (us[k]'(by rw [hU]; exact hkm)) := by
            rw [List.getD_eq_getElem?_getD, List.getElem?_map, List.getElem?_eq_getElem (by rw [hU]; exact hkm)]; rfl
          rw [if_pos hdk.2, hdk.1, e5]
          rw [List.getD_eq_getElem?_getD (l := us), List.getElem?_eq_getElem (by rw [hU]; exact hkm)] at h9
          exact h8.drawEnd (by simp [look]) h9
        · have := hall (i + 1) dj' o' (by simpa using hd) (by simpa using ho) (by omega)
          rw [show k + (i + 1) = k + 1 + i from by omega] at this
          exact this
  have hap0 : DrawOps P l.toArray K Ob w0 n L3 [SF L L3 B Bs [] []] (fun _ _ => Bs) (D.map some) (us.map avF) 0 deps l := by
    refine hdrawops deps l 0 (fun i dj o hd ho hlt => ⟨?_, hdl dj (List.mem_of_getElem? hd)⟩) (by rw [Nat.zero_add]; exact hc.deplen)
    exact hget (l.take m) _ 0 hops i _ o (depsOf_get hd) (by rw [List.getElem?_take, if_pos (by omega)]; exact ho)
  refine draw0_ hm m (D.map some) deps (us.map avF) hchk hst2 ?_ hap0 fun v a' w' hs => ?_
  · rw [List.all_eq_true]
    intro j hj
    have hjm : j < m := List.mem_range.1 hj
    rw [(dd_some D j (by rw [hD]; exact hjm)).1]
    have hmem : D.getD j 0 ∈ D := by rw [List.getD_eq_getElem?_getD, List.getElem?_eq_getElem (by rw [hD]; exact hjm)]; exact List.getElem_mem _
    have := hnone _ hmem
    rw [Option.isNone_iff_eq_none] at this
    rw [h1 _ this]; simp
  · rw [dL_some D v _ fun j hj => by rw [hD]; exact List.mem_range.1 hj] at hs
    have hfacts : ∀ j ∈ List.range m, ARep w' (owns Ob Bs) (v j) (us.getD j .un) := fun j hj => by
      have hjm := List.mem_range.1 hj
      have := hs.facts ((us.map avF).getD j noF (v j)) (List.mem_append.2 (.inl (List.mem_map.2 ⟨j, hj, rfl⟩)))
      rw [List.getD_eq_getElem?_getD, List.getElem?_map, List.getElem?_eq_getElem (by rw [hU]; exact hjm)] at this
      rw [List.getD_eq_getElem?_getD, List.getElem?_eq_getElem (by rw [hU]; exact hjm)]
      exact this
    obtain ⟨h6, h7, _⟩ : (SF L L3 B Bs [] []).holds w' (owns Ob Bs) := hs.facts _ (List.mem_append.2 (.inr (by simp)))
    obtain ⟨_, rfl⟩ := zipD_eq hz
    have hzip : D.zip us = (List.range m).map fun j => (D.getD j 0, us.getD j .un) := by
      apply List.ext_getElem
      · simp [hD, hU]
      · intro i h1 h2
        simp at h1 h2 ⊢
        have e1 : D[i]? = some D[i] := List.getElem?_eq_getElem (by omega)
        have e2 : us[i]? = some us[i] := List.getElem?_eq_getElem (by omega)
        simp [e1, e2]
    rw [hzip] at k
    exact k K Ob w0 w' a' _ ⟨_, Bs, hs.noFacts, lk_dep h6 hfacts, h7⟩ fun a2 w2 h => h
end Orr

namespace Orr
open Go
variable {P : Program}
def limbs (x : Nat) : List Nat := if h : x = 0 then [] else (x % 4294967296) :: limbs (x / 4294967296)
termination_by x
decreasing_by omega
theorem limbs_zero : limbs 0 = [] := by unfold limbs; simp
theorem limbs_pos {x : Nat} (h : x ≠ 0) : limbs x = (x % 4294967296) :: limbs (x / 4294967296) := by rw [limbs]; simp [h]
theorem val_limbs (x : Nat) : val (limbs x) = x := by
  induction x using Nat.strongRecOn with
  | _ x ih =>
    rcases Nat.eq_zero_or_pos x with h | h
    · subst h; rw [limbs_zero]; rfl
    · rw [limbs_pos (by omega)]
      simp only [val]
      rw [ih _ (by omega)]; omega
theorem nrm_limbs (x : Nat) : Nrm (limbs x) := by
  induction x using Nat.strongRecOn with
  | _ x ih =>
    rcases Nat.eq_zero_or_pos x with h | h
    · subst h; rw [limbs_zero]; exact ⟨by simp, fun h => absurd rfl h⟩
    · rw [limbs_pos (by omega)]
      obtain ⟨h1, h2⟩ := ih (x / 4294967296) (by omega)
      refine ⟨fun u hu => ?_, fun _ => ?_⟩
      · rcases List.mem_cons.1 hu with rfl | hu
        · omega
        · exact h1 u hu
      · by_cases h3 : x / 4294967296 = 0
        · rw [h3, limbs_zero]; exact ⟨x % 4294967296, rfl, by omega⟩
        · have h4 : limbs (x / 4294967296) ≠ [] := by rw [limbs_pos h3]; simp
          obtain ⟨u, hu, hu0⟩ := h2 h4
          refine ⟨u, ?_, hu0⟩
          rcases hl : limbs (x / 4294967296) with _ | ⟨y, l⟩
          · exact absurd hl h4
          · rw [hl] at hu; simpa using hu
theorem limbs_of {l : List Nat} {x : Nat} (h : Nrm l) (hv : val l = x) : l = limbs x := nrm_inj h (nrm_limbs x) (by rw [hv, val_limbs])
def u32r (l : List Nat) : LV := .row (l.map fun (x : Nat) => [.int .u32 (x : Int)])
def sg (z : Int) : LV := .bool (decide (z < 0))
def mg (z : Int) : LV := u32r (limbs z.natAbs)
abbrev ofI (z : Int) : List LV := [sg z, mg z]
def IsInt (x y : LV) (z : Int) : Prop := ∃ b l, x = .bool b ∧ y = u32r l ∧ (∀ u ∈ l, u < 4294967296) ∧ z = if b = true then -((val l : Nat) : Int) else ((val l : Nat) : Int)
theorem isInt_n (z : Int) : IsInt (sg z) (mg z) z := by
  refine ⟨_, _, rfl, rfl, (nrm_limbs _).1, ?_⟩
  rw [val_limbs]
  by_cases h : z < 0 <;> simp [h] <;> omega
theorem isInt_zero : IsInt (.bool false) (.row []) 0 := ⟨false, [], rfl, rfl, by simp, rfl⟩
theorem sg_zero : sg 0 = .bool false := rfl
theorem mg_zero : mg 0 = .row [] := by unfold mg; rw [show (0 : Int).natAbs = 0 from rfl, limbs_zero]; rfl
theorem limbs_nil {z : Int} : (limbs z.natAbs).length = 0 ↔ z = 0 := by
  constructor
  · intro h
    have h0 := List.eq_nil_of_length_eq_zero h
    have := (nrm_zero (nrm_limbs z.natAbs)).2 h0
    rw [val_limbs] at this; omega
  · rintro rfl; rw [show (0 : Int).natAbs = 0 from rfl, limbs_zero]; rfl
theorem row32_of {w : World} {O : Nat → Prop} {v : Value} {l : List Nat} (h : LRep w O v (u32r l)) (hl : ∀ u ∈ l, u < 4294967296) : ∃ A c, v = .slice A l.length c ∧ Rel.row32.at_ w O [.slice A l.length c] l := by
  unfold u32r at h
  generalize hm : l.map (fun (x : Nat) => [LV.int .u32 (x : Int)]) = m at h
  cases h with
  | row A c sz b o m f hc hc63 hm47 hs hA hcell hrep =>
    have e : m.length = l.length := by rw [← hm]; simp
    refine ⟨A, c, by rw [e], A, c, rfl, by omega, hc63, by omega, fun h0 => ?_⟩
    obtain ⟨rfl, h1, h2⟩ := hA (by omega)
    refine ⟨b, o, rfl, h1, h2, fun i x hx => ?_⟩
    have hi : m[i]? = some [LV.int .u32 (x : Int)] := by rw [← hm, List.getElem?_map, hx]; rfl
    have hsz : sz = 1 := (hs _ (List.mem_of_getElem? hi)).symm
    subst hsz
    refine ⟨[.int .u32 (x : Int)], ⟨rfl, hl x (List.mem_of_getElem? hx)⟩, fun j v hj => ?_⟩
    cases j with
    | succ j => simp at hj
    | zero =>
      simp at hj; subst hj
      have h3 := hcell i _ hi 0 (by simp)
      have h4 := hrep i _ hi 0 _ rfl
      have h5 : f i 0 = .int .u32 (x : Int) := by generalize f i 0 = q at h4; cases h4; rfl
      rw [h5] at h3
      exact h3
theorem row32_to {w : World} {O : Nat → Prop} {A : Option Addr} {n c : Nat} {l : List Nat} (h : Rel.row32.at_ w O [.slice A n c] l) : LRep w O (.slice A n c) (u32r l) := by
  obtain ⟨A', c', h1, h2, h3, h4, hr⟩ := h
  simp at h1; obtain ⟨rfl, rfl, rfl⟩ := h1
  have hb : ∃ b o, 0 < l.length → A = some ⟨b, o, none⟩ ∧ b < w.heap.size ∧ ¬ O b ∧ ∀ i x, l[i]? = some x → ∃ cs, Rel.u32.at_ w O cs x ∧ ∀ j v, cs[j]? = some v → w.cell? ⟨b, o + i * Rel.u32.size + j, none⟩ = some v := by
    rcases Nat.eq_zero_or_pos l.length with h0 | h0
    · exact ⟨0, 0, fun h => by omega⟩
    · obtain ⟨b, o, h⟩ := hr h0
      exact ⟨b, o, fun _ => h⟩
  obtain ⟨b, o, hb⟩ := hb
  have hlen : (l.map fun (x : Nat) => [LV.int .u32 (x : Int)]).length = l.length := by simp
  have hget : ∀ (i : Nat) (cs : List LV), (l.map fun (x : Nat) => [LV.int .u32 (x : Int)])[i]? = some cs → ∃ x, l[i]? = some x ∧ cs = [LV.int .u32 (x : Int)] := fun i cs hi => by
    rw [List.getElem?_map] at hi
    cases hx : l[i]? with
    | none => rw [hx] at hi; cases hi
    | some x => rw [hx] at hi; injection hi with hi; exact ⟨x, rfl, hi.symm⟩
  have key := LRep.row (w := w) (O := O) A c 1 b o (l.map fun (x : Nat) => [LV.int .u32 (x : Int)]) (fun i _ => .int .u32 (((l[i]?).getD 0 : Nat) : Int)) (by rw [hlen]; exact h2) h3 (by rw [hlen]; exact h4) (by simp)
    (fun h0 => by rw [hlen] at h0; obtain ⟨h5, h6, h7, _⟩ := hb h0; exact ⟨h5, h6, h7⟩)
    (fun i cs hi j hj => by
      obtain ⟨x, hx, rfl⟩ := hget i cs hi
      have h0 : 0 < l.length := Nat.lt_of_le_of_lt (Nat.zero_le _) (List.getElem?_eq_some_iff.1 hx).1
      obtain ⟨_, _, _, hc⟩ := hb h0
      obtain ⟨cs, ⟨rfl, _⟩, h8⟩ := hc i x hx
      have hj0 : j = 0 := by simp at hj; omega
      subst hj0
      have := h8 0 _ rfl
      rw [hx]; exact this)
    (fun i cs hi j x hx => by
      obtain ⟨y, hy, rfl⟩ := hget i cs hi
      cases j with
      | succ j => simp at hx
      | zero =>
        simp at hx; subst hx
        rw [hy]; exact .int _ _)
  rw [hlen] at key
  exact key
theorem natA_to {w : World} {O : Nat → Prop} {v : Value} {l : List Nat} (h : LRep w O v (u32r l)) (hl : ∀ u ∈ l, u < 4294967296) : ∃ A n c, v = .slice A n c ∧ Rel.natA.at_ w O [.slice A n c] (val l) := by
  obtain ⟨A, c, rfl, h1⟩ := row32_of h hl
  exact ⟨A, _, c, rfl, l, h1, hl, rfl⟩
theorem natN_to {w : World} {O : Nat → Prop} {A : Option Addr} {n c : Nat} {x : Nat} (h : Rel.natN.at_ w O [.slice A n c] x) : LRep w O (.slice A n c) (u32r (limbs x)) := by
  obtain ⟨l, h1, h2, h3⟩ := h
  rw [← limbs_of h2 h3]
  exact row32_to h1
theorem intA_to {w : World} {O : Nat → Prop} {v : Value} {x y : LV} {z : Int} (h : TRep w O v (.agg [x, y])) (hi : IsInt x y z) : ∃ b A n c, v = .agg #[.bool b, .slice A n c] ∧ Rel.intA.at_ w O [.bool b, .slice A n c] z := by
  obtain ⟨vs, rfl, hr⟩ := h
  obtain ⟨b, l, rfl, rfl, hl, rfl⟩ := hi
  rcases vs with _ | ⟨v1, _ | ⟨v2, _ | ⟨v3, vs⟩⟩⟩
  · exact hr.elim
  · exact hr.2.elim
  · have h1 : LRep w O v1 (.bool b) := hr.1
    cases h1
    obtain ⟨A, n, c, rfl, h2⟩ := natA_to (hr.2.1 : LRep w O v2 (u32r l)) hl
    exact ⟨b, A, n, c, rfl, (b, val l), ⟨[.bool b], [.slice A n c], rfl, rfl, h2⟩, rfl⟩
  · exact hr.2.2.elim
theorem intN_to {w : World} {O : Nat → Prop} {v : Value} {z : Int} (h : (Rel.intN.aggF z v).holds w O) : TRep w O v (.agg (ofI z)) := by
  obtain ⟨cs, rfl, h⟩ := h
  obtain ⟨b, A, n, c, rfl⟩ := intN_shape h
  obtain ⟨h1, h2⟩ := intN_open h
  refine ⟨_, rfl, ?_, (natN_to h1).x, trivial⟩
  show LRep w O (.bool b) (.bool (decide (z < 0)))
  rw [h2]; exact .bool _
theorem owns_nil (Ob : Nat → Prop) : owns Ob [] = Ob := by funext b; simp [owns]
theorem does_of {f : Nat} {args : List AV} {r : AV} (h : ∀ (Ob : Nat → Prop) (W : World) (vs : List Value), (∀ b, Ob b → b < W.heap.size) → TReps W Ob vs args → ∃ F, Calls P f vs.toArray W (Ret W Ob F) ∧ ∀ w v, (F v).holds w Ob → ARep w Ob v r) : Does P f args r := by
  intro Ob W vs Bi hO hheld hargs hBin
  have hBin : Bi = [] := hBin
  subst hBin
  rw [owns_nil] at hargs
  obtain ⟨F, hc, hF⟩ := h Ob W vs hO hargs
  refine hc.mono fun e w' ⟨v, he, hg, hv⟩ => ⟨v, r, [], [], he, ⟨rfl, rfl⟩, by rw [owns_nil]; exact hF w' v hv, rfl, ⟨hg.1, fun b hb _ => hg.2 b hb, fun b _ hb => (by simp at hb), hg.io⟩, ⟨fun _ _ _ hm => by (cases hm), List.nodup_nil⟩⟩
theorem does_int1 {f : Nat} {x y : LV} {z : Int} {r : AV} (hi : IsInt x y z) (h : ∀ (Ob : Nat → Prop) (W : World) (b : Bool) (A : Option Addr) (n c : Nat), (∀ b, Ob b → b < W.heap.size) → Rel.intA.at_ W Ob [.bool b, .slice A n c] z → ∃ F, Calls P f #[.agg #[.bool b, .slice A n c]] W (Ret W Ob F) ∧ ∀ w v, (F v).holds w Ob → ARep w Ob v r) : Does P f [.agg [x, y]] r :=
  does_of fun Ob W vs hO hargs => by
    rcases vs with _ | ⟨v, _ | ⟨v2, vs⟩⟩
    · exact hargs.elim
    · obtain ⟨b, A, n, c, rfl, h1⟩ := intA_to hargs.1 hi
      exact h Ob W b A n c hO h1
    · exact hargs.2.elim
theorem does_int2 {f : Nat} {x y x' y' : LV} {z z' : Int} {r : AV} (hi : IsInt x y z) (hi' : IsInt x' y' z') (h : ∀ (Ob : Nat → Prop) (W : World) (b : Bool) (A : Option Addr) (n c : Nat) (b' : Bool) (A' : Option Addr) (n' c' : Nat), (∀ b, Ob b → b < W.heap.size) → Rel.intA.at_ W Ob [.bool b, .slice A n c] z → Rel.intA.at_ W Ob [.bool b', .slice A' n' c'] z' → ∃ F, Calls P f #[.agg #[.bool b, .slice A n c], .agg #[.bool b', .slice A' n' c']] W (Ret W Ob F) ∧ ∀ w v, (F v).holds w Ob → ARep w Ob v r) : Does P f [.agg [x, y], .agg [x', y']] r :=
  does_of fun Ob W vs hO hargs => by
    rcases vs with _ | ⟨v, _ | ⟨v2, _ | ⟨v3, vs⟩⟩⟩
    · exact hargs.elim
    · exact hargs.2.elim
    · obtain ⟨b, A, n, c, rfl, h1⟩ := intA_to hargs.1 hi
      obtain ⟨b', A', n', c', rfl, h2⟩ := intA_to hargs.2.1 hi'
      exact h Ob W b A n c b' A' n' c' hO h1 h2
    · exact hargs.2.2.elim
theorem aggF_a {w : World} {O : Nat → Prop} {z : Int} : ∀ v, (Rel.intN.aggF z v).holds w O → ARep w O v (.agg (ofI z)) := fun _ h => (intN_to h).a
theorem eqF_a {w : World} {O : Nat → Prop} {c : Value} {r : AV} (hr : cst c = some r) : ∀ v, (eqF c v).holds w O → ARep w O v r := fun v h => by
  have h : v = c := h
  subst h; exact cst_rep hr
def IsInts : List (List LV) → List Int → Prop
  | [], [] => True
  | x :: l, z :: p => (∃ a b, x = [a, b] ∧ IsInt a b z) ∧ IsInts l p
  | _, _ => False
theorem IsInts.len : ∀ {l : List (List LV)} {p : List Int}, IsInts l p → l.length = p.length
  | [], [], _ => rfl
  | x :: l, z :: p, h => by simp [h.2.len]
  | [], _ :: _, h => h.elim
  | _ :: _, [], h => h.elim
theorem IsInts.get : ∀ {l : List (List LV)} {p : List Int}, IsInts l p → ∀ {i : Nat} {z : Int}, p[i]? = some z → ∃ a b, l[i]? = some [a, b] ∧ IsInt a b z
  | [], [], _, i, z, h => by simp at h
  | x :: l, y :: p, h, 0, z, hz => by
    simp at hz; subst hz
    obtain ⟨a, b, rfl, hi⟩ := h.1
    exact ⟨a, b, rfl, hi⟩
  | x :: l, y :: p, h, i + 1, z, hz => by simpa using h.2.get (i := i) (by simpa using hz)
  | [], _ :: _, h, _, _, _ => h.elim
  | _ :: _, [], h, _, _, _ => h.elim
theorem isInts_n : ∀ (p : List Int), IsInts (p.map ofI) p
  | [] => trivial
  | z :: p => ⟨⟨_, _, rfl, isInt_n z⟩, isInts_n p⟩
theorem IsInts.append : ∀ {l l' : List (List LV)} {p p' : List Int}, IsInts l p → IsInts l' p' → IsInts (l ++ l') (p ++ p')
  | [], _, [], _, _, h => h
  | x :: l, _, z :: p, _, h, h' => ⟨h.1, h.2.append h'⟩
  | [], _, _ :: _, _, h, _ => h.elim
  | _ :: _, _, [], _, h, _ => h.elim
theorem ints_to {w : World} {O : Nat → Prop} {v : Value} {l : List (List LV)} {p : List Int} (h : LRep w O v (.row l)) (hi : IsInts l p) : ∃ A n c, v = .slice A n c ∧ Rel.intA.slice.at_ w O [.slice A n c] p := by
  have hl := hi.len
  cases h with
  | row A c sz b o l f hc hc63 hm47 hs hA hcell hrep =>
    refine ⟨A, _, c, rfl, A, c, by rw [hl], by omega, hc63, by omega, fun h0 => ?_⟩
    obtain ⟨rfl, h1, h2⟩ := hA (by omega)
    refine ⟨b, o, rfl, h1, h2, fun i z hz => ?_⟩
    obtain ⟨x, y, hx, hxy⟩ := hi.get hz
    have hsz : sz = 2 := (hs _ (List.mem_of_getElem? hx)).symm
    subst hsz
    have hr1 := hrep i _ hx 0 x rfl
    have hr2 := hrep i _ hx 1 y rfl
    have hT : TRep w O (.agg #[f i 0, f i 1]) (.agg [x, y]) := ⟨[f i 0, f i 1], rfl, hr1.x, hr2.x, trivial⟩
    obtain ⟨bb, A', n', c', e, h3⟩ := intA_to hT hxy
    simp at e
    obtain ⟨e1, e2⟩ := e
    refine ⟨_, h3, fun j v hj => ?_⟩
    have hc0 := hcell i _ hx 0 (by simp)
    have hc1 := hcell i _ hx 1 (by simp)
    rw [e1] at hc0
    rw [e2] at hc1
    rcases j with _ | _ | j
    · simp at hj; subst hj; exact hc0
    · simp at hj; subst hj; exact hc1
    · simp at hj
theorem does_ints {f : Nat} {l : List (List LV)} {p : List Int} {r : AV} (hi : IsInts l p) (h : ∀ (Ob : Nat → Prop) (W : World) (A : Option Addr) (n c : Nat), (∀ b, Ob b → b < W.heap.size) → Rel.intA.slice.at_ W Ob [.slice A n c] p → ∃ F, Calls P f #[.slice A n c] W (Ret W Ob F) ∧ ∀ w v, (F v).holds w Ob → ARep w Ob v r) : Does P f [.one (.row l)] r :=
  does_of fun Ob W vs hO hargs => by
    rcases vs with _ | ⟨v, _ | ⟨v2, vs⟩⟩
    · exact hargs.elim
    · obtain ⟨A, n, c, rfl, h1⟩ := ints_to hargs.1 hi
      exact h Ob W A n c hO h1
    · exact hargs.2.elim
theorem tup2_a {w : World} {O : Nat → Prop} {f g : Value → Fact} {r s : AV} (h1 : ∀ v, (f v).holds w O → TRep w O v r) (h2 : ∀ v, (g v).holds w O → TRep w O v s) : ∀ v, (tup2 f g v).holds w O → ARep w O v (.tup [r, s]) := fun v ⟨x, y, e, h3, h4⟩ => ⟨[x, y], e, h1 x h3, h2 y h4, trivial⟩
theorem eqF_t {w : World} {O : Nat → Prop} {kd : IntKind} {p : Int} : ∀ v, (eqF (.int kd p) v).holds w O → TRep w O v (.one (.int kd p)) := fun v h => by
  have h : v = .int kd p := h
  subst h; exact LRep.int _ _
end Orr
namespace Orr
open Go
variable {P : Program} {n : Nat} {L : Sg} {B : List OB}
theorem rvs_0 {fn : Func} (hr : fn.results = #[]) : RVs P n L B fn.results.toList [] := by rw [hr]; trivial
theorem rvs_1 {fn : Func} {r1 : ResultVar} {u : AV} (hr : fn.results = #[r1]) (h1 : RV P n L B r1 u) : RVs P n L B fn.results.toList [u] := by rw [hr]; exact ⟨h1, trivial⟩
theorem rvs_3 {fn : Func} {r1 r2 r3 : ResultVar} {u1 u2 u3 : AV} (hr : fn.results = #[r1, r2, r3]) (h1 : RV P n L B r1 u1) (h2 : RV P n L B r2 u2) (h3 : RV P n L B r3 u3) : RVs P n L B fn.results.toList [u1, u2, u3] := by rw [hr]; exact ⟨h1, h2, h3, trivial⟩
theorem rvs_2 {fn : Func} {r1 r2 : ResultVar} {u1 u2 : AV} (hr : fn.results = #[r1, r2]) (h1 : RV P n L B r1 u1) (h2 : RV P n L B r2 u2) : RVs P n L B fn.results.toList [u1, u2] := by rw [hr]; exact ⟨h1, h2, trivial⟩
theorem rq_all {fn : Func} {us : List AV} {r : AV} (h : RVs P n L B fn.results.toList us) (he : bundR us = r) : RQ P fn n (Is r) .ret L B := by
  obtain ⟨is, hs⟩ := subB_all B
  exact ⟨us, is, [], h, hs, he, rfl⟩
theorem retB_1 {fn : Func} {r1 : ResultVar} {u r : AV} (hr : fn.results = #[r1]) (h1 : RV P n L B r1 u) (he : u = r) : RQ P fn n (Is r) .ret L B := rq_all (rvs_1 hr h1) he
theorem retB_2 {fn : Func} {r1 r2 : ResultVar} {u1 u2 r : AV} (hr : fn.results = #[r1, r2]) (h1 : RV P n L B r1 u1) (h2 : RV P n L B r2 u2) (he : AV.tup [u1, u2] = r) : RQ P fn n (Is r) .ret L B := rq_all (rvs_2 hr h1 h2) he
theorem retB_3 {fn : Func} {r1 r2 r3 : ResultVar} {u1 u2 u3 r : AV} (hr : fn.results = #[r1, r2, r3]) (h1 : RV P n L B r1 u1) (h2 : RV P n L B r2 u2) (h3 : RV P n L B r3 u3) (he : AV.tup [u1, u2, u3] = r) : RQ P fn n (Is r) .ret L B := rq_all (rvs_3 hr h1 h2 h3) he
def pl (p : List Int) : LV := .row (p.map ofI)
def ids (l : List Int) : LV := .row (l.map fun (x : Int) => [.int .i64 x])
theorem ofI_zero : ofI 0 = [LV.bool false, LV.row []] := by simp [ofI, sg_zero, mg_zero]
theorem rlen_pl (p : List Int) : rlen (pl p) = some p.length := by simp [rlen, pl]
theorem rlen_ids (p : List Int) : rlen (ids p) = some p.length := by simp [rlen, ids]
theorem map_get {α β : Type} {f : α → β} {l : List α} {i : Nat} {x : α} (h : l[i]? = some x) : (l.map f)[i]? = some (f x) := by rw [List.getElem?_map, h]; rfl
theorem map_w {α : Type} {f : α → List LV} {sz : Nat} (l : List α) (h : ∀ x, (f x).length = sz) : ∀ c ∈ l.map f, c.length = sz := fun c hc => by
  obtain ⟨x, _, rfl⟩ := List.mem_map.1 hc
  exact h x
theorem map_f {α : Type} {f : α → List LV} (l : List α) (h : ∀ x, freeL (f x) = true) : ∀ c ∈ l.map f, ∀ x ∈ c, x.free = true := fun c hc x hx => by
  obtain ⟨y, _, rfl⟩ := List.mem_map.1 hc
  exact freeL_of (h y) x hx
theorem one_w {c0 : List LV} {sz : Nat} (h : c0.length = sz) : ∀ c ∈ [c0], c.length = sz := fun c hc => by rw [List.mem_singleton] at hc; rw [hc]; exact h
theorem one_f {c0 : List LV} (h : freeL c0 = true) : ∀ c ∈ [c0], ∀ x ∈ c, x.free = true := fun c hc x hx => by rw [List.mem_singleton] at hc; rw [hc] at hx; exact freeL_of h x hx
variable {ops : Array Oper} {rest : List Oper} {N : Sg → List OB → Prop} {d : Nat} {ty : TypeId} {pos : String} {after : Array Edge}
theorem p_indexO {x y : Operand} {r : Option (Nat × Nat)} {sz lo len : Nat} {kd : IntKind} {p : Int} (i : Nat) {E t : TypeId} (hu : ∀ w, (underlying t).run P w = .ok (.slice E) w) (hs : ∀ w, (Go.sizeOf E).run P w = .ok sz w)
    (hx : evA L x = some (.one (.orow r sz lo len))) (hy : evA L y = some (.one (.int kd p))) (hp : p = (i : Int)) (hi : i < len) (hd : Nat.blt d n = true) :
    AP P ops n { dst := some d, op := .indexAddr t x y, type := ty, pos := pos, after := after, guard := none } d (.one (.oel r sz (lo + i) 0)) L B := by
  intro K Ob w0 w a Bs L' Fs h hL hB
  obtain ⟨v, hv, hr⟩ := ev_of hL hx
  obtain ⟨u, hu', hr2⟩ := ev_of hL hy
  obtain rfl := rep_int hr2
  rcases r with _ | ⟨g, c⟩
  · obtain ⟨_, _, rfl⟩ := hr; omega
  · obtain ⟨h8, o, rfl, h9⟩ := hr
    have ho : o = lo * sz := h9 (.inr (by omega))
    refine st_indexI i h hv hu' hu hs hp hi hd fun a' h' => wpList_nil ⟨rfl, _, h', ?_⟩
    show _ = _
    subst ho
    simp [Nat.add_mul]
theorem p_fieldO {S : TypeId} {x : Operand} {f off : Nat} {r : Option (Nat × Nat)} {sz i o : Nat} (hrun : ∀ b o w, (Instr.fieldAt S (.pointer (some ⟨b, o, none⟩)) f).run P w = .ok (.pointer (some ⟨b, o + off, none⟩)) w)
    (hx : evA L x = some (.one (.oel r sz i o))) (hd : Nat.blt d n = true) :
    AP P ops n { dst := some d, op := .fieldAddr S x f, type := ty, pos := pos, after := after, guard := none } d (.one (.oel r sz i (o + off))) L B := by
  intro K Ob w0 w a Bs L' Fs h hL hB
  obtain ⟨v, hv, hr1⟩ := ev_of hL hx
  rcases r with _ | ⟨g, c⟩
  · exact hr1.elim
  · obtain rfl : v = .pointer (some ⟨g, i * sz + o, none⟩) := hr1
    exact st_fieldAddr h hv hrun hd fun a' h' => wpList_nil ⟨rfl, _, h', by show _ = _; rw [Nat.add_assoc]⟩
theorem p_loadO (j : Nat) {T E : TypeId} {x : Operand} {r : Option (Nat × Nat)} {sz i o m : Nat} {ls : List (List LV)} {z q : List LV} {ag : Bool} {u : AV} {B' : List OB} (ht : ∀ w, (isAgg T).run P w = .ok ag w) (hs : ∀ w, (Go.sizeOf T).run P w = .ok m w)
    (hi : frontB B j = some (.row r E sz ls, B')) (hx : evA L x = some (.one (.oel r sz i o))) (hz : ls[i]? = some z) (hr : subL z o m = some q) (hu : bundle ag q = some u) (hd : Nat.blt d n = true) :
    AP P ops n { dst := some d, op := .load T x, type := ty, pos := pos, after := after, guard := none } d u L B := by
  intro K Ob w0 w a Bs L' Fs h hL hB
  obtain ⟨hxi, rfl⟩ := frontB_eq hi
  obtain ⟨Bo, Bs', hp, hob, _⟩ := hB.front hxi
  obtain ⟨v, hv, hr1⟩ := ev_of hL hx
  rcases r with _ | ⟨g, c⟩
  · exact hr1.elim
  · obtain rfl : v = .pointer (some ⟨g, i * sz + o, none⟩) := hr1
    obtain ⟨h0, h2, h3, vss, ex, h4, rfl, h5, h6, h7⟩ := hob
    have hmem : (g, Tag.ty E, vss.flatten ++ ex) ∈ Bs := hp.mem_iff.2 (by simp)
    obtain ⟨k, hk⟩ := List.mem_iff_getElem?.1 hmem
    obtain ⟨rfl, hle⟩ := subL_eq hr
    obtain ⟨vs, hvs, hreps⟩ := h4.get hz
    have hzl := h2 z (List.mem_of_getElem? hz)
    have hall := h4.all h2
    have hlen := hreps.len
    have hreps' : XReps w (owns Ob Bs) ((vs.drop o).take m) ((z.drop o).take m) := (hreps.drop o).take m
    have hl : ((vs.drop o).take m).length = m := by simp; omega
    have hcell : ∀ j u, ((vs.drop o).take m)[j]? = some u → w.cell? ⟨g, i * sz + o + j, none⟩ = some u := fun j u hj => by
      rw [h.own_cell hk]
      rw [List.getElem?_take] at hj
      split at hj
      · rw [List.getElem?_drop] at hj
        have e2 : vss.flatten[i * sz + (o + j)]? = vs[o + j]? := by
          rw [flat_get hall (by have := (List.getElem?_eq_some_iff.1 hj).1; omega), hvs]; rfl
        rw [hj] at e2
        rw [Nat.add_assoc, List.getElem?_append_left (List.getElem?_eq_some_iff.1 e2).1, e2]
      · cases hj
    cases ag with
    | true =>
      simp only [bundle, Option.some.injEq] at hu
      subst hu
      exact st_loadS h hv ht hs hl hcell hd fun a' h' => wpList_nil ⟨rfl, _, h', show ARep _ _ _ (.agg _) from ⟨_, rfl, hreps'⟩⟩
    | false =>
      obtain ⟨y, e2, rfl⟩ := bundle_false hu
      rw [e2] at hreps'
      generalize (vs.drop o).take m = vs at *
      rcases vs with _ | ⟨v0, _ | ⟨v1, vs⟩⟩
      · exact hreps'.elim
      · exact st_load h hv ht (by simpa using hcell 0 v0 rfl) hd fun a' h' => wpList_nil ⟨rfl, _, h', show ARep _ _ _ (.one y) from hreps'.1⟩
      · exact hreps'.2.elim
theorem RReps.setAt {w : World} {O : Nat → Prop} {vss : List (List Value)} {ls : List (List LV)} (h : RReps w O vss ls) {vs : List Value} {z : List LV} (hz : XReps w O vs z) (i : Nat) : RReps w O (vss.set i vs) (ls.set i z) := by
  refine RReps.of (by simp [h.len]) fun j v x hv hx => ?_
  rw [List.getElem?_set] at hv hx
  split at hv
  · rename_i e
    rw [if_pos e] at hx
    split at hv <;> first | cases hv | skip
    rename_i hl
    rw [if_pos (by rw [← h.len]; exact hl)] at hx
    injection hx with hx; subst hx; exact hz
  · rename_i e
    rw [if_neg e] at hx
    exact h.get' hv hx
theorem a_storeO (j : Nat) {T E : TypeId} {x y : Operand} {r : Option (Nat × Nat)} {sz i o m : Nat} {ls ls2 : List (List LV)} {z ys q : List LV} {u : AV} {B' : List OB} (hs : ∀ w, (Go.sizeOf T).run P w = .ok m w)
    (hi : frontB B j = some (.row r E sz ls, B')) (hx : evA L x = some (.one (.oel r sz i o))) (hy : evA L y = some u) (hl : leaves u = some ys) (hf : freeL ys = true) (hm : ys.length = m) (hz : ls[i]? = some z) (hr : updO z o m ys = some q) (hls : ls.set i q = ls2)
    (k : AW P ops n rest N L (.row r E sz ls2 :: B')) :
    AW P ops n ({ dst := none, op := .store T x y, type := ty, pos := pos, after := after, guard := none } :: rest) N L B := by
  intro K Ob w0 w a Q hs0 hQ
  subst hls
  obtain ⟨L', Bo, Bs, h, hL, hob, hB⟩ := hs0.front hi
  obtain ⟨v, hv, hr1⟩ := ev_of hL hx
  obtain ⟨v2, hv2, hr2⟩ := ev_of hL hy
  obtain ⟨hc2, ht2⟩ := leaves_of hr2 hl
  obtain ⟨rfl, hlen⟩ := updO_eq hr
  rcases r with _ | ⟨g, c⟩
  · exact hr1.elim
  · obtain rfl : v = .pointer (some ⟨g, i * sz + o, none⟩) := hr1
    obtain ⟨h0, h2, h3, vss, ex, h4, rfl, h5, h6, h7⟩ := hob
    obtain ⟨vs, hvs, hreps⟩ := h4.get hz
    have hzl := h2 z (List.mem_of_getElem? hz)
    have hall := h4.all h2
    have hvl := hreps.len
    have hil : i < vss.length := (List.getElem?_eq_some_iff.1 hvs).1
    have hcl := hc2.len
    have hadd := h.add (f := ⟨fun w O => (∀ t x, lk L t = some x → ∃ v, look L' t = some v ∧ ARep w O v x) ∧ BsRep w O B' Bs ∧ RReps w O vss ls ∧ XReps w O vs z ∧ XReps w O v2.cells.toList ys, fun hle h => ⟨keep_of hle h.1, h.2.1.keep hle, h.2.2.1.keep hle, h.2.2.2.1.keep hle, h.2.2.2.2.keep hle⟩⟩) ⟨hL, hB, h4, hreps, hc2⟩
    have hfl := flat_len hall
    have hbound : (i + 1) * sz ≤ vss.length * sz := Nat.mul_le_mul_right _ hil
    rw [Nat.succ_mul] at hbound
    refine st_store hadd 0 rfl hv hv2 hs rfl (hcl.trans hm) (by rw [Nat.ble_eq, List.length_append]; omega) (List.all_eq_true.2 hc2.one) fun w' h' => ?_
    obtain ⟨h8, h9, h10, h11, h12⟩ := h'.fact 0 rfl
    have e : upd (vss.flatten ++ ex) (i * sz + o) v2.cells.toList = (vss.set i (upd vs o v2.cells.toList)).flatten ++ ex := by
      have hpre : ∀ (pre post : List Value) (k : Nat) (ys : List Value), k + ys.length ≤ pre.length → upd (pre ++ post) k ys = upd pre k ys ++ post := by
        intro pre
        induction pre with
        | nil =>
          intro post k ys hk
          cases ys with
          | nil => cases post <;> simp [upd]
          | cons y ys => simp at hk
        | cons p pre ih =>
          intro post k ys hk
          cases ys with
          | nil => simp [upd]
          | cons y ys =>
            cases k with
            | zero => simp only [List.cons_append, upd]; rw [ih post 0 ys (by simp at hk ⊢; omega)]
            | succ k => simp only [List.cons_append, upd]; rw [ih post k (y :: ys) (by simp at hk ⊢; omega)]
      rw [hpre _ _ _ _ (by omega)]
      congr 1
      have h13 : vss = vss.take i ++ vs :: vss.drop (i + 1) := by
        rw [← (List.getElem?_eq_some_iff.1 hvs).2]; simp
      have h14 : vss.set i (upd vs o v2.cells.toList) = vss.take i ++ upd vs o v2.cells.toList :: vss.drop (i + 1) := List.set_eq_take_append_cons_drop .. |>.trans (by rw [if_pos hil])
      rw [h14]
      conv => lhs; rw [h13]
      rw [List.flatten_append, List.flatten_cons, List.flatten_append, List.flatten_cons]
      have h15 : (vss.take i).flatten.length = i * sz := by
        rw [flat_len (sz := sz) fun c hc => hall c (List.mem_of_mem_take hc), List.length_take, Nat.min_eq_left (by omega)]
      rw [← h15, upd_append_right, hpre _ _ _ _ (by omega)]
    rw [show i * sz + o = i * sz + o from rfl] at h'
    simp only [List.cons_append, List.nil_append, List.set_cons_zero] at h' h8 h9 h10 h11 h12
    have e' := e
    refine k _ _ _ _ _ _ (SA.of (Bo := [_]) h'.noFacts h8 ?_ h9) hQ
    refine ⟨h0, ?_, ?_, vss.set i (upd vs o v2.cells.toList), ex, h10.setAt (h11.upd o h12) i, by rw [← e'], ?_, by simpa using h6, h7⟩
    · intro c hc
      rcases List.mem_or_eq_of_mem_set hc with hc | rfl
      · exact h2 c hc
      · rw [length_updL]; exact hzl
    · intro c hc y hy
      rcases List.mem_or_eq_of_mem_set hc with hc | rfl
      · exact h3 c hc y hy
      · obtain ⟨k2, hk2⟩ := List.mem_iff_getElem?.1 hy
        have key : ∀ (z ys : List LV) (o : Nat), (∀ x ∈ z, x.free = true) → (∀ x ∈ ys, x.free = true) → ∀ x ∈ updL z o ys, x.free = true := by
          intro z
          induction z with
          | nil => intro ys o _ _ x hx; cases ys <;> simp [updL] at hx
          | cons a z ih =>
            intro ys o hz hy x hx
            cases ys with
            | nil => simp [updL] at hx; exact hz x (by simpa using hx)
            | cons b ys =>
              cases o with
              | zero =>
                simp only [updL, List.mem_cons] at hx
                rcases hx with rfl | hx
                · exact hy _ (List.mem_cons_self ..)
                · exact ih ys 0 (fun q hq => hz q (List.mem_cons_of_mem _ hq)) (fun q hq => hy q (List.mem_cons_of_mem _ hq)) x hx
              | succ o =>
                simp only [updL, List.mem_cons] at hx
                rcases hx with rfl | hx
                · exact hz _ (List.mem_cons_self ..)
                · exact ih (b :: ys) o (fun q hq => hz q (List.mem_cons_of_mem _ hq)) hy x hx
        exact key z ys o (h3 z (List.mem_of_getElem? hz)) (freeL_of hf) y hy
    · rw [← e', length_upd]; exact h5
end Orr
namespace Orr
open Go
theorem seqQ_exit {Y : Sg → List OB → Prop} {Q : Exit → Sg → List OB → Prop} {id : Nat} {L : Sg} {B : List OB} (h : Q (.exit id) L B) : seqQ Y Q (.exit id) L B := h
theorem blkQ_here {Q : Exit → Sg → List OB → Prop} {id : Nat} {L : Sg} {B : List OB} (h : Q .normal L B) : blkQ id Q (.exit id) L B := by simp only [blkQ, if_true]; exact h
theorem i64_is {x r : Int} (h : x = r) (h1 : -9223372036854775808 ≤ r ∧ r ≤ 9223372036854775807) : IntKind.i64.wrap x = r := by rw [h]; exact wrap64_of h1.1 h1.2
theorem ac_front {P : Program} {n : Nat} {L : Sg} {B : List OB} {Q : Exit → Sg → List OB → Prop} {c : Code} (i : Nat) {x : OB} {r : List OB} (hi : frontB B i = some (x, r)) (k : AC P n c Q L (x :: r)) : AC P n c Q L B := fun _ _ _ _ _ hs => k _ _ _ _ _ (hs.toFront hi)
end Orr
namespace Orr
open Go
theorem field_run {P : Program} {S f off T m : Nat} {ag : Bool} {fs : Array Field} (hu : ∀ w, (underlying S).run P w = .ok (.struct fs) w) (hf : (fs[f]?).map (fun fl => (fl.type, fl.offset)) = some (T, off)) (ht : ∀ w, (isAgg T).run P w = .ok ag w) (hs : ∀ w, (Go.sizeOf T).run P w = .ok m w)
    (vs : List Value) (v : Value) (hv : if ag = true then v = .agg ((vs.drop off).take m).toArray else vs[off]? = some v) (_ : off + m ≤ vs.length) (w : World) : (Instr.field S (.agg vs.toArray) f).run P w = .ok v w := by
  cases h : fs[f]? with
  | none => rw [h] at hf; cases hf
  | some fl =>
    rw [h] at hf
    simp only [Option.map_some, Option.some.injEq, Prod.mk.injEq] at hf
    obtain ⟨rfl, rfl⟩ := hf
    cases ag with
    | true =>
      simp only [if_true] at hv
      subst hv
      simp [Instr.field, hu, h, asAgg, Go.part, ht, hs, List.extract]
      done
    | false =>
      simp at hv
      simp [Instr.field, hu, h, asAgg, Go.part, ht, hv]
end Orr
namespace Orr
open Go
variable {P : Program} {ops : Array Oper} {n : Nat} {rest : List Oper} {N : Sg → List OB → Prop} {L : Sg} {B : List OB}
theorem unNilL_free : ∀ {xs ys : List LV}, unNilL xs = some ys → (∀ x ∈ xs, x.free = true) → ∀ y ∈ ys, y.free = true
  | [], ys, h, _ => by simp [unNilL] at h; subst h; simp
  | x :: l, ys, h, hf => by
    simp only [unNilL] at h
    split at h
    · cases h
    · rename_i r hl
      have ih := unNilL_free hl fun y hy => hf y (List.mem_cons_of_mem _ hy)
      split at h <;> injection h with h <;> subst h <;> intro y hy <;> rcases List.mem_cons.1 hy with rfl | hy
      · rfl
      · exact ih y hy
      · exact hf _ (List.mem_cons_self ..)
      · exact ih y hy
theorem aw_zeros (i : Nat) {r : Option (Nat × Nat)} {E sz m : Nat} {zs zs' : List LV} {ls' : List (List LV)} {B' : List OB} (hi : frontB B i = some (.row r E sz (List.replicate m zs), B')) (hz : unNilL zs = some zs') (hls : List.replicate m zs' = ls') (k : AW P ops n rest N L (.row r E sz ls' :: B')) : AW P ops n rest N L B := by
  intro K Ob w0 w a Q hs hQ
  subst hls
  obtain ⟨L', Bo, Bs, h1, h2, h3, h4⟩ := hs.front hi
  refine k _ _ _ _ _ _ (SA.of h1 h2 ?_ h4) hQ
  rcases r with _ | ⟨g, c⟩
  · obtain ⟨h5, h6, h7⟩ := h3
    have hm : m = 0 := by have := congrArg List.length h6; simpa using this
    subst hm
    exact ⟨h5, rfl, h7⟩
  · obtain ⟨h5, h6, h7, vss, ex, h8, h9, h10, h11, h12⟩ := h3
    refine ⟨h5, fun c hc => ?_, fun c hc x hx => ?_, vss, ex, ?_, h9, h10, by simpa using h11, h12⟩
    · have e := List.eq_of_mem_replicate hc
      subst e
      rw [unNilL_len hz]
      obtain ⟨hm, _⟩ := List.mem_replicate.1 hc
      exact h6 zs (List.mem_replicate.2 ⟨hm, rfl⟩)
    · have e := List.eq_of_mem_replicate hc
      subst e
      obtain ⟨hm, _⟩ := List.mem_replicate.1 hc
      exact unNilL_free hz (h7 zs (List.mem_replicate.2 ⟨hm, rfl⟩)) x hx
    · refine RReps.of (by have := h8.len; simpa using this) fun j v x hv hx => ?_
      have e := List.eq_of_mem_replicate (List.mem_of_getElem? hx)
      subst e
      have hj : j < m := by have := (List.getElem?_eq_some_iff.1 hx).1; simpa using this
      exact unNilL_of hz (h8.get' hv (by simp [hj]))
theorem aw_rowEq (i : Nat) {r : Option (Nat × Nat)} {E sz : Nat} {ls ls' : List (List LV)} {B' : List OB} (hi : frontB B i = some (.row r E sz ls, B')) (he : ls = ls') (k : AW P ops n rest N L (.row r E sz ls' :: B')) : AW P ops n rest N L B := by
  subst he; exact aw_front i hi k
theorem zeros_I (m : Nat) : List.replicate m [LV.bool false, LV.row []] = (List.replicate m (0 : Int)).map ofI := by simp [ofI, sg_zero, mg_zero]
theorem set_map {α : Type} (f : α → List LV) (l : List α) (i : Nat) (x : α) : (l.map f).set i (f x) = (l.set i x).map f := List.map_set.symm
def tab (g : Nat → Int) (n i : Nat) : List Int := (List.range i).map g ++ List.replicate (n - i) 0
theorem tab_zero (g : Nat → Int) (n : Nat) : List.replicate n 0 = tab g n 0 := by simp [tab]
theorem tab_len (g : Nat → Int) {n i : Nat} (h : i ≤ n) : (tab g n i).length = n := by simp [tab]; omega
theorem tab_get (g : Nat → Int) {n i : Nat} (h : i < n) : (tab g n i)[i]? = some 0 := by
  unfold tab
  rw [List.getElem?_append_right (by simp), List.length_map, List.length_range, Nat.sub_self, List.getElem?_replicate, if_pos (by omega)]
theorem tab_set (g : Nat → Int) {n i : Nat} (h : i < n) : (tab g n i).set i (g i) = tab g n (i + 1) := by
  unfold tab
  obtain ⟨k, hk⟩ : ∃ k, n - i = k + 1 := ⟨n - i - 1, by omega⟩
  rw [hk, show n - (i + 1) = k from by omega, List.set_append_right _ _ (by simp), List.range_succ]
  simp [List.replicate_succ]
theorem tab_all (g : Nat → Int) (n : Nat) : tab g n n = (List.range n).map g := by simp [tab]
theorem p_max {x y : Operand} {kd : IntKind} {p q r : Int} {ats : Array TypeId} {d : Nat} {ty : TypeId} {pos : String} {after : Array Edge} (hx : evA L x = some (.one (.int kd p))) (hy : evA L y = some (.one (.int kd q))) (hr : (if q > p then q else p) = r) (hd : Nat.blt d n = true) :
    AP P ops n { dst := some d, op := .call { callee := .builtin .max, args := #[x, y], argTypes := ats }, type := ty, pos := pos, after := after, guard := none } d (.one (.int kd r)) L B := by
  intro K Ob w0 w a Bs L' Fs h hL hB
  obtain ⟨v, hv, hr1⟩ := ev_of hL hx
  obtain ⟨u, hu', hr2⟩ := ev_of hL hy
  obtain rfl := rep_int hr1
  obtain rfl := rep_int hr2
  exact st_max h hv hu' hr hd fun a' h' => wpList_nil ⟨rfl, _, h', LRep.int _ _⟩
theorem row_part {w : World} {O : Nat → Prop} {A : Option Addr} {m c lo hi c' sz0 : Nat} {l l' : List (List LV)} (h : LRep w O (.slice A m c) (.row l)) (h1 : lo ≤ hi) (h2 : hi ≤ l.length) (hc' : c' = c ∨ c' = hi) (hsz : ∀ z ∈ l, z.length = sz0) (hl' : (l.drop lo).take (hi - lo) = l') :
    LRep w O (.slice (if c' = lo then A else A.map (·.add (lo * sz0))) (hi - lo) (c' - lo)) (.row l') := by
  subst hl'
  generalize hv : Value.slice A m c = v at h
  cases h with
  | row A' c0 sz b o l f hc hc63 hm47 hs hA hcell hrep =>
    injection hv with e1 e2 e3
    subst e1 e2 e3
    have hlen : ((l.drop lo).take (hi - lo)).length = hi - lo := by simp; omega
    have hget : ∀ (i : Nat) (cs : List LV), ((l.drop lo).take (hi - lo))[i]? = some cs → l[lo + i]? = some cs := fun i cs hi' => by
      rw [List.getElem?_take] at hi'
      split at hi'
      · rwa [List.getElem?_drop] at hi'
      · cases hi'
    have key := LRep.row (w := w) (O := O) (if c' = lo then A else A.map (·.add (lo * sz0))) (c' - lo) sz b (o + lo * sz) ((l.drop lo).take (hi - lo)) (fun i j => f (lo + i) j) (by rw [hlen]; rcases hc' with rfl | rfl <;> omega) (by rcases hc' with rfl | rfl <;> omega) (by rw [hlen]; omega)
      (fun cs hm => hs cs (List.mem_of_mem_drop (List.mem_of_mem_take hm)))
      (fun h0 => by
        rw [hlen] at h0
        obtain ⟨rfl, h3, h4⟩ := hA (by omega)
        have hx := List.getElem?_eq_getElem (show lo < l.length by omega)
        have e5 : sz0 = sz := by rw [← hsz _ (List.mem_of_getElem? hx), hs _ (List.mem_of_getElem? hx)]
        subst e5
        have : ¬ (c' = lo) := by rcases hc' with rfl | rfl <;> omega
        rw [if_neg this]
        exact ⟨by simp [add_spot], h3, h4⟩)
      (fun i cs hi' j hj => by
        have := hcell (lo + i) cs (hget i cs hi') j hj
        rw [show o + lo * sz + i * sz + j = o + (lo + i) * sz + j from by rw [Nat.add_mul]; omega]
        exact this)
      (fun i cs hi' j x hx => hrep (lo + i) cs (hget i cs hi') j x hx)
    rw [hlen] at key
    exact key
section
variable {d : Nat} {ty : TypeId} {pos : String} {after : Array Edge}
theorem row_slice {w : World} {O : Nat → Prop} {v : Value} {l : List (List LV)} (h : LRep w O v (.row l)) : ∃ A c, v = .slice A l.length c ∧ l.length ≤ c ∧ LRep w O (.slice A l.length c) (.row l) := by
  have h' := h
  cases h with
  | row A c sz b o l f hc hc63 hm47 hs hA hcell hrep => exact ⟨A, c, rfl, hc, h'⟩
theorem p_sliceHi (i : Nat) {T E sz : Nat} {x y : Operand} {kd : IntKind} {p : Int} {l l' : List (List LV)} (hu : ∀ w, (underlying T).run P w = .ok (.slice E) w) (hs : ∀ w, (Go.sizeOf E).run P w = .ok sz w) (hx : evA L x = some (.one (.row l))) (hy : evA L y = some (.one (.int kd p))) (hp : p = (i : Int)) (hi : i ≤ l.length) (hsz : ∀ z ∈ l, z.length = sz) (hl' : l.take i = l') (hd : Nat.blt d n = true) :
    AP P ops n { dst := some d, op := .slice T x none (some y) none, type := ty, pos := pos, after := after, guard := none } d (.one (.row l')) L B := by
  refine p_val hd fun K Ob w0 w a Bs L' Fs h hL hB => ?_
  subst hp
  obtain ⟨v, hv, hr⟩ := ev_of hL hx
  obtain ⟨u, hu', hr2⟩ := ev_of hL hy
  obtain rfl := rep_int hr2
  obtain ⟨A, c, rfl, hc, hr'⟩ := row_slice hr
  have key := row_part (lo := 0) (hi := i) (c' := c) hr' (by omega) hi (.inl rfl) hsz (l' := l') (by rw [List.drop_zero, Nat.sub_zero]; exact hl')
  refine ⟨_, ?_, key⟩
  simp [execOp, h.ev hv, h.ev hu', Instr.sliceAt, Instr.slice, Instr.sliceBounds, hu, hs, run_sliceBound _ (show i ≤ c by omega)]
theorem p_sliceLo (i : Nat) {T E sz : Nat} {x y : Operand} {kd : IntKind} {p : Int} {l l' : List (List LV)} (hu : ∀ w, (underlying T).run P w = .ok (.slice E) w) (hs : ∀ w, (Go.sizeOf E).run P w = .ok sz w) (hx : evA L x = some (.one (.row l))) (hy : evA L y = some (.one (.int kd p))) (hp : p = (i : Int)) (hi : i ≤ l.length) (hsz : ∀ z ∈ l, z.length = sz) (hl' : l.drop i = l') (hd : Nat.blt d n = true) :
    AP P ops n { dst := some d, op := .slice T x (some y) none none, type := ty, pos := pos, after := after, guard := none } d (.one (.row l')) L B := by
  refine p_val hd fun K Ob w0 w a Bs L' Fs h hL hB => ?_
  subst hp
  obtain ⟨v, hv, hr⟩ := ev_of hL hx
  obtain ⟨u, hu', hr2⟩ := ev_of hL hy
  obtain rfl := rep_int hr2
  obtain ⟨A, c, rfl, hc, hr'⟩ := row_slice hr
  have key := row_part (lo := i) (hi := l.length) (c' := c) hr' hi (Nat.le_refl _) (.inl rfl) hsz (l' := l') (by rw [List.take_of_length_le (by simp)]; exact hl')
  refine ⟨_, ?_, key⟩
  simp [execOp, h.ev hv, h.ev hu', Instr.sliceAt, Instr.slice, Instr.sliceBounds, hu, hs, run_sliceBound _ hi]
theorem p_sliceOLo (i : Nat) {T E sz lo len : Nat} {x y : Operand} {kd : IntKind} {p : Int} {r : Option (Nat × Nat)} (hu : ∀ w, (underlying T).run P w = .ok (.slice E) w) (hs : ∀ w, (Go.sizeOf E).run P w = .ok sz w) (hx : evA L x = some (.one (.orow r sz lo len))) (hy : evA L y = some (.one (.int kd p))) (hp : p = (i : Int)) (hi : i ≤ len) (hd : Nat.blt d n = true) :
    AP P ops n { dst := some d, op := .slice T x (some y) none none, type := ty, pos := pos, after := after, guard := none } d (.one (.orow r sz (lo + i) (len - i))) L B := by
  refine p_val hd fun K Ob w0 w a Bs L' Fs h hL hB => ?_
  subst hp
  obtain ⟨v, hv, hr⟩ := ev_of hL hx
  obtain ⟨u, hu', hr2⟩ := ev_of hL hy
  obtain rfl := rep_int hr2
  rcases r with _ | ⟨g, c⟩
  · obtain ⟨rfl, rfl, rfl⟩ := hr
    have h0 : i = 0 := by omega
    subst h0
    refine ⟨.slice none 0 0, ?_, rfl, rfl, rfl⟩
    have := run_sliceBound (P := P) (kd := kd) (i := 0) (y := 0) .sliceB (Nat.le_refl _)
    simp at this
    simp [execOp, h.ev hv, h.ev hu', Instr.sliceAt, Instr.slice, Instr.sliceBounds, hu, hs, this]
  · obtain ⟨h8, o, rfl, h9⟩ := hr
    have hne := run_sliceBound (P := P) (kd := kd) (i := i) (y := len) .sliceB hi
    refine ⟨.slice (if c - lo = i then some ⟨g, o, none⟩ else some ⟨g, o + i * sz, none⟩) (len - i) (c - lo - i), ?_, by omega, ?_⟩
    · by_cases he : c - lo = i <;> simp [execOp, h.ev hv, h.ev hu', Instr.sliceAt, Instr.slice, Instr.sliceBounds, hu, hs, hne, add_spot, he]
    · by_cases he : c - lo = i
      · rw [if_pos he]
        refine ⟨o, by congr 1; omega, fun hh => ?_⟩
        rcases hh with hh | hh
        · have h0 : lo = 0 := by omega
          have h1 : i = 0 := by omega
          subst h0 h1
          have := h9 (.inl rfl)
          simpa using this
        · omega
      · rw [if_neg he]
        refine ⟨o + i * sz, by congr 1; omega, fun hh => ?_⟩
        have := h9 (by rcases hh with hh | hh <;> omega)
        rw [this, Nat.add_mul]
end
end Orr
namespace Orr
theorem allAre1 {L : Sg} {x : AV} {t : Nat} (h : lk L t = some x) : allAre L x [t] := ⟨h, trivial⟩
end Orr
namespace Orr
open Go
variable {P : Program} {ops : Array Oper} {n : Nat} {rest : List Oper} {N : Sg → List OB → Prop} {L : Sg} {B : List OB}
theorem aw_blk (i : Nat) {g : Nat} {T : TypeId} {xs zs ys : List LV} {B' : List OB} (hi : frontB B i = some (.blk g T xs, B')) (hun : unNilL xs = some zs) (he : zs = ys) (k : AW P ops n rest N L (.blk g T ys :: B')) : AW P ops n rest N L B := by
  intro K Ob w0 w a Q hs hQ
  subst he
  obtain ⟨L', Bo, Bs, h1, h2, ⟨cs, rfl, h3⟩, h4⟩ := hs.front hi
  exact k _ _ _ _ _ _ (SA.of h1 h2 ⟨cs, rfl, unNilL_of hun h3⟩ h4) hQ
end Orr

namespace Orr
open Go Go.Proofs
theorem fv_30_0 (vs : List Value) (v : Value) (hv : if false = true then v = .agg ((vs.drop 0).take 1).toArray else vs[0]? = some v) (hl : 0 + 1 ≤ vs.length) (w : World) : (Instr.field 30 (.agg vs.toArray) 0).run Tryz.prog w = .ok v w := field_run (T := 4) Tryz.runUnderlying30 rfl Tryz.isAgg4 Tryz.sizeOf4 vs v hv hl w
end Orr
