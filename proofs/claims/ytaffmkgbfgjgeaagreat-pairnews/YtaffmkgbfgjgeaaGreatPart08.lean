/- 'copy' within an own row. Certificates, told in data: plain laws. Package cert, told in data. Package kin, where nothing is known of any certificate, told in data. Which points may be together: plain laws. What all laws of new structures have alike. The closest pair: plain laws. Regions that draw their order, where the last of the drawn operations is a store. Closures that hold pointers to own blocks: made, and called. Regions that draw their order, with allocations, where the last of the drawn operations stores into what has been allocated. Rows that a struct holds: taken as one's own, and given away. -/
import Derived.Test.YtaffmkgbfgjgeaaGreatPart07
import Derived.LoopN
import Derived.Test.YtaffmkgbfgjgeaaGreatPart06
import Derived.Laws.StructEq
set_option linter.all false

namespace Orr
open Go
variable {P : Program} {ops : Array Oper} {n : Nat} {rest : List Oper} {N : Sg → List OB → Prop} {L : Sg} {B : List OB} {d : Nat} {ty : TypeId} {pos : String} {after : Array Edge}
def Src' (w : World) (x : Value) (size m : Nat) (news : List Value) : Prop :=
  news.length = m * size ∧ ∃ A M c, x = .slice A M c ∧ (0 < m → ∃ b o, A = some ⟨b, o, none⟩ ∧ ∀ (j : Nat) (v : Value), news[j]? = some v → w.cell? ⟨b, o + j, none⟩ = some v)
theorem run_firstCells' {size m : Nat} {x : Value} {news : List Value} {w : World} (h : Src' w x size m news) : (Builtin.firstCells size m x).run P w = .ok news.toArray w := by
  obtain ⟨hl, A, M, c, rfl, hA⟩ := h
  have := run_firstCells (P := P) (w := w) (x := .slice A m c) ⟨hl, A, c, rfl, hA⟩
  cases A <;> exact this
theorem st_copy' {Q : Exit → Act → World → Prop} {K Ob : Nat → Prop} {w0 w : World} {a : Act} {L : List (Nat × Value)} {Fs : List Fact} {Bs : List Blk} {x y : Operand} {g o m c m' k' sz T T' E : Nat} {v : Value} {cs zs : List Value} {ats : Array TypeId} (h : St K Ob w0 w a n L Fs Bs) (i : Nat) (hi : Bs[i]? = some (g, T', cs)) (hx : ev L x = some (.slice (some ⟨g, o, none⟩) m c)) (hy : ev L y = some v)
    (hu : ∀ w, (underlying T).run P w = .ok (.slice E) w) (hs : ∀ w, (Go.sizeOf E).run P w = .ok sz w) (hat : ats[0]? = some T) (hlen : ∀ w, (Builtin.lenOf v).run P w = .ok k' w) (hm' : Nat.min k' m = m')
    (hsrc : Src' w v sz m' zs) (hl : zs = [] ∨ o + zs.length ≤ cs.length) (h1 : ∀ u ∈ zs, one u = true) (hd : Nat.blt d n = true)
    (k : ∀ w' a', St K Ob w0 w' a' n ((d, .int .i64 (m' : Int)) :: L) Fs (Bs.set i (g, T', upd cs o zs)) → wpList P ops Q rest a' w') :
    wpList P ops Q ({ dst := some d, op := .call { callee := .builtin .copy, args := #[x, y], argTypes := ats }, type := ty, pos := pos, after := after, guard := none } :: rest) a w := by
  have hst : ∃ w', (storeCells ⟨g, o, none⟩ zs 0).run P w = .ok () w' ∧ St K Ob w0 w' a n L Fs (Bs.set i (g, T', upd cs o zs)) := by
    rcases hl with rfl | hl
    · have e : upd cs o [] = cs := by cases cs <;> simp [upd]
      have hset : Bs.set i (g, T', cs) = Bs := by
        obtain ⟨hlt, e⟩ := List.getElem?_eq_some_iff.1 hi
        rw [← e]; exact List.set_getElem_self hlt
      exact ⟨w, by simp [Go.storeCells], by rw [e, hset]; exact h⟩
    · exact St.storeCells (P := P) zs cs o 0 w Bs i h hi (by omega) h1
  obtain ⟨w', hr, hw⟩ := hst
  refine step_value (w' := w') (v := .int .i64 (m' : Int)) rfl ?_ (k _ _ (hw.put _ hd))
  have hf := run_firstCells' (P := P) hsrc
  simp only [execOp, resolve, invoke, builtin, Builtin.copy_, Sem.run_bind, Sem.run_pure, Result.andThen_ok]
  simp [h.ev hx, h.ev hy, hat, hu, hs, hlen, hm', hf, hr, goInt, Sem.run_bind]
theorem upd_append_pre : ∀ (pre post : List Value) (k : Nat) (ys : List Value), k + ys.length ≤ pre.length → upd (pre ++ post) k ys = upd pre k ys ++ post
  | [], post, k, [], _ => by cases post <;> simp [upd]
  | [], post, k, y :: ys, hk => by simp at hk
  | p :: pre, post, k, [], _ => by simp [upd]
  | p :: pre, post, 0, y :: ys, hk => by simp only [List.cons_append, upd]; rw [upd_append_pre pre post 0 ys (by simp at hk ⊢; omega)]
  | p :: pre, post, k + 1, y :: ys, hk => by simp only [List.cons_append, upd]; rw [upd_append_pre pre post k (y :: ys) (by simp at hk ⊢; omega)]
theorem upd_all : ∀ (xs ys : List Value), xs.length = ys.length → upd xs 0 ys = ys
  | [], [], _ => rfl
  | x :: xs, y :: ys, h => by simp only [upd]; rw [upd_all xs ys (by simpa using h)]
  | [], _ :: _, h => by simp at h
  | _ :: _, [], h => by simp at h
theorem RReps.drop {w : World} {O : Nat → Prop} : ∀ {vss : List (List Value)} {ls : List (List LV)} (k : Nat), RReps w O vss ls → RReps w O (vss.drop k) (ls.drop k) := fun k h => by
  refine RReps.of (by simp [h.len]) fun j v x hv hx => ?_
  rw [List.getElem?_drop] at hv hx
  exact h.get' hv hx
theorem RReps.take {w : World} {O : Nat → Prop} : ∀ {vss : List (List Value)} {ls : List (List LV)} (k : Nat), RReps w O vss ls → RReps w O (vss.take k) (ls.take k) := fun k h => by
  refine RReps.of (by simp [h.len]) fun j v x hv hx => ?_
  rw [List.getElem?_take] at hv hx
  split at hv
  · rename_i hlt
    rw [if_pos hlt] at hx
    exact h.get' hv hx
  · cases hv
theorem RReps.app {w : World} {O : Nat → Prop} : ∀ {vss uss : List (List Value)} {ls ms : List (List LV)}, RReps w O vss ls → RReps w O uss ms → RReps w O (vss ++ uss) (ls ++ ms) := fun {vss uss ls ms} h h' => by
  refine RReps.of (by simp [h.len, h'.len]) fun j v x hv hx => ?_
  have hl := h.len
  rw [List.getElem?_append] at hv hx
  split at hv
  · rename_i hlt
    rw [if_pos (by omega)] at hx
    exact h.get' hv hx
  · rename_i hlt
    rw [if_neg (by omega)] at hx
    rw [← hl] at hx
    exact h'.get' hv hx
/-- places of an own row are copied on to others; the row comes to the front -/
theorem a_copyO (j : Nat) {T E sz lo1 len1 lo2 len2 m' : Nat} {x y : Operand} {r : Option (Nat × Nat)} {ls ls2 : List (List LV)} {ats : Array TypeId} {B' : List OB} (hu : ∀ w, (underlying T).run P w = .ok (.slice E) w) (hs : ∀ w, (Go.sizeOf E).run P w = .ok sz w) (hat : ats[0]? = some T)
    (hi : frontB B j = some (.row r E sz ls, B')) (hx : evA L x = some (.one (.orow r sz lo1 len1))) (hy : evA L y = some (.one (.orow r sz lo2 len2))) (h1 : lo1 + len1 ≤ ls.length) (h2 : lo2 + len2 ≤ ls.length) (h0 : 0 < ls.length) (hm' : Nat.min len2 len1 = m')
    (hls : ls.take lo1 ++ (ls.drop lo2).take m' ++ ls.drop (lo1 + m') = ls2) (hd : Nat.blt d n = true)
    (k : AW P ops n rest N ((d, .one (.int .i64 (m' : Int))) :: L) (.row r E sz ls2 :: B')) :
    AW P ops n ({ dst := some d, op := .call { callee := .builtin .copy, args := #[x, y], argTypes := ats }, type := ty, pos := pos, after := after, guard := none } :: rest) N L B := by
  intro K Ob w0 w a Q hs0 hQ
  subst hls
  obtain ⟨L', Bo, Bs, h, hL, hob, hB⟩ := hs0.front hi
  obtain ⟨v, hv, hr1⟩ := ev_of hL hx
  obtain ⟨v2, hv2, hr2⟩ := ev_of hL hy
  rcases r with _ | ⟨g, c⟩
  · obtain ⟨_, e, _⟩ := hob; subst e; simp at h0
  · obtain ⟨ho1, a1, rfl, ha1⟩ := hr1
    obtain ⟨ho2, a2, rfl, ha2⟩ := hr2
    obtain ⟨hsz, hw, hfr, vss, ex, h4, rfl, h5, h6, h7⟩ := hob
    have hall := h4.all hw
    have hvl : vss.length = ls.length := h4.len
    have hm1 : m' ≤ len1 := by subst hm'; exact Nat.min_le_right _ _
    have hm2 : m' ≤ len2 := by subst hm'; exact Nat.min_le_left _ _
    let zs := ((vss.drop lo2).take m').flatten
    have hzl : zs.length = m' * sz := by
      show ((vss.drop lo2).take m').flatten.length = _
      rw [flat_len (sz := sz) fun c hc => hall c (List.mem_of_mem_drop (List.mem_of_mem_take hc)), List.length_take, List.length_drop, Nat.min_eq_left (by omega)]
    have htk : ∀ q, q ≤ vss.length → (vss.take q).flatten.length = q * sz := fun q hq => by
      rw [flat_len (sz := sz) fun c hc => hall c (List.mem_of_mem_take hc), List.length_take, Nat.min_eq_left hq]
    have hsp : ∀ q, q + m' ≤ vss.length → vss.flatten = (vss.take q).flatten ++ (((vss.drop q).take m').flatten ++ (vss.drop (q + m')).flatten) := fun q hq => by
      rw [← List.flatten_append, ← List.flatten_append]
      congr 1
      rw [← List.drop_drop, List.take_append_drop, List.take_append_drop]
    have hadd := h.add (f := ⟨fun w O => (∀ t x, lk L t = some x → ∃ v, look L' t = some v ∧ ARep w O v x) ∧ BsRep w O B' Bs ∧ RReps w O vss ls, fun hle h => ⟨keep_of hle h.1, h.2.1.keep hle, h.2.2.keep hle⟩⟩) ⟨hL, hB, h4⟩
    have hsrc : Src' w (.slice (some ⟨g, a2, none⟩) len2 (c - lo2)) sz m' zs := by
      refine ⟨hzl, _, _, _, rfl, fun hpos => ⟨g, a2, rfl, fun q u hq => ?_⟩⟩
      have ha : a2 = lo2 * sz := ha2 (.inr (by omega))
      subst ha
      rw [h.own_cell (i := 0) rfl]
      have hql := (List.getElem?_eq_some_iff.1 hq).1
      rw [hsp lo2 (by omega), List.append_assoc, List.getElem?_append_right (by rw [htk lo2 (by omega)]; omega), htk lo2 (by omega), Nat.add_sub_cancel_left, List.append_assoc, List.getElem?_append_left hql]
      exact hq
    have hone : ∀ u ∈ zs, one u = true := fun u hu => by
      obtain ⟨vs, hvs, huv⟩ := List.mem_flatten.1 hu
      have hvs := List.mem_of_mem_drop (List.mem_of_mem_take hvs)
      obtain ⟨q, hq⟩ := List.mem_iff_getElem?.1 hvs
      have hql : q < ls.length := by rw [← hvl]; exact (List.getElem?_eq_some_iff.1 hq).1
      exact (h4.get' hq (List.getElem?_eq_getElem hql)).one u huv
    refine st_copy' hadd 0 rfl hv hv2 hu hs hat (fun _ => rfl) hm' hsrc ?_ hone hd fun w' a' h' => ?_
    · rcases Nat.eq_zero_or_pos m' with h00 | hpos
      · left; exact List.eq_nil_of_length_eq_zero (by rw [hzl, h00]; simp)
      · right
        have ha : a1 = lo1 * sz := ha1 (.inr (by omega))
        have := Nat.mul_le_mul_right sz (show lo1 + m' ≤ c by omega)
        rw [Nat.add_mul] at this
        omega
    · have h' : St K Ob w0 w' a' n _ _ ((g, E, upd (vss.flatten ++ ex) a1 zs) :: Bs) := h'
      have h'' : St K Ob w0 w' a' n ((d, .int .i64 (m' : Int)) :: L') [] ((g, E, upd (vss.flatten ++ ex) a1 zs) :: Bs) := h'.noFacts
      obtain ⟨h8, h9, h10⟩ := h'.fact 0 rfl
      have e : upd (vss.flatten ++ ex) a1 zs = (vss.take lo1 ++ (vss.drop lo2).take m' ++ vss.drop (lo1 + m')).flatten ++ ex := by
        rcases Nat.eq_zero_or_pos m' with h00 | hpos
        · have : zs = [] := List.eq_nil_of_length_eq_zero (by rw [hzl, h00]; simp)
          rw [this, h00]
          have e : upd (vss.flatten ++ ex) a1 [] = vss.flatten ++ ex := by cases vss.flatten ++ ex <;> simp [upd]
          rw [e]; simp
        · have ha : a1 = lo1 * sz := ha1 (.inr (by omega))
          subst ha
          rw [hsp lo1 (by omega), List.append_assoc, ← htk lo1 (by omega), show ∀ q, upd q (vss.take lo1).flatten.length zs = upd q ((vss.take lo1).flatten.length + 0) zs from fun _ => rfl, upd_append_right, List.append_assoc, upd_append_pre _ _ _ _ (by
            rw [hzl, flat_len (sz := sz) fun c hc => hall c (List.mem_of_mem_drop (List.mem_of_mem_take hc)), List.length_take, List.length_drop, Nat.min_eq_left (by omega)]; omega), upd_all _ _ (by
            rw [hzl, flat_len (sz := sz) fun c hc => hall c (List.mem_of_mem_drop (List.mem_of_mem_take hc)), List.length_take, List.length_drop, Nat.min_eq_left (by omega)])]
          simp [zs, List.flatten_append, List.append_assoc]
      have hlen3 : (upd (vss.flatten ++ ex) a1 zs).length = c * sz := by rw [length_upd]; exact h5
      rw [e] at hlen3 h'' h8 h9 h10
      have hmem : ∀ cc ∈ ls.take lo1 ++ (ls.drop lo2).take m' ++ ls.drop (lo1 + m'), cc ∈ ls := fun cc hc => by
        rcases List.mem_append.1 hc with hc | hc
        · rcases List.mem_append.1 hc with hc | hc
          · exact List.mem_of_mem_take hc
          · exact List.mem_of_mem_drop (List.mem_of_mem_take hc)
        · exact List.mem_of_mem_drop hc
      refine k _ _ _ _ _ _ (SA.of (Bo := [_]) h'' (put_of h8 (LRep.int _ _)) ?_ h9) hQ
      exact ⟨hsz, fun cc hc => hw cc (hmem cc hc), fun cc hc => hfr cc (hmem cc hc), vss.take lo1 ++ (vss.drop lo2).take m' ++ vss.drop (lo1 + m'), ex, ((h10.take _).app ((h10.drop _).take _)).app (h10.drop _), rfl, hlen3, by simp; omega, h7⟩
end Orr
namespace Orr
open Go
variable {P : Program} {n : Nat} {L : Sg} {B : List OB}
/-- so many rounds of a loop, one by one -/
def ARounds (P : Program) (n : Nat) (c : Code) (Q : Exit → Sg → List OB → Prop) : Nat → Sg → List OB → Prop
  | 0, _, _ => False
  | k + 1, L, B => AC P n c (seqQ (ARounds P n c Q k) Q) L B
theorem ac_round {c : Code} {Q : Exit → Sg → List OB → Prop} {k : Nat} (h : AC P n c (seqQ (ARounds P n c Q k) Q) L B) : ARounds P n c Q (k + 1) L B := h
theorem ac_rounds {c : Code} {Q : Exit → Sg → List OB → Prop} (k : Nat) (h : ARounds P n c Q k L B) : AC P n (.loop c) Q L B := by
  intro K Ob w0 w a hs
  refine wp_loop_rounds k ?_
  induction k generalizing w a L B with
  | zero => exact h.elim
  | succ k ih =>
    refine wp_mono (h K Ob w0 w a hs) fun e a w ⟨L, B, h3, h4⟩ => ?_
    cases e <;> first | exact ⟨L, B, h3, h4⟩ | skip
    exact ih h4 w a h3
end Orr

namespace Orr
open Go
structure Ct where
  kind : Int
  i0 : Int
  i1 : Int
  i2 : Int
  i3 : Int
  p : List Int
  want : Int
/-- a certificate's seven leaves -/
abbrev ofCt (c : Ct) : List LV := [.int .i64 c.kind, .int .i64 c.i0, .int .i64 c.i1, .int .i64 c.i2, .int .i64 c.i3, pl c.p, .int .i64 c.want]
def cts (l : List Ct) : LV := .row (l.map ofCt)
theorem rlen_cts (l : List Ct) : rlen (cts l) = some l.length := by simp [rlen, cts]
/-- by the first number that is another one -/
def lessI : List Int → List Int → Bool
  | x :: l, y :: m => if x = y then lessI l m else decide (x < y)
  | _, _ => false
def lessC (a b : Ct) : Bool := lessI [a.kind, a.i0, a.i1, a.i2, a.i3] [b.kind, b.i0, b.i1, b.i2, b.i3]
/-- where a certificate comes, told from behind -/
def posC (out : List Ct) (c : Ct) : Nat → Nat
  | 0 => 0
  | k + 1 => match out[k]? with
    | some x => if lessC c x = true then posC out c k else k + 1
    | none => k + 1
theorem posC_le (out : List Ct) (c : Ct) : ∀ k, posC out c k ≤ k
  | 0 => Nat.le_refl _
  | k + 1 => by
    simp only [posC]
    split
    · split
      · exact Nat.le_succ_of_le (posC_le out c k)
      · exact Nat.le_refl _
    · exact Nat.le_refl _
theorem posC_on {out : List Ct} {c x : Ct} {k : Nat} (hx : out[k]? = some x) (h : lessC c x = true) : posC out c (k + 1) = posC out c k := by
  simp only [posC, hx, h, if_true]
theorem posC_off {out : List Ct} {c x : Ct} {k : Nat} (hx : out[k]? = some x) (h : lessC c x = false) : posC out c (k + 1) = k + 1 := by
  simp [posC, hx, h]
def insC (out : List Ct) (c : Ct) : List Ct := out.take (posC out c out.length) ++ c :: out.drop (posC out c out.length)
theorem insC_len (out : List Ct) (c : Ct) : (insC out c).length = out.length + 1 := by
  have := posC_le out c out.length
  simp [insC]; omega
def sortC (l : List Ct) : List Ct := l.foldl insC []
theorem sortC_snoc (l : List Ct) (c : Ct) : sortC (l ++ [c]) = insC (sortC l) c := by simp [sortC, List.foldl_append]
theorem sortC_take {l : List Ct} {i : Nat} {c : Ct} (h : l[i]? = some c) : sortC (l.take (i + 1)) = insC (sortC (l.take i)) c := by
  rw [List.take_succ, h]; exact sortC_snoc _ _
theorem foldl_len : ∀ (l acc : List Ct), (l.foldl insC acc).length = acc.length + l.length
  | [], acc => by simp
  | c :: l, acc => by simp only [List.foldl_cons]; rw [foldl_len l (insC acc c), insC_len]; simp; omega
theorem sortC_len (l : List Ct) : (sortC l).length = l.length := by unfold sortC; rw [foldl_len]; simp
/-- a place is made, and filled -/
theorem ins_copy {α : Type} (l : List α) (z x : α) {k m' : Nat} (hk : k ≤ l.length) (hm : m' = l.length - k) :
    ((l ++ [z]).take (k + 1) ++ ((l ++ [z]).drop k).take m' ++ (l ++ [z]).drop (k + 1 + m')).set k x = l.take k ++ x :: l.drop k := by
  subst hm
  have e1 : ((l ++ [z]).drop k).take (l.length - k) = l.drop k := by
    rw [List.drop_append_of_le_length hk, List.take_append_of_le_length (by simp), List.take_of_length_le (by simp)]
  have e2 : (l ++ [z]).drop (k + 1 + (l.length - k)) = [] := List.drop_eq_nil_of_le (by simp; omega)
  rw [e1, e2, List.append_nil]
  have e3 : (l ++ [z]).take (k + 1) = (l ++ [z]).take k ++ [(l ++ [z])[k]'(by simp; omega)] := by rw [List.take_succ_eq_append_getElem]
  rw [e3, List.take_append_of_le_length hk, List.append_assoc, List.set_append, if_neg (by simp; omega)]
  simp [Nat.min_eq_left hk]
end Orr

namespace Orr
open Go Go.Proofs
theorem eqT_3 (d : Nat) (x y : Int) (w : World) : (Op.equalIn (d + 1) 3 (.int .i64 x) (.int .i64 y)).run Tryz.prog w = .ok (decide (x = y)) w := by
  simp [Op.equalIn, Tryz.runUnderlying3]
  rfl
set_option maxRecDepth 20000 in
theorem eqT_42 (d : Nat) (x0 x1 x2 x3 y0 y1 y2 y3 : Int) (w : World) : (Op.equalIn (d + 1 + 1) 42 (.agg #[.int .i64 x0, .int .i64 x1, .int .i64 x2, .int .i64 x3]) (.agg #[.int .i64 y0, .int .i64 y1, .int .i64 y2, .int .i64 y3])).run Tryz.prog w = .ok (decide ([x0, x1, x2, x3] = [y0, y1, y2, y3])) w := by
  rw [run_equalIn_array w (d + 1) _ _ (n := 4) (e := 3) rfl rfl]
  rw [show List.range 4 = [0, 1, 2, 3] from rfl, show Tryz.prog.cellsOf 3 = 1 from rfl]
  simp [Op.eqItems, Go.part, Tryz.isAgg3, eqT_3]
  by_cases h0 : x0 = y0 <;> by_cases h1 : x1 = y1 <;> by_cases h2 : x2 = y2 <;> by_cases h3 : x3 = y3 <;> simp [h0, h1, h2, h3]
set_option maxRecDepth 20000 in
theorem eqT_44' (d : Nat) (x x0 x1 x2 x3 y y0 y1 y2 y3 : Int) (w : World) : (Op.equalIn (d + 1 + 1 + 1) 44 (.agg #[.int .i64 x, .int .i64 x0, .int .i64 x1, .int .i64 x2, .int .i64 x3]) (.agg #[.int .i64 y, .int .i64 y0, .int .i64 y1, .int .i64 y2, .int .i64 y3])).run Tryz.prog w = .ok (decide ([x, x0, x1, x2, x3] = [y, y0, y1, y2, y3])) w := by
  rw [run_equalIn_struct w (d + 1 + 1) 44 _ _ rfl Tryz.stoodInHeld44]
  have hf : (Tryz.prog.fieldsOf 44).toList = [{ name := "Kind", type := 3, offset := 0, embedded := false, tag := "", pkgPath := "", byteOffset := 0 }, { name := "Ids", type := 42, offset := 1, embedded := false, tag := "", pkgPath := "", byteOffset := 8 }] := by simp [Program.fieldsOf, Tryz.underlying44]
  rw [hf]
  simp [Op.eqFields, Go.part, Tryz.isAgg3, Tryz.isAgg42, Tryz.sizeOf42, Tryz.sizeOf3, eqT_3, eqT_42]
  by_cases h : x = y <;> by_cases h0 : x0 = y0 <;> by_cases h1 : x1 = y1 <;> by_cases h2 : x2 = y2 <;> by_cases h3 : x3 = y3 <;> simp [h, h0, h1, h2, h3]
theorem eqT_44 (a b : List Int) (ha : a.length = 5) (hb : b.length = 5) (w : World) : (Op.equal 44 (.agg (a.map (Value.int .i64)).toArray) (.agg (b.map (Value.int .i64)).toArray)).run Tryz.prog w = .ok (decide (a = b)) w := by
  match a, ha, b, hb with
  | [x, x0, x1, x2, x3], _, [y, y0, y1, y2, y3], _ => exact eqT_44' 9997 x x0 x1 x2 x3 y y0 y1 y2 y3 w

theorem d_cert_points5  : Does Tryz.prog 274 [.one (.int .i64 5)] (.one (.int .i64 4)) := by
  refine does_ (n := 12) Tryz.func274 rfl Tryz.ntmps274 rfl ?_
  refine ac_seq ?_
  refine ac_reg ?_
  refine w_ (p_assign rfl rfl) ?_
  refine aw_nil ?_
  refine ac_seq ?_
  refine ac_seq ?_
  refine ac_reg ?_
  refine w_ (p_move rfl rfl) ?_
  refine aw_nil ?_
  refine ac_block ?_
  refine ac_seq ?_
  refine ac_seq ?_
  refine ac_reg ?_
  refine w_ (p_cmp (b := false) rfl rfl rfl rfl) ?_
  refine w_ (p_assign rfl rfl) ?_
  refine aw_nil ?_
  refine ac_f rfl (rfl) ?_
  refine ac_reg ?_
  refine w_ (p_cmp (b := false) rfl rfl rfl rfl) ?_
  refine w_ (p_assign rfl rfl) ?_
  refine aw_nil ?_
  refine ac_f rfl (rfl) ?_
  refine ac_seq ?_
  refine ac_reg ?_
  refine w_ (p_cmp (b := false) rfl rfl rfl rfl) ?_
  refine w_ (p_assign rfl rfl) ?_
  refine aw_nil ?_
  refine ac_f rfl (rfl) ?_
  refine ac_seq ?_
  refine ac_seq ?_
  refine ac_reg ?_
  refine w_ (p_cmp (b := false) rfl rfl rfl rfl) ?_
  refine w_ (p_assign rfl rfl) ?_
  refine aw_nil ?_
  refine ac_f rfl (rfl) ?_
  refine ac_reg ?_
  refine w_ (p_cmp (b := true) rfl rfl rfl rfl) ?_
  refine w_ (p_assign rfl rfl) ?_
  refine aw_nil ?_
  refine ac_t rfl (rfl) ?_
  refine ac_seq ?_
  refine ac_reg ?_
  refine w_ (p_assign rfl rfl) ?_
  refine aw_nil ?_
  refine ac_ret ?_
  exact retB_1 Tryz.results274 (rv_tmp rfl rfl) (rfl)

theorem d_cert_Less {k i0 i1 i2 i3 l j0 j1 j2 j3 : Int} : Does Tryz.prog 188 [.agg [.int .i64 k, .int .i64 i0, .int .i64 i1, .int .i64 i2, .int .i64 i3], .agg [.int .i64 l, .int .i64 j0, .int .i64 j1, .int .i64 j2, .int .i64 j3]] (.one (.bool (lessI [k, i0, i1, i2, i3] [l, j0, j1, j2, j3]))) := by
  refine does_ (n := 36) Tryz.func188 rfl Tryz.ntmps188 rfl ?_
  refine ac_seq ?_
  refine ac_reg ?_
  refine w_ (p_boxS rfl rfl rfl rfl) ?_
  refine w_ (p_boxS rfl rfl rfl rfl) ?_
  refine w_ (p_assign rfl rfl) ?_
  refine aw_nil ?_
  refine ac_seq ?_
  refine ac_seq ?_
  refine ac_reg ?_
  refine w_ (p_fieldSh fa_44_0 rfl rfl rfl) ?_
  refine w_ (p_loadSh Tryz.isAgg3 Tryz.sizeOf3 rfl rfl rfl rfl) ?_
  refine w_ (p_fieldSh fa_44_0 rfl rfl rfl) ?_
  refine w_ (p_loadSh Tryz.isAgg3 Tryz.sizeOf3 rfl rfl rfl rfl) ?_
  refine w_ (p_cmp rfl rfl rfl rfl) ?_
  refine aw_nil ?_
  refine ac_cond rfl (fun hb_if1 => ?_) (fun hb_if1 => ?_)
  · try simp only [decide_eq_true_eq, decide_eq_false_iff_not, Bool.not_eq_true', Bool.not_eq_false'] at hb_if1
    refine ac_seq ?_
    refine ac_reg ?_
    refine w_ (p_fieldSh fa_44_0 rfl rfl rfl) ?_
    refine w_ (p_loadSh Tryz.isAgg3 Tryz.sizeOf3 rfl rfl rfl rfl) ?_
    refine w_ (p_fieldSh fa_44_0 rfl rfl rfl) ?_
    refine w_ (p_loadSh Tryz.isAgg3 Tryz.sizeOf3 rfl rfl rfl rfl) ?_
    refine w_ (p_cmp rfl rfl rfl rfl) ?_
    refine w_ (p_assign rfl rfl) ?_
    refine aw_nil ?_
    refine ac_ret ?_
    exact retB_1 Tryz.results188 (rv_tmp rfl rfl) (by simp_all [lessI])
  · try simp only [decide_eq_true_eq, decide_eq_false_iff_not, Bool.not_eq_true', Bool.not_eq_false'] at hb_if1
    refine ac_skip ?_
    refine ac_seq ?_
    refine ac_seq ?_
    refine ac_reg ?_
    refine w_ (p_fieldSh fa_44_1 rfl rfl rfl) ?_
    refine w_ (p_loadSh Tryz.isAgg42 Tryz.sizeOf42 rfl rfl rfl rfl) ?_
    refine w_ (p_move rfl rfl) ?_
    refine aw_nil ?_
    refine ac_block ?_
    refine ac_rounds 5 ?_
    refine ac_round ?_
    refine ac_seq ?_
    refine ac_reg ?_
    refine w_ (p_cmp (b := true) rfl rfl rfl rfl) ?_
    refine aw_nil ?_
    refine ac_seq ?_
    refine ac_t rfl (rfl) ?_
    refine ac_skip ?_
    refine ac_seq ?_
    refine ac_block ?_
    refine ac_seq ?_
    refine ac_reg ?_
    refine w_ (p_move rfl rfl) ?_
    refine w_ (p_indexV 0 Tryz.runUnderlying42 Tryz.sizeOf3 Tryz.isAgg3 rfl rfl rfl (by decide) rfl rfl) ?_
    refine w_ (p_assign rfl rfl) ?_
    refine w_ (p_assign rfl rfl) ?_
    refine aw_nil ?_
    refine ac_seq ?_
    refine ac_reg ?_
    refine w_ (p_move rfl rfl) ?_
    refine w_ (p_move rfl rfl) ?_
    refine w_ (p_fieldSh fa_44_1 rfl rfl rfl) ?_
    refine w_ (p_indexArrSh 0 Tryz.runUnderlying42 Tryz.sizeOf3 rfl rfl rfl (by decide) rfl rfl) ?_
    refine w_ (p_loadSh Tryz.isAgg3 Tryz.sizeOf3 rfl rfl rfl rfl) ?_
    refine w_ (p_cmp rfl rfl rfl rfl) ?_
    refine aw_nil ?_
    refine ac_cond rfl (fun hb_if3 => ?_) (fun hb_if3 => ?_)
    · try simp only [decide_eq_true_eq, decide_eq_false_iff_not, Bool.not_eq_true', Bool.not_eq_false'] at hb_if3
      refine ac_seq ?_
      refine ac_reg ?_
      refine w_ (p_move rfl rfl) ?_
      refine w_ (p_move rfl rfl) ?_
      refine w_ (p_fieldSh fa_44_1 rfl rfl rfl) ?_
      refine w_ (p_indexArrSh 0 Tryz.runUnderlying42 Tryz.sizeOf3 rfl rfl rfl (by decide) rfl rfl) ?_
      refine w_ (p_loadSh Tryz.isAgg3 Tryz.sizeOf3 rfl rfl rfl rfl) ?_
      refine w_ (p_cmp rfl rfl rfl rfl) ?_
      refine w_ (p_assign rfl rfl) ?_
      refine aw_nil ?_
      refine ac_ret ?_
      exact retB_1 Tryz.results188 (rv_tmp rfl rfl) (by simp_all [lessI])
    · try simp only [decide_eq_true_eq, decide_eq_false_iff_not, Bool.not_eq_true', Bool.not_eq_false'] at hb_if3
      refine ac_skip ?_
      refine ac_reg ?_
      refine w_ (p_add (r := ((1 : Nat) : Int)) rfl rfl (rfl) rfl) ?_
      refine w_ (p_move rfl rfl) ?_
      refine aw_nil ?_
      refine ac_round ?_
      refine ac_seq ?_
      refine ac_reg ?_
      refine w_ (p_cmp (b := true) rfl rfl rfl rfl) ?_
      refine aw_nil ?_
      refine ac_seq ?_
      refine ac_t rfl (rfl) ?_
      refine ac_skip ?_
      refine ac_seq ?_
      refine ac_block ?_
      refine ac_seq ?_
      refine ac_reg ?_
      refine w_ (p_move rfl rfl) ?_
      refine w_ (p_indexV 1 Tryz.runUnderlying42 Tryz.sizeOf3 Tryz.isAgg3 rfl rfl rfl (by decide) rfl rfl) ?_
      refine w_ (p_assign rfl rfl) ?_
      refine w_ (p_assign rfl rfl) ?_
      refine aw_nil ?_
      refine ac_seq ?_
      refine ac_reg ?_
      refine w_ (p_move rfl rfl) ?_
      refine w_ (p_move rfl rfl) ?_
      refine w_ (p_fieldSh fa_44_1 rfl rfl rfl) ?_
      refine w_ (p_indexArrSh 1 Tryz.runUnderlying42 Tryz.sizeOf3 rfl rfl rfl (by decide) rfl rfl) ?_
      refine w_ (p_loadSh Tryz.isAgg3 Tryz.sizeOf3 rfl rfl rfl rfl) ?_
      refine w_ (p_cmp rfl rfl rfl rfl) ?_
      refine aw_nil ?_
      refine ac_cond rfl (fun hb_if3 => ?_) (fun hb_if3 => ?_)
      · try simp only [decide_eq_true_eq, decide_eq_false_iff_not, Bool.not_eq_true', Bool.not_eq_false'] at hb_if3
        refine ac_seq ?_
        refine ac_reg ?_
        refine w_ (p_move rfl rfl) ?_
        refine w_ (p_move rfl rfl) ?_
        refine w_ (p_fieldSh fa_44_1 rfl rfl rfl) ?_
        refine w_ (p_indexArrSh 1 Tryz.runUnderlying42 Tryz.sizeOf3 rfl rfl rfl (by decide) rfl rfl) ?_
        refine w_ (p_loadSh Tryz.isAgg3 Tryz.sizeOf3 rfl rfl rfl rfl) ?_
        refine w_ (p_cmp rfl rfl rfl rfl) ?_
        refine w_ (p_assign rfl rfl) ?_
        refine aw_nil ?_
        refine ac_ret ?_
        exact retB_1 Tryz.results188 (rv_tmp rfl rfl) (by simp_all [lessI])
      · try simp only [decide_eq_true_eq, decide_eq_false_iff_not, Bool.not_eq_true', Bool.not_eq_false'] at hb_if3
        refine ac_skip ?_
        refine ac_reg ?_
        refine w_ (p_add (r := ((2 : Nat) : Int)) rfl rfl (rfl) rfl) ?_
        refine w_ (p_move rfl rfl) ?_
        refine aw_nil ?_
        refine ac_round ?_
        refine ac_seq ?_
        refine ac_reg ?_
        refine w_ (p_cmp (b := true) rfl rfl rfl rfl) ?_
        refine aw_nil ?_
        refine ac_seq ?_
        refine ac_t rfl (rfl) ?_
        refine ac_skip ?_
        refine ac_seq ?_
        refine ac_block ?_
        refine ac_seq ?_
        refine ac_reg ?_
        refine w_ (p_move rfl rfl) ?_
        refine w_ (p_indexV 2 Tryz.runUnderlying42 Tryz.sizeOf3 Tryz.isAgg3 rfl rfl rfl (by decide) rfl rfl) ?_
        refine w_ (p_assign rfl rfl) ?_
        refine w_ (p_assign rfl rfl) ?_
        refine aw_nil ?_
        refine ac_seq ?_
        refine ac_reg ?_
        refine w_ (p_move rfl rfl) ?_
        refine w_ (p_move rfl rfl) ?_
        refine w_ (p_fieldSh fa_44_1 rfl rfl rfl) ?_
        refine w_ (p_indexArrSh 2 Tryz.runUnderlying42 Tryz.sizeOf3 rfl rfl rfl (by decide) rfl rfl) ?_
        refine w_ (p_loadSh Tryz.isAgg3 Tryz.sizeOf3 rfl rfl rfl rfl) ?_
        refine w_ (p_cmp rfl rfl rfl rfl) ?_
        refine aw_nil ?_
        refine ac_cond rfl (fun hb_if3 => ?_) (fun hb_if3 => ?_)
        · try simp only [decide_eq_true_eq, decide_eq_false_iff_not, Bool.not_eq_true', Bool.not_eq_false'] at hb_if3
          refine ac_seq ?_
          refine ac_reg ?_
          refine w_ (p_move rfl rfl) ?_
          refine w_ (p_move rfl rfl) ?_
          refine w_ (p_fieldSh fa_44_1 rfl rfl rfl) ?_
          refine w_ (p_indexArrSh 2 Tryz.runUnderlying42 Tryz.sizeOf3 rfl rfl rfl (by decide) rfl rfl) ?_
          refine w_ (p_loadSh Tryz.isAgg3 Tryz.sizeOf3 rfl rfl rfl rfl) ?_
          refine w_ (p_cmp rfl rfl rfl rfl) ?_
          refine w_ (p_assign rfl rfl) ?_
          refine aw_nil ?_
          refine ac_ret ?_
          exact retB_1 Tryz.results188 (rv_tmp rfl rfl) (by simp_all [lessI])
        · try simp only [decide_eq_true_eq, decide_eq_false_iff_not, Bool.not_eq_true', Bool.not_eq_false'] at hb_if3
          refine ac_skip ?_
          refine ac_reg ?_
          refine w_ (p_add (r := ((3 : Nat) : Int)) rfl rfl (rfl) rfl) ?_
          refine w_ (p_move rfl rfl) ?_
          refine aw_nil ?_
          refine ac_round ?_
          refine ac_seq ?_
          refine ac_reg ?_
          refine w_ (p_cmp (b := true) rfl rfl rfl rfl) ?_
          refine aw_nil ?_
          refine ac_seq ?_
          refine ac_t rfl (rfl) ?_
          refine ac_skip ?_
          refine ac_seq ?_
          refine ac_block ?_
          refine ac_seq ?_
          refine ac_reg ?_
          refine w_ (p_move rfl rfl) ?_
          refine w_ (p_indexV 3 Tryz.runUnderlying42 Tryz.sizeOf3 Tryz.isAgg3 rfl rfl rfl (by decide) rfl rfl) ?_
          refine w_ (p_assign rfl rfl) ?_
          refine w_ (p_assign rfl rfl) ?_
          refine aw_nil ?_
          refine ac_seq ?_
          refine ac_reg ?_
          refine w_ (p_move rfl rfl) ?_
          refine w_ (p_move rfl rfl) ?_
          refine w_ (p_fieldSh fa_44_1 rfl rfl rfl) ?_
          refine w_ (p_indexArrSh 3 Tryz.runUnderlying42 Tryz.sizeOf3 rfl rfl rfl (by decide) rfl rfl) ?_
          refine w_ (p_loadSh Tryz.isAgg3 Tryz.sizeOf3 rfl rfl rfl rfl) ?_
          refine w_ (p_cmp rfl rfl rfl rfl) ?_
          refine aw_nil ?_
          refine ac_cond rfl (fun hb_if3 => ?_) (fun hb_if3 => ?_)
          · try simp only [decide_eq_true_eq, decide_eq_false_iff_not, Bool.not_eq_true', Bool.not_eq_false'] at hb_if3
            refine ac_seq ?_
            refine ac_reg ?_
            refine w_ (p_move rfl rfl) ?_
            refine w_ (p_move rfl rfl) ?_
            refine w_ (p_fieldSh fa_44_1 rfl rfl rfl) ?_
            refine w_ (p_indexArrSh 3 Tryz.runUnderlying42 Tryz.sizeOf3 rfl rfl rfl (by decide) rfl rfl) ?_
            refine w_ (p_loadSh Tryz.isAgg3 Tryz.sizeOf3 rfl rfl rfl rfl) ?_
            refine w_ (p_cmp rfl rfl rfl rfl) ?_
            refine w_ (p_assign rfl rfl) ?_
            refine aw_nil ?_
            refine ac_ret ?_
            exact retB_1 Tryz.results188 (rv_tmp rfl rfl) (by simp_all [lessI])
          · try simp only [decide_eq_true_eq, decide_eq_false_iff_not, Bool.not_eq_true', Bool.not_eq_false'] at hb_if3
            refine ac_skip ?_
            refine ac_reg ?_
            refine w_ (p_add (r := ((4 : Nat) : Int)) rfl rfl (rfl) rfl) ?_
            refine w_ (p_move rfl rfl) ?_
            refine aw_nil ?_
            refine ac_round ?_
            refine ac_seq ?_
            refine ac_reg ?_
            refine w_ (p_cmp (b := false) rfl rfl rfl rfl) ?_
            refine aw_nil ?_
            refine ac_seq ?_
            refine ac_f rfl (rfl) ?_
            refine ac_exit ?_
            repeat refine seqQ_exit ?_
            refine blkQ_here ?_
            refine ac_seq ?_
            refine ac_reg ?_
            refine w_ (p_assign rfl rfl) ?_
            refine aw_nil ?_
            refine ac_ret ?_
            exact retB_1 Tryz.results188 (rv_tmp rfl rfl) (by simp_all [lessI])

abbrev zCt : List LV := [.int .i64 0, .int .i64 0, .int .i64 0, .int .i64 0, .int .i64 0, .nils, .int .i64 0]
theorem posC_on' {out : List Ct} {c x : Ct} {k : Nat} (h0 : 0 < k) (hx : out[k - 1]? = some x) (h : lessC c x = true) : posC out c k = posC out c (k - 1) := by
  obtain ⟨j, rfl⟩ : ∃ j, k = j + 1 := ⟨k - 1, by omega⟩
  exact posC_on hx h
theorem posC_off' {out : List Ct} {c x : Ct} {k : Nat} (h0 : 0 < k) (hx : out[k - 1]? = some x) (h : lessC c x = false) : posC out c k = k := by
  obtain ⟨j, rfl⟩ : ∃ j, k = j + 1 := ⟨k - 1, by omega⟩
  exact posC_off hx h
theorem seven {ls : List (List LV)} (h : ∀ c ∈ ls, c.length = 7) {k : Nat} (hk : k < ls.length) : ∃ a0 a1 a2 a3 a4 a5 a6, ls[k]? = some [a0, a1, a2, a3, a4, a5, a6] := by
  have h1 := h ls[k] (List.getElem_mem hk)
  rw [List.getElem?_eq_getElem hk]
  match hl : ls[k], h1 with
  | [a0, a1, a2, a3, a4, a5, a6], _ => exact ⟨a0, a1, a2, a3, a4, a5, a6, rfl⟩
theorem ins_w {O : List Ct} {z : List LV} (hz : z.length = 7) {a b m e : Nat} : ∀ c ∈ ((O.map ofCt ++ [z]).take a ++ ((O.map ofCt ++ [z]).drop b).take m ++ (O.map ofCt ++ [z]).drop e), c.length = 7 := by
  intro c hc
  have h1 : c ∈ O.map ofCt ++ [z] := by
    rcases List.mem_append.1 hc with hc | hc
    · rcases List.mem_append.1 hc with hc | hc
      · exact List.mem_of_mem_take hc
      · exact List.mem_of_mem_drop (List.mem_of_mem_take hc)
    · exact List.mem_of_mem_drop hc
  rcases List.mem_append.1 h1 with h1 | h1
  · obtain ⟨x, _, rfl⟩ := List.mem_map.1 h1; rfl
  · rw [List.mem_singleton.1 h1]; exact hz
theorem ins_eq {O : List Ct} {z : List LV} {c : Ct} {i k : Nat} (hO : O.length = i) (hk : k ≤ i) (hp : posC O c O.length = k) :
    ((O.map ofCt ++ [z]).take (0 + (k + 1)) ++ ((O.map ofCt ++ [z]).drop (0 + k)).take (i - k) ++ (O.map ofCt ++ [z]).drop (0 + (k + 1) + (i - k))).set (0 + k) (ofCt c) = (insC O c).map ofCt := by
  simp only [Nat.zero_add]
  rw [ins_copy (O.map ofCt) z (ofCt c) (by rw [List.length_map]; omega) (by rw [List.length_map]; omega)]
  simp [insC, hp, List.map_take, List.map_drop]

set_option maxRecDepth 20000 in
theorem d_cert_Sort {l : List Ct} (hl : ∀ c ∈ l, Pb c.p) (hn : l.length ≤ 1000000) : Does Tryz.prog 110 [.one (cts l)] (.one (cts ((sortC l)))) := by
  refine does_ (n := 55) Tryz.func110 rfl Tryz.ntmps110 rfl ?_
  refine ac_seq ?_
  refine ac_reg ?_
  refine w_ (p_assign rfl rfl) ?_
  refine aw_nil ?_
  refine ac_seq ?_
  refine ac_reg ?_
  refine w_ (p_assign rfl rfl) ?_
  refine aw_nil ?_
  refine ac_seq ?_
  refine ac_seq ?_
  refine ac_reg ?_
  refine w_ (p_move rfl rfl) ?_
  refine w_ (p_len (m := l.length) Tryz.runUnderlying48 rfl (rlen_cts _) rfl) ?_
  refine w_ (p_move rfl rfl) ?_
  refine aw_nil ?_
  refine ac_block ?_
  refine ac_ownNil [3] 166 7 rfl (allAre1 rfl) rfl ?_
  refine ac_pick [3, 7, 8, 9] rfl ?_
  refine ac_loop (fun m L B => ∃ i r, i ≤ l.length ∧ m = l.length - i ∧ L = [(3, .one (.orow r 7 0 i)), (7, .one (cts l)), (8, .one (.int .i64 (((l.length : Nat) : Int)))), (9, .one (.int .i64 (((i : Nat) : Int))))] ∧ B = [.row r 166 7 ((sortC (l.take i)).map ofCt)]) (m := _) ⟨0, none, Nat.zero_le _, rfl, rfl, rfl⟩ ?_
  rintro m L B ⟨i, r, hp0, hm, rfl, rfl⟩
  by_cases hlt : i < l.length
  · obtain ⟨c, hc⟩ : ∃ c, l[i]? = some c := ⟨_, List.getElem?_eq_getElem hlt⟩
    have hO : (sortC (l.take i)).length = i := by rw [sortC_len, List.length_take]; omega
    have hcp := hl c (List.mem_of_getElem? hc)
    refine ac_seq ?_
    refine ac_reg ?_
    refine w_ (p_cmp rfl rfl rfl rfl) ?_
    refine aw_nil ?_
    refine ac_seq ?_
    refine ac_t rfl (decide_eq_true (by omega)) ?_
    refine ac_skip ?_
    refine ac_seq ?_
    refine ac_block ?_
    refine ac_seq ?_
    refine ac_reg ?_
    refine w_ (p_index (i) Tryz.runUnderlying48 Tryz.sizeOf166 rfl rfl (rfl) (map_get hc) rfl rfl) ?_
    refine w_ (p_loadSh Tryz.isAgg166 Tryz.sizeOf166 rfl rfl rfl rfl) ?_
    refine a_alloc Tryz.zeroValue166 rfl rfl fun g1 => ?_
    refine a_storeOw 0 Tryz.sizeOf166 rfl rfl rfl rfl rfl rfl rfl ?_
    refine aw_nil ?_
    refine ac_seq ?_
    refine ac_reg ?_
    refine w_ (p_move rfl rfl) ?_
    refine w_ (p_len (m := i) Tryz.runUnderlying48 rfl (rfl) rfl) ?_
    refine w_ (p_assign rfl rfl) ?_
    refine aw_nil ?_
    refine ac_cut (fun L B => ∃ k, k ≤ i ∧ posC (sortC (l.take i)) c (sortC (l.take i)).length = k ∧ L = [(3, .one (.orow r 7 0 i)), (5, .one (.ow g1 0)), (7, .one (cts l)), (8, .one (.int .i64 (((l.length : Nat) : Int)))), (9, .one (.int .i64 (((i : Nat) : Int)))), (6, .one (.int .i64 (((k : Nat) : Int))))] ∧ B = [.blk g1 166 [.int .i64 c.kind, .int .i64 c.i0, .int .i64 c.i1, .int .i64 c.i2, .int .i64 c.i3, pl c.p, .int .i64 c.want], .row r 166 7 ((sortC (l.take i)).map ofCt)]) ?_ ?_
    · skip
      refine ac_block ?_
      refine ac_pick [3, 5, 7, 8, 9, 6] rfl ?_
      refine ac_loop (fun m L B => ∃ k, k ≤ i ∧ posC (sortC (l.take i)) c k = posC (sortC (l.take i)) c (sortC (l.take i)).length ∧ m = k ∧ L = [(3, .one (.orow r 7 0 i)), (5, .one (.ow g1 0)), (7, .one (cts l)), (8, .one (.int .i64 (((l.length : Nat) : Int)))), (9, .one (.int .i64 (((i : Nat) : Int)))), (6, .one (.int .i64 (((k : Nat) : Int))))] ∧ B = [.blk g1 166 [.int .i64 c.kind, .int .i64 c.i0, .int .i64 c.i1, .int .i64 c.i2, .int .i64 c.i3, pl c.p, .int .i64 c.want], .row r 166 7 ((sortC (l.take i)).map ofCt)]) (m := _) ⟨i, Nat.le_refl _, by rw [hO], rfl, rfl, rfl⟩ ?_
      rintro m L B ⟨k, hq0, hq1, hm, rfl, rfl⟩
      rcases Nat.eq_zero_or_pos k with h0 | h0
      · have hpos : posC (sortC (l.take i)) c (sortC (l.take i)).length = k := by rw [← hq1, h0]; rfl
        refine ac_seq ?_
        refine ac_seq ?_
        refine ac_draw mixed_ 11 [15, 16, 17, 18, 19, 20, 21, 22, 23, 24, 25] [[], [0], [1], [2], [2, 3], [2], [2], [2, 6], [2, 5, 7], [2, 8], [2, 9]] [.one (.int .i64 (((k : Nat) : Int))), .one (.bool ((decide (0 < (((k : Nat) : Int)))))), .one (.bool ((decide (0 < (((k : Nat) : Int)))))), .un, .un, .un, .un, .un, .un, .un, .un] rfl rfl rfl ⟨p_move rfl rfl, p_cmp rfl rfl rfl rfl, p_move rfl rfl, p_gskip rfl rfl (decide_eq_false (by omega)) rfl, p_gskip rfl rfl (decide_eq_false (by omega)) rfl, p_gskip rfl rfl (decide_eq_false (by omega)) rfl, p_gskip rfl rfl (decide_eq_false (by omega)) rfl, p_gskip rfl rfl (decide_eq_false (by omega)) rfl, p_gskip rfl rfl (decide_eq_false (by omega)) rfl, p_gskip rfl rfl (decide_eq_false (by omega)) rfl, p_gskip rfl rfl (decide_eq_false (by omega)) rfl, trivial⟩ rfl ?_
        refine w_ (p_gskip rfl rfl (decide_eq_false (by omega)) rfl) ?_
        refine w_ (p_pickF rfl (decide_eq_false (by omega)) rfl rfl) ?_
        refine aw_nil ?_
        refine ac_f rfl (rfl) ?_
        refine ac_pick [3, 5, 7, 8, 9, 6] rfl ?_
        refine ac_exit ?_
        repeat refine seqQ_exit ?_
        refine blkQ_here ?_
        exact ⟨k, hq0, hpos, rfl, rfl⟩
      · obtain ⟨x, hx⟩ : ∃ x, (sortC (l.take i))[k - 1]? = some x := ⟨_, List.getElem?_eq_getElem (by omega)⟩
        cases hls : lessC c x
        · have hpos : posC (sortC (l.take i)) c (sortC (l.take i)).length = k := by rw [← hq1, posC_off' h0 hx hls]
          refine ac_seq ?_
          refine ac_seq ?_
          refine ac_draw mixed_ 11 [15, 16, 17, 18, 19, 20, 21, 22, 23, 24, 25] [[], [0], [1], [2], [2, 3], [2], [2], [2, 6], [2, 5, 7], [2, 8], [2, 9]] [.one (.int .i64 (((k : Nat) : Int))), .one (.bool ((decide (0 < (((k : Nat) : Int)))))), .one (.bool ((decide (0 < (((k : Nat) : Int)))))), .one (.ow g1 0), .agg [.int .i64 c.kind, .int .i64 c.i0, .int .i64 c.i1, .int .i64 c.i2, .int .i64 c.i3], .one (.orow r 7 0 i), .one (.int .i64 (((k : Nat) : Int))), .one (.int .i64 (((k - 1 : Nat) : Int))), .one (.oel r 7 ((0 + (k - 1))) 0), .one (.oel r 7 ((0 + (k - 1))) 0), .agg [.int .i64 x.kind, .int .i64 x.i0, .int .i64 x.i1, .int .i64 x.i2, .int .i64 x.i3]] rfl rfl rfl ⟨p_move rfl rfl, p_cmp rfl rfl rfl rfl, p_move rfl rfl, (p_grun rfl rfl (decide_eq_true (by omega)) (p_fieldOw fa_166_0 rfl rfl)), (p_grun rfl rfl (decide_eq_true (by omega)) (p_loadOw 0 Tryz.isAgg44 Tryz.sizeOf44 rfl rfl rfl rfl rfl)), (p_grun rfl rfl (decide_eq_true (by omega)) (p_move rfl rfl)), (p_grun rfl rfl (decide_eq_true (by omega)) (p_move rfl rfl)), (p_grun rfl rfl (decide_eq_true (by omega)) (p_sub (r := ((k - 1 : Nat) : Int)) rfl rfl (i64_is (by omega) (by omega)) rfl)), (p_grun rfl rfl (decide_eq_true (by omega)) (p_indexO (k - 1) Tryz.runUnderlying48 Tryz.sizeOf166 rfl rfl (rfl) (by omega) rfl)), (p_grun rfl rfl (decide_eq_true (by omega)) (p_fieldO fa_166_0 rfl rfl)), (p_grun rfl rfl (decide_eq_true (by omega)) (p_loadO 1 Tryz.isAgg44 Tryz.sizeOf44 rfl rfl (by rw [Nat.zero_add]; exact map_get hx) rfl rfl rfl)), trivial⟩ rfl ?_
          refine w_ ((p_grun rfl rfl (decide_eq_true (by omega)) (p_call Tryz.func188 rfl rfl rfl rfl (d_cert_Less) rfl))) ?_
          refine w_ (p_pickT rfl (decide_eq_true (by omega)) rfl rfl) ?_
          refine aw_nil ?_
          refine ac_f rfl (hls) ?_
          refine ac_pick [3, 5, 7, 8, 9, 6] rfl ?_
          refine ac_exit ?_
          repeat refine seqQ_exit ?_
          refine blkQ_here ?_
          exact ⟨k, hq0, hpos, rfl, rfl⟩
        · skip
          refine ac_seq ?_
          refine ac_seq ?_
          refine ac_draw mixed_ 11 [15, 16, 17, 18, 19, 20, 21, 22, 23, 24, 25] [[], [0], [1], [2], [2, 3], [2], [2], [2, 6], [2, 5, 7], [2, 8], [2, 9]] [.one (.int .i64 (((k : Nat) : Int))), .one (.bool ((decide (0 < (((k : Nat) : Int)))))), .one (.bool ((decide (0 < (((k : Nat) : Int)))))), .one (.ow g1 0), .agg [.int .i64 c.kind, .int .i64 c.i0, .int .i64 c.i1, .int .i64 c.i2, .int .i64 c.i3], .one (.orow r 7 0 i), .one (.int .i64 (((k : Nat) : Int))), .one (.int .i64 (((k - 1 : Nat) : Int))), .one (.oel r 7 ((0 + (k - 1))) 0), .one (.oel r 7 ((0 + (k - 1))) 0), .agg [.int .i64 x.kind, .int .i64 x.i0, .int .i64 x.i1, .int .i64 x.i2, .int .i64 x.i3]] rfl rfl rfl ⟨p_move rfl rfl, p_cmp rfl rfl rfl rfl, p_move rfl rfl, (p_grun rfl rfl (decide_eq_true (by omega)) (p_fieldOw fa_166_0 rfl rfl)), (p_grun rfl rfl (decide_eq_true (by omega)) (p_loadOw 0 Tryz.isAgg44 Tryz.sizeOf44 rfl rfl rfl rfl rfl)), (p_grun rfl rfl (decide_eq_true (by omega)) (p_move rfl rfl)), (p_grun rfl rfl (decide_eq_true (by omega)) (p_move rfl rfl)), (p_grun rfl rfl (decide_eq_true (by omega)) (p_sub (r := ((k - 1 : Nat) : Int)) rfl rfl (i64_is (by omega) (by omega)) rfl)), (p_grun rfl rfl (decide_eq_true (by omega)) (p_indexO (k - 1) Tryz.runUnderlying48 Tryz.sizeOf166 rfl rfl (rfl) (by omega) rfl)), (p_grun rfl rfl (decide_eq_true (by omega)) (p_fieldO fa_166_0 rfl rfl)), (p_grun rfl rfl (decide_eq_true (by omega)) (p_loadO 1 Tryz.isAgg44 Tryz.sizeOf44 rfl rfl (by rw [Nat.zero_add]; exact map_get hx) rfl rfl rfl)), trivial⟩ rfl ?_
          refine w_ ((p_grun rfl rfl (decide_eq_true (by omega)) (p_call Tryz.func188 rfl rfl rfl rfl (d_cert_Less) rfl))) ?_
          refine w_ (p_pickT rfl (decide_eq_true (by omega)) rfl rfl) ?_
          refine aw_nil ?_
          refine ac_t rfl (hls) ?_
          refine ac_skip ?_
          refine ac_block ?_
          refine ac_reg ?_
          refine w_ (p_move rfl rfl) ?_
          refine w_ (p_sub (r := ((k - 1 : Nat) : Int)) rfl rfl (i64_is (by omega) (by omega)) rfl) ?_
          refine w_ (p_assign rfl rfl) ?_
          refine aw_pick [3, 5, 7, 8, 9, 6] rfl ?_
          refine aw_nil ?_
          refine ⟨_, ?_, k - 1, by omega, by rw [← hq1, posC_on' h0 hx hls], rfl, rfl, rfl⟩
          omega
    · rintro L B ⟨k, hp0, hp1, rfl, rfl⟩
      skip
      · skip
        refine ac_seq ?_
        refine ac_reg ?_
        refine w_ (p_move rfl rfl) ?_
        refine w_ (p_build (bd_166) rfl rfl rfl rfl) ?_
        refine w_ (p_lit Tryz.runUnderlying48 Tryz.sizeOf166 Tryz.zeroValue166 rfl rfl rfl rfl rfl rfl rfl rfl rfl rfl) ?_
        refine a_append (ls2 := ((sortC (l.take i)).map ofCt ++ [zCt])) (m2 := i + 1) 1 Tryz.runUnderlying48 Tryz.runUnderlying48 Tryz.typeInfo166 rfl rfl Tryz.sizeOf166 Tryz.zeroValue166 rfl rfl rfl rfl rfl rfl rfl (by rw [List.length_map]; omega) (one_w rfl) (one_f rfl) (by show _ + 1 < _; omega) (by rw [List.take_of_length_le (by rw [List.length_map]; omega)]) (rfl) fun r2 => ?_
        refine w_ (p_assign rfl rfl) ?_
        refine aw_nil ?_
        refine ac_seq ?_
        refine ac_draw mixed_ 7 [34, 35, 36, 37, 38, 39, 40] [[], [], [1], [0, 2], [], [], [4, 5]] [.one (.orow r2 7 0 (i + 1)), .one (.int .i64 (((k : Nat) : Int))), .one (.int .i64 (((k + 1 : Nat) : Int))), .one (.orow r2 7 ((0 + (k + 1))) (((i + 1) - (k + 1)))), .one (.orow r2 7 0 (i + 1)), .one (.int .i64 (((k : Nat) : Int))), .one (.orow r2 7 ((0 + k)) (((i + 1) - k)))] rfl rfl rfl ⟨p_move rfl rfl, p_move rfl rfl, p_add (r := ((k + 1 : Nat) : Int)) rfl rfl (i64_is (by omega) (by omega)) rfl, p_sliceOLo (k + 1) Tryz.runUnderlying48 Tryz.sizeOf166 rfl rfl (rfl) (by omega) rfl, p_move rfl rfl, p_move rfl rfl, p_sliceOLo (k) Tryz.runUnderlying48 Tryz.sizeOf166 rfl rfl (rfl) (by omega) rfl, trivial⟩ rfl ?_
        refine a_copyO (m' := i - k) (ls2 := (((sortC (l.take i)).map ofCt ++ [zCt]).take (0 + (k + 1)) ++ (((sortC (l.take i)).map ofCt ++ [zCt]).drop (0 + k)).take (i - k) ++ ((sortC (l.take i)).map ofCt ++ [zCt]).drop (0 + (k + 1) + (i - k)))) 0 Tryz.runUnderlying48 Tryz.sizeOf166 rfl rfl rfl rfl (by simp; omega) (by simp; omega) (by simp) (by show min _ _ = _; omega) (rfl) rfl ?_
        refine aw_nil ?_
        refine ac_draw mixed_ 10 [42, 43, 44, 45, 46, 47, 48, 49, 50, 51] [[], [], [], [2], [], [4], [5], [], [7], [3, 6, 8]] [.one (.orow r2 7 0 (i + 1)), .one (.int .i64 (((k : Nat) : Int))), .one (.ow g1 0), .agg [.int .i64 c.kind, .int .i64 c.i0, .int .i64 c.i1, .int .i64 c.i2, .int .i64 c.i3], .one (.ow g1 5), .one (pl c.p), .one (pl c.p), .one (.ow g1 6), .one (.int .i64 c.want), .agg [.int .i64 c.kind, .int .i64 c.i0, .int .i64 c.i1, .int .i64 c.i2, .int .i64 c.i3, pl c.p, .int .i64 c.want]] rfl rfl rfl ⟨p_move rfl rfl, p_move rfl rfl, p_fieldOw fa_166_0 rfl rfl, p_loadOw 1 Tryz.isAgg44 Tryz.sizeOf44 rfl rfl rfl rfl rfl, p_fieldOw fa_166_1 rfl rfl, p_loadOw 1 Tryz.isAgg52 Tryz.sizeOf52 rfl rfl rfl rfl rfl, p_call Tryz.func189 rfl rfl rfl rfl (d_poly_NormT hcp.t (Nat.lt_of_le_of_lt hcp.l (by decide)) (bd_mono hcp.b (by omega))) rfl, p_fieldOw fa_166_2 rfl rfl, p_loadOw 1 Tryz.isAgg3 Tryz.sizeOf3 rfl rfl rfl rfl rfl, p_build (bd_166) rfl rfl rfl rfl, trivial⟩ rfl ?_
        refine w_ (p_indexO (k) Tryz.runUnderlying48 Tryz.sizeOf166 rfl rfl (rfl) (by omega) rfl) ?_
        obtain ⟨z0, z1, z2, z3, z4, z5, z6, hz⟩ := seven (k := 0 + k) (ins_w (O := (sortC (l.take i))) (z := zCt) (a := 0 + (k + 1)) (b := 0 + k) (m := i - k) (e := 0 + (k + 1) + (i - k)) rfl) (by simp; omega)
        refine a_storeO (ls2 := ((insC (sortC (l.take i)) c).map ofCt)) 0 Tryz.sizeOf166 rfl rfl rfl rfl rfl rfl (hz) rfl (ins_eq hO hp0 hp1) ?_
        refine aw_nil ?_
        refine ac_reg ?_
        refine w_ (p_add (r := ((i + 1 : Nat) : Int)) rfl rfl (i64_is (by omega) (by omega)) rfl) ?_
        refine w_ (p_move rfl rfl) ?_
        refine aw_rowEq 0 rfl (by rw [← sortC_take hc]) ?_
        refine aw_pick [3, 7, 8, 9] rfl ?_
        refine aw_drop 1 rfl ?_
        refine aw_nil ?_
        refine ⟨_, ?_, i + 1, r2, by omega, rfl, rfl, rfl⟩
        omega
  · have hO : (sortC (l.take i)).length = i := by rw [sortC_len, List.length_take]; omega
    have hi : l.take i = l := List.take_of_length_le (by omega)
    refine ac_seq ?_
    refine ac_reg ?_
    refine w_ (p_cmp rfl rfl rfl rfl) ?_
    refine aw_nil ?_
    refine ac_seq ?_
    refine ac_f rfl (decide_eq_false (by omega)) ?_
    refine ac_exit ?_
    repeat refine seqQ_exit ?_
    refine blkQ_here ?_
    refine ac_seq ?_
    refine ac_reg ?_
    refine w_ (p_move rfl rfl) ?_
    refine w_ (p_assign rfl rfl) ?_
    refine aw_nil ?_
    refine ac_pub 0 [2] rfl (allAre1 rfl) (by rw [List.length_map, hO]) (by rw [List.length_map, hO]; omega) rfl ?_
    refine ac_ret ?_
    exact retB_1 Tryz.results110 (rv_tmp rfl rfl) (by rw [hi]; rfl)

end Orr

namespace Orr
open Go Go.Proofs
theorem cmpQ_bd (a b : Rat) : -1 ≤ cmpQ a b ∧ cmpQ a b ≤ 1 := by
  unfold cmpQ cmpZ; split
  · omega
  · split <;> omega

theorem d_alg_CmpRatQ {q r : Rat} (hq : Qs 1073741823 q) (hr : Qs 1073741823 r) : Does Tryz.prog 272 [.agg [pl ([-q.num, (q.den : Int)]), sg q.num, mg q.num, sg ((q.den : Int)), mg ((q.den : Int)), sg q.num, mg q.num, sg ((q.den : Int)), mg ((q.den : Int))], .agg [sg r.num, mg r.num, sg ((r.den : Int)), mg ((r.den : Int))]] (.one (.int .i64 (cmpQ q r))) := by
  refine does_ (n := 40) Tryz.func272 rfl Tryz.ntmps272 rfl ?_
  refine ac_seq ?_
  refine ac_reg ?_
  refine w_ (p_boxS rfl rfl rfl rfl) ?_
  refine w_ (p_boxS rfl rfl rfl rfl) ?_
  refine w_ (p_assign rfl rfl) ?_
  refine aw_nil ?_
  refine ac_seq ?_
  refine ac_block ?_
  refine ac_seq ?_
  refine ac_reg ?_
  refine w_ (p_loadSh Tryz.isAgg59 Tryz.sizeOf59 rfl rfl rfl rfl) ?_
  refine w_ (p_call Tryz.func240 rfl rfl rfl rfl (d_alg_pointQ (hq.mono (by omega))) rfl) ?_
  refine w_ (p_assign rfl rfl) ?_
  refine aw_nil ?_
  refine ac_t rfl (rfl) ?_
  refine ac_seq ?_
  refine ac_reg ?_
  refine w_ (p_fieldSh fa_59_1 rfl rfl rfl) ?_
  refine w_ (p_loadSh Tryz.isAgg57 Tryz.sizeOf57 rfl rfl rfl rfl) ?_
  refine w_ (p_loadSh Tryz.isAgg57 Tryz.sizeOf57 rfl rfl rfl rfl) ?_
  refine w_ (p_call Tryz.func269 rfl rfl rfl rfl (d_ratio_Cmp (hq.mono (by omega)) (hr.mono (by omega))) rfl) ?_
  refine w_ (p_assign rfl rfl) ?_
  refine aw_nil ?_
  refine ac_ret ?_
  exact retB_1 Tryz.results272 (rv_tmp rfl rfl) (rfl)

theorem d_alg_CmpQ {q r : Rat} (hq : Qs 1073741823 q) (hr : Qs 1073741823 r) : Does Tryz.prog 196 [.agg [pl ([-q.num, (q.den : Int)]), sg q.num, mg q.num, sg ((q.den : Int)), mg ((q.den : Int)), sg q.num, mg q.num, sg ((q.den : Int)), mg ((q.den : Int))], .agg [pl ([-r.num, (r.den : Int)]), sg r.num, mg r.num, sg ((r.den : Int)), mg ((r.den : Int)), sg r.num, mg r.num, sg ((r.den : Int)), mg ((r.den : Int))]] (.one (.int .i64 ((-cmpQ r q)))) := by
  refine does_ (n := 72) Tryz.func196 rfl Tryz.ntmps196 rfl ?_
  refine ac_seq ?_
  refine ac_reg ?_
  refine a_box rfl rfl rfl fun g1 => ?_
  refine a_box rfl rfl rfl fun g2 => ?_
  refine w_ (p_assign rfl rfl) ?_
  refine aw_nil ?_
  refine ac_seq ?_
  refine ac_draw mixed_ 3 [11, 12, 13] [[], [0], []] [.agg [pl ([-q.num, (q.den : Int)]), sg q.num, mg q.num, sg ((q.den : Int)), mg ((q.den : Int)), sg q.num, mg q.num, sg ((q.den : Int)), mg ((q.den : Int))], .agg [pl ([-q.num, (q.den : Int)]), sg q.num, mg q.num, sg ((q.den : Int)), mg ((q.den : Int)), sg q.num, mg q.num, sg ((q.den : Int)), mg ((q.den : Int))], .agg [pl ([-r.num, (r.den : Int)]), sg r.num, mg r.num, sg ((r.den : Int)), mg ((r.den : Int)), sg r.num, mg r.num, sg ((r.den : Int)), mg ((r.den : Int))]] rfl rfl rfl ⟨p_loadOw 1 Tryz.isAgg59 Tryz.sizeOf59 rfl rfl rfl rfl rfl, p_call Tryz.func239 rfl rfl rfl rfl (d_alg_normQ (hq.mono (by omega))) rfl, p_loadOw 0 Tryz.isAgg59 Tryz.sizeOf59 rfl rfl rfl rfl rfl, trivial⟩ rfl ?_
  refine w_ (p_call Tryz.func239 rfl rfl rfl rfl (d_alg_normQ (hr.mono (by omega))) rfl) ?_
  refine a_storeOw 1 Tryz.sizeOf59 rfl rfl rfl rfl rfl rfl rfl ?_
  refine a_storeOw 0 Tryz.sizeOf59 rfl rfl rfl rfl rfl rfl rfl ?_
  refine aw_nil ?_
  refine ac_seq ?_
  refine ac_block ?_
  refine ac_seq ?_
  refine ac_reg ?_
  refine w_ (p_loadOw 1 Tryz.isAgg59 Tryz.sizeOf59 rfl rfl rfl rfl rfl) ?_
  refine w_ (p_call Tryz.func240 rfl rfl rfl rfl (d_alg_pointQ (hq.mono (by omega))) rfl) ?_
  refine w_ (p_assign rfl rfl) ?_
  refine aw_nil ?_
  refine ac_t rfl (rfl) ?_
  refine ac_seq ?_
  refine ac_reg ?_
  refine w_ (p_loadOw 0 Tryz.isAgg59 Tryz.sizeOf59 rfl rfl rfl rfl rfl) ?_
  refine w_ (p_fieldOw fa_59_1 rfl rfl) ?_
  refine w_ (p_loadOw 1 Tryz.isAgg57 Tryz.sizeOf57 rfl rfl rfl rfl rfl) ?_
  refine w_ (p_call Tryz.func272 rfl rfl rfl rfl (d_alg_CmpRatQ (hr) (hq)) rfl) ?_
  refine w_ (p_neg (r := (-(cmpQ r q))) rfl (i64_is rfl (by have := cmpQ_bd r q; omega)) rfl) ?_
  refine w_ (p_assign rfl rfl) ?_
  refine aw_nil ?_
  refine ac_ret ?_
  exact retB_1 Tryz.results196 (rv_tmp rfl rfl) (rfl)

theorem d_alg_LeastQ {q : Rat} (hq : Qs 1073741823 q) : Does Tryz.prog 271 [.one (.row [[pl ([-q.num, (q.den : Int)]), sg q.num, mg q.num, sg ((q.den : Int)), mg ((q.den : Int)), sg q.num, mg q.num, sg ((q.den : Int)), mg ((q.den : Int))]])] (.tup [.agg [pl ([-q.num, (q.den : Int)]), sg q.num, mg q.num, sg ((q.den : Int)), mg ((q.den : Int)), sg q.num, mg q.num, sg ((q.den : Int)), mg ((q.den : Int))], .one (.bool true)]) := by
  refine does_ (n := 29) Tryz.func271 rfl Tryz.ntmps271 rfl ?_
  refine ac_seq ?_
  refine ac_reg ?_
  refine a_alloc Tryz.zeroValue59 rfl rfl fun g1 => ?_
  refine w_ (p_assign rfl rfl) ?_
  refine aw_nil ?_
  refine ac_seq ?_
  refine ac_seq ?_
  refine ac_reg ?_
  refine w_ (p_move rfl rfl) ?_
  refine w_ (p_len (m := 1) Tryz.runUnderlying362 rfl (rfl) rfl) ?_
  refine w_ (p_cmp (b := false) rfl rfl rfl rfl) ?_
  refine aw_nil ?_
  refine ac_f rfl (rfl) ?_
  refine ac_skip ?_
  refine ac_seq ?_
  refine ac_reg ?_
  refine w_ (p_move rfl rfl) ?_
  refine w_ (p_index (0) Tryz.runUnderlying362 Tryz.sizeOf59 rfl rfl rfl rfl rfl rfl) ?_
  refine w_ (p_loadSh Tryz.isAgg59 Tryz.sizeOf59 rfl rfl rfl rfl) ?_
  refine a_alloc Tryz.zeroValue59 rfl rfl fun g2 => ?_
  refine a_storeOw 0 Tryz.sizeOf59 rfl rfl rfl rfl rfl rfl rfl ?_
  refine aw_nil ?_
  refine ac_seq ?_
  refine ac_seq ?_
  refine ac_reg ?_
  refine w_ (p_move rfl rfl) ?_
  refine w_ (p_sliceLo 1 Tryz.runUnderlying362 Tryz.sizeOf59 rfl rfl rfl (Nat.le_refl 1) (one_w rfl) (l' := []) rfl rfl) ?_
  refine w_ (p_len (m := 0) Tryz.runUnderlying362 rfl (rfl) rfl) ?_
  refine w_ (p_move rfl rfl) ?_
  refine aw_nil ?_
  refine ac_block ?_
  refine ac_rounds 1 ?_
  refine ac_round ?_
  refine ac_seq ?_
  refine ac_reg ?_
  refine w_ (p_cmp (b := false) rfl rfl rfl rfl) ?_
  refine aw_nil ?_
  refine ac_seq ?_
  refine ac_f rfl (rfl) ?_
  refine ac_exit ?_
  repeat refine seqQ_exit ?_
  refine blkQ_here ?_
  refine ac_seq ?_
  refine ac_reg ?_
  refine w_ (p_loadOw 0 Tryz.isAgg59 Tryz.sizeOf59 rfl rfl rfl rfl rfl) ?_
  refine w_ (p_call Tryz.func315 rfl rfl rfl rfl (d_alg_freshQ (hq.mono (by omega))) rfl) ?_
  refine a_storeOw 1 Tryz.sizeOf59 rfl rfl rfl rfl rfl rfl rfl ?_
  refine w_ (p_assign rfl rfl) ?_
  refine aw_nil ?_
  refine ac_ret ?_
  exact retB_2 Tryz.results271 (rv_cell 1 Tryz.isAgg59 Tryz.sizeOf59 rfl rfl rfl rfl rfl) (rv_tmp rfl rfl) (rfl)

/-- a certificate of whose failure nothing is known -/
abbrev ofW (c : Ct) : List LV := [.int .i64 c.kind, .int .i64 c.i0, .int .i64 c.i1, .int .i64 c.i2, .int .i64 c.i3, pl c.p, .int .i64 c.want, .bool false, .bool false, .row [], .bool false, .row [], .bool false, .row [], .bool false, .row [], .bool false, .row []]
def wts (l : List Ct) : LV := .row (l.map ofW)
theorem rlen_wts (l : List Ct) : rlen (wts l) = some l.length := by simp [rlen, wts]

theorem d_kin_Now {g T : Nat} {ys : List LV} {ev : Int} {q : Rat} {ws : List Ct} (hq : Qs 1073741823 q) : DoesB Tryz.prog 202 [.one (.ow g 0)] [.blk g T ((.bool true) :: (pl ([-q.num, (q.den : Int)])) :: (sg q.num) :: (mg q.num) :: (sg ((q.den : Int))) :: (mg ((q.den : Int))) :: (sg q.num) :: (mg q.num) :: (sg ((q.den : Int))) :: (mg ((q.den : Int))) :: (wts ws) :: (.int .i64 ev) :: ys)] fun r B => r = .agg [pl ([-q.num, (q.den : Int)]), sg q.num, mg q.num, sg ((q.den : Int)), mg ((q.den : Int)), sg q.num, mg q.num, sg ((q.den : Int)), mg ((q.den : Int))] ∧ B = [.blk g T ((.bool true) :: (pl ([-q.num, (q.den : Int)])) :: (sg q.num) :: (mg q.num) :: (sg ((q.den : Int))) :: (mg ((q.den : Int))) :: (sg q.num) :: (mg q.num) :: (sg ((q.den : Int))) :: (mg ((q.den : Int))) :: (wts ws) :: (.int .i64 ev) :: ys)] := by
  refine does_ (n := 23) Tryz.func202 rfl Tryz.ntmps202 rfl ?_
  refine ac_seq ?_
  refine ac_reg ?_
  refine a_alloc Tryz.zeroValue59 rfl rfl fun g1 => ?_
  refine aw_nil ?_
  refine ac_seq ?_
  refine ac_seq ?_
  refine ac_reg ?_
  refine w_ (p_move rfl rfl) ?_
  refine w_ (p_nilCheck rfl rfl rfl) ?_
  refine w_ (p_fieldOw fa_104_0 rfl rfl) ?_
  refine w_ (p_loadOw 1 Tryz.isAgg4 Tryz.sizeOf4 rfl rfl rfl rfl rfl) ?_
  refine w_ (p_not rfl rfl) ?_
  refine aw_nil ?_
  refine ac_f rfl (rfl) ?_
  refine ac_skip ?_
  refine ac_seq ?_
  refine ac_reg ?_
  refine w_ (p_move rfl rfl) ?_
  refine w_ (p_nilCheck rfl rfl rfl) ?_
  refine w_ (p_fieldOw fa_104_1 rfl rfl) ?_
  refine w_ (p_loadOw 1 Tryz.isAgg59 Tryz.sizeOf59 rfl rfl rfl rfl rfl) ?_
  refine w_ (p_lit Tryz.runUnderlying362 Tryz.sizeOf59 Tryz.zeroValue59 rfl rfl rfl rfl rfl rfl rfl rfl rfl rfl) ?_
  refine w_ (p_call Tryz.func271 rfl rfl rfl rfl (d_alg_LeastQ (hq)) rfl) ?_
  refine w_ (p_move rfl rfl) ?_
  refine w_ (p_extract rfl rfl rfl) ?_
  refine w_ (p_extract rfl rfl rfl) ?_
  refine a_alloc Tryz.zeroValue59 rfl rfl fun g2 => ?_
  refine a_storeOw 0 Tryz.sizeOf59 rfl rfl rfl rfl rfl rfl rfl ?_
  refine w_ (p_assign rfl rfl) ?_
  refine aw_nil ?_
  refine ac_seq ?_
  refine ac_reg ?_
  refine w_ (p_loadOw 0 Tryz.isAgg59 Tryz.sizeOf59 rfl rfl rfl rfl rfl) ?_
  refine a_storeOw 1 Tryz.sizeOf59 rfl rfl rfl rfl rfl rfl rfl ?_
  refine aw_nil ?_
  refine ac_ret ?_
  exact ⟨_, [0, 0], _, rvs_1 Tryz.results202 (rv_cell 1 Tryz.isAgg59 Tryz.sizeOf59 rfl rfl rfl rfl rfl), rfl, ⟨rfl, rfl⟩⟩

set_option maxRecDepth 20000 in
theorem d_kin_kept {g T : Nat} {ys : List LV} {ev : Int} {n0 n1 n2 n3 n4 n5 n6 n7 n8 : LV} {b : Bool} {ws : List Ct} {x : Ct} {q : Rat} (hn : ws.length ≤ 1000000) : DoesB Tryz.prog 270 [.one (.ow g 0), .agg [.int .i64 x.kind, .int .i64 x.i0, .int .i64 x.i1, .int .i64 x.i2, .int .i64 x.i3, pl x.p, .int .i64 x.want], .agg [pl ([-q.num, (q.den : Int)]), sg q.num, mg q.num, sg ((q.den : Int)), mg ((q.den : Int)), sg q.num, mg q.num, sg ((q.den : Int)), mg ((q.den : Int))]] [.blk g T ((.bool b) :: n0 :: n1 :: n2 :: n3 :: n4 :: n5 :: n6 :: n7 :: n8 :: (wts ws) :: (.int .i64 ev) :: ys)] fun r B => r = .agg [.int .i64 x.kind, .int .i64 x.i0, .int .i64 x.i1, .int .i64 x.i2, .int .i64 x.i3, pl x.p, .int .i64 x.want, .bool false, .bool false, .row ([]), .bool false, .row ([]), .bool false, .row ([]), .bool false, .row ([]), .bool false, .row ([])] ∧ B = [.blk g T ((.bool b) :: n0 :: n1 :: n2 :: n3 :: n4 :: n5 :: n6 :: n7 :: n8 :: (wts ws) :: (.int .i64 ev) :: ys)] := by
  refine does_ (n := 57) Tryz.func270 rfl Tryz.ntmps270 rfl ?_
  refine ac_seq ?_
  refine ac_reg ?_
  refine w_ (p_boxS rfl rfl rfl rfl) ?_
  refine w_ (p_boxS rfl rfl rfl rfl) ?_
  refine a_alloc Tryz.zeroValue196 rfl rfl fun g1 => ?_
  refine aw_nil ?_
  refine ac_seq ?_
  refine ac_seq ?_
  refine ac_reg ?_
  refine w_ (p_move rfl rfl) ?_
  refine w_ (p_nilCheck rfl rfl rfl) ?_
  refine w_ (p_fieldOw fa_104_2 rfl rfl) ?_
  refine w_ (p_loadOw 1 Tryz.isAgg102 Tryz.sizeOf102 rfl rfl rfl rfl rfl) ?_
  refine w_ (p_len (m := ws.length) Tryz.runUnderlying102 rfl (rlen_wts _) rfl) ?_
  refine w_ (p_move rfl rfl) ?_
  refine aw_nil ?_
  refine ac_block ?_
  refine ac_pick [4, 5, 6, 12, 13, 14] rfl ?_
  refine ac_loop (fun m L B => ∃ i, i ≤ ws.length ∧ m = ws.length - i ∧ L = [(4, .one (.sh [.int .i64 x.kind, .int .i64 x.i0, .int .i64 x.i1, .int .i64 x.i2, .int .i64 x.i3, pl x.p, .int .i64 x.want])), (5, .one (.sh [pl ([-q.num, (q.den : Int)]), sg q.num, mg q.num, sg ((q.den : Int)), mg ((q.den : Int)), sg q.num, mg q.num, sg ((q.den : Int)), mg ((q.den : Int))])), (6, .one (.ow g1 0)), (12, .one (wts ws)), (13, .one (.int .i64 (((ws.length : Nat) : Int)))), (14, .one (.int .i64 (((i : Nat) : Int))))] ∧ B = [.blk g1 196 [.int .i64 0, .int .i64 0, .int .i64 0, .int .i64 0, .int .i64 0, .nils, .int .i64 0, .bool false, .bool false, .nils, .bool false, .nils, .bool false, .nils, .bool false, .nils, .bool false, .nils], .blk g T ((.bool b) :: n0 :: n1 :: n2 :: n3 :: n4 :: n5 :: n6 :: n7 :: n8 :: (wts ws) :: (.int .i64 ev) :: ys)]) (m := _) ⟨0, Nat.zero_le _, rfl, rfl, rfl⟩ ?_
  rintro m L B ⟨i, hp0, hm, rfl, rfl⟩
  by_cases hlt : i < ws.length
  · obtain ⟨w, hw⟩ : ∃ w, ws[i]? = some w := ⟨_, List.getElem?_eq_getElem hlt⟩
    by_cases ht : ([w.kind, w.i0, w.i1, w.i2, w.i3] : List Int) = [x.kind, x.i0, x.i1, x.i2, x.i3]
    · skip
      refine ac_seq ?_
      refine ac_reg ?_
      refine w_ (p_cmp rfl rfl rfl rfl) ?_
      refine aw_nil ?_
      refine ac_seq ?_
      refine ac_t rfl (decide_eq_true (by omega)) ?_
      refine ac_skip ?_
      refine ac_seq ?_
      refine ac_block ?_
      refine ac_seq ?_
      refine ac_reg ?_
      refine w_ (p_index (i) Tryz.runUnderlying102 Tryz.sizeOf196 rfl rfl (rfl) (map_get hw) rfl rfl) ?_
      refine w_ (p_loadSh Tryz.isAgg196 Tryz.sizeOf196 rfl rfl rfl rfl) ?_
      refine a_alloc Tryz.zeroValue196 rfl rfl fun g2 => ?_
      refine a_storeOw 0 Tryz.sizeOf196 rfl rfl rfl rfl rfl rfl rfl ?_
      refine aw_nil ?_
      refine ac_seq ?_
      refine ac_seq ?_
      refine ac_reg ?_
      refine w_ (p_fieldOw fa_196_0 rfl rfl) ?_
      refine w_ (p_fieldOw fa_166_0 rfl rfl) ?_
      refine w_ (p_loadOw 0 Tryz.isAgg44 Tryz.sizeOf44 rfl rfl rfl rfl rfl) ?_
      refine w_ (p_fieldSh fa_166_0 rfl rfl rfl) ?_
      refine w_ (p_loadSh Tryz.isAgg44 Tryz.sizeOf44 rfl rfl rfl rfl) ?_
      refine w_ (p_neV (r := (!decide (([w.kind, w.i0, w.i1, w.i2, w.i3] : List Int) = [x.kind, x.i0, x.i1, x.i2, x.i3]))) [w.kind, w.i0, w.i1, w.i2, w.i3] [x.kind, x.i0, x.i1, x.i2, x.i3] Tryz.eqGuardType44 (eqT_44 _ _ rfl rfl) rfl rfl rfl rfl (rfl) rfl) ?_
      refine w_ (p_move rfl rfl) ?_
      refine w_ ((p_grun rfl rfl (by rw [decide_eq_true ht] <;> rfl) (p_fieldOw fa_196_1 rfl rfl))) ?_
      refine w_ ((p_grun rfl rfl (by rw [decide_eq_true ht] <;> rfl) (p_loadOw 0 Tryz.isAgg4 Tryz.sizeOf4 rfl rfl rfl rfl rfl))) ?_
      refine w_ ((p_grun rfl rfl (by rw [decide_eq_true ht] <;> rfl) (p_not rfl rfl))) ?_
      refine w_ (p_pickF rfl (by rw [decide_eq_true ht] <;> rfl) rfl rfl) ?_
      refine w_ (p_move rfl rfl) ?_
      refine w_ (p_gskip rfl rfl (rfl) rfl) ?_
      refine w_ (p_gskip rfl rfl (rfl) rfl) ?_
      refine w_ (p_gskip rfl rfl (rfl) rfl) ?_
      refine w_ (p_gskip rfl rfl (rfl) rfl) ?_
      refine w_ (p_gskip rfl rfl (rfl) rfl) ?_
      refine w_ (p_gskip rfl rfl (rfl) rfl) ?_
      refine w_ (p_gskip rfl rfl (rfl) rfl) ?_
      refine w_ (p_pickT rfl (rfl) rfl rfl) ?_
      refine aw_nil ?_
      refine ac_t rfl (rfl) ?_
      refine ac_exit ?_
      repeat refine seqQ_exit ?_
      refine blkQ_here ?_
      refine ac_reg ?_
      refine w_ (p_add (r := ((i + 1 : Nat) : Int)) rfl rfl (i64_is (by omega) (by omega)) rfl) ?_
      refine w_ (p_move rfl rfl) ?_
      refine aw_pick [4, 5, 6, 12, 13, 14] rfl ?_
      refine aw_drop 0 rfl ?_
      refine aw_nil ?_
      refine ⟨_, ?_, i + 1, by omega, rfl, rfl, rfl⟩
      omega
    · skip
      refine ac_seq ?_
      refine ac_reg ?_
      refine w_ (p_cmp rfl rfl rfl rfl) ?_
      refine aw_nil ?_
      refine ac_seq ?_
      refine ac_t rfl (decide_eq_true (by omega)) ?_
      refine ac_skip ?_
      refine ac_seq ?_
      refine ac_block ?_
      refine ac_seq ?_
      refine ac_reg ?_
      refine w_ (p_index (i) Tryz.runUnderlying102 Tryz.sizeOf196 rfl rfl (rfl) (map_get hw) rfl rfl) ?_
      refine w_ (p_loadSh Tryz.isAgg196 Tryz.sizeOf196 rfl rfl rfl rfl) ?_
      refine a_alloc Tryz.zeroValue196 rfl rfl fun g3 => ?_
      refine a_storeOw 0 Tryz.sizeOf196 rfl rfl rfl rfl rfl rfl rfl ?_
      refine aw_nil ?_
      refine ac_seq ?_
      refine ac_seq ?_
      refine ac_reg ?_
      refine w_ (p_fieldOw fa_196_0 rfl rfl) ?_
      refine w_ (p_fieldOw fa_166_0 rfl rfl) ?_
      refine w_ (p_loadOw 0 Tryz.isAgg44 Tryz.sizeOf44 rfl rfl rfl rfl rfl) ?_
      refine w_ (p_fieldSh fa_166_0 rfl rfl rfl) ?_
      refine w_ (p_loadSh Tryz.isAgg44 Tryz.sizeOf44 rfl rfl rfl rfl) ?_
      refine w_ (p_neV (r := (!decide (([w.kind, w.i0, w.i1, w.i2, w.i3] : List Int) = [x.kind, x.i0, x.i1, x.i2, x.i3]))) [w.kind, w.i0, w.i1, w.i2, w.i3] [x.kind, x.i0, x.i1, x.i2, x.i3] Tryz.eqGuardType44 (eqT_44 _ _ rfl rfl) rfl rfl rfl rfl (rfl) rfl) ?_
      refine w_ (p_move rfl rfl) ?_
      refine w_ (p_gskip rfl rfl (by rw [decide_eq_false ht] <;> rfl) rfl) ?_
      refine w_ (p_gskip rfl rfl (by rw [decide_eq_false ht] <;> rfl) rfl) ?_
      refine w_ (p_gskip rfl rfl (by rw [decide_eq_false ht] <;> rfl) rfl) ?_
      refine w_ (p_pickT rfl (by rw [decide_eq_false ht] <;> rfl) rfl rfl) ?_
      refine w_ (p_move rfl rfl) ?_
      refine w_ (p_gskip rfl rfl (rfl) rfl) ?_
      refine w_ (p_gskip rfl rfl (rfl) rfl) ?_
      refine w_ (p_gskip rfl rfl (rfl) rfl) ?_
      refine w_ (p_gskip rfl rfl (rfl) rfl) ?_
      refine w_ (p_gskip rfl rfl (rfl) rfl) ?_
      refine w_ (p_gskip rfl rfl (rfl) rfl) ?_
      refine w_ (p_gskip rfl rfl (rfl) rfl) ?_
      refine w_ (p_pickT rfl (rfl) rfl rfl) ?_
      refine aw_nil ?_
      refine ac_t rfl (rfl) ?_
      refine ac_exit ?_
      repeat refine seqQ_exit ?_
      refine blkQ_here ?_
      refine ac_reg ?_
      refine w_ (p_add (r := ((i + 1 : Nat) : Int)) rfl rfl (i64_is (by omega) (by omega)) rfl) ?_
      refine w_ (p_move rfl rfl) ?_
      refine aw_pick [4, 5, 6, 12, 13, 14] rfl ?_
      refine aw_drop 0 rfl ?_
      refine aw_nil ?_
      refine ⟨_, ?_, i + 1, by omega, rfl, rfl, rfl⟩
      omega
  · skip
    refine ac_seq ?_
    refine ac_reg ?_
    refine w_ (p_cmp rfl rfl rfl rfl) ?_
    refine aw_nil ?_
    refine ac_seq ?_
    refine ac_f rfl (decide_eq_false (by omega)) ?_
    refine ac_exit ?_
    repeat refine seqQ_exit ?_
    refine blkQ_here ?_
    refine ac_seq ?_
    refine ac_reg ?_
    refine w_ (p_loadSh Tryz.isAgg166 Tryz.sizeOf166 rfl rfl rfl rfl) ?_
    refine w_ (p_build (bd_196) rfl rfl rfl rfl) ?_
    refine a_storeOw 0 Tryz.sizeOf196 rfl rfl rfl rfl rfl rfl rfl ?_
    refine aw_nil ?_
    refine ac_ret ?_
    exact ⟨_, [0], _, rvs_1 Tryz.results270 (rv_cell 0 Tryz.isAgg196 Tryz.sizeOf196 rfl rfl rfl rfl rfl), rfl, ⟨rfl, rfl⟩⟩

set_option maxRecDepth 20000 in
theorem d_kin_lay {g T : Nat} {ys : List LV} {ev : Int} {n0 n1 n2 n3 n4 n5 n6 n7 n8 : LV} {b later : Bool} {ws l : List Ct} {q : Rat} (hn : ws.length ≤ 1000000) (hl : ∀ c ∈ l, Pb c.p) (hm : l.length ≤ 1000000) (hq : Qs 1073741823 q) : DoesB Tryz.prog 195 [.one (.ow g 0), .agg [pl ([-q.num, (q.den : Int)]), sg q.num, mg q.num, sg ((q.den : Int)), mg ((q.den : Int)), sg q.num, mg q.num, sg ((q.den : Int)), mg ((q.den : Int))], .one (.bool later), .one (cts l)] [.blk g T ((.bool b) :: n0 :: n1 :: n2 :: n3 :: n4 :: n5 :: n6 :: n7 :: n8 :: (wts ws) :: (.int .i64 ev) :: ys)] fun r B => r = .tup [] ∧ B = [.blk g T ((.bool true) :: (pl ([-q.num, (q.den : Int)])) :: (sg q.num) :: (mg q.num) :: (sg ((q.den : Int))) :: (mg ((q.den : Int))) :: (sg q.num) :: (mg q.num) :: (sg ((q.den : Int))) :: (mg ((q.den : Int))) :: (wts ((sortC l))) :: (.int .i64 ev) :: ys)] := by
  refine does_ (n := 47) Tryz.func195 rfl Tryz.ntmps195 rfl ?_
  refine ac_seq ?_
  refine ac_reg ?_
  refine w_ (p_boxS rfl rfl rfl rfl) ?_
  refine aw_nil ?_
  refine ac_seq ?_
  refine ac_reg ?_
  refine w_ (p_assign rfl rfl) ?_
  refine aw_nil ?_
  refine ac_seq ?_
  refine ac_seq ?_
  refine ac_reg ?_
  refine w_ (p_move rfl rfl) ?_
  refine w_ (p_call Tryz.func110 rfl rfl rfl rfl (d_cert_Sort (hl) (hm)) rfl) ?_
  refine w_ (p_len (m := ((sortC l)).length) Tryz.runUnderlying48 rfl (rlen_cts _) rfl) ?_
  refine w_ (p_move rfl rfl) ?_
  refine aw_nil ?_
  refine ac_block ?_
  refine ac_ownNil [8] 196 18 rfl (allAre1 rfl) rfl ?_
  refine ac_pick [0, 2, 5, 8, 13, 14, 15] rfl ?_
  refine ac_loop (fun m L B => ∃ i r, i ≤ (sortC l).length ∧ m = (sortC l).length - i ∧ L = [(0, .one (.ow g 0)), (2, .one (.bool later)), (5, .one (.sh [pl ([-q.num, (q.den : Int)]), sg q.num, mg q.num, sg ((q.den : Int)), mg ((q.den : Int)), sg q.num, mg q.num, sg ((q.den : Int)), mg ((q.den : Int))])), (8, .one (.orow r 18 0 i)), (13, .one (cts ((sortC l)))), (14, .one (.int .i64 (((((sortC l)).length : Nat) : Int)))), (15, .one (.int .i64 (((i : Nat) : Int))))] ∧ B = [.row r 196 18 (((sortC l).take i).map ofW), .blk g T ((.bool b) :: n0 :: n1 :: n2 :: n3 :: n4 :: n5 :: n6 :: n7 :: n8 :: (wts ws) :: (.int .i64 ev) :: ys)]) (m := _) ⟨0, none, Nat.zero_le _, rfl, rfl, rfl⟩ ?_
  rintro m L B ⟨i, r, hp0, hm, rfl, rfl⟩
  by_cases hlt : i < (sortC l).length
  · obtain ⟨c, hc⟩ : ∃ c, (sortC l)[i]? = some c := ⟨_, List.getElem?_eq_getElem hlt⟩
    have hsl := sortC_len l
    refine ac_seq ?_
    refine ac_reg ?_
    refine w_ (p_cmp rfl rfl rfl rfl) ?_
    refine aw_nil ?_
    refine ac_seq ?_
    refine ac_t rfl (decide_eq_true (by omega)) ?_
    refine ac_skip ?_
    refine ac_seq ?_
    refine ac_block ?_
    refine ac_seq ?_
    refine ac_reg ?_
    refine w_ (p_index (i) Tryz.runUnderlying48 Tryz.sizeOf166 rfl rfl (rfl) (map_get hc) rfl rfl) ?_
    refine w_ (p_loadSh Tryz.isAgg166 Tryz.sizeOf166 rfl rfl rfl rfl) ?_
    refine a_alloc Tryz.zeroValue166 rfl rfl fun g1 => ?_
    refine a_storeOw 0 Tryz.sizeOf166 rfl rfl rfl rfl rfl rfl rfl ?_
    refine aw_nil ?_
    refine ac_seq ?_
    refine ac_reg ?_
    refine w_ (p_loadOw 0 Tryz.isAgg166 Tryz.sizeOf166 rfl rfl rfl rfl rfl) ?_
    refine w_ (p_build (bd_196) rfl rfl rfl rfl) ?_
    refine a_alloc Tryz.zeroValue196 rfl rfl fun g2 => ?_
    refine a_storeOw 0 Tryz.sizeOf196 rfl rfl rfl rfl rfl rfl rfl ?_
    refine aw_nil ?_
    refine ac_seq ?_
    refine ac_seq ?_
    refine ac_reg ?_
    refine w_ (p_move rfl rfl) ?_
    refine aw_nil ?_
    refine ac_cond rfl (fun hb_if2 => ?_) (fun hb_if2 => ?_)
    · try simp only [decide_eq_true_eq, decide_eq_false_iff_not, Bool.not_eq_true', Bool.not_eq_false'] at hb_if2
      refine ac_reg ?_
      refine w_ (p_move rfl rfl) ?_
      refine w_ (p_loadOw 1 Tryz.isAgg166 Tryz.sizeOf166 rfl rfl rfl rfl rfl) ?_
      refine w_ (p_loadSh Tryz.isAgg59 Tryz.sizeOf59 rfl rfl rfl rfl) ?_
      refine aw_front 3 rfl ?_
      refine a_calls (Bin := [.blk g T ((.bool b) :: n0 :: n1 :: n2 :: n3 :: n4 :: n5 :: n6 :: n7 :: n8 :: (wts ws) :: (.int .i64 ev) :: ys)]) Tryz.func270 rfl rfl rfl rfl (d_kin_kept (by omega)) rfl fun r_ B_ hr_ => ?_
      obtain ⟨rfl, rfl⟩ := hr_
      refine a_storeOw 1 Tryz.sizeOf196 rfl rfl rfl rfl rfl rfl rfl ?_
      refine aw_nil ?_
      refine ac_reg ?_
      refine w_ (p_move rfl rfl) ?_
      refine aw_blk (ys := [.int .i64 c.kind, .int .i64 c.i0, .int .i64 c.i1, .int .i64 c.i2, .int .i64 c.i3, pl c.p, .int .i64 c.want, .bool false, .bool false, .row ([]), .bool false, .row ([]), .bool false, .row ([]), .bool false, .row ([]), .bool false, .row ([])]) 1 rfl rfl rfl ?_
      refine w_ (p_loadOw 0 Tryz.isAgg196 Tryz.sizeOf196 rfl rfl rfl rfl rfl) ?_
      refine w_ (p_lit Tryz.runUnderlying102 Tryz.sizeOf196 Tryz.zeroValue196 rfl rfl rfl rfl rfl rfl rfl rfl rfl rfl) ?_
      refine a_append (ls2 := (((sortC l).take (i + 1)).map ofW)) (m2 := i + 1) 3 Tryz.runUnderlying102 Tryz.runUnderlying102 Tryz.typeInfo196 rfl rfl Tryz.sizeOf196 Tryz.zeroValue196 rfl rfl rfl rfl rfl rfl rfl (by rw [List.length_map, List.length_take]; omega) (one_w rfl) (one_f rfl) (by show _ + 1 < _; omega) (by rw [List.take_of_length_le (by rw [List.length_map, List.length_take]; omega), List.take_succ, hc, List.map_append]; rfl) (rfl) fun r3 => ?_
      refine w_ (p_assign rfl rfl) ?_
      refine aw_nil ?_
      refine ac_reg ?_
      refine w_ (p_add (r := ((i + 1 : Nat) : Int)) rfl rfl (i64_is (by omega) (by omega)) rfl) ?_
      refine w_ (p_move rfl rfl) ?_
      refine aw_pick [0, 2, 5, 8, 13, 14, 15] rfl ?_
      refine aw_drop 1 rfl ?_
      refine aw_drop 2 rfl ?_
      refine aw_nil ?_
      refine ⟨_, ?_, i + 1, r3, by omega, rfl, rfl, rfl⟩
      omega
    · try simp only [decide_eq_true_eq, decide_eq_false_iff_not, Bool.not_eq_true', Bool.not_eq_false'] at hb_if2
      refine ac_skip ?_
      refine ac_reg ?_
      refine w_ (p_move rfl rfl) ?_
      refine aw_blk (ys := [.int .i64 c.kind, .int .i64 c.i0, .int .i64 c.i1, .int .i64 c.i2, .int .i64 c.i3, pl c.p, .int .i64 c.want, .bool false, .bool false, .row ([]), .bool false, .row ([]), .bool false, .row ([]), .bool false, .row ([]), .bool false, .row ([])]) 0 rfl rfl rfl ?_
      refine w_ (p_loadOw 0 Tryz.isAgg196 Tryz.sizeOf196 rfl rfl rfl rfl rfl) ?_
      refine w_ (p_lit Tryz.runUnderlying102 Tryz.sizeOf196 Tryz.zeroValue196 rfl rfl rfl rfl rfl rfl rfl rfl rfl rfl) ?_
      refine a_append (ls2 := (((sortC l).take (i + 1)).map ofW)) (m2 := i + 1) 2 Tryz.runUnderlying102 Tryz.runUnderlying102 Tryz.typeInfo196 rfl rfl Tryz.sizeOf196 Tryz.zeroValue196 rfl rfl rfl rfl rfl rfl rfl (by rw [List.length_map, List.length_take]; omega) (one_w rfl) (one_f rfl) (by show _ + 1 < _; omega) (by rw [List.take_of_length_le (by rw [List.length_map, List.length_take]; omega), List.take_succ, hc, List.map_append]; rfl) (rfl) fun r4 => ?_
      refine w_ (p_assign rfl rfl) ?_
      refine aw_nil ?_
      refine ac_reg ?_
      refine w_ (p_add (r := ((i + 1 : Nat) : Int)) rfl rfl (i64_is (by omega) (by omega)) rfl) ?_
      refine w_ (p_move rfl rfl) ?_
      refine aw_pick [0, 2, 5, 8, 13, 14, 15] rfl ?_
      refine aw_drop 1 rfl ?_
      refine aw_drop 1 rfl ?_
      refine aw_nil ?_
      refine ⟨_, ?_, i + 1, r4, by omega, rfl, rfl, rfl⟩
      omega
  · have hsl := sortC_len l
    have hi : (sortC l).take i = sortC l := List.take_of_length_le (by omega)
    refine ac_pub (L2 := _) 0 [8] rfl (allAre1 rfl) (by rw [List.length_map, hi]; omega) (by rw [List.length_map, hi]; omega) rfl ?_
    refine ac_slotEq 8 (y := .one (wts (sortC l))) rfl (by rw [hi]; rfl) ?_
    refine ac_seq ?_
    refine ac_reg ?_
    refine w_ (p_cmp rfl rfl rfl rfl) ?_
    refine aw_nil ?_
    refine ac_seq ?_
    refine ac_f rfl (decide_eq_false (by omega)) ?_
    refine ac_exit ?_
    repeat refine seqQ_exit ?_
    refine blkQ_here ?_
    refine ac_seq ?_
    refine ac_reg ?_
    refine w_ (p_move rfl rfl) ?_
    refine w_ (p_loadSh Tryz.isAgg59 Tryz.sizeOf59 rfl rfl rfl rfl) ?_
    refine w_ (p_lit Tryz.runUnderlying362 Tryz.sizeOf59 Tryz.zeroValue59 rfl rfl rfl rfl rfl rfl rfl rfl rfl rfl) ?_
    refine w_ (p_call Tryz.func271 rfl rfl rfl rfl (d_alg_LeastQ (hq)) rfl) ?_
    refine w_ (p_move rfl rfl) ?_
    refine w_ (p_extract rfl rfl rfl) ?_
    refine w_ (p_extract rfl rfl rfl) ?_
    refine w_ (p_nilCheck rfl rfl rfl) ?_
    refine w_ (p_fieldOw fa_104_1 rfl rfl) ?_
    refine a_storeOw 0 Tryz.sizeOf59 rfl rfl rfl rfl rfl rfl rfl ?_
    refine aw_nil ?_
    refine ac_reg ?_
    refine w_ (p_move rfl rfl) ?_
    refine w_ (p_move rfl rfl) ?_
    refine w_ (p_move rfl rfl) ?_
    refine w_ (p_nilCheck rfl rfl rfl) ?_
    refine w_ (p_fieldOw fa_104_0 rfl rfl) ?_
    refine a_storeOw 0 Tryz.sizeOf4 rfl rfl rfl rfl rfl rfl rfl ?_
    refine w_ (p_nilCheck rfl rfl rfl) ?_
    refine w_ (p_fieldOw fa_104_2 rfl rfl) ?_
    refine a_storeOw 0 Tryz.sizeOf102 rfl rfl rfl rfl rfl rfl rfl ?_
    refine aw_nil ?_
    -- end
    exact ⟨_, [], _, rvs_0 Tryz.results195 , rfl, ⟨rfl, rfl⟩⟩

set_option maxRecDepth 20000 in
theorem d_kin_BeginF {g T : Nat} {ys : List LV} {ev : Int} {n0 n1 n2 n3 n4 n5 n6 n7 n8 : LV} {ws l : List Ct} {q : Rat} (hn : ws.length ≤ 1000000) (hl : ∀ c ∈ l, Pb c.p) (hm : l.length ≤ 1000000) (hq : Qs 1073741823 q) : DoesB Tryz.prog 116 [.one (.ow g 0), .agg [pl ([-q.num, (q.den : Int)]), sg q.num, mg q.num, sg ((q.den : Int)), mg ((q.den : Int)), sg q.num, mg q.num, sg ((q.den : Int)), mg ((q.den : Int))], .one (cts l)] [.blk g T ((.bool false) :: n0 :: n1 :: n2 :: n3 :: n4 :: n5 :: n6 :: n7 :: n8 :: (wts ws) :: (.int .i64 ev) :: ys)] fun r B => r = .tup [] ∧ B = [.blk g T ((.bool true) :: (pl ([-q.num, (q.den : Int)])) :: (sg q.num) :: (mg q.num) :: (sg ((q.den : Int))) :: (mg ((q.den : Int))) :: (sg q.num) :: (mg q.num) :: (sg ((q.den : Int))) :: (mg ((q.den : Int))) :: (wts ((sortC l))) :: (.int .i64 ev) :: ys)] := by
  refine does_ (n := 23) Tryz.func116 rfl Tryz.ntmps116 rfl ?_
  refine ac_seq ?_
  refine ac_reg ?_
  refine w_ (p_boxS rfl rfl rfl rfl) ?_
  refine aw_nil ?_
  refine ac_draw mixed_ 16 [6, 7, 8, 9, 10, 11, 12, 13, 14, 15, 16, 17, 18, 19, 20, 21] [[], [], [], [2], [3], [4], [5], [6], [6], [6, 8], [6, 9], [6, 10], [6, 7, 11], [6, 12], [6, 13], []] [.one (.ow g 0), .agg [pl ([-q.num, (q.den : Int)]), sg q.num, mg q.num, sg ((q.den : Int)), mg ((q.den : Int)), sg q.num, mg q.num, sg ((q.den : Int)), mg ((q.den : Int))], .one (.ow g 0), .one (.ow g 0), .one (.ow g 0), .one (.bool false), .one (.bool false), .un, .un, .un, .un, .un, .un, .un, .one (.bool false), .one (cts l)] rfl rfl rfl ⟨p_move rfl rfl, p_loadSh Tryz.isAgg59 Tryz.sizeOf59 rfl rfl rfl rfl, p_move rfl rfl, p_nilCheck rfl rfl rfl, p_fieldOw fa_104_0 rfl rfl, p_loadOw 0 Tryz.isAgg4 Tryz.sizeOf4 rfl rfl rfl rfl rfl, p_move rfl rfl, p_gskip rfl rfl (rfl) rfl, p_gskip rfl rfl (rfl) rfl, p_gskip rfl rfl (rfl) rfl, p_gskip rfl rfl (rfl) rfl, p_gskip rfl rfl (rfl) rfl, p_gskip rfl rfl (rfl) rfl, p_gskip rfl rfl (rfl) rfl, p_pickF rfl (rfl) rfl rfl, p_move rfl rfl, trivial⟩ rfl ?_
  refine a_calls (Bin := [.blk g T ((.bool false) :: n0 :: n1 :: n2 :: n3 :: n4 :: n5 :: n6 :: n7 :: n8 :: (wts ws) :: (.int .i64 ev) :: ys)]) Tryz.func195 rfl rfl rfl rfl (d_kin_lay hn hl hm hq) rfl fun r_ B_ hr_ => ?_
  obtain ⟨rfl, rfl⟩ := hr_
  refine aw_nil ?_
  -- end
  exact ⟨_, [], _, rvs_0 Tryz.results116 , rfl, ⟨rfl, rfl⟩⟩

set_option maxRecDepth 20000 in
theorem d_kin_BeginT {g T : Nat} {ys : List LV} {ev : Int} {ws l : List Ct} {q r : Rat} (hr : Qs 1073741823 r) (hn : ws.length ≤ 1000000) (hl : ∀ c ∈ l, Pb c.p) (hm : l.length ≤ 1000000) (hq : Qs 1073741823 q) : DoesB Tryz.prog 116 [.one (.ow g 0), .agg [pl ([-q.num, (q.den : Int)]), sg q.num, mg q.num, sg ((q.den : Int)), mg ((q.den : Int)), sg q.num, mg q.num, sg ((q.den : Int)), mg ((q.den : Int))], .one (cts l)] [.blk g T ((.bool true) :: (pl ([-r.num, (r.den : Int)])) :: (sg r.num) :: (mg r.num) :: (sg ((r.den : Int))) :: (mg ((r.den : Int))) :: (sg r.num) :: (mg r.num) :: (sg ((r.den : Int))) :: (mg ((r.den : Int))) :: (wts ws) :: (.int .i64 ev) :: ys)] fun r B => r = .tup [] ∧ B = [.blk g T ((.bool true) :: (pl ([-q.num, (q.den : Int)])) :: (sg q.num) :: (mg q.num) :: (sg ((q.den : Int))) :: (mg ((q.den : Int))) :: (sg q.num) :: (mg q.num) :: (sg ((q.den : Int))) :: (mg ((q.den : Int))) :: (wts ((sortC l))) :: (.int .i64 ev) :: ys)] := by
  refine does_ (n := 23) Tryz.func116 rfl Tryz.ntmps116 rfl ?_
  refine ac_seq ?_
  refine ac_reg ?_
  refine w_ (p_boxS rfl rfl rfl rfl) ?_
  refine aw_nil ?_
  refine ac_draw mixed_ 16 [6, 7, 8, 9, 10, 11, 12, 13, 14, 15, 16, 17, 18, 19, 20, 21] [[], [], [], [2], [3], [4], [5], [6], [6], [6, 8], [6, 9], [6, 10], [6, 7, 11], [6, 12], [6, 13], []] [.one (.ow g 0), .agg [pl ([-q.num, (q.den : Int)]), sg q.num, mg q.num, sg ((q.den : Int)), mg ((q.den : Int)), sg q.num, mg q.num, sg ((q.den : Int)), mg ((q.den : Int))], .one (.ow g 0), .one (.ow g 0), .one (.ow g 0), .one (.bool true), .one (.bool true), .agg [pl ([-q.num, (q.den : Int)]), sg q.num, mg q.num, sg ((q.den : Int)), mg ((q.den : Int)), sg q.num, mg q.num, sg ((q.den : Int)), mg ((q.den : Int))], .one (.ow g 0), .one (.ow g 0), .one (.ow g 1), .agg [pl ([-r.num, (r.den : Int)]), sg r.num, mg r.num, sg ((r.den : Int)), mg ((r.den : Int)), sg r.num, mg r.num, sg ((r.den : Int)), mg ((r.den : Int))], .one (.int .i64 ((-cmpQ r q))), .one (.bool ((decide (0 ≤ ((-cmpQ r q)))))), .one (.bool ((decide (0 ≤ ((-cmpQ r q)))))), .one (cts l)] rfl rfl rfl ⟨p_move rfl rfl, p_loadSh Tryz.isAgg59 Tryz.sizeOf59 rfl rfl rfl rfl, p_move rfl rfl, p_nilCheck rfl rfl rfl, p_fieldOw fa_104_0 rfl rfl, p_loadOw 0 Tryz.isAgg4 Tryz.sizeOf4 rfl rfl rfl rfl rfl, p_move rfl rfl, (p_grun rfl rfl (rfl) (p_loadSh Tryz.isAgg59 Tryz.sizeOf59 rfl rfl rfl rfl)), (p_grun rfl rfl (rfl) (p_move rfl rfl)), (p_grun rfl rfl (rfl) (p_nilCheck rfl rfl rfl)), (p_grun rfl rfl (rfl) (p_fieldOw fa_104_1 rfl rfl)), (p_grun rfl rfl (rfl) (p_loadOw 0 Tryz.isAgg59 Tryz.sizeOf59 rfl rfl rfl rfl rfl)), (p_grun rfl rfl (rfl) (p_call Tryz.func196 rfl rfl rfl rfl (d_alg_CmpQ (hq) (hr)) rfl)), (p_grun rfl rfl (rfl) (p_cmp rfl rfl rfl rfl)), p_pickT rfl (rfl) rfl rfl, p_move rfl rfl, trivial⟩ rfl ?_
  refine a_calls (Bin := [.blk g T ((.bool true) :: (pl ([-r.num, (r.den : Int)])) :: (sg r.num) :: (mg r.num) :: (sg ((r.den : Int))) :: (mg ((r.den : Int))) :: (sg r.num) :: (mg r.num) :: (sg ((r.den : Int))) :: (mg ((r.den : Int))) :: (wts ws) :: (.int .i64 ev) :: ys)]) Tryz.func195 rfl rfl rfl rfl (d_kin_lay hn hl hm hq) rfl fun r_ B_ hr_ => ?_
  obtain ⟨rfl, rfl⟩ := hr_
  refine aw_nil ?_
  -- end
  exact ⟨_, [], _, rvs_0 Tryz.results116 , rfl, ⟨rfl, rfl⟩⟩

set_option maxRecDepth 20000 in
theorem d_kin_Certs {g T : Nat} {ys : List LV} {ev : Int} {n0 n1 n2 n3 n4 n5 n6 n7 n8 : LV} {b : Bool} {ws : List Ct} (hn : ws.length ≤ 1000000) (hl : ∀ c ∈ ws, Pb c.p) : DoesB Tryz.prog 40 [.one (.ow g 0)] [.blk g T ((.bool b) :: n0 :: n1 :: n2 :: n3 :: n4 :: n5 :: n6 :: n7 :: n8 :: (wts ws) :: (.int .i64 ev) :: ys)] fun r B => r = .one (cts ((sortC ws))) ∧ B = [.blk g T ((.bool b) :: n0 :: n1 :: n2 :: n3 :: n4 :: n5 :: n6 :: n7 :: n8 :: (wts ws) :: (.int .i64 ev) :: ys)] := by
  refine does_ (n := 23) Tryz.func40 rfl Tryz.ntmps40 rfl ?_
  refine ac_seq ?_
  refine ac_reg ?_
  refine w_ (p_assign rfl rfl) ?_
  refine aw_nil ?_
  refine ac_seq ?_
  refine ac_reg ?_
  refine w_ (p_assign rfl rfl) ?_
  refine aw_nil ?_
  refine ac_seq ?_
  refine ac_seq ?_
  refine ac_reg ?_
  refine w_ (p_move rfl rfl) ?_
  refine w_ (p_nilCheck rfl rfl rfl) ?_
  refine w_ (p_fieldOw fa_104_2 rfl rfl) ?_
  refine w_ (p_loadOw 0 Tryz.isAgg102 Tryz.sizeOf102 rfl rfl rfl rfl rfl) ?_
  refine w_ (p_len (m := ws.length) Tryz.runUnderlying102 rfl (rlen_wts _) rfl) ?_
  refine w_ (p_move rfl rfl) ?_
  refine aw_nil ?_
  refine ac_block ?_
  refine ac_ownNil [3] 166 7 rfl (allAre1 rfl) rfl ?_
  refine ac_pick [3, 9, 10, 11] rfl ?_
  refine ac_loop (fun m L B => ∃ i r, i ≤ ws.length ∧ m = ws.length - i ∧ L = [(3, .one (.orow r 7 0 i)), (9, .one (wts ws)), (10, .one (.int .i64 (((ws.length : Nat) : Int)))), (11, .one (.int .i64 (((i : Nat) : Int))))] ∧ B = [.row r 166 7 ((ws.take i).map ofCt), .blk g T ((.bool b) :: n0 :: n1 :: n2 :: n3 :: n4 :: n5 :: n6 :: n7 :: n8 :: (wts ws) :: (.int .i64 ev) :: ys)]) (m := _) ⟨0, none, Nat.zero_le _, rfl, rfl, rfl⟩ ?_
  rintro m L B ⟨i, r, hp0, hm, rfl, rfl⟩
  by_cases hlt : i < ws.length
  · obtain ⟨c, hc⟩ : ∃ c, ws[i]? = some c := ⟨_, List.getElem?_eq_getElem hlt⟩
    refine ac_seq ?_
    refine ac_reg ?_
    refine w_ (p_cmp rfl rfl rfl rfl) ?_
    refine aw_nil ?_
    refine ac_seq ?_
    refine ac_t rfl (decide_eq_true (by omega)) ?_
    refine ac_skip ?_
    refine ac_seq ?_
    refine ac_block ?_
    refine ac_seq ?_
    refine ac_reg ?_
    refine w_ (p_index (i) Tryz.runUnderlying102 Tryz.sizeOf196 rfl rfl (rfl) (map_get hc) rfl rfl) ?_
    refine w_ (p_loadSh Tryz.isAgg196 Tryz.sizeOf196 rfl rfl rfl rfl) ?_
    refine a_alloc Tryz.zeroValue196 rfl rfl fun g1 => ?_
    refine a_storeOw 0 Tryz.sizeOf196 rfl rfl rfl rfl rfl rfl rfl ?_
    refine aw_nil ?_
    refine ac_reg ?_
    refine w_ (p_move rfl rfl) ?_
    refine w_ (p_fieldOw fa_196_0 rfl rfl) ?_
    refine w_ (p_loadOw 0 Tryz.isAgg166 Tryz.sizeOf166 rfl rfl rfl rfl rfl) ?_
    refine w_ (p_lit Tryz.runUnderlying48 Tryz.sizeOf166 Tryz.zeroValue166 rfl rfl rfl rfl rfl rfl rfl rfl rfl rfl) ?_
    refine a_append (ls2 := ((ws.take (i + 1)).map ofCt)) (m2 := i + 1) 1 Tryz.runUnderlying48 Tryz.runUnderlying48 Tryz.typeInfo166 rfl rfl Tryz.sizeOf166 Tryz.zeroValue166 rfl rfl rfl rfl rfl rfl rfl (by rw [List.length_map, List.length_take]; omega) (one_w rfl) (one_f rfl) (by show _ + 1 < _; omega) (by rw [List.take_of_length_le (by rw [List.length_map, List.length_take]; omega), List.take_succ, hc, List.map_append]; rfl) (rfl) fun r2 => ?_
    refine w_ (p_assign rfl rfl) ?_
    refine aw_nil ?_
    refine ac_reg ?_
    refine w_ (p_add (r := ((i + 1 : Nat) : Int)) rfl rfl (i64_is (by omega) (by omega)) rfl) ?_
    refine w_ (p_move rfl rfl) ?_
    refine aw_pick [3, 9, 10, 11] rfl ?_
    refine aw_drop 1 rfl ?_
    refine aw_nil ?_
    refine ⟨_, ?_, i + 1, r2, by omega, rfl, rfl, rfl⟩
    omega
  · have hi : ws.take i = ws := List.take_of_length_le (by omega)
    refine ac_pub (L2 := _) 0 [3] rfl (allAre1 rfl) (by rw [List.length_map, hi]; omega) (by rw [List.length_map, hi]; omega) rfl ?_
    refine ac_slotEq 3 (y := .one (cts ws)) rfl (by rw [hi]; rfl) ?_
    refine ac_seq ?_
    refine ac_reg ?_
    refine w_ (p_cmp rfl rfl rfl rfl) ?_
    refine aw_nil ?_
    refine ac_seq ?_
    refine ac_f rfl (decide_eq_false (by omega)) ?_
    refine ac_exit ?_
    repeat refine seqQ_exit ?_
    refine blkQ_here ?_
    refine ac_seq ?_
    refine ac_reg ?_
    refine w_ (p_move rfl rfl) ?_
    refine w_ (p_call Tryz.func110 rfl rfl rfl rfl (d_cert_Sort (hl) (hn)) rfl) ?_
    refine w_ (p_assign rfl rfl) ?_
    refine aw_nil ?_
    refine ac_ret ?_
    exact ⟨_, [], _, rvs_1 Tryz.results40 (rv_tmp rfl rfl), rfl, ⟨rfl, rfl⟩⟩

end Orr

namespace Orr
def SortedP (l : List Pt) : Prop := l.Pairwise fun a b => a.id < b.id
theorem has_nil (id : Int) : has [] id = false := rfl
theorem has_cons (p : Pt) (l : List Pt) (id : Int) : has (p :: l) id = if p.id < id then has l id else decide (p.id = id) := by
  by_cases h : p.id < id
  · rw [if_pos h]; unfold has; simp only [pos]; rw [if_pos h]; simp
  · rw [if_neg h]; unfold has; simp only [pos]; rw [if_neg h]; simp
theorem put_cons (p : Pt) (l : List Pt) (q : Pt) : put (p :: l) q = if p.id < q.id then p :: put l q else q :: p :: l := by
  unfold put
  simp only [pos]
  split <;> simp
theorem has_iff : ∀ {l : List Pt} {id : Int}, SortedP l → (has l id = true ↔ ∃ p ∈ l, p.id = id)
  | [], id, _ => by simp [has_nil]
  | p :: l, id, h => by
    have h1 := List.pairwise_cons.1 h
    rw [has_cons]
    split
    · rename_i hlt
      rw [has_iff h1.2]
      constructor
      · rintro ⟨x, hx, e⟩; exact ⟨x, List.mem_cons_of_mem _ hx, e⟩
      · rintro ⟨x, hx, e⟩
        rcases List.mem_cons.1 hx with rfl | hx
        · omega
        · exact ⟨x, hx, e⟩
    · rename_i hge
      rw [decide_eq_true_iff]
      constructor
      · intro e; exact ⟨p, List.mem_cons_self .., e⟩
      · rintro ⟨x, hx, e⟩
        rcases List.mem_cons.1 hx with rfl | hx
        · exact e
        · have := h1.1 x hx; omega
theorem put_sorted : ∀ {l : List Pt} {q : Pt}, SortedP l → has l q.id = false → SortedP (put l q)
  | [], q, _, _ => by simp [put, pos, SortedP]
  | p :: l, q, h, hn => by
    have h1 := List.pairwise_cons.1 h
    rw [has_cons] at hn
    rw [put_cons]
    split
    · rename_i hlt
      rw [if_pos hlt] at hn
      refine List.pairwise_cons.2 ⟨fun x hx => ?_, put_sorted h1.2 hn⟩
      rcases put_mem hx with rfl | hx
      · exact hlt
      · exact h1.1 x hx
    · rename_i hge
      rw [if_neg hge, decide_eq_false_iff_not] at hn
      refine List.pairwise_cons.2 ⟨fun x hx => ?_, h⟩
      rcases List.mem_cons.1 hx with rfl | hx
      · omega
      · have := h1.1 x hx; omega
theorem mem_put {l : List Pt} {q p : Pt} (h : p = q ∨ p ∈ l) : p ∈ put l q := by
  unfold put
  rcases h with rfl | h
  · simp
  · rw [← List.take_append_drop (pos l q.id) l] at h
    simp only [List.mem_append, List.mem_cons] at h ⊢
    rcases h with h | h
    · exact .inl h
    · exact .inr (.inr h)
theorem putE_few {l : List Pt} {q : Pt} (h : l.length < 6) : putE l q = if has l q.id = true then 6 else 0 := by
  unfold putE
  split
  · rfl
  · rw [if_neg (by omega)]
theorem newL_fate : ∀ (qs acc : List Pt), SortedP acc → acc.length + qs.length ≤ 6 →
    ((newL acc qs).2 = 0 ∧ SortedP (newL acc qs).1 ∧ (newL acc qs).1.length = acc.length + qs.length ∧ qs.Pairwise (fun a b => a.id ≠ b.id) ∧ ∀ q ∈ qs, ∀ p ∈ acc, p.id ≠ q.id) ∨
    ((newL acc qs).2 = 6 ∧ ¬ (qs.Pairwise (fun a b => a.id ≠ b.id) ∧ ∀ q ∈ qs, ∀ p ∈ acc, p.id ≠ q.id))
  | [], acc, hs, _ => .inl ⟨rfl, hs, rfl, List.Pairwise.nil, fun _ h => absurd h (by simp)⟩
  | q :: qs, acc, hs, hl => by
    simp only [List.length_cons] at hl
    have he := putE_few (l := acc) (q := q) (by omega)
    simp only [newL]
    cases hh : has acc q.id with
    | true =>
      rw [hh, if_pos rfl] at he
      rw [he, if_neg (by decide)]
      obtain ⟨p, hp, e⟩ := (has_iff hs).1 hh
      exact .inr ⟨rfl, fun h => h.2 q (List.mem_cons_self ..) p hp e⟩
    | false =>
      rw [hh, if_neg (by decide)] at he
      rw [he, if_pos rfl]
      have hno : ∀ p ∈ acc, p.id ≠ q.id := fun p hp e => by
        have := (has_iff hs).2 ⟨p, hp, e⟩
        rw [hh] at this; cases this
      have hpl := put_len acc q
      rcases newL_fate qs (put acc q) (put_sorted hs hh) (by omega) with ⟨h1, h2, h3, h4, h5⟩ | ⟨h1, h2⟩
      · refine .inl ⟨h1, h2, by simp only [List.length_cons]; omega, List.pairwise_cons.2 ⟨fun x hx => h5 x hx q (mem_put (.inl rfl)), h4⟩, fun x hx p hp => ?_⟩
        rcases List.mem_cons.1 hx with rfl | hx
        · exact hno p hp
        · exact h5 x hx p (mem_put (.inr hp))
      · refine .inr ⟨h1, fun h => h2 ⟨(List.pairwise_cons.1 h.1).2, fun x hx p hp => ?_⟩⟩
        rcases put_mem hp with rfl | hp
        · exact (List.pairwise_cons.1 h.1).1 x hx
        · exact h.2 x (List.mem_cons_of_mem _ hx) p hp
/-- of at most six points: no error just where all names differ; else 6 -/
theorem newL_news {qs : List Pt} (hl : qs.length ≤ 6) :
    ((newL [] qs).2 = 0 ∧ SortedP (newL [] qs).1 ∧ (newL [] qs).1.length = qs.length ∧ qs.Pairwise (fun a b => a.id ≠ b.id)) ∨ ((newL [] qs).2 = 6 ∧ ¬ qs.Pairwise (fun a b => a.id ≠ b.id)) := by
  rcases newL_fate qs [] List.Pairwise.nil (by simpa using hl) with ⟨h1, h2, h3, h4, _⟩ | ⟨h1, h2⟩
  · exact .inl ⟨h1, h2, by simpa using h3, h4⟩
  · exact .inr ⟨h1, fun h => h2 ⟨h, fun _ _ _ hp => absurd hp (by simp)⟩⟩
end Orr

namespace Orr
open Go Go.Proofs
theorem snoc_map {α β : Type} (f : α → β) (l : List α) (x : α) : l.map f ++ [f x] = (l ++ [x]).map f := by simp
abbrev GoodP (l : List Pt) : Prop := ∀ a ∈ l, Nml a.c ∧ Cb a.c
theorem newL_mem : ∀ (qs acc : List Pt) {p : Pt}, p ∈ (newL acc qs).1 → p ∈ qs ∨ p ∈ acc
  | [], acc, p, h => .inr h
  | q :: qs, acc, p, h => by
    simp only [newL] at h
    split at h
    · rcases newL_mem qs _ h with h | h
      · exact .inl (List.mem_cons_of_mem _ h)
      · rcases put_mem h with rfl | h
        · exact .inl (List.mem_cons_self ..)
        · exact .inr h
    · cases h
theorem qs_0 : Qs 1 (ratOf 0 0) := by
  unfold ratOf
  exact Qs.divInt (by decide) (by decide) (by decide)
theorem good_still {x y : Int} (hx : -9223372036854775808 ≤ x ∧ x ≤ 9223372036854775807) (hy : -9223372036854775808 ≤ y ∧ y ≤ 9223372036854775807) : Nml (still x y) ∧ Cb (still x y) :=
  ⟨Crv.nml _, ((cs_still hx hy).norm (by decide)).mono (by omega) (by omega)⟩
def idAt : List LV → Int
  | [_, _, _, _, .int _ id] => id
  | _ => 0
def npt (zs : List (List LV)) (k : Nat) : Pt := { c := still (k : Int) (if k < zs.length then ((k * k : Nat) : Int) else -((k * k : Nat) : Int)), id := if k < zs.length then idAt (zs.getD k []) % 40 else ((100 + k : Nat) : Int) }
def npts (zs : List (List LV)) (n : Nat) : List Pt := (List.range n).map (npt zs)
theorem npts_len (zs : List (List LV)) (n : Nat) : (npts zs n).length = n := by simp [npts]
theorem npts_snoc (zs : List (List LV)) (i : Nat) : (npts zs (i + 1)).map ofPt = (npts zs i).map ofPt ++ [ofPt (npt zs i)] := by
  unfold npts; rw [List.range_succ, List.map_append, List.map_append]; rfl
theorem npt_in {zs : List (List LV)} {i : Nat} (h : i < zs.length) : npt zs i = { c := still (i : Int) ((i * i : Nat) : Int), id := idAt zs[i] % 40 } := by
  unfold npt; rw [if_pos h, if_pos h, List.getD_eq_getElem?_getD, List.getElem?_eq_getElem h]; rfl
theorem npt_out {zs : List (List LV)} {i : Nat} (h : ¬ i < zs.length) : npt zs i = { c := still (i : Int) (-((i * i : Nat) : Int)), id := ((100 + i : Nat) : Int) } := by
  unfold npt; rw [if_neg h, if_neg h]
theorem npts_good {zs : List (List LV)} {n : Nat} (hn : n ≤ 8) : GoodP (npts zs n) := by
  intro a ha
  obtain ⟨k, hk, rfl⟩ := List.mem_map.1 ha
  have hk := List.mem_range.1 hk
  have : k * k ≤ 8 * 8 := Nat.mul_le_mul (by omega) (by omega)
  exact good_still (by omega) (by split <;> omega)
theorem npts_get {zs : List (List LV)} {n k : Nat} (h : k < n) : (npts zs n)[k]? = some (npt zs k) := by
  unfold npts; rw [List.getElem?_map, List.getElem?_range h]; rfl
theorem npts_pw (zs : List (List LV)) (n : Nat) : (npts zs n).Pairwise (fun a b => a.id ≠ b.id) ↔ ∀ k j, k < j → j < n → (npt zs k).id ≠ (npt zs j).id := by
  rw [List.pairwise_iff_getElem]
  constructor
  · intro h k j hkj hj
    have := h k j (by rw [npts_len]; omega) (by rw [npts_len]; omega) hkj
    simpa [npts] using this
  · intro h k j hk hj hkj
    rw [npts_len] at hj
    have := h k j hkj hj
    simpa [npts] using this
theorem npts_id {zs : List (List LV)} {n : Nat} (hn : n ≤ 8) : ∀ p ∈ npts zs n, p.id < 200 := by
  intro a ha
  obtain ⟨k, hk, rfl⟩ := List.mem_map.1 ha
  have hk := List.mem_range.1 hk
  unfold npt
  split
  · have := Int.emod_lt_of_pos (idAt (zs.getD k [])) (show (0 : Int) < 40 by decide); show _ % 40 < 200; omega
  · show ((100 + k : Nat) : Int) < 200; omega
theorem put_new {l : List Pt} {c : Crv} {x : Int} (hs : SortedP l) (hl : l.length < 6) (hx : ∀ p ∈ l, p.id < x) : putE l (Pt.mk c x) = 0 := by
  rw [putE_few hl]
  have : has l x = false := by
    cases h : has l x
    · rfl
    · obtain ⟨p, hp, e⟩ := (has_iff hs).1 h
      have := hx p hp; omega
  rw [this]; rfl
theorem put_full {l : List Pt} {c : Crv} {x : Int} (hs : SortedP l) (hl : l.length = 6) (hx : ∀ p ∈ l, p.id < x) : putE l (Pt.mk c x) = 9 := by
  unfold putE
  have : has l x = false := by
    cases h : has l x
    · rfl
    · obtain ⟨p, hp, e⟩ := (has_iff hs).1 h
      have := hx p hp; omega
  rw [this, if_neg (by decide), if_pos (by omega)]
theorem has_new {l : List Pt} {x : Int} (hs : SortedP l) (hx : ∀ p ∈ l, p.id < x) : has l x = false := by
  cases h : has l x
  · rfl
  · obtain ⟨p, hp, e⟩ := (has_iff hs).1 h
    have := hx p hp; omega
theorem cs_nil : Cs 4294967294 1073741824 (Crv.mk [] [] 0) := ⟨fun _ h => absurd h (by simp), fun _ h => absurd h (by simp), Nat.zero_le _, Nat.zero_le _, Nat.zero_le _⟩
/-- rows of points of which only the names are read -/
def Named (zs : List (List LV)) : Prop := ∀ z ∈ zs, ∃ x0 x1 x2 x3 id, z = [x0, x1, x2, x3, .int .i64 id] ∧ -9223372036854775808 ≤ id ∧ id ≤ 9223372036854775807

theorem tmod_neg {v n : Int} (hn : 0 < n) (h : v.tmod n < 0) : v.tmod n + n = v % n := by
  have h1 := Int.tmod_eq_emod (a := v) (b := n)
  have h2 := Int.emod_nonneg v (b := n) (by omega)
  have h3 := Int.emod_lt_of_pos v hn
  rw [h1] at h ⊢
  split at h <;> split <;> omega
theorem tmod_pos {v n : Int} (hn : 0 < n) (h : ¬ v.tmod n < 0) : v.tmod n = v % n := by
  have h1 := Int.tmod_eq_emod (a := v) (b := n)
  have h2 := Int.emod_nonneg v (b := n) (by omega)
  have h3 := Int.emod_lt_of_pos v hn
  rw [h1] at h ⊢
  split at h <;> split <;> omega

theorem d_keep_Within {v n : Int} (hv : -9223372036854775808 ≤ v ∧ v ≤ 9223372036854775807) (hn : 0 < n ∧ n ≤ 1000000) : Does Tryz.prog 18 [.one (.int .i64 v), .one (.int .i64 n)] (.one (.int .i64 ((v % n)))) := by
  refine does_ (n := 17) Tryz.func18 rfl Tryz.ntmps18 rfl ?_
  have hlt := Int.tmod_lt_of_pos v hn.1
  have hgt : -n < v.tmod n := by have := Int.tmod_eq_emod (a := v) (b := n); have := Int.emod_nonneg v (b := n) (by omega); have := Int.emod_lt_of_pos v hn.1; split at * <;> omega
  by_cases h0 : v.tmod n < 0
  · skip
    refine ac_seq ?_
    refine ac_reg ?_
    refine w_ (p_assign rfl rfl) ?_
    refine aw_nil ?_
    refine ac_seq ?_
    refine ac_seq ?_
    refine ac_reg ?_
    refine w_ (p_move rfl rfl) ?_
    refine w_ (p_cmp rfl rfl rfl rfl) ?_
    refine aw_nil ?_
    refine ac_f rfl (decide_eq_false (by omega)) ?_
    refine ac_skip ?_
    refine ac_seq ?_
    refine ac_reg ?_
    refine w_ (p_move rfl rfl) ?_
    refine w_ (p_move rfl rfl) ?_
    refine w_ (p_rem (r := (v.tmod n)) rfl rfl (by omega) (rfl) rfl) ?_
    refine w_ (p_assign rfl rfl) ?_
    refine aw_nil ?_
    refine ac_seq ?_
    refine ac_seq ?_
    refine ac_reg ?_
    refine w_ (p_move rfl rfl) ?_
    refine w_ (p_cmp rfl rfl rfl rfl) ?_
    refine aw_nil ?_
    refine ac_t rfl (decide_eq_true h0) ?_
    refine ac_reg ?_
    refine w_ (p_move rfl rfl) ?_
    refine w_ (p_move rfl rfl) ?_
    refine w_ (p_add (r := (v % n)) rfl rfl (by rw [tmod_neg hn.1 h0]; exact wrap64_of (by have := Int.emod_nonneg v (b := n) (by omega); omega) (by have := Int.emod_lt_of_pos v hn.1; omega)) rfl) ?_
    refine w_ (p_assign rfl rfl) ?_
    refine aw_nil ?_
    refine ac_seq ?_
    refine ac_reg ?_
    refine w_ (p_move rfl rfl) ?_
    refine w_ (p_assign rfl rfl) ?_
    refine aw_nil ?_
    refine ac_ret ?_
    exact retB_1 Tryz.results18 (rv_tmp rfl rfl) (rfl)
  · skip
    refine ac_seq ?_
    refine ac_reg ?_
    refine w_ (p_assign rfl rfl) ?_
    refine aw_nil ?_
    refine ac_seq ?_
    refine ac_seq ?_
    refine ac_reg ?_
    refine w_ (p_move rfl rfl) ?_
    refine w_ (p_cmp rfl rfl rfl rfl) ?_
    refine aw_nil ?_
    refine ac_f rfl (decide_eq_false (by omega)) ?_
    refine ac_skip ?_
    refine ac_seq ?_
    refine ac_reg ?_
    refine w_ (p_move rfl rfl) ?_
    refine w_ (p_move rfl rfl) ?_
    refine w_ (p_rem (r := (v.tmod n)) rfl rfl (by omega) (rfl) rfl) ?_
    refine w_ (p_assign rfl rfl) ?_
    refine aw_nil ?_
    refine ac_seq ?_
    refine ac_seq ?_
    refine ac_reg ?_
    refine w_ (p_move rfl rfl) ?_
    refine w_ (p_cmp rfl rfl rfl rfl) ?_
    refine aw_nil ?_
    refine ac_f rfl (decide_eq_false h0) ?_
    refine ac_skip ?_
    refine ac_seq ?_
    refine ac_reg ?_
    refine w_ (p_move rfl rfl) ?_
    refine w_ (p_assign rfl rfl) ?_
    refine aw_nil ?_
    refine ac_ret ?_
    exact retB_1 Tryz.results18 (rv_tmp rfl rfl) (by rw [tmod_pos hn.1 h0])

end Orr

namespace Orr
/-- the squared distance, times the squares of both denominators -/
def papart (a b : Crv) : List Int := padd (pmul (pright a b) (pright a b)) (pmul (pabove a b) (pabove a b))
def pfarther (a b c d : Crv) : List Int := psub (pscale (papart c d) ((a.d * b.d) * (a.d * b.d))) (pscale (papart a b) ((c.d * d.d) * (c.d * d.d)))
theorem pb_apart {a b : Crv} (ha : Cb a) (hb : Cb b) : Trim (papart a b) ∧ (papart a b).length ≤ 31 ∧ Bd 4194312 (papart a b) := by
  obtain ⟨_, l1, b1⟩ := pb_right ha hb
  obtain ⟨_, l2, b2⟩ := pb_above ha hb
  have m1 := len_pmul (pright a b) (pright a b)
  have m2 := len_pmul (pabove a b) (pabove a b)
  have q1 := bd_pmul (u := 5) b1 b1 (by omega)
  have q2 := bd_pmul (u := 5) b2 b2 (by omega)
  refine ⟨each_trim _ _, ?_, bd_mono (bd_padd q1 q2) (by omega)⟩
  have := len_padd (pmul (pright a b) (pright a b)) (pmul (pabove a b) (pabove a b))
  unfold papart
  omega
theorem isz_dd {a b : Crv} (ha : Cb a) (hb : Cb b) : isz (a.d * b.d) ≤ 2097152 := by
  have := isz_mul a.d b.d; have := ha.d; have := hb.d; omega
theorem isz_dd2 {a b : Crv} (ha : Cb a) (hb : Cb b) : isz ((a.d * b.d) * (a.d * b.d)) ≤ 4194304 := by
  have := isz_mul (a.d * b.d) (a.d * b.d); have := isz_dd ha hb; omega
theorem pb_farther {a b c d : Crv} (ha : Cb a) (hb : Cb b) (hc : Cb c) (hd : Cb d) : Pb (pfarther a b c d) := by
  obtain ⟨_, l1, b1⟩ := pb_apart hc hd
  obtain ⟨_, l2, b2⟩ := pb_apart ha hb
  refine ⟨each_trim _ _, ?_, bd_mono (bd_psub (bd_pscale b1 (isz_dd2 ha hb)) (bd_pscale b2 (isz_dd2 hc hd))) (by omega)⟩
  have h := len_psub (pscale (papart c d) ((a.d * b.d) * (a.d * b.d))) (pscale (papart a b) ((c.d * d.d) * (c.d * d.d)))
  have := len_pscale (papart c d) ((a.d * b.d) * (a.d * b.d)); have := len_pscale (papart a b) ((c.d * d.d) * (c.d * d.d))
  unfold pfarther
  omega
/-- the certificate that c and d are not nearer than a and b -/
def mkDist (q : Rat) (a b c d : Pt) : Ct := ⟨5, a.id, b.id, c.id, d.id, pfarther a.c b.c c.c d.c, germAt (pfarther a.c b.c c.c d.c) q⟩
theorem mkDist_p (q : Rat) (a b c d : Pt) : (mkDist q a b c d).p = pfarther a.c b.c c.c d.c := by rw [mkDist]
theorem take_snoc {α : Type} {l : List α} {i : Nat} {x : α} (h : l[i]? = some x) : l.take (i + 1) = l.take i ++ [x] := by rw [List.take_succ, h]; rfl
/-- each two, up to the k-th one as the first -/
def pairsK : Nat → List Pt → List (Pt × Pt)
  | 0, _ => []
  | _ + 1, [] => []
  | k + 1, x :: l => l.map (fun y => (x, y)) ++ pairsK k l
def pairsOf (l : List Pt) : List (Pt × Pt) := pairsK l.length l
theorem pairsK_next : ∀ (l : List Pt) (i : Nat) (x : Pt), l[i]? = some x → pairsK (i + 1) l = pairsK i l ++ (l.drop (i + 1)).map (fun y => (x, y))
  | [], i, x, h => by simp at h
  | y :: l, 0, x, h => by
    simp at h; subst h
    simp [pairsK]
  | y :: l, i + 1, x, h => by
    have h : l[i]? = some x := by simpa using h
    have ih := pairsK_next l i x h
    show l.map (fun z => (y, z)) ++ pairsK (i + 1) l = (l.map (fun z => (y, z)) ++ pairsK i l) ++ _
    rw [ih, List.append_assoc]
    rfl
theorem pairsK_mem : ∀ (k : Nat) (l : List Pt), ∀ m ∈ pairsK k l, m.1 ∈ l ∧ m.2 ∈ l
  | 0, l, m, h => by simp [pairsK] at h
  | k + 1, [], m, h => by simp [pairsK] at h
  | k + 1, x :: l, m, h => by
    rcases List.mem_append.1 h with h | h
    · obtain ⟨y, hy, rfl⟩ := List.mem_map.1 h
      exact ⟨List.mem_cons_self .., List.mem_cons_of_mem _ hy⟩
    · obtain ⟨h1, h2⟩ := pairsK_mem k l m h
      exact ⟨List.mem_cons_of_mem _ h1, List.mem_cons_of_mem _ h2⟩
theorem pairsK_len : ∀ (k : Nat) (l : List Pt), (pairsK k l).length ≤ k * l.length
  | 0, l => by simp [pairsK]
  | k + 1, [] => by simp [pairsK]
  | k + 1, x :: l => by
    have := pairsK_len k l
    simp only [pairsK, List.length_append, List.length_map, List.length_cons]
    have e : (k + 1) * (l.length + 1) = k * l.length + k + l.length + 1 := by rw [Nat.add_mul, Nat.mul_add]; omega
    omega
theorem pairs_room {l : List Pt} {i j : Nat} {f : Pt → Pt × Pt} (hi : i < l.length) (hj : j < (l.drop (i + 1)).length) : (pairsK i l ++ ((l.drop (i + 1)).take j).map f).length < l.length * l.length := by
  have h1 := pairsK_len i l
  have h2 : (i + 1) * l.length ≤ l.length * l.length := Nat.mul_le_mul_right _ hi
  have e : (i + 1) * l.length = i * l.length + l.length := Nat.succ_mul ..
  rw [List.length_drop] at hj
  rw [List.length_append, List.length_map, List.length_take, List.length_drop]
  omega
/-- the nearer two -/
def nearer (q : Rat) (s m : Pt × Pt) : Pt × Pt := if germAt (pfarther s.1.c s.2.c m.1.c m.2.c) q < 0 then m else s
def nearest (q : Rat) (s : Pt × Pt) (ps : List (Pt × Pt)) : Pt × Pt := ps.foldl (nearer q) s
theorem nearer_or (q : Rat) (s m : Pt × Pt) : nearer q s m = m ∨ nearer q s m = s := by
  unfold nearer
  split
  · exact .inl rfl
  · exact .inr rfl
theorem nearest_cons (q : Rat) (s m : Pt × Pt) (ps : List (Pt × Pt)) : nearest q s (m :: ps) = nearest q (nearer q s m) ps := by unfold nearest; rw [List.foldl_cons]
theorem nearest_snoc (q : Rat) (s : Pt × Pt) (ps : List (Pt × Pt)) (m : Pt × Pt) : nearest q s (ps ++ [m]) = nearer q (nearest q s ps) m := by simp [nearest]
theorem nearest_mem (q : Rat) {l : List Pt} : ∀ (ps : List (Pt × Pt)) (s : Pt × Pt), s.1 ∈ l ∧ s.2 ∈ l → (∀ m ∈ ps, m.1 ∈ l ∧ m.2 ∈ l) → (nearest q s ps).1 ∈ l ∧ (nearest q s ps).2 ∈ l
  | [], s, hs, _ => hs
  | m :: ps, s, hs, h => by
    have hn : (nearer q s m).1 ∈ l ∧ (nearer q s m).2 ∈ l := by
      rcases nearer_or q s m with e | e
      · rw [e]; exact h m (List.mem_cons_self ..)
      · rw [e]; exact hs
    rw [nearest_cons]
    exact nearest_mem q ps (nearer q s m) hn fun x hx => h x (List.mem_cons_of_mem _ hx)
def other (s m : Pt × Pt) : Bool := decide (m.1.id ≠ s.1.id) || decide (m.2.id ≠ s.2.id)
/-- the certificates: of all others -/
def dists (q : Rat) (s : Pt × Pt) (ps : List (Pt × Pt)) : List Ct := (ps.filter (other s)).map fun m => mkDist q s.1 s.2 m.1 m.2
theorem dists_t {q : Rat} {s m : Pt × Pt} {ps : List (Pt × Pt)} (h : other s m = true) : dists q s (ps ++ [m]) = dists q s ps ++ [mkDist q s.1 s.2 m.1 m.2] := by simp [dists, List.filter_append, h]
theorem dists_f {q : Rat} {s m : Pt × Pt} {ps : List (Pt × Pt)} (h : other s m = false) : dists q s (ps ++ [m]) = dists q s ps := by simp [dists, List.filter_append, h]
theorem dists_mem {q : Rat} {s : Pt × Pt} {ps : List (Pt × Pt)} {c : Ct} (h : c ∈ dists q s ps) : ∃ x ∈ ps, mkDist q s.1 s.2 x.1 x.2 = c := by
  unfold dists at h
  obtain ⟨x, hx, e⟩ := List.mem_map.1 h
  exact ⟨x, (List.mem_filter.1 hx).1, e⟩
theorem dists_len (q : Rat) (s : Pt × Pt) (ps : List (Pt × Pt)) : (dists q s ps).length ≤ ps.length := by
  unfold dists
  rw [List.length_map]
  exact List.length_filter_le _ _
/-- the pair of a row, as a row; its certificates -/
def pairB (q : Rat) : List Pt → List Pt
  | a :: b :: l => [(nearest q (a, b) (pairsOf (a :: b :: l))).1, (nearest q (a, b) (pairsOf (a :: b :: l))).2]
  | _ => []
def pairC (q : Rat) : List Pt → List Ct
  | a :: b :: l => dists q (nearest q (a, b) (pairsOf (a :: b :: l))) (pairsOf (a :: b :: l))
  | _ => []
theorem pairB_few (q : Rat) {l : List Pt} (h : l.length < 2) : pairB q l = [] ∧ pairC q l = [] := by
  match l, h with
  | [], _ => exact ⟨rfl, rfl⟩
  | [a], _ => exact ⟨rfl, rfl⟩
theorem two_of {l : List Pt} (h : ¬ l.length < 2) : ∃ a b m, l = a :: b :: m := by
  match l, h with
  | [], h => simp at h
  | [a], h => simp at h
  | a :: b :: m, _ => exact ⟨a, b, m, rfl⟩
theorem pairC_len (q : Rat) (l : List Pt) : (pairC q l).length ≤ l.length * l.length := by
  match l with
  | [] => simp [pairC]
  | [a] => simp [pairC]
  | a :: b :: m => exact Nat.le_trans (dists_len _ _ _) (pairsK_len _ _)
theorem pairC_le (q : Rat) (l : List Pt) (h : l.length ≤ 10) : (pairC q l).length ≤ 100000 := by
  have := pairC_len q l
  have : l.length * l.length ≤ 10 * 10 := Nat.mul_le_mul h h
  omega
theorem pairC_pb (q : Rat) {l : List Pt} (h : ∀ a ∈ l, Nml a.c ∧ Cb a.c) : ∀ c ∈ pairC q l, Pb c.p := by
  match l, h with
  | [], _ => simp [pairC]
  | [a], _ => simp [pairC]
  | a :: b :: m, h =>
    intro c hc
    simp only [pairC] at hc
    generalize hl : a :: b :: m = l at *
    obtain ⟨h3, h4⟩ := nearest_mem q (l := l) (pairsOf l) (a, b) ⟨by rw [← hl]; simp, by rw [← hl]; simp⟩ (pairsK_mem _ _)
    generalize nearest q (a, b) (pairsOf l) = s at *
    obtain ⟨x, hx, rfl⟩ := dists_mem hc
    obtain ⟨h1, h2⟩ := pairsK_mem _ _ x hx
    rw [mkDist_p]
    exact pb_farther (h _ h3).2 (h _ h4).2 (h _ h1).2 (h _ h2).2
end Orr

namespace Orr
open Go
variable {P : Program} {ops : Array Oper} {n : Nat} {rest : List Oper} {N : Sg → List OB → Prop} {L : Sg} {B : List OB} {d : Nat} {ty : TypeId} {pos : String} {after : Array Edge}
def AMS (P : Program) (ops : Array Oper) (n : Nat) (o : Oper) (L : Sg) (B : List OB) (R : List OB → Prop) : Prop :=
  ∀ (K Ob : Nat → Prop) (w0 w : World) (a : Act) (Bs : List Blk) (L' : List (Nat × Value)) (Fs : List Fact), St K Ob w0 w a n L' Fs Bs → (∀ t x, lk L t = some x → ∃ v, look L' t = some v ∧ ARep w (owns Ob Bs) v x) → BsRep w (owns Ob Bs) B Bs →
    wpList P ops (fun e a' w' => e = .normal ∧ ∃ Bs' B1, R B1 ∧ St K Ob w0 w' a' n [] Fs Bs' ∧ BsRep w' (owns Ob Bs') B1 Bs') [o] a w
theorem ams_of_aw {o : Oper} {R : List OB → Prop} (haw : ∀ N : Sg → List OB → Prop, (∀ B1, R B1 → N L B1) → AW P ops n [o] N L B) : AMS P ops n o L B R := by
  intro K Ob w0 w a Bs L' Fs h hL hB
  have h0 : St (fun b => b < w.heap.size ∧ b ∉ Bs.map (·.1)) Ob w w a n L' [] Bs :=
    { size := h.size, defers := h.defers, slots := h.slots, wsize := Nat.le_refl _, grow := fun _ _ => rfl, own := fun g T cs hm => ⟨fun hk => hk.2 (List.mem_map.2 ⟨_, hm, rfl⟩), (h.own g T cs hm).2⟩, nodup := h.nodup,
      facts := fun f hf => by simp at hf, base := fun b hk => hk.1, obase := fun b hb => Nat.lt_of_lt_of_le (h.obase b hb) h.wsize, ownO := h.ownO, io := ⟨rfl, rfl⟩ }
  refine haw (fun L2 B2 => ∃ B1, R B1 ∧ L2 = L ∧ B2 = B1) (fun B1 hR => ⟨B1, hR, rfl, rfl⟩) _ Ob w w a _ ⟨L', Bs, h0, hL, hB⟩ ?_
  rintro a' w' ⟨L2, B2, ⟨L2', Bs2, h1, h2, h3⟩, B1, hR, rfl, rfl⟩
  have hle : Le w (owns Ob Bs) w' (owns Ob Bs2) := by
    refine ⟨h1.wsize, fun b hb hno => h1.grow b ⟨hb, fun hm => hno (.inr hm)⟩, fun b hb ho => ?_⟩
    rcases ho with ho | hm
    · exact .inl ho
    · by_cases hb2 : b ∈ Bs.map (·.1)
      · exact .inr hb2
      · obtain ⟨⟨g, T, cs⟩, hg, rfl⟩ := List.mem_map.1 hm
        exact absurd ⟨hb, hb2⟩ (h1.own g T cs hg).1
  have hnk : ∀ b, K b → b < w.heap.size ∧ b ∉ Bs.map (·.1) := fun b hk => ⟨Nat.lt_of_lt_of_le (h.base b hk) h.wsize, fun hm => by
    obtain ⟨⟨g, T, cs⟩, hg, rfl⟩ := List.mem_map.1 hm
    exact (h.own g T cs hg).1 hk⟩
  refine ⟨rfl, Bs2, B2, hR, ?_, h3⟩
  exact { size := h1.size, defers := h1.defers, slots := fun t x (hx : none = some x) => (nomatch hx)
          wsize := Nat.le_trans h.wsize h1.wsize, grow := fun b hk => (h1.grow b (hnk b hk)).trans (h.grow b hk), own := fun g T cs hm => ⟨fun hk => (h1.own g T cs hm).1 (hnk g hk), (h1.own g T cs hm).2⟩,
          nodup := h1.nodup, facts := fun f hf => f.keep hle (h.facts f hf), base := h.base, obase := h.obase, ownO := h1.ownO, io := ⟨h1.io.1.trans h.io.1, h1.io.2.trans h.io.2⟩ }
theorem aps_get {D : List Nat} {us : List AV} : ∀ {os : List Oper} {ds : List Sg} {k : Nat}, APs P ops n L B D us k ds os → ∀ (i : Nat) dep o, ds[i]? = some dep → os[i]? = some o → AP P ops n o (D.getD (k + i) 0) (us.getD (k + i) .un) (dep ++ L) B
  | [], _, _, _, i, _, _, _, ho => by simp at ho
  | _ :: _, [], _, _, i, _, _, hd, _ => by simp at hd
  | o :: os, dp :: ds, k, h, 0, dep, o', hd, ho => by simp at hd ho; subst hd; subst ho; exact h.1
  | o :: os, dp :: ds, k, h, i + 1, dep, o', hd, ho => by
    have := aps_get h.2 i dep o' (by simpa using hd) (by simpa using ho)
    rw [show k + (i + 1) = k + 1 + i from by omega]
    exact this
theorem dd_app (D : List Nat) (j : Nat) (h : j < D.length) : dd (D.map some ++ [none]) j = D.getD j 0 ∧ dE (D.map some ++ [none]) j = true := by
  unfold dd dE
  simp [List.getD_eq_getElem?_getD, List.getElem?_append_left, h]
theorem dE_last (D : List Nat) : dE (D.map some ++ [none]) D.length = false := by
  unfold dE
  simp [List.getD_eq_getElem?_getD]
theorem dL_app (D : List Nat) (v : Nat → Value) (js : List Nat) (h : ∀ j ∈ js, j < D.length) : dL (D.map some ++ [none]) v js = js.map fun j => (D.getD j 0, v j) := by
  unfold dL
  have : js.filter (dE (D.map some ++ [none])) = js := List.filter_eq_self.2 fun j hj => (dd_app D j (h j hj)).2
  rw [this]
  exact List.map_congr_left fun j hj => by rw [(dd_app D j (h j hj)).1]
theorem dL_all (D : List Nat) (v : Nat → Value) : dL (D.map some ++ [none]) v (List.range (D.length + 1)) = (List.range D.length).map fun j => (D.getD j 0, v j) := by
  have h := dL_app D v (List.range D.length) fun j hj => List.mem_range.1 hj
  rw [← h]
  unfold dL
  rw [List.range_succ, List.filter_append]
  simp [dE_last]
theorem ac_drawS {id : Nat} {l : List Oper} {Q : Exit → Sg → List OB → Prop} (hm : P.follows .mixedOrders = true) (c : Nat) (D : List Nat) (deps : List (List Nat)) (us : List AV) (R : List OB → Prop) {o0 : Oper} (hchk : chkDraw l (c + 1) (D.map some ++ [none]) deps = true)
    (hDm : (Nat.beq D.length c && Nat.beq us.length c && deps.all fun js => js.all fun j => Nat.blt j c) = true) (hnone : (D.all fun t => (lk L t).isNone) = true) (ho0 : l[c]? = some o0)
    (hops0 : APs P l.toArray n L B D us 0 (depsOf D us deps) (l.take c)) (hst0 : ∀ js, deps[c]? = some js → AMS P l.toArray n o0 (js.map (fun j => (D.getD j 0, us.getD j .un)) ++ L) B R)
    (hops1 : ∀ B1, R B1 → APs P l.toArray n L B1 D us 0 (depsOf D us deps) (l.take c))
    (k : ∀ B1, R B1 → ∃ L2, zipD D us L = some L2 ∧ AW P l.toArray n (l.drop (c + 1)) (fun L B => Q .normal L B) L2 B1) : AC P n (.region id l.toArray true) Q L B := by
  rintro K Ob w0 w a ⟨L', Bs, h, hL, hB⟩
  simp only [Bool.and_eq_true, List.all_eq_true] at hDm hnone
  obtain ⟨⟨hD, hU⟩, hdl⟩ := hDm
  have hD := Nat.eq_of_beq_eq_true hD
  have hU := Nat.eq_of_beq_eq_true hU
  have hdl : ∀ js ∈ deps, ∀ j ∈ js, j < c := fun js hj j hjj => by have := hdl js hj j hjj; rwa [Nat.blt_eq] at this
  obtain ⟨L3, h1, h2, h3⟩ := only L hL
  have hst : St K Ob w0 w a n L3 [] Bs := { h with slots := fun t v hv => h.slots t v (h2 t v hv) }
  have hst2 := hst.add (f := SF L L3 [] [] [] []) ⟨h3, rfl, trivial⟩
  have hc := chk_of hchk
  let Inv : (Nat → Bool) → (Nat → Value) → World → List Blk → Prop := fun p v w Bs => (p c = false ∧ BsRep w (owns Ob Bs) B Bs) ∨ (p c = true ∧ ∃ B1, R B1 ∧ BsRep w (owns Ob Bs) B1 Bs)
  have hone : ∀ (i : Nat) (dj : List Nat) (o : Oper), deps[i]? = some dj → l[i]? = some o → i < c + 1 → DrawOpI P l.toArray K Ob w0 n L3 [SF L L3 [] [] [] []] Inv (D.map some ++ [none]) (us.map avF) i dj o := by
    intro i dj o hdj ho hi p hpi _ v Fx a' w' Bs hinv hs
    have hjm := hdl dj (List.mem_of_getElem? hdj)
    rw [dL_app D v dj fun j hj => by rw [hD]; exact hjm j hj] at hs
    have hfacts : ∀ j ∈ dj, ARep w' (owns Ob Bs) (v j) (us.getD j .un) := fun j hj => by
      have := hs.facts ((us.map avF).getD j noF (v j)) (List.mem_append.2 (.inl (List.mem_map.2 ⟨j, hj, rfl⟩)))
      rw [List.getD_eq_getElem?_getD, List.getElem?_map, List.getElem?_eq_getElem (by rw [hU]; exact hjm j hj)] at this
      rw [List.getD_eq_getElem?_getD, List.getElem?_eq_getElem (by rw [hU]; exact hjm j hj)]
      exact this
    obtain ⟨h6, _, _⟩ : (SF L L3 [] [] [] []).holds w' (owns Ob Bs) := hs.facts _ (List.mem_append.2 (.inr (by simp)))
    have hdep := depsOf_get (D := D) (us := us) hdj
    rcases Nat.lt_or_ge i c with hic | hic
    · have hdk := dd_app D i (by rw [hD]; exact hic)
      have e5 : (us.map avF).getD i noF = avF (us[i]'(by rw [hU]; exact hic)) := by
        rw [List.getD_eq_getElem?_getD, List.getElem?_map, List.getElem?_eq_getElem (by rw [hU]; exact hic)]; rfl
      have e6 : us.getD i .un = us[i]'(by rw [hU]; exact hic) := by
        rw [List.getD_eq_getElem?_getD, List.getElem?_eq_getElem (by rw [hU]; exact hic)]; rfl
      have hl : (l.take c)[i]? = some o := by rw [List.getElem?_take, if_pos hic]; exact ho
      have hne : c ≠ i := by omega
      have hpc : (c == i || p c) = p c := by simp [hne]
      have plain : ∀ (BX : List OB), BsRep w' (owns Ob Bs) BX Bs → AP P l.toArray n o (D.getD i 0) (us.getD i .un) (dj.map (fun j => (D.getD j 0, us.getD j .un)) ++ L) BX →
          (∀ (w2 : World) (x : Value), BsRep w2 (owns Ob Bs) BX Bs → Inv (fun j => j == i || p j) (fun j => if j = i then x else v j) w2 Bs) →
          wpList P l.toArray (fun e a' w' => e = .normal ∧ ∃ u Bs', Inv (fun j => j == i || p j) (fun j => if j = i then u else v j) w' Bs' ∧ St K Ob w0 w' a' n (if dE (D.map some ++ [none]) i then [(dd (D.map some ++ [none]) i, u)] else []) (((us.map avF).getD i noF) u :: ([SF L L3 [] [] [] []] ++ Fx)) Bs') [o] a' w' := by
        intro BX hBX hap hinv2
        have hs2 := hs.add (f := SF [] [] BX Bs [] []) ⟨fun t x (hh : none = some x) => (nomatch hh), hBX, trivial⟩
        have hw := hap K Ob w0 w' a' Bs _ _ hs2 (lk_dep h6 hfacts) hBX
        refine wp_next hs.defers (fun _ _ ⟨_, hh, _⟩ => hh.defers) hw fun a2 w2 hh => ?_
        obtain ⟨x, h8, h9⟩ := hh
        obtain ⟨_, h10, _⟩ := h8.fact 0 rfl
        refine wpList_nil ⟨rfl, x, Bs, hinv2 w2 x h10, ?_⟩
        rw [if_pos hdk.2, hdk.1, e5]
        rw [e6] at h9
        have h8 : St K Ob w0 w2 a2 n _ ((SF [] [] BX Bs [] [] :: List.map (fun j => (List.map avF us).getD j noF (v j)) dj) ++ ([SF L L3 [] [] [] []] ++ Fx)) Bs := h8
        exact h8.drawEnd (by simp [look]) h9
      rcases hinv with ⟨hp, hh⟩ | ⟨hp, B1, hR, hh⟩
      · have hop := aps_get hops0 i _ o hdep hl
        rw [Nat.zero_add] at hop
        exact plain B hh hop fun w2 x h10 => .inl ⟨hpc.trans hp, h10⟩
      · have hop := aps_get (hops1 B1 hR) i _ o hdep hl
        rw [Nat.zero_add] at hop
        exact plain B1 hh hop fun w2 x h10 => .inr ⟨hpc.trans hp, B1, hR, h10⟩
    · obtain rfl : i = c := by omega
      obtain rfl : o = o0 := by rw [ho] at ho0; injection ho0
      have hBX : BsRep w' (owns Ob Bs) B Bs := by
        rcases hinv with ⟨_, hh⟩ | ⟨hh, _⟩
        · exact hh
        · rw [hpi] at hh; cases hh
      have hw := hst0 dj hdj K Ob w0 w' a' Bs _ _ hs (lk_dep h6 hfacts) hBX
      refine wp_next hs.defers (fun _ _ ⟨_, _, _, hh, _⟩ => hh.defers) hw fun a2 w2 hh => ?_
      obtain ⟨Bs', B1, hR, h8, h10⟩ := hh
      refine wpList_nil ⟨rfl, undef, Bs', .inr ⟨by simp, B1, hR, h10⟩, ?_⟩
      have hE : dE (D.map some ++ [none]) i = false := by rw [← hD]; exact dE_last D
      rw [if_neg (by rw [hE]; decide)]
      have e5 : (us.map avF).getD i noF = noF := by
        rw [List.getD_eq_getElem?_getD, List.getElem?_eq_none (by simp [hU])]; rfl
      rw [e5]
      exact h8.drawEnd0 (f := noF undef) trivial
  have hdrawops : ∀ (js : List (List Nat)) (os : List Oper) (k : Nat), (∀ i dj o, js[i]? = some dj → os[i]? = some o → DrawOpI P l.toArray K Ob w0 n L3 [SF L L3 [] [] [] []] Inv (D.map some ++ [none]) (us.map avF) (k + i) dj o) →
      DrawOpsI P l.toArray K Ob w0 n L3 [SF L L3 [] [] [] []] Inv (D.map some ++ [none]) (us.map avF) k js os := by
    intro js
    induction js with
    | nil => intro os k _; cases os <;> trivial
    | cons dj js ih =>
      intro os k hall
      rcases os with _ | ⟨o, os⟩
      · trivial
      · refine ⟨by have := hall 0 dj o rfl rfl; rwa [Nat.add_zero] at this, ih os (k + 1) fun i dj' o' hd ho => ?_⟩
        have := hall (i + 1) dj' o' (by simpa using hd) (by simpa using ho)
        rwa [show k + (i + 1) = k + 1 + i from by omega] at this
  refine drawI_ hm (c + 1) (D.map some ++ [none]) deps (us.map avF) Inv hchk hst2 (fun w' hw' => .inl ⟨rfl, hB.keep (same_le hw' _)⟩) ?_ (hdrawops deps l 0 fun i dj o hd ho => by
    rw [Nat.zero_add]
    exact hone i dj o hd ho (by have := (List.getElem?_eq_some_iff.1 hd).1; rw [hc.deplen] at this; exact this)) fun p hp v a' w' Bs hinv hs => ?_
  · rw [List.all_eq_true]
    intro j hj
    have hjm : j < c + 1 := List.mem_range.1 hj
    rcases Nat.lt_or_ge j c with hjc | hjc
    · rw [(dd_app D j (by rw [hD]; exact hjc)).1]
      have hmem : D.getD j 0 ∈ D := by rw [List.getD_eq_getElem?_getD, List.getElem?_eq_getElem (by rw [hD]; exact hjc)]; exact List.getElem_mem _
      have := hnone _ hmem
      rw [Option.isNone_iff_eq_none] at this
      rw [h1 _ this]; simp
    · obtain rfl : j = c := by omega
      have hE : dE (D.map some ++ [none]) j = false := by rw [← hD]; exact dE_last D
      rw [hE]; rfl
  · have hdL := dL_all D v
    rw [hD] at hdL
    rw [hdL] at hs
    have hfacts : ∀ j ∈ List.range c, ARep w' (owns Ob Bs) (v j) (us.getD j .un) := fun j hj => by
      have hjm := List.mem_range.1 hj
      have := hs.facts ((us.map avF).getD j noF (v j)) (List.mem_append.2 (.inl (List.mem_map.2 ⟨j, List.mem_range.2 (by omega), rfl⟩)))
      rw [List.getD_eq_getElem?_getD, List.getElem?_map, List.getElem?_eq_getElem (by rw [hU]; exact hjm)] at this
      rw [List.getD_eq_getElem?_getD, List.getElem?_eq_getElem (by rw [hU]; exact hjm)]
      exact this
    obtain ⟨h6, _, _⟩ : (SF L L3 [] [] [] []).holds w' (owns Ob Bs) := hs.facts _ (List.mem_append.2 (.inr (by simp)))
    rcases hinv with ⟨hh, _⟩ | ⟨_, B1, hR, hB1⟩
    · rw [hp c (by omega)] at hh; cases hh
    · obtain ⟨L2, hz, k⟩ := k B1 hR
      obtain ⟨_, rfl⟩ := zipD_eq hz
      have hzip : D.zip us = (List.range c).map fun j => (D.getD j 0, us.getD j .un) := by
        apply List.ext_getElem
        · simp [hD, hU]
        · intro i h1 h2
          simp at h1 h2
          have e1 : D[i]? = some D[i] := List.getElem?_eq_getElem (by omega)
          have e2 : us[i]? = some (us[i]'(by omega)) := List.getElem?_eq_getElem (by omega)
          rw [List.getElem_zip, List.getElem_map, List.getElem_range, List.getD_eq_getElem?_getD, List.getD_eq_getElem?_getD, e1, e2]; rfl
      rw [hzip] at k
      exact k K Ob w0 w' a' _ ⟨_, Bs, hs.noFacts, lk_dep h6 hfacts, hB1⟩ fun a2 w2 h => h
end Orr

namespace Orr
open Go
def okY : LV → Bool
  | .ow _ _ => true
  | x => x.free
def okYs (xs : List LV) : Bool := xs.all okY
section
variable {w : World} {O : Nat → Prop}
theorem yrep_of {v : Value} {x : LV} (h : XRep w O v x) (hx : okY x = true) : YRep w O v x := by
  cases x <;> first | exact h | cases hx
theorem xrep_of {v : Value} {x : LV} (h : YRep w O v x) : XRep w O v x := by
  cases x <;> first | exact h | exact LRep.x h
theorem yreps_of : ∀ {vs : List Value} {xs : List LV}, XReps w O vs xs → okYs xs = true → YReps w O vs xs
  | [], [], _, _ => trivial
  | v :: vs, x :: xs, h, ho => by
    simp only [okYs, List.all_cons, Bool.and_eq_true] at ho
    exact ⟨yrep_of h.1 ho.1, yreps_of h.2 ho.2⟩
  | [], _ :: _, h, _ => h.elim
  | _ :: _, [], h, _ => h.elim
theorem xreps_of : ∀ {vs : List Value} {xs : List LV}, YReps w O vs xs → XReps w O vs xs
  | [], [], _ => trivial
  | v :: vs, x :: xs, h => ⟨xrep_of h.1, xreps_of h.2⟩
  | [], _ :: _, h => h.elim
  | _ :: _, [], h => h.elim
end
variable {P : Program} {ops : Array Oper} {n d : Nat} {rest : List Oper} {N : Sg → List OB → Prop} {L : Sg} {B : List OB} {ty : TypeId} {pos : String} {after : Array Edge}
theorem p_makeFuncO {f : Nat} {pre post : List Operand} {us ys : List AV} {xs zs : List LV} (hx : evAl L pre = some us) (hy : evAl L post = some ys) (hxs : ones us = some xs) (hzs : ones ys = some zs) (hf1 : okYs xs = true) (hf2 : okYs zs = true) (hd : Nat.blt d n = true) :
    AP P ops n { dst := some d, op := .makeFunc (.func f) pre.toArray post.toArray, type := ty, pos := pos, after := after, guard := none } d (.one (.ofn f xs zs)) L B := by
  refine p_val hd fun K Ob w0 w a Bs L' Fs h hL hB => ?_
  obtain ⟨vs, h1, h2, h3⟩ := evl_of hL hx
  obtain ⟨qs, h4, h5, h6⟩ := evl_of hL hy
  have e1 := h.evl h1
  have e2 := h.evl h4
  have r1 := ones_of hxs h2 h3
  have r2 := ones_of hzs h5 h6
  refine ⟨.func (.func f) vs.toArray qs.toArray, ?_, ⟨vs, qs, rfl, yreps_of r1 hf1, yreps_of r2 hf2⟩⟩
  simp only [execOp, Instr.makeFunc, e1, e2, Sem.run_bind, Sem.run_pure, Result.andThen_ok]
/-- a closure is called that works on own blocks -/
theorem a_callsFn {f : FuncId} {fn : Func} {x : Operand} {xs : List Operand} {us args : List AV} {ats : Array TypeId} {pre post : List LV} {Bin Br : List OB} {Post : AV → List OB → Prop} (hg : evA L x = some (.one (.ofn f pre post)))
    (hf : P.funcs[f]? = some fn) (hn : (fn.name == "runtime.NumGoroutine") = false) (hb : fn.body.isNone = false)
    (hx : evAl L xs = some us) (hun : unNil us = some args) (hc : DoesB P f (pre.map .one ++ args ++ post.map .one) Bin Post) (hd : Nat.blt d n = true) (k : ∀ r Bo, Post r Bo → AW P ops n rest N ((d, r) :: L) (Bo ++ Br)) :
    AW P ops n ({ dst := some d, op := .call { callee := .value x, args := xs.toArray, argTypes := ats }, type := ty, pos := pos, after := after, guard := none } :: rest) N L (Bin ++ Br) := by
  rintro K Ob w0 w a Q ⟨L', Bs, h, hL, hB⟩ hQ
  obtain ⟨vs, h1, h2, h3⟩ := evl_of hL hx
  have hargs0 := unNil_of hun h2 h3
  obtain ⟨v0, hv0, hr0⟩ := ev_of hL hg
  obtain ⟨ps, qs, rfl, hp, hq⟩ : ∃ ps qs : List Value, v0 = .func (.func f) ps.toArray qs.toArray ∧ YReps w (owns Ob Bs) ps pre ∧ YReps w (owns Ob Bs) qs post := hr0
  have hargs := ((treps_ones (xreps_of hp)).append hargs0).append (treps_ones (xreps_of hq))
  have hsplit : ∀ {Bin Br : List OB} {Bs : List Blk}, BsRep w (owns Ob Bs) (Bin ++ Br) Bs → ∀ {O}, O = owns Ob Bs → ∃ Bi Bq, Bs = Bi ++ Bq ∧ BsRep w O Bin Bi ∧ BsRep w O Br Bq := by
    have key : ∀ {O : Nat → Prop} {Bin Br : List OB} {Bs : List Blk}, BsRep w O (Bin ++ Br) Bs → ∃ Bi Bq, Bs = Bi ++ Bq ∧ BsRep w O Bin Bi ∧ BsRep w O Br Bq := by
      intro O Bin
      induction Bin with
      | nil => intro Br Bs h; exact ⟨[], Bs, rfl, rfl, h⟩
      | cons b Bin ih =>
        intro Br Bs h
        obtain ⟨Bo, Bs', rfl, h1, h2⟩ := h
        obtain ⟨Bi, Bq, rfl, h3, h4⟩ := ih h2
        exact ⟨Bo ++ Bi, Bq, by simp, ⟨Bo, Bi, rfl, h1, h3⟩, h4⟩
    intro Bin Br Bs h O e; subst e; exact key h
  obtain ⟨Bi, Bq, rfl, h4, h5⟩ := hsplit hB rfl
  rw [← owns_owns] at hargs h4
  have hcall := hc (owns Ob Bq) w (ps ++ vs ++ qs) Bi (fun b hb => h.owns_lt (by simp only [owns, List.map_append, List.mem_append]; exact hb.imp id .inr)) h.held hargs h4
  refine wpList_plain rfl fun K' hK => ?_
  unfold Oper.wp
  have e : (execOp a.eval { dst := some d, op := .call { callee := .value x, args := xs.toArray, argTypes := ats }, type := ty, pos := pos, after := after, guard := none }).run P w = .ok (.enter f (ps ++ vs ++ qs).toArray) w := by
    have hxs := h.evl h1
    have he := h.ev hv0
    simp only [execOp, resolve, he, Deferred.ofValue, hxs, Sem.run_bind, Sem.run_pure, Result.andThen_ok, invoke]
    rw [show ps.toArray ++ vs.toArray ++ qs.toArray = (ps ++ vs ++ qs).toArray from by simp]
    exact run_callFunc w hf hn hb
  rw [e]
  simp only [Oper.upon]
  refine hcall.mono fun e' w' hr => ?_
  obtain ⟨v, r, Bout, Bo, rfl, h6, h7, h8, h9, h10⟩ := hr
  have hadd := h.add (f := SF L L' Br Bq [] []) ⟨hL, h5, trivial⟩
  have h11 := hadd.moved h9 h10
  obtain ⟨h12, h13, _⟩ := h11.fact 0 rfl
  rw [owns_owns] at h7 h8
  refine hK _ _ (k r Bout h6 _ _ _ _ _ _ ⟨(d, v) :: L', Bo ++ Bq, h11.noFacts.put v hd, put_of h12 h7, ?_⟩ hQ)
  have key : ∀ {O : Nat → Prop} {B1 B2 : List OB} {b1 b2 : List Blk}, BsRep w' O B1 b1 → BsRep w' O B2 b2 → BsRep w' O (B1 ++ B2) (b1 ++ b2) := by
    intro O B1
    induction B1 with
    | nil => intro B2 b1 b2 h1 h2; rw [show b1 = [] from h1]; exact h2
    | cons b B1 ih =>
      intro B2 b1 b2 h1 h2
      obtain ⟨Bo, Bs', rfl, h3, h4⟩ := h1
      exact ⟨Bo, Bs' ++ b2, by simp, h3, ih h4 h2⟩
  exact key h8 h13
end Orr
namespace Orr
open Go
variable {P : Program} {ops : Array Oper} {n d : Nat} {rest : List Oper} {N : Sg → List OB → Prop} {L : Sg} {B : List OB} {c : Code} {Q : Exit → Sg → List OB → Prop}
theorem SA.swap {K Ob : Nat → Prop} {w0 w : World} {a : Act} {A C : List OB} (h : SA K Ob w0 w a n L (A ++ C)) : SA K Ob w0 w a n L (C ++ A) := by
  obtain ⟨L', Bs, h1, h2, h3⟩ := h
  obtain ⟨Bi, Bq, rfl, h4, h5⟩ := bs_split h3
  have hp : (Bi ++ Bq).Perm (Bq ++ Bi) := List.perm_append_comm
  have ho : owns Ob (Bi ++ Bq) = owns Ob (Bq ++ Bi) := by
    funext b
    simp only [owns]
    rw [show (b ∈ (Bi ++ Bq).map (·.1)) = (b ∈ (Bq ++ Bi).map (·.1)) from propext ((hp.map _).mem_iff)]
  rw [ho] at h2 h4 h5
  exact ⟨L', Bq ++ Bi, h1.perm hp.symm, h2, bs_join h5 h4⟩
theorem aw_swap {A C : List OB} (k : AW P ops n rest N L (C ++ A)) : AW P ops n rest N L (A ++ C) := fun _ _ _ _ _ _ hs hQ => k _ _ _ _ _ _ hs.swap hQ
theorem xreps_set {w : World} {O : Nat → Prop} {x0 x1 : LV} (hx : ∀ v, XRep w O v x0 → XRep w O v x1) {vs : List Value} {xs : List LV} {j : Nat} (h : XReps w O vs xs) (hj : xs[j]? = some x0) : XReps w O vs (xs.set j x1) := by
  refine XReps.of (by rw [List.length_set]; exact h.len) fun i v x hv hx' => ?_
  rw [List.getElem?_set] at hx'
  split at hx'
  · rename_i e
    subst e
    split at hx'
    · injection hx' with e; subst e; exact hx v (h.get' hv hj)
    · cases hx'
  · exact h.get' hv hx'
/-- a leaf that is nil is an empty row -/
theorem SA.leafNil {K Ob : Nat → Prop} {w0 w : World} {a : Act} (i j : Nat) {g : Nat} {T : TypeId} {xs ys : List LV} {B' : List OB} (h : SA K Ob w0 w a n L B) (hi : frontB B i = some (.blk g T xs, B')) (hj : xs[j]? = some .nils) (hys : xs.set j (.row []) = ys) : SA K Ob w0 w a n L (.blk g T ys :: B') := by
  subst hys
  obtain ⟨L', Bo, Bs, h1, h2, ⟨cs, rfl, h3⟩, h4⟩ := h.front hi
  exact SA.of h1 h2 ⟨cs, rfl, xreps_set (x0 := .nils) (w := w) (O := owns Ob ([(g, T, cs)] ++ Bs)) (fun v hv => (nils_row (w := w) (O := owns Ob ([(g, T, cs)] ++ Bs)) hv).x) h3 hj⟩ h4
theorem ac_leafNil (i j : Nat) {g : Nat} {T : TypeId} {xs ys : List LV} {B' : List OB} (hi : frontB B i = some (.blk g T xs, B')) (hj : xs[j]? = some .nils) (hys : xs.set j (.row []) = ys) (k : AC P n c Q L (.blk g T ys :: B')) : AC P n c Q L B := fun _ _ _ _ _ hs => k _ _ _ _ _ (hs.leafNil i j hi hj hys)
end Orr
namespace Orr
open Go
variable {P : Program} {ops : Array Oper} {n d : Nat} {rest : List Oper} {N : Sg → List OB → Prop} {L : Sg} {B : List OB} {c : Code} {Q : Exit → Sg → List OB → Prop}
end Orr

namespace Orr
open Go
variable {P : Program} {ops : Array Oper} {n : Nat} {L : Sg} {B : List OB} {ty : TypeId} {pos : String} {after : Array Edge} {Q : Exit → Sg → List OB → Prop}
theorem upd_whole : ∀ (cs vs : List Value), vs.length = cs.length → upd cs 0 vs = vs
  | [], [], _ => rfl
  | c :: cs, v :: vs, h => by
    simp only [upd]
    rw [upd_whole cs vs (by simpa using h)]
  | [], _ :: _, h => by simp at h
  | _ :: _, [], h => by simp at h
/-- the block that is stored into -/
def hdB (c t j T : Nat) (cs : List Value) (p : Nat → Bool) (v : Nat → Value) : List Blk := if p t = true then [(gOf (v t), T, if p c = true then (v j).cells.toList else cs)] else []
theorem hdB_other {c t j T i : Nat} {cs : List Value} {p : Nat → Bool} {v : Nat → Value} (u : Value) (h1 : i ≠ t) (h2 : i ≠ c) (h3 : p c = true → i ≠ j) : hdB c t j T cs (fun k => k == i || p k) (fun k => if k = i then u else v k) = hdB c t j T cs p v := by
  unfold hdB
  have e1 : (t == i || p t) = p t := by simp [Ne.symm h1]
  have e2 : (c == i || p c) = p c := by simp [Ne.symm h2]
  simp only [e1, e2, if_neg (Ne.symm h1)]
  split
  · congr 3
    split
    · rename_i hc
      rw [if_neg (Ne.symm (h3 hc))]
    · rfl
  · rfl
theorem findA_none : ∀ {A : Made} {i : Nat}, (∀ x ∈ A, x.1 ≠ i) → findA A i = none
  | [], _, _ => rfl
  | x :: A, i, h => by
    simp only [findA]
    have hx := h x (List.mem_cons_self ..)
    have : Nat.beq x.1 i = false := by
      cases e : Nat.beq x.1 i with
      | false => rfl
      | true => exact absurd (Nat.eq_of_beq_eq_true e) hx
    rw [this]
    exact findA_none fun y hy => h y (List.mem_cons_of_mem _ hy)
theorem ac_drawAS {id : Nat} {l : List Oper} (hm : P.follows .mixedOrders = true) (c t j T T0 dp dv : Nat) (cs : List Value) (ys : List LV) (D : List Nat) (deps : List (List Nat)) (us : List AV) (A2 : Made) (zss : List (List LV)) (hchk : chkDraw l (c + 1) (D.map some ++ [none]) deps = true)
    (hDm : (Nat.beq D.length c && Nat.beq us.length c && Nat.blt t c && Nat.blt j c && !(Nat.beq j t) && (findA A2 j).isNone && deps.all fun js => js.all fun j => Nat.blt j c) = true) (hAs : (A2.all fun x => Nat.blt x.1 c) = true) (hnd : (((t, T, cs) :: A2 : Made).map (·.1)).Nodup) (hzl : zlAll A2 zss) (hnone : (D.all fun t => (lk L t).isNone) = true)
    (hdp : ((deps.take c).all fun js => js.all fun k => (findA ((t, T, cs) :: A2) k).isNone) = true) (hjs : (match deps[c]? with
      | some js => js.contains t && js.contains j
      | none => false) = true)
    (ho0 : l[c]? = some { dst := none, op := .store T0 (.tmp dp) (.tmp dv), type := ty, pos := pos, after := after, guard := none }) (hDt : D[t]? = some dp) (hDj : D[j]? = some dv) (hT0 : ∀ w, (Go.sizeOf T0).run P w = .ok cs.length w)
    {uj : AV} (huj0 : us[j]? = some uj) (hul : leaves uj = some ys) (hyl : Nat.beq ys.length cs.length = true)
    (hops : DOps P l.toArray n L B ((t, T, cs) :: A2) D us 0 (depsOf D us deps) (l.take c))
    (k : ∀ g : Nat → Nat, ∃ L2 B2, slotsA ((t, T, cs) :: A2) g 0 D us L = some L2 ∧ made A2 zss g = some B2 ∧ AW P l.toArray n (l.drop (c + 1)) (fun L B => Q .normal L B) L2 (.blk (g t) T ys :: (B2 ++ B))) : AC P n (.region id l.toArray true) Q L B := by
  rintro K Ob w0 w a ⟨L', Bs, h, hL, hB⟩
  simp only [Bool.and_eq_true, List.all_eq_true] at hDm hnone hAs hdp
  obtain ⟨⟨⟨⟨⟨⟨hD, hU⟩, htc⟩, hjc⟩, hjt⟩, hjA⟩, hdl1⟩ := hDm
  have huj : ∀ u, us[j]? = some u → leaves u = some ys := fun u h => by rw [huj0] at h; injection h with h; subst h; exact hul
  have hD := Nat.eq_of_beq_eq_true hD
  have hU := Nat.eq_of_beq_eq_true hU
  rw [Nat.blt_eq] at htc hjc
  have hjt : j ≠ t := fun e => by subst e; simp at hjt
  rw [Option.isNone_iff_eq_none] at hjA
  have hdl1 : ∀ js ∈ deps, ∀ k ∈ js, k < c := fun js hj k hk => by have := hdl1 js hj k hk; rwa [Nat.blt_eq] at this
  have hnd1 := List.nodup_cons.1 (show (t :: A2.map (·.1)).Nodup from hnd)
  have htA : findA A2 t = none := findA_none fun x hx e => hnd1.1 (List.mem_map.2 ⟨x, hx, e⟩)
  let As : Made := (t, T, cs) :: A2
  have hft : findA As t = some (T, cs) := by
    show (match Nat.beq t t with
      | true => some (T, cs)
      | false => findA A2 t) = _
    rw [Nat.beq_refl]
  have hfo : ∀ i, i ≠ t → findA As i = findA A2 i := fun i hi => by
    show (match Nat.beq t i with
      | true => some (T, cs)
      | false => findA A2 i) = _
    have : Nat.beq t i = false := by
      cases e : Nat.beq t i with
      | false => rfl
      | true => exact absurd (Nat.eq_of_beq_eq_true e).symm hi
    rw [this]
  have hdl2 : ∀ i, i < c → ∀ dj, deps[i]? = some dj → ∀ k ∈ dj, findA As k = none := fun i hi dj hd k hk => by
    have hmem : dj ∈ deps.take c := List.mem_of_getElem? (i := i) (by rw [List.getElem?_take, if_pos hi]; exact hd)
    have := hdp dj hmem k hk
    rwa [Option.isNone_iff_eq_none] at this
  obtain ⟨L3, h1, h2, h3⟩ := only L hL
  have hst : St K Ob w0 w a n L3 [] Bs := { h with slots := fun t v hv => h.slots t v (h2 t v hv) }
  have hst2 := hst.add (f := SF L L3 B Bs [] []) ⟨h3, hB, trivial⟩
  have hc := chk_of hchk
  have hS : ∀ i, (hi : i < c) → (dFs As 0 us).getD i noF = dF As i (us[i]'(by rw [hU]; exact hi)) := fun i hi => by
    have := dFs_get As (us := us) (k := 0) (i := i) (List.getElem?_eq_getElem (by rw [hU]; exact hi))
    rw [List.getD_eq_getElem?_getD, this, Nat.zero_add]; rfl
  have hus : ∀ i, (hi : i < c) → us.getD i .un = us[i]'(by rw [hU]; exact hi) := fun i hi => by
    rw [List.getD_eq_getElem?_getD, List.getElem?_eq_getElem (by rw [hU]; exact hi)]; rfl
  have hget : ∀ (os : List Oper) (ds : List (List (Nat × AV))) (k : Nat), DOps P l.toArray n L B As D us k ds os → ∀ (i : Nat) dep o, ds[i]? = some dep → os[i]? = some o → DOp P l.toArray n L B As (k + i) (D.getD (k + i) 0) (us.getD (k + i) .un) dep o := by
    intro os
    induction os with
    | nil => intro ds k _ i dep o _ ho; simp at ho
    | cons o os ih =>
      intro ds k hap i dep o' hd ho
      rcases ds with _ | ⟨dp, ds⟩
      · simp at hd
      · cases i with
        | zero => simp at hd ho; subst hd ho; exact hap.1
        | succ i =>
          have := ih ds (k + 1) hap.2 i dep o' (by simpa using hd) (by simpa using ho)
          rw [show k + (i + 1) = k + 1 + i from by omega]
          exact this
  let Bf : (Nat → Bool) → (Nat → Value) → List Blk := fun p v => hdB c t j T cs p v ++ (mkB A2 p v ++ Bs)
  let Inv : (Nat → Bool) → (Nat → Value) → World → List Blk → Prop := fun p v _ Bx => (p c = true → p t = true ∧ p j = true) ∧ Bx = Bf p v
  have hone : ∀ (i : Nat) (dj : List Nat) (o : Oper), deps[i]? = some dj → l[i]? = some o → i < c + 1 → DrawOpI P l.toArray K Ob w0 n L3 [SF L L3 B Bs [] []] Inv (D.map some ++ [none]) (dFs As 0 us) i dj o := by
    intro i dj o hd ho hi p hpi hpd v Fx a' w' Bx hinv hs
    obtain ⟨hcl, rfl⟩ := hinv
    have hjm := hdl1 dj (List.mem_of_getElem? hd)
    rw [dL_app D v dj fun j hj => by rw [hD]; exact hjm j hj] at hs
    obtain ⟨h6, h7, _⟩ : (SF L L3 B Bs [] []).holds w' (owns Ob (Bf p v)) := hs.facts _ (List.mem_append.2 (.inr (by simp)))
    have hfact : ∀ j ∈ dj, (dF As j (us.getD j .un) (v j)).holds w' (owns Ob (Bf p v)) := fun j hj => by
      have := hs.facts ((dFs As 0 us).getD j noF (v j)) (List.mem_append.2 (.inl (List.mem_map.2 ⟨j, hj, rfl⟩)))
      rw [hS j (hjm j hj)] at this
      rw [hus j (hjm j hj)]
      exact this
    rcases Nat.lt_or_ge i c with hic | hic
    · have hop := hget (l.take c) _ 0 hops i _ o (depsOf_get hd) (by rw [List.getElem?_take, if_pos hic]; exact ho)
      rw [Nat.zero_add] at hop
      have hjn := hdl2 i hic dj hd
      have hfacts : ∀ j ∈ dj, ARep w' (owns Ob (Bf p v)) (v j) (us.getD j .un) := fun j hj => by
        have := hfact j hj
        unfold dF at this
        rw [hjn j hj] at this
        exact this
      have hdk := dd_app D i (by rw [hD]; exact hic)
      have hne : i ≠ c := by omega
      have hpc : ∀ u : Value, ((c == i || p c) = true → (t == i || p t) = true ∧ (j == i || p j) = true) := fun _ hh => by
        have hh : p c = true := by simpa [Ne.symm hne] using hh
        obtain ⟨h8, h9⟩ := hcl hh
        simp [h8, h9]
      have hij : p c = true → i ≠ j := fun hh e => by subst e; rw [(hcl hh).2] at hpi; cases hpi
      unfold DOp at hop
      by_cases hit : i = t
      · subst hit
        rw [hft] at hop
        have hw := hop K Ob w0 w' a' _ _ _ hs
        refine wp_next hs.defers (fun _ _ ⟨_, hh⟩ => hh.defers) hw fun a2 w2 hh => ?_
        obtain ⟨g, h8⟩ := hh
        have hpc0 : p c = false := by
          cases hh : p c with
          | false => rfl
          | true => rw [(hcl hh).1] at hpi; cases hpi
        have e1 : (i, T, cs).1 = i := rfl
        have hBf : Bf (fun j => j == i || p j) (fun j => if j = i then .pointer (some ⟨g, 0, none⟩) else v j) = (g, T, cs) :: Bf p v := by
          have e2 : hdB c i j T cs p v = [] := by unfold hdB; rw [if_neg (by rw [hpi]; decide)]
          have e3 : hdB c i j T cs (fun j => j == i || p j) (fun j => if j = i then .pointer (some ⟨g, 0, none⟩) else v j) = [(g, T, cs)] := by
            unfold hdB
            simp [hpc0, Ne.symm hne, gOf]
          show _ ++ (mkB A2 _ _ ++ Bs) = (g, T, cs) :: (hdB c i j T cs p v ++ (mkB A2 p v ++ Bs))
          rw [e2, e3, mkB_other (As := A2) p v _ htA]; rfl
        refine wpList_nil ⟨rfl, .pointer (some ⟨g, 0, none⟩), _, ⟨hpc undef, hBf.symm⟩, ?_⟩
        rw [if_pos hdk.2, hdk.1, hS i hic]
        refine h8.drawEnd (by simp [look]) ?_
        unfold dF; rw [hft]; exact ⟨g, rfl⟩
      · rw [hfo i hit] at hop
        cases hf : findA A2 i with
        | none =>
          rw [hf] at hop
          have hw := AP.frame hop K Ob w0 w' a' (hdB c t j T cs p v ++ mkB A2 p v) Bs _ _ (by rw [List.append_assoc]; exact hs) (by rw [List.append_assoc]; exact lk_dep h6 hfacts) (by rw [List.append_assoc]; exact h7)
          refine wp_next hs.defers (fun _ _ ⟨_, hh, _⟩ => hh.defers) hw fun a2 w2 hh => ?_
          obtain ⟨x, h8, h9⟩ := hh
          rw [List.append_assoc] at h8 h9
          have hBf : Bf (fun j => j == i || p j) (fun j => if j = i then x else v j) = Bf p v := by
            show _ ++ (mkB A2 _ _ ++ Bs) = _
            rw [hdB_other x hit hne hij, mkB_other (As := A2) p v x hf]
          refine wpList_nil ⟨rfl, x, Bf p v, ⟨hpc x, hBf.symm⟩, ?_⟩
          rw [if_pos hdk.2, hdk.1, hS i hic]
          rw [hus i hic] at h9
          refine h8.drawEnd (by simp [look]) ?_
          unfold dF; rw [hfo i hit, hf]; exact h9
        | some q =>
          obtain ⟨T', cs'⟩ := q
          rw [hf] at hop
          have hw := hop K Ob w0 w' a' _ _ _ hs
          refine wp_next hs.defers (fun _ _ ⟨_, hh⟩ => hh.defers) hw fun a2 w2 hh => ?_
          obtain ⟨g, h8⟩ := hh
          have hp := mkB_new (As := A2) p v g hnd1.2 hf hpi
          have hperm : (Bf (fun j => j == i || p j) (fun j => if j = i then .pointer (some ⟨g, 0, none⟩) else v j)).Perm ((g, T', cs') :: Bf p v) := by
            show (hdB c t j T cs _ _ ++ (mkB A2 _ _ ++ Bs)).Perm ((g, T', cs') :: (hdB c t j T cs p v ++ (mkB A2 p v ++ Bs)))
            rw [hdB_other _ hit hne hij]
            refine ((hp.append_right Bs).append_left _).trans ?_
            exact List.perm_middle
          refine wpList_nil ⟨rfl, .pointer (some ⟨g, 0, none⟩), _, ⟨hpc undef, rfl⟩, ?_⟩
          rw [if_pos hdk.2, hdk.1, hS i hic]
          have h9 := h8.perm hperm
          refine h9.drawEnd (by simp [look]) ?_
          unfold dF; rw [hfo i hit, hf]; exact ⟨g, rfl⟩
    · obtain rfl : i = c := by omega
      rw [ho] at ho0
      injection ho0 with ho0
      subst ho0
      rw [hd] at hjs
      simp only [Bool.and_eq_true, List.contains_iff_mem] at hjs
      have hpt := hpd t hjs.1
      have hpj := hpd j hjs.2
      have ht1 := hfact t hjs.1
      unfold dF at ht1
      rw [hft] at ht1
      obtain ⟨g, hg⟩ : ∃ g, v t = .pointer (some ⟨g, 0, none⟩) := ht1
      have hj1 := hfact j hjs.2
      unfold dF at hj1
      rw [hfo j hjt, hjA] at hj1
      have hj1 : ARep w' (owns Ob (Bf p v)) (v j) (us.getD j .un) := hj1
      obtain ⟨hc2, _⟩ := leaves_of hj1 (huj _ (by rw [hus j hjc]; exact List.getElem?_eq_getElem _))
      have hBf : Bf p v = (g, T, cs) :: (mkB A2 p v ++ Bs) := by
        show hdB i t j T cs p v ++ _ = _
        unfold hdB
        rw [if_pos hpt, if_neg (by rw [hpi]; decide), hg]; rfl
      have hlx : look (dj.map (fun j => (D.getD j 0, v j)) ++ L3) dp = some (v t) := by
        have := look_map (D := fun j => D.getD j 0) (v := v) (L := L3) (ls := dj) hjs.1 (fun x hx y hy e => ?_)
        · rw [List.getD_eq_getElem?_getD, hDt] at this; exact this
        · exact hc.inj x (by have := hjm x hx; omega) y (by have := hjm y hy; omega) (dd_app D x (by rw [hD]; exact hjm x hx)).2 (dd_app D y (by rw [hD]; exact hjm y hy)).2 (by rw [(dd_app D x (by rw [hD]; exact hjm x hx)).1, (dd_app D y (by rw [hD]; exact hjm y hy)).1]; exact e)
      have hly : look (dj.map (fun j => (D.getD j 0, v j)) ++ L3) dv = some (v j) := by
        have := look_map (D := fun j => D.getD j 0) (v := v) (L := L3) (ls := dj) hjs.2 (fun x hx y hy e => ?_)
        · rw [List.getD_eq_getElem?_getD, hDj] at this; exact this
        · exact hc.inj x (by have := hjm x hx; omega) y (by have := hjm y hy; omega) (dd_app D x (by rw [hD]; exact hjm x hx)).2 (dd_app D y (by rw [hD]; exact hjm y hy)).2 (by rw [(dd_app D x (by rw [hD]; exact hjm x hx)).1, (dd_app D y (by rw [hD]; exact hjm y hy)).1]; exact e)
      have hyl := Nat.eq_of_beq_eq_true hyl
      have hvl : (v j).cells.toList.length = cs.length := hc2.len.trans hyl
      rw [hBf] at hs
      refine st_store (g := g) (o := 0) (cs := cs) (T' := T) hs 0 rfl (by show look _ _ = _; rw [hlx, hg]) (by show look _ _ = _; exact hly) hT0 rfl hvl (by rw [Nat.ble_eq]; omega) (List.all_eq_true.2 hc2.one) fun w2 h8 => ?_
      rw [upd_whole _ _ hvl] at h8
      have hBf2 : Bf (fun k => k == i || p k) (fun k => if k = i then undef else v k) = (g, T, (v j).cells.toList) :: (mkB A2 p v ++ Bs) := by
        show hdB i t j T cs _ _ ++ (mkB A2 _ _ ++ Bs) = _
        have e2 : findA A2 i = none := findA_none fun x hx e => by have := hAs x hx; rw [Nat.blt_eq] at this; omega
        rw [mkB_other (As := A2) p v _ e2]
        unfold hdB
        have e3 : t ≠ i := by omega
        have e4 : j ≠ i := by omega
        simp [hpt, e3, e4, hg, gOf]
      refine wpList_nil ⟨rfl, undef, _, ⟨fun _ => by simp [hpt, hpj], rfl⟩, ?_⟩
      have hE : dE (D.map some ++ [none]) i = false := by rw [← hD]; exact dE_last D
      rw [if_neg (by rw [hE]; decide), hBf2]
      have e5 : (dFs As 0 us).getD i noF = noF := by
        have hlen : ∀ (us : List AV) (k : Nat), (dFs As k us).length = us.length := by
          intro us
          induction us with
          | nil => intro k; rfl
          | cons u us ih => intro k; simp [dFs, ih]
        rw [List.getD_eq_getElem?_getD, List.getElem?_eq_none (by rw [hlen, hU]; exact Nat.le_refl _)]; rfl
      rw [e5]
      exact St.drawEnd0 (f := noF undef) (h8 : St K Ob w0 w2 a' n _ (_ ++ ([SF L L3 B Bs [] []] ++ Fx)) _) trivial
  have hdrawops : ∀ (js : List (List Nat)) (os : List Oper) (k : Nat), (∀ i dj o, js[i]? = some dj → os[i]? = some o → DrawOpI P l.toArray K Ob w0 n L3 [SF L L3 B Bs [] []] Inv (D.map some ++ [none]) (dFs As 0 us) (k + i) dj o) →
      DrawOpsI P l.toArray K Ob w0 n L3 [SF L L3 B Bs [] []] Inv (D.map some ++ [none]) (dFs As 0 us) k js os := by
    intro js
    induction js with
    | nil => intro os k _; cases os <;> trivial
    | cons dj js ih =>
      intro os k hall
      rcases os with _ | ⟨o, os⟩
      · trivial
      · refine ⟨by have := hall 0 dj o rfl rfl; rwa [Nat.add_zero] at this, ih os (k + 1) fun i dj' o' hd ho => ?_⟩
        have := hall (i + 1) dj' o' (by simpa using hd) (by simpa using ho)
        rwa [show k + (i + 1) = k + 1 + i from by omega] at this
  refine drawI_ hm (c + 1) (D.map some ++ [none]) deps (dFs As 0 us) Inv hchk hst2 (fun w' hw' => ⟨fun hh => by simp at hh, by show Bs = hdB _ _ _ _ _ _ _ ++ _; unfold hdB; simp [mkB]⟩) ?_ (hdrawops deps l 0 fun i dj o hd ho => by
    rw [Nat.zero_add]
    exact hone i dj o hd ho (by have := (List.getElem?_eq_some_iff.1 hd).1; rw [hc.deplen] at this; exact this)) fun p hp v a' w' Bx hinv hs => ?_
  · rw [List.all_eq_true]
    intro j hj
    have hjm : j < c + 1 := List.mem_range.1 hj
    rcases Nat.lt_or_ge j c with hjc | hjc
    · rw [(dd_app D j (by rw [hD]; exact hjc)).1]
      have hmem : D.getD j 0 ∈ D := by rw [List.getD_eq_getElem?_getD, List.getElem?_eq_getElem (by rw [hD]; exact hjc)]; exact List.getElem_mem _
      have := hnone _ hmem
      rw [Option.isNone_iff_eq_none] at this
      rw [h1 _ this]; simp
    · obtain rfl : j = c := by omega
      have hE : dE (D.map some ++ [none]) j = false := by rw [← hD]; exact dE_last D
      rw [hE]; rfl
  · obtain ⟨_, rfl⟩ := hinv
    have hdL := dL_all D v
    rw [hD] at hdL
    rw [hdL] at hs
    let g : Nat → Nat := fun j => gOf (v j)
    have hfct : ∀ i, (hi : i < c) → (dF As i (us.getD i .un) (v i)).holds w' (owns Ob (Bf p v)) := fun i hi => by
      have := hs.facts ((dFs As 0 us).getD i noF (v i)) (List.mem_append.2 (.inl (List.mem_map.2 ⟨i, List.mem_range.2 (by omega), rfl⟩)))
      rw [hS i hi] at this
      rw [hus i hi]
      exact this
    have hall : Bf p v = (g t, T, (v j).cells.toList) :: (A2.map (fun x => (g x.1, x.2.1, x.2.2)) ++ Bs) := by
      show hdB c t j T cs p v ++ (mkB A2 p v ++ Bs) = _
      unfold hdB mkB
      rw [if_pos (hp t (by omega)), if_pos (hp c (by omega)), List.filter_eq_self.2 fun x hx => hp x.1 (by have := hAs x hx; rw [Nat.blt_eq] at this; omega)]
      rfl
    have hf1 : ∀ k, k < D.length → findA As (0 + k) = none → ARep w' (owns Ob (Bf p v)) (v (0 + k)) (us.getD k .un) := fun k hk hf => by
      rw [Nat.zero_add] at hf ⊢
      have := hfct k (by omega)
      unfold dF at this
      rw [hf] at this
      exact this
    have hf2 : ∀ k, k < D.length → (findA As (0 + k)).isSome = true → v (0 + k) = .pointer (some ⟨g (0 + k), 0, none⟩) := fun k hk hf => by
      rw [Nat.zero_add] at hf ⊢
      have := hfct k (by omega)
      unfold dF at this
      cases hq : findA As k with
      | none => rw [hq] at hf; cases hf
      | some q =>
        rw [hq] at this
        obtain ⟨g', hg⟩ := this
        show v k = .pointer (some ⟨gOf (v k), 0, none⟩)
        rw [hg]; rfl
    obtain ⟨h6, h7, _⟩ : (SF L L3 B Bs [] []).holds w' (owns Ob (Bf p v)) := hs.facts _ (List.mem_append.2 (.inr (by simp)))
    obtain ⟨L2, B2, hk1, hk2, hk3⟩ := k g
    have hlk := lk_slotsA h6 hk1 hf1 hf2
    have hr : List.range' 0 D.length = List.range c := by rw [List.range_eq_range', hD]
    rw [hr] at hlk
    simp only [Nat.sub_zero] at hlk
    have hj1 := hf1 j (by omega) (by rw [Nat.zero_add, hfo j hjt]; exact hjA)
    rw [Nat.zero_add] at hj1
    obtain ⟨hc2, _⟩ := leaves_of hj1 (huj _ (by rw [hus j hjc]; exact List.getElem?_eq_getElem _))
    have hB2 := made_rep (w := w') (O := owns Ob (Bf p v)) hzl hk2 h7
    have hB3 : BsRep w' (owns Ob (Bf p v)) (.blk (g t) T ys :: (B2 ++ B)) (Bf p v) := by
      have : BsRep w' (owns Ob (Bf p v)) (.blk (g t) T ys :: (B2 ++ B)) ((g t, T, (v j).cells.toList) :: (A2.map (fun x => (g x.1, x.2.1, x.2.2)) ++ Bs)) := ⟨[_], _, rfl, ⟨_, rfl, hc2⟩, hB2⟩
      rwa [← hall] at this
    exact hk3 K Ob w0 w' a' _ ⟨_, Bf p v, hs.noFacts, hlk, hB3⟩ fun a2 w2 h => h
end Orr

namespace Orr
open Go
variable {P : Program} {ops : Array Oper} {n : Nat} {rest : List Oper} {N : Sg → List OB → Prop} {L : Sg} {B : List OB}
def nilAt : Nat → Nat → List LV → Option (List LV)
  | 0, sz, x :: l => match x.isNil with
    | true => some (.orow none sz 0 0 :: l)
    | false => none
  | j + 1, sz, x :: l => match nilAt j sz l with
    | some r => some (x :: r)
    | none => none
  | _, _, [] => none
theorem nilAt_of {w : World} {O : Nat → Prop} : ∀ {j sz : Nat} {xs ys : List LV} {vs : List Value}, nilAt j sz xs = some ys → XReps w O vs xs → XReps w O vs ys
  | _, _, [], _, _, h, _ => by simp [nilAt] at h
  | _, _, _ :: _, _, [], _, h => h.elim
  | 0, sz, x :: l, ys, v :: vs, h, hr => by
    simp only [nilAt] at h
    split at h
    · rename_i e
      injection h with h; subst h
      have : x = .nils := by cases x <;> first | rfl | (simp [LV.isNil] at e)
      subst this
      have hv : LRep w O v .nils := hr.1
      cases hv
      exact ⟨⟨rfl, rfl, rfl⟩, hr.2⟩
    · cases h
  | j + 1, sz, x :: l, ys, v :: vs, h, hr => by
    simp only [nilAt] at h
    split at h
    · rename_i r hq
      injection h with h; subst h
      exact ⟨hr.1, nilAt_of hq hr.2⟩
    · cases h
theorem aw_ownLeaf (i j E sz : Nat) {g : Nat} {T : TypeId} {xs ys : List LV} {B' : List OB} (hi : frontB B i = some (.blk g T xs, B')) (hsz : Nat.blt 0 sz = true) (hj : nilAt j sz xs = some ys)
    (k : AW P ops n rest N L (.blk g T ys :: .row none E sz [] :: B')) : AW P ops n rest N L B := by
  intro K Ob w0 w a Q hs hQ
  rw [Nat.blt_eq] at hsz
  obtain ⟨L', Bo, Bs, h1, h2, ⟨cs, rfl, h3⟩, h4⟩ := hs.front hi
  exact k _ _ _ _ _ _ ⟨L', [(g, T, cs)] ++ Bs, h1, h2, [(g, T, cs)], Bs, rfl, ⟨cs, rfl, nilAt_of hj h3⟩, [], Bs, rfl, ⟨hsz, rfl, rfl⟩, h4⟩ hQ
end Orr
