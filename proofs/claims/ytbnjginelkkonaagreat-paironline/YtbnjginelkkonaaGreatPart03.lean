/- A region that draws its order is what its text says; and how far one gets by reckoning. Results; functions that are pure. The table of a program's types: how an entry is made. Loops told by what changes; endings. Numbers as rows of limbs: plain laws. -/
import Derived.Test.YtbnjginelkkonaaGreatPart02
set_option linter.all false

namespace Orr
open Go
variable {P : Program} {n : Nat} {L L' : Sg} {B B' : List OB} {Q : Exit → Sg → List OB → Prop}
/-- the program draws orders of all kinds -/
class Mo (P : Program) : Prop where
  mo : P.follows .mixedOrders = true
theorem ov_ok {mvs : List Nat} {x : Rc × Sg × List OB} (h : ovC mvs x = true) : Ov mvs x.1 (lk x.2.1) (ob x.2.2) := by
  unfold ovC at h
  rw [Bool.and_eq_true] at h
  obtain ⟨h1, h2⟩ := h
  have dec : ∀ (ids : List Nat), allB (fun i => !memN i mvs || isI x.1.mv i) ids = true → ∀ i ∈ ids, i ∈ mvs → x.1.mv = some i := fun ids ha i hi hm => by
    have := allB_of ha i hi
    rw [memN_iff.2 hm] at this
    exact isI_eq (by simpa using this)
  refine ⟨fun t y ht hy i hi hm => ?_, fun j hj i hi hm => ?_⟩
  · cases e : lkf x.1.ws t with
    | none => rw [e] at ht; cases ht
    | some v =>
      have := allB_of h1 _ (lkf_mem e)
      simp only [hy] at this
      exact dec _ this i hi hm
  · cases e : lkf x.1.wb j with
    | none => rw [e] at hj; cases hj
    | some v =>
      have := allB_of h2 _ (lkf_mem e)
      have hne : ¬ ob x.2.2 j = .gone := fun e => by rw [e] at hi; simp [OB.ids] at hi
      obtain ⟨b, e1, e2⟩ := mem_ob hne
      rw [e2] at hi
      simp only [bAt_eq, e1] at this
      exact dec _ this i hi hm
theorem dr_ok {T : TT P} {arr : Array Oper} : ∀ {l : List Oper} {Lg L' : Sg} {Bg B' : List OB} {h h' : List (H P)} {q : Eqs} {obs : List Prop} {rs : List (Rc × Sg × List OB)}, dr T n arr l Lg Bg h = some (rs, L', B', h', q, obs) → EqOk q → AllP obs →
    rs.length = l.length ∧ (∀ (i : Nat) (o : Oper) (x : Rc × Sg × List OB), l[i]? = some o → rs[i]? = some x → Wf P arr n o x.1) ∧ ∀ (R : Nat → Rc) (mvs : List Nat) (k : Nat), (∀ (i : Nat) (x : Rc × Sg × List OB), rs[i]? = some x → R (k + i) = x.1) → (∀ x ∈ rs, ovC mvs x = true) →
      DR R mvs (fun sl bl U => sl = lk L' ∧ bl = ob B' ∧ U = nw B') (List.range' k l.length) (lk Lg) (ob Bg) (nw Bg)
  | [], Lg, L', Bg, B', h, h', q, obs, rs, hd, _, _ => by
    simp only [dr, Option.some.injEq, Prod.mk.injEq] at hd
    obtain ⟨rfl, rfl, rfl, _⟩ := hd
    exact ⟨rfl, fun i o x h => by simp at h, fun R mvs k _ _ => ⟨rfl, rfl, rfl⟩⟩
  | o :: l, Lg, L', Bg, B', h, h', q, obs, rs, hd, hq, hob => by
    simp only [dr] at hd
    split at hd
    · rename_i L0 hL0
      split at hd
      · rename_i r L1 B1 h1 q1 ob1 hds
        split at hd
        · rename_i rs2 L2 B2 h2 q2 ob2 hdr
          simp only [Option.some.injEq, Prod.mk.injEq] at hd
          obtain ⟨rfl, rfl, rfl, _, rfl, rfl⟩ := hd
          rw [appE_eq] at hq
          obtain ⟨hq1, hq2⟩ := hq.app
          obtain ⟨ho1, ho2⟩ := appP_eq.1 hob
          have hone : Wf P arr n o r ∧ Loc r (lk Lg) (ob Bg) (nw Bg) ∧ lk L1 = upf (lk Lg) r.ws ∧ ob B1 = upf (ob Bg) r.wb ∧ nw B1 = fun j => nw Bg j ∧ ¬ r.nw_ j := by
            split at hds <;> exact ds_ok hL0 hds hq1 ho1
          obtain ⟨w1, w2, w3, w4, w5⟩ := hone
          obtain ⟨i1, i2, i3⟩ := dr_ok hdr hq2 ho2
          refine ⟨by simp [i1], fun i o' x hi hx => ?_, fun R mvs k hR hov => ?_⟩
          · cases i with
            | zero => simp at hi hx; subst hi; subst hx; exact w1
            | succ i => exact i2 i o' x (by simpa using hi) (by simpa using hx)
          · have e0 : R k = r := by simpa using hR 0 (r, Lg, Bg) (by simp)
            rw [show List.range' k (o :: l).length = k :: List.range' (k + 1) l.length from by simp [List.range'_succ]]
            refine ⟨by rw [e0]; exact w2, by rw [e0]; exact ov_ok (hov _ (.head _)), ?_⟩
            have := i3 R mvs (k + 1) (fun i x hx => by
              have := hR (i + 1) x (by simpa using hx)
              rwa [show k + (i + 1) = k + 1 + i from by omega] at this) fun x hx => hov x (.tail _ hx)
            rw [w3, w4, w5] at this
            rw [e0]
            exact this
        · cases hd
      · cases hd
    · cases hd
theorem isS_not {α : Type} {o : Option α} (h : (!isS o) = true) : o = none := by cases o <;> first | rfl | cases h
theorem dj1_ok {p x : Rc} (h : dj1C p x = true) : Dj1 p x := by
  unfold dj1C at h
  simp only [Bool.and_eq_true] at h
  obtain ⟨⟨⟨h1, h2⟩, h3⟩, h4⟩ := h
  have k1 : ∀ t, (lkf p.ws t).isSome = true → lk x.L0 t = none ∧ lkf x.ws t = none := fun t ht => by
    cases e : lkf p.ws t with
    | none => rw [e] at ht; cases ht
    | some v =>
      have := allB_of h1 _ (lkf_mem e)
      rw [Bool.and_eq_true] at this
      exact ⟨isS_not this.1, isS_not this.2⟩
  refine ⟨fun t ht => (k1 t ht).1, fun t ht => (k1 t ht).2, fun j hj => ?_, fun i hi => ?_, fun j h5 h6 => ?_⟩
  · cases e : lkf p.wb j with
    | none => rw [e] at hj; cases hj
    | some v =>
      have := allB_of h2 _ (lkf_mem e)
      rw [Bool.and_eq_true] at this
      refine ⟨?_, isS_not this.2⟩
      have h7 := this.1
      rw [bAt_eq] at h7
      unfold ob
      cases e : x.B0[j]? with
      | none => rfl
      | some b => rw [e] at h7; simpa using h7
  · rw [hi] at h3
    simp only [Bool.and_eq_true] at h3
    refine ⟨fun t y hy hm => ?_, fun j b hb hm => ?_⟩
    · have := allB_of h3.1 _ (lkf_mem hy)
      simp only [memN_iff.2 hm] at this; cases this
    · have := allB_of h3.2 _ (lkf_mem hb)
      simp only [memN_iff.2 hm] at this; cases this
  · rcases Bool.or_eq_true .. ▸ h4 with h | h
    · have := Nat.le_of_ble_eq_true h
      have a1 := h5.2; have a2 := h6.1
      omega
    · have := Nat.le_of_ble_eq_true h
      have a1 := h5.1; have a2 := h6.2
      omega
theorem allB_not {α : Type} {f : α → Bool} : ∀ {l : List α}, allB f l = false → ∃ x ∈ l, f x = false
  | [], h => by cases h
  | y :: l, h => by
    simp only [allB] at h
    split at h
    · obtain ⟨x, h1, h2⟩ := allB_not h; exact ⟨x, .tail _ h1, h2⟩
    · rename_i e; exact ⟨y, .head _, e⟩
theorem cloC_ok {cs : List (List Nat)} : ∀ {l : List Oper} {k : Nat}, cloC cs k l = true → ∀ i o, l[i]? = some o → (∀ j ∈ predO o, j < k + i) ∧ ∀ p, memN p (nthL cs (k + i)) = true → p ∈ predO o ∨ ∃ j ∈ predO o, memN p (nthL cs j) = true
  | [], k, _, i, o, h => by simp at h
  | o :: l, k, h, i, o', hi => by
    simp only [cloC] at h
    split at h
    · rename_i hc
      cases i with
      | zero =>
        simp at hi; subst hi
        rw [Bool.and_eq_true] at hc
        refine ⟨fun j hj => by have := allB_of hc.1 j hj; rw [Nat.blt_eq] at this; omega, fun p hp => ?_⟩
        have := allB_of hc.2 p (memN_iff.1 hp)
        rw [Bool.or_eq_true] at this
        rcases this with h | h
        · exact .inl (memN_iff.1 h)
        · obtain ⟨x, h1, h2⟩ := allB_not (by simpa using h)
          exact .inr ⟨x, h1, by simpa using h2⟩
      | succ i =>
        rw [show k + (i + 1) = k + 1 + i from by omega]
        exact cloC_ok h i o' (by simpa using hi)
    · cases h
theorem pairs_ok {cs : List (List Nat)} {mvs : List Nat} {x : Rc} {i : Nat} : ∀ {ps : List (Rc × Sg × List OB)} {k : Nat}, pairs cs mvs x i k ps = true → ∀ (m : Nat) (p : Rc × Sg × List OB), ps[m]? = some p → k + m < i → memN (k + m) (nthL cs i) = true ∨ djC mvs p.1 x = true
  | [], _, _, m, p, h, _ => by simp at h
  | p :: ps, k, h, m, p', hm, hlt => by
    simp only [pairs] at h
    split at h
    · split at h
      · rename_i hc
        cases m with
        | zero => simp at hm; subst hm; exact Bool.or_eq_true .. ▸ hc
        | succ m =>
          rw [show k + (m + 1) = k + 1 + m from by omega]
          exact pairs_ok h m p' (by simpa using hm) (by omega)
      · cases h
    · rename_i hb
      have : ¬ Nat.blt k i = true := by rw [hb]; simp
      rw [Nat.blt_eq] at this
      omega
theorem allPairs_ok {cs : List (List Nat)} {mvs : List Nat} {all : List (Rc × Sg × List OB)} : ∀ {ps : List (Rc × Sg × List OB)} {k : Nat}, allPairs cs mvs all k ps = true → ∀ (i : Nat) (x : Rc × Sg × List OB), ps[i]? = some x → pairs cs mvs x.1 (k + i) 0 all = true ∧ ovC mvs x = true ∧ x.1.mv.all (memN · mvs) = true
  | [], _, _, i, x, h => by simp at h
  | p :: ps, k, h, i, x, hi => by
    simp only [allPairs] at h
    split at h
    · rename_i hc
      cases i with
      | zero => simp at hi; subst hi; simp only [Bool.and_eq_true] at hc; exact ⟨hc.1.1, hc.1.2, hc.2⟩
      | succ i =>
        rw [show k + (i + 1) = k + 1 + i from by omega]
        exact allPairs_ok h i x (by simpa using hi)
    · cases h
theorem preds_eq {l : List Oper} {i : Nat} {o : Oper} (h : l[i]? = some o) : preds l i = predO o := by simp only [preds, h]; rfl
theorem grow_drawn (w : World) : Grow w { w with drawn := w.drawn + 1 } := ⟨Nat.le_refl _, fun _ _ => rfl, rfl, rfl⟩
theorem ac_draw [Mo P] {T : TT P} {id : Nat} {arr : Array Oper} {hs hs' : List (H P)} {q : Eqs} {obs : List Prop} {r : List It} (h : drE T n arr.toList L B hs = some (L', B', hs', q, obs)) (hq : EqOk q) (hob : AllP obs) (k : AK P n Q r L' B') : AK P n Q (.code (.region id arr true) :: r) L B := by
  unfold drE at h
  split at h
  · rename_i rs L2 B2 h2 q2 ob2 hdr
    split at h
    · rename_i cs _
      split at h
      · rename_i hc
        simp only [Option.some.injEq, Prod.mk.injEq] at h
        obtain ⟨rfl, rfl, _, rfl, rfl⟩ := h
        rw [Bool.and_eq_true] at hc
        obtain ⟨hcl, hap⟩ := hc
        have hcl := cloC_ok hcl
        have hap := allPairs_ok hap
        obtain ⟨hlen, hwf, hDR⟩ := dr_ok hdr hq hob
        let R : Nat → Rc := fun i => match rs[i]? with
          | some x => x.1
          | none => ⟨[], [], [], [], [], [], none⟩
        have hR : ∀ (i : Nat) (x : Rc × Sg × List OB), rs[i]? = some x → R i = x.1 := fun i x hx => by simp only [R, hx]
        have hget : ∀ i, i < arr.toList.length → ∃ x, rs[i]? = some x := fun i hi => ⟨rs[i]'(by omega), List.getElem?_eq_getElem _⟩
        have hDR := hDR R (mvsOf rs) 0 (fun i x hx => by rw [Nat.zero_add]; exact hR i x hx) fun x hx => by
          obtain ⟨i, hi⟩ := List.getElem?_of_mem hx
          exact (hap i x hi).2.1
        have hda : arr.toList.toArray = arr := by simp
        rw [hda] at hwf
        have hwf' : ∀ i o, arr.toList[i]? = some o → Wf P arr.toList.toArray n o (R i) := fun i o ho => by
          obtain ⟨x, hx⟩ := hget i (List.getElem?_eq_some_iff.1 ho).1
          rw [hR i x hx, hda]
          exact hwf i o x ho hx
        have hCl : Cl arr.toList fun i p => memN p (nthL cs i) := ⟨fun i hi j hj => by
            have ho := List.getElem?_eq_getElem hi
            rw [preds_eq ho] at hj
            have := (hcl i _ ho).1 j hj
            omega, fun i hi p hp => by
            have ho := List.getElem?_eq_getElem hi
            rw [preds_eq ho]
            have := (hcl i _ ho).2 p (by rw [Nat.zero_add]; exact hp)
            exact this⟩
        have hdj : ∀ i, i < arr.toList.length → ∀ p, p < i → (memN p (nthL cs i)) = false → Dj (mvsOf rs) (R p) (R i) := fun i hi p hp hn => by
          obtain ⟨x, hx⟩ := hget i hi
          obtain ⟨y, hy⟩ := hget p (by omega)
          obtain ⟨a1, a2, a3⟩ := hap i x hx
          rw [Nat.zero_add] at a1
          rcases pairs_ok a1 p y hy (by omega) with h | h
          · rw [Nat.zero_add, hn] at h; cases h
          · unfold djC at h
            rw [Bool.and_eq_true] at h
            rw [hR i x hx, hR p y hy]
            refine ⟨dj1_ok h.1, dj1_ok h.2, ?_, fun j hj => ?_, fun j hj => ?_⟩
            · cases e : x.1.mv with
              | none => rfl
              | some j =>
                rw [e] at a3
                have : memN j (mvsOf rs) = true := a3
                simpa using memN_iff.1 this
            · have := hwf' i _ (List.getElem?_eq_getElem hi)
              rw [hR i x hx] at this
              exact (this.mv1 j hj).1
            · have := hwf' p _ (List.getElem?_eq_getElem (by omega))
              rw [hR p y hy] at this
              exact (this.mv1 j hj).2
        intro F E M a w hs
        refine wp_region_any Mo.mo ?_
        have := draw_any (Q := lift F n (mkQ Q (AKp P n Q r))) (F := F) hCl hwf' hdj (fun a w sl bl U E M hsf ⟨e1, e2, e3⟩ => by
          subst e1; subst e2; subst e3
          exact ⟨_, _, E, M, ⟨hsf.hs, hsf.size, hsf.defers, hsf.slots⟩, k⟩) arr.size (Array.replicate arr.size false) (List.range' 0 arr.toList.length) _ _ _ E M a { w with drawn := w.drawn + 1 } (by simp) List.pairwise_lt_range' (fun j => by
            rw [List.mem_range'_1]
            simp only [Array.getD_eq_getD_getElem?, Array.getElem?_replicate]
            constructor
            · intro ⟨_, h⟩
              have h : j < arr.size := by simpa using h
              exact ⟨by simpa using h, by rw [if_pos h]; rfl⟩
            · intro ⟨h, _⟩
              exact ⟨Nat.zero_le _, by omega⟩) (by simp) (fun i hi h => by
              have hi : i < arr.size := by simpa using hi
              rw [Array.getD_eq_getD_getElem?, Array.getElem?_replicate, if_pos hi] at h
              cases h) hDR ⟨hs.hs.grow (grow_drawn w), hs.size, hs.defers, fun t x hx => by
                obtain ⟨v, h1, h2⟩ := hs.slots t x hx
                exact ⟨v, h1, h2.keep ((grow_drawn w).le M) fun i _ _ => rfl⟩⟩
        rw [hda] at this
        exact this
      · cases h
    · cases h
  · cases h
/-- what is handed over becomes everybody's -/
theorem ac_pub {it : List It} {i : Nat} (hs : startish it = true) (h : pubS L B i = some (L', B')) (k : AK P n Q it L' B') : AK P n Q it L B := AK.sub (pub_sub h) hs k
abbrev Rn := Option (List It × Sg × List OB × Eqs × List Prop)
/-- what is to be made everybody's ahead of a call -/
def toPub : List (H P) → List TV → Option Nat
  | .p i :: _, _ => some i
  | .c (Bin := _ :: _) _ _ :: _, _ => none
  | _, ys => ownT ys
def unP : List (H P) → List (H P)
  | .p _ :: h => h
  | h => h
/-- a guard that becomes known -/
def unkE (arr : Array Oper) (L : Sg) (o : Oper) (h : List (H P)) : Option (Sg × List (H P) × (Qv × Qv)) := match o.guard with
  | none => none
  | some (j, _) => match (arr[j]?).bind (·.dst) with
    | some t' => match lk L t' with
      | some (.v (.one (.bool b))) => match h with
        | .t (b := b') _ :: h => some ((t', .cnd true (.one (.bool true))) :: L, h, (.t (.one (.bool b)), .t (.one (.bool b'))))
        | .f (b := b') _ :: h => some ((t', .cnd true (.one (.bool false))) :: L, h, (.t (.one (.bool b)), .t (.one (.bool b'))))
        | _ => none
      | _ => none
    | none => none
theorem unk_ok {arr : Array Oper} {o : Oper} {h h' : List (H P)} {e : Qv × Qv} (hu : unkE arr L o h = some (L', h', e)) (he : e.1 = e.2) : Sub n L B L' B := by
  unfold unkE at hu
  split at hu
  · cases hu
  · split at hu
    · split at hu
      · rename_i b hl
        split at hu
        · rename_i b' hb h2
          injection hu with hu; injection hu with e1 hu; injection hu with e2 e3; subst e1; subst e3
          injection he with he; injection he with he; injection he with he; subst he; subst hb
          exact fun F E M a w hs => ⟨E, M, hs.same hl fun _ h => ⟨fun _ => h, fun e => by cases e⟩⟩
        · rename_i b' hb h2
          injection hu with hu; injection hu with e1 hu; injection hu with e2 e3; subst e1; subst e3
          injection he with he; injection he with he; injection he with he; subst he; subst hb
          exact fun F E M a w hs => ⟨E, M, hs.same hl fun _ h => ⟨fun _ => h, fun e => by cases e⟩⟩
        · cases hu
      · cases hu
    · cases hu
def run (T : TT P) (n : Nat) : Nat → List It → Sg → List OB → List (H P) → Eqs → List Prop → Rn
  | 0, it, L, B, _, q, ob => some (it, L, B, q, ob)
  | f + 1, it, L, B, h, q, ob => match it with
    | .code (.seq x y) :: r => run T n f (.code x :: .code y :: r) L B h q ob
    | .code .skip :: r => run T n f r L B h q ob
    | .code (.block id c) :: r => run T n f (.code c :: .blk id :: r) L B h q ob
    | .code (.exit id) :: r => match exitTo id r with
      | some r' => run T n f r' L B h q ob
      | none => some (it, L, B, q, ob)
    | .code (.region id arr false) :: r => run T n f (.ops arr arr.toList :: r) L B h q ob
    | .code (.region id arr true) :: r => match h with
      | .p i :: h => match pubS L B i with
        | some (L', B') => run T n f (.code (.region id arr true) :: r) L' B' h q ob
        | none => none
      | h => match drE T n arr.toList L B h with
        | some (L', B', h', q', ob') => run T n f r L' B' h' (appE q' q) (appP ob' ob)
        | none => some (it, L, B, q, ob)
    | .code (.cond c x y) :: r => match h with
      | .t (b := b') _ :: h => match evT L c with
        | some (.one (.bool b)) => run T n f (.code x :: r) L B h ((.t (.one (.bool b)), .t (.one (.bool b'))) :: q) ob
        | _ => none
      | .f (b := b') _ :: h => match evT L c with
        | some (.one (.bool b)) => run T n f (.code y :: r) L B h ((.t (.one (.bool b)), .t (.one (.bool b'))) :: q) ob
        | _ => none
      | _ => some (it, L, B, q, ob)
    | .blk _ :: r => run T n f r L B h q ob
    | .ops _ [] :: r => run T n f r L B h q ob
    | .pst d :: r => match pstE d L B h with
      | some (L', B', h', q') => match startish r with
        | true => run T n f (.pst d :: r) L' B' h' (appE q' q) ob
        | false => none
      | none => run T n f r L B h q ob
    | .ops arr (o :: l) :: r => match gdE arr L o with
      | some true => match isCall o.op with
        | some (x, xs) => match o.dst with
          | some d => match Nat.blt d n with
            | true => match callA L x xs with
              | some (g, ys) => match toPub h ys with
                | some i => match pubS L B (dig B 20 i) with
                  | some (L', B') => run T n f (.ops arr (o :: l) :: r) L' B' (unP h) q ob
                  | none => some (it, L, B, q, ob)
                | none => match callO L B h d g ys with
                  | some (L', B', h', q', ob') => run T n f (.pst d :: .ops arr l :: r) L' B' h' (appE q' q) (appP ob' ob)
                  | none => some (it, L, B, q, ob)
              | none => some (it, L, B, q, ob)
            | false => none
          | none => some (it, L, B, q, ob)
        | none => match efE T n L B h o.dst o.op with
          | some (L', B', h', q', ob') => match o.dst with
            | some d => run T n f (.pst d :: .ops arr l :: r) L' B' h' (appE q' q) (appP ob' ob)
            | none => run T n f (.ops arr l :: r) L' B' h' (appE q' q) (appP ob' ob)
          | none => some (it, L, B, q, ob)
      | some false => match offE n L o.dst with
        | some L' => run T n f (.ops arr l :: r) L' B h q ob
        | none => some (it, L, B, q, ob)
      | none => match unkE arr L o h with
        | some (L', h', e) => run T n f (.ops arr (o :: l) :: r) L' B h' (e :: q) ob
        | none => some (it, L, B, q, ob)
    | it => some (it, L, B, q, ob)
theorem run_ok [Mo P] (T : TT P) : ∀ (f : Nat) (it it' : List It) (L L' : Sg) (B B' : List OB) (h : List (H P)) (q q' : Eqs) (ob ob' : List Prop), run T n f it L B h q ob = some (it', L', B', q', ob') → EqOk q' → AllP ob' → EqOk q ∧ AllP ob ∧ (AK P n Q it' L' B' → AK P n Q it L B) := by
  intro f
  have stop : ∀ {it it' : List It} {L L' : Sg} {B B' : List OB} {q q' : Eqs} {ob ob' : List Prop}, some (it, L, B, q, ob) = some (it', L', B', q', ob') → EqOk q' → AllP ob' → EqOk q ∧ AllP ob ∧ (AK P n Q it' L' B' → AK P n Q it L B) := fun h hq hob => by
    obtain ⟨rfl, rfl, rfl, rfl, rfl⟩ := some5 h
    exact ⟨hq, hob, id⟩
  induction f with
  | zero => intro it it' L L' B B' h q q' ob ob' hr hq hob; exact stop hr hq hob
  | succ f ih =>
    intro it it' L L' B B' h q q' ob ob' hr hq hob
    unfold run at hr
    split at hr
    · obtain ⟨h1, h2, h3⟩ := ih _ _ _ _ _ _ _ _ _ _ _ hr hq hob
      exact ⟨h1, h2, fun k => ac_seq (h3 k)⟩
    · obtain ⟨h1, h2, h3⟩ := ih _ _ _ _ _ _ _ _ _ _ _ hr hq hob
      exact ⟨h1, h2, fun k => ac_skip (h3 k)⟩
    · obtain ⟨h1, h2, h3⟩ := ih _ _ _ _ _ _ _ _ _ _ _ hr hq hob
      exact ⟨h1, h2, fun k => ac_block (h3 k)⟩
    · split at hr
      · rename_i r' hx
        obtain ⟨h1, h2, h3⟩ := ih _ _ _ _ _ _ _ _ _ _ _ hr hq hob
        exact ⟨h1, h2, fun k => ac_exit hx (h3 k)⟩
      · exact stop hr hq hob
    · obtain ⟨h1, h2, h3⟩ := ih _ _ _ _ _ _ _ _ _ _ _ hr hq hob
      exact ⟨h1, h2, fun k => ac_reg (h3 k)⟩
    · split at hr
      · split at hr
        · rename_i hp
          obtain ⟨h1, h2, h3⟩ := ih _ _ _ _ _ _ _ _ _ _ _ hr hq hob
          exact ⟨h1, h2, fun k => ac_pub rfl hp (h3 k)⟩
        · cases hr
      · split at hr
        · rename_i hd
          obtain ⟨h1, h3, h4⟩ := ih _ _ _ _ _ _ _ _ _ _ _ hr hq hob
          rw [appE_eq] at h1
          obtain ⟨h5, h6⟩ := h1.app
          obtain ⟨h7, h8⟩ := appP_eq.1 h3
          exact ⟨h6, h8, fun k => ac_draw hd h5 h7 (h4 k)⟩
        · exact stop hr hq hob
    · split at hr
      · rename_i b' hb h2
        split at hr
        · rename_i b hc
          obtain ⟨h1, h2, h3⟩ := ih _ _ _ _ _ _ _ _ _ _ _ hr hq hob
          have e := h1.hd; injection e with e; injection e with e; injection e with e; subst e
          exact ⟨h1.tl, h2, fun k => ac_cond hc (fun _ => h3 k) fun e => by rw [hb] at e; cases e⟩
        · cases hr
      · rename_i b' hb h2
        split at hr
        · rename_i b hc
          obtain ⟨h1, h2, h3⟩ := ih _ _ _ _ _ _ _ _ _ _ _ hr hq hob
          have e := h1.hd; injection e with e; injection e with e; injection e with e; subst e
          exact ⟨h1.tl, h2, fun k => ac_cond hc (fun e => by rw [hb] at e; cases e) fun _ => h3 k⟩
        · cases hr
      · exact stop hr hq hob
    · obtain ⟨h1, h2, h3⟩ := ih _ _ _ _ _ _ _ _ _ _ _ hr hq hob
      exact ⟨h1, h2, fun k => h3 k⟩
    · obtain ⟨h1, h2, h3⟩ := ih _ _ _ _ _ _ _ _ _ _ _ hr hq hob
      exact ⟨h1, h2, fun k => h3 k⟩
    · rename_i d r
      split at hr
      · rename_i L2 B2 h2 q2 hp
        split at hr
        · rename_i hs
          obtain ⟨h1, h3, h4⟩ := ih _ _ _ _ _ _ _ _ _ _ _ hr hq hob
          rw [appE_eq] at h1
          obtain ⟨h5, h6⟩ := h1.app
          exact ⟨h6, h3, fun k => AK.sub (it := r) (pst_ok hp h5) hs (h4 k)⟩
        · cases hr
      · obtain ⟨h1, h2, h3⟩ := ih _ _ _ _ _ _ _ _ _ _ _ hr hq hob
        exact ⟨h1, h2, fun k => h3 k⟩
    · rename_i arr o l r
      split at hr
      · rename_i hgd
        split at hr
        · rename_i x xs hcall
          obtain ⟨as, ats, ho, rfl⟩ := isCall_eq hcall
          split at hr
          · rename_i d hd
            split at hr
            · rename_i hdn
              split at hr
              · rename_i g ys ha
                split at hr
                · rename_i i hown
                  split at hr
                  · rename_i L2 B2 hp
                    obtain ⟨h1, h2, h3⟩ := ih _ _ _ _ _ _ _ _ _ _ _ hr hq hob
                    exact ⟨h1, h2, fun k => W1.sub (pub_sub hp) (h3 k)⟩
                  · exact stop hr hq hob
                · split at hr
                  · rename_i L2 B2 h2 q2 ob2 hc
                    obtain ⟨h1, h3, h4⟩ := ih _ _ _ _ _ _ _ _ _ _ _ hr hq hob
                    rw [appE_eq] at h1
                    obtain ⟨h5, h6⟩ := h1.app
                    obtain ⟨h7, h8⟩ := appP_eq.1 h3
                    exact ⟨h6, h8, fun k => W1.on hgd (call_ok (o := ung o) (N := AW P arr n l (AKp P n Q r).1) ho rfl hd hdn ha hc h5 (h4 k))⟩
                  · exact stop hr hq hob
              · exact stop hr hq hob
            · cases hr
          · exact stop hr hq hob
        · split at hr
          · rename_i L2 B2 h2 q2 ob2 hs
            split at hr
            · obtain ⟨h1, h3, h4⟩ := ih _ _ _ _ _ _ _ _ _ _ _ hr hq hob
              rw [appE_eq] at h1
              obtain ⟨h5, h6⟩ := h1.app
              obtain ⟨h7, h8⟩ := appP_eq.1 h3
              exact ⟨h6, h8, fun k => W1.on hgd (efE_ok (o := ung o) (N := AW P arr n l (AKp P n Q r).1) rfl rfl rfl hs h5 h7 (h4 k))⟩
            · obtain ⟨h1, h3, h4⟩ := ih _ _ _ _ _ _ _ _ _ _ _ hr hq hob
              rw [appE_eq] at h1
              obtain ⟨h5, h6⟩ := h1.app
              obtain ⟨h7, h8⟩ := appP_eq.1 h3
              exact ⟨h6, h8, fun k => W1.on hgd (efE_ok (o := ung o) (N := AW P arr n l (AKp P n Q r).1) rfl rfl rfl hs h5 h7 (h4 k))⟩
          · exact stop hr hq hob
      · rename_i hgd
        split at hr
        · rename_i L2 hL
          obtain ⟨h1, h2, h3⟩ := ih _ _ _ _ _ _ _ _ _ _ _ hr hq hob
          exact ⟨h1, h2, fun k => W1.off (N := AW P arr n l (AKp P n Q r).1) hgd hL (h3 k)⟩
        · exact stop hr hq hob
      · split at hr
        · rename_i L2 h2 e hu
          obtain ⟨h1, h2, h3⟩ := ih _ _ _ _ _ _ _ _ _ _ _ hr hq hob
          exact ⟨h1.tl, h2, fun k => W1.sub (unk_ok hu h1.hd) (h3 k)⟩
        · exact stop hr hq hob
    · exact stop hr hq hob
end Orr

namespace Orr
open Go
variable {P : Program} {n : Nat} {L L' : Sg} {B B' : List OB} {Q : Exit → Sg → List OB → Prop}
def resOf (tmps : Array Value) : ResultVar → Sem Value
  | .tmp t => pure (tmps.getD t undef)
  | .cell a t => do loadVar t (← asAddr (tmps.getD a undef))
theorem results_eq (fn : Func) (tmps : Array Value) : results fn tmps = (do
    let vs ← fn.results.mapM (resOf tmps)
    pure (if h : vs.size = 1 then vs[0] else .tuple vs)) := by
  unfold results
  congr 1
def resE (T : TT P) (L : Sg) (B : List OB) : List ResultVar → Option (List TV)
  | [] => some []
  | .tmp t :: r => match lk L t with
    | some (.v u) => match resE T L B r with
      | some us => some (u :: us)
      | none => none
    | _ => none
  | .cell t S :: r => match T.find S with
    | some ti => match lk L t with
      | some (.v (.one (.ow i 0))) => match bAt B i with
        | some (.blk _ xs) => match subL xs 0 ti.sz with
          | some l => match bundle ti.ag l with
            | some u => match resE T L B r with
              | some us => some (u :: us)
              | none => none
            | none => none
          | none => none
        | _ => none
      | _ => none
    | none => none
theorem resE_ok {T : TT P} {F : Fr} {E : Env} {M : Nat → Prop} {a : Act} {w : World} (h : SA F n L B E M a w) : ∀ {rs : List ResultVar} {us : List TV}, resE T L B rs = some us → ∃ vs : List Value, F2 (TRep w M E) vs us ∧ (rs.mapM (resOf a.tmps)).run P w = .ok vs w
  | [], us, hr => by simp only [resE, Option.some.injEq] at hr; subst hr; exact ⟨[], .nil, rfl⟩
  | .tmp t :: r, us, hr => by
    simp only [resE] at hr
    split at hr
    · rename_i u hu
      split at hr
      · rename_i us' hr'
        injection hr with hr; subst hr
        obtain ⟨vs, h1, h2⟩ := resE_ok h hr'
        obtain ⟨v, h3, h4⟩ := h.slots t _ hu
        refine ⟨v :: vs, .cons h4 h1, ?_⟩
        simp only [List.mapM_cons, resOf, Sem.run_bind, Sem.run_pure, Result.andThen_ok, Array.getD_eq_getD_getElem?, h3, Option.getD_some, h2]
      · cases hr
    · cases hr
  | .cell t S :: r, us, hr => by
    simp only [resE] at hr
    split at hr
    · rename_i ti hti
      have hti := TT.find_t hti; subst hti
      split at hr
      · rename_i i hu
        split at hr
        · rename_i T' xs hb
          split at hr
          · rename_i l hl
            split at hr
            · rename_i u hbu
              split at hr
              · rename_i us' hr'
                injection hr with hr; subst hr
                obtain ⟨vs, h1, h2⟩ := resE_ok h hr'
                obtain ⟨v, h3, g, c, m, he, hv⟩ := h.slots t _ hu
                obtain ⟨g', c', m', he', cs, hg, hc⟩ := h.blk hb
                rw [he] at he'; injection he' with he'; injection he' with e1 _; injection e1 with e1; injection e1 with e1 _; subst e1
                obtain ⟨rfl, hle⟩ := subL_eq hl
                obtain ⟨v2, hv2, hv3⟩ := bundle_rep hbu ((hc.drop 0).take ti.sz)
                have hl2 := hc.len
                have hload : (loadVar ti.t ⟨g, 0, none⟩).run P w = .ok v2 w := run_loadVar ti.hag ti.hsz (vs := (cs.drop 0).take ti.sz) (by simp; omega) (fun j v hj => by rw [cell_of hg]; exact sub_get hj) hv2
                refine ⟨v2 :: vs, .cons hv3 h1, ?_⟩
                simp only [List.mapM_cons, resOf, Sem.run_bind, Sem.run_pure, Result.andThen_ok, Array.getD_eq_getD_getElem?, h3, Option.getD_some, hv, asAddr, hload, h2]
              · cases hr
            · cases hr
          · cases hr
        · cases hr
      · cases hr
    · cases hr
theorem run_results {fn : Func} {a : Act} {w : World} {vs : List Value} {M : Nat → Prop} {E : Env} {us : List TV} (h : (fn.results.toList.mapM (resOf a.tmps)).run P w = .ok vs w) (hr : F2 (TRep w M E) vs us) : ∃ r, (results fn a.tmps).run P w = .ok r w ∧ ARep w M E r (avOf us) := by
  have hm : (fn.results.mapM (resOf a.tmps)).run P w = .ok vs.toArray w := by
    have : fn.results = fn.results.toList.toArray := by simp
    rw [this, List.mapM_toArray, map_eq_pure_bind, Sem.run_bind, h]
    rfl
  refine ⟨if h : vs.toArray.size = 1 then vs.toArray[0] else .tuple vs.toArray, ?_, ?_⟩
  · rw [results_eq]
    simp only [Sem.run_bind, hm, Result.andThen_ok, Sem.run_pure]
  · match vs, us, hr with
    | [v], [t], .cons h0 .nil => simpa [avOf, ARep] using h0
    | [], [], .nil => exact ⟨[], rfl, .nil⟩
    | v :: v' :: vs, t :: t' :: us, hr => exact ⟨_, by simp, hr⟩
/-- all own things are forgotten -/
theorem HS.forget {F : Fr} {bl : Nat → OB} {U : Nat → Prop} {E : Env} {M : Nat → Prop} {w : World} (h : HS F bl U E M w) (hJ : ∀ i, ¬ F.J i) : HS F (ob []) (nw []) (fun _ => none) M w :=
  { size := h.size, kept := h.kept, io := h.io, mlt := h.mlt, m0 := h.m0
    ids := fun i hi => absurd hi (hJ i)
    nj := fun i _ => hJ i
    blk := fun i => by simp [ob]; trivial
    nk := fun i g c m hl _ => by simp [ob, OB.lv] at hl
    inj := fun i j g c m c' m' hl => by simp [ob, OB.lv] at hl
    un := fun i _ => ⟨rfl, by simp [ob]⟩
    uj := fun i _ => hJ i }
def finE (T : TT P) : Nat → Sg → List OB → List ResultVar → Option (List TV)
  | 0, _, _, _ => none
  | f + 1, L, B, rs => match resE T L B rs with
    | some us => match ownT us with
      | some i => match pubS L B (dig B 20 i) with
        | some (L', B') => finE T f L' B' rs
        | none => none
      | none => match forceT us with
        | some ys => match freeTs ys with
          | true => some ys
          | false => none
        | none => none
    | none => none
theorem fin_ok {T : TT P} {fn : Func} {e : Exit} (he : e = .ret ∨ e = .normal) : ∀ {f : Nat} {L : Sg} {B : List OB} {us : List TV}, finE T f L B fn.results.toList = some us → RQ P fn n 0 (fun u B => u = us ∧ B = []) e L B
  | 0, _, _, _, h => by cases h
  | f + 1, L, B, us, h => by
    simp only [finE] at h
    split at h
    · rename_i us0 hr
      split at h
      · split at h
        · rename_i L' B' hp
          obtain ⟨_, h1⟩ := fin_ok he h
          refine ⟨he, fun F E M a w hs hJ => ?_⟩
          obtain ⟨E', M', h2⟩ := pub_sub hp F E M a w hs
          exact h1 F E' M' a w h2 hJ
        · cases h
      · split at h
        · rename_i ys hys
          split at h
          · rename_i hfr
            injection h with h; subst h
            refine ⟨he, fun F E M a w hs hJ => ?_⟩
            obtain ⟨vs, h1, h2⟩ := resE_ok hs hr
            have h3 := forceT_ok hys h1
            obtain ⟨r, h4, h5⟩ := run_results h2 h3
            refine ⟨r, _, [], fun _ => none, M, h4, ⟨rfl, rfl⟩, Nat.zero_le _, hs.hs.forget fun i => hJ i (Nat.zero_le _), h5.keep (Le.refl _ _) fun i hi => ?_⟩
            rw [avOf_ids hfr] at hi; cases hi
          · cases h
        · cases h
    · cases h
/-- a list, written out -/
def nrmP : List Prop → Option (List Prop)
  | [] => some []
  | p :: l => match nrmP l with
    | some r => some (p :: r)
    | none => none
theorem nrmP_eq : ∀ {l r : List Prop}, nrmP l = some r → r = l
  | [], r, h => by simp only [nrmP, Option.some.injEq] at h; exact h.symm
  | p :: l, r, h => by
    simp only [nrmP] at h
    split at h
    · rename_i q hq; injection h with h; rw [← h, nrmP_eq hq]
    · cases h
def ended : List It → Bool
  | .code .ret :: _ => true
  | [] => true
  | _ => false
/-- the whole of a pure function -/
def wE (T : TT P) (n : Nat) (c : Code) (rs : List ResultVar) (args : List TV) (hs : List (H P)) : Option (List TV × List Qv × List Qv × List Prop) := match run T n 100000 [.code c] (argsA 0 args) [] hs [] [] with
  | some (it, L, B, q, ob) => match ended it with
    | true => match finE T 100 L B rs with
      | some us => match nrmP ob with
        | some ob => some (us, q.map (·.1), q.map (·.2), ob)
        | none => none
      | none => none
    | false => none
  | none => none
theorem EqOk.of : ∀ {q : Eqs}, q.map (·.1) = q.map (·.2) → EqOk q
  | [], _ => EqOk.nil
  | (a, b) :: q, h => by
    injection h with h1 h2
    intro p hp
    rcases List.mem_cons.1 hp with rfl | hp
    · exact h1
    · exact EqOk.of h2 p hp
theorem w [Mo P] (T : TT P) {f : FuncId} {fn : Func} {c : Code} {args res us : List TV} {as : List Qv} {ob : List Prop} (hf : P.funcs[f]? = some fn) (hh : (fn.body, fn.ntmps, (fn.name == "runtime.NumGoroutine"), Nat.ble args.length n) = (some c, n, false, true)) (hs : List (H P))
    (h : wE T n c fn.results.toList args hs = some (us, as, as, ob)) (he : us = res) (ho : AllP ob) : Does P f args res := by
  injection hh with hb hh; injection hh with hn hh; injection hh with hnm hl
  subst he
  refine ⟨⟨fn, hf, hnm, by rw [hb]; rfl⟩, fn_ hf hb hn hl ?_⟩
  unfold wE at h
  split at h
  · rename_i it L B q ob' hr
    split at h
    · rename_i hend
      split at h
      · rename_i us' hfin
        split at h <;> first | (cases h; done) | skip
        rename_i ob2 hnp
        obtain rfl := nrmP_eq hnp
        injection h with h; injection h with e1 h; injection h with e2 h; injection h with e3 e4; subst e1; subst e4
        have hq : EqOk q := EqOk.of (e2.trans e3.symm)
        obtain ⟨_, _, k⟩ := run_ok (Q := RQ P fn n 0 fun u B => u = us' ∧ B = []) T _ _ _ _ _ _ _ _ _ _ _ _ hr hq ho
        refine k ?_
        unfold ended at hend
        split at hend
        · exact ac_ret (fin_ok (.inl rfl) hfin)
        · exact fin_ok (.inr rfl) hfin
        · cases hend
      · cases h
    · cases h
  · cases h
/-- as far as it gets -/
theorem go [Mo P] (T : TT P) {it it' : List It} {as : List Qv} {ob : List Prop} (hs : List (H P)) (h : (match run T n 100000 it L B hs [] [] with
    | some (it, L, B, q, ob) => (match nrmP ob with
      | some ob => some (it, L, B, q.map (·.1), q.map (·.2), ob)
      | none => none)
    | none => none) = some (it', L', B', as, as, ob)) (ho : AllP ob) (k : AK P n Q it' L' B') : AK P n Q it L B := by
  split at h
  · rename_i it L B q ob' hr
    split at h <;> first | (cases h; done) | skip
    rename_i ob2 hnp
    obtain rfl := nrmP_eq hnp
    injection h with h; injection h with e1 h; injection h with e2 h; injection h with e3 h; injection h with e4 h; injection h with e5 e6
    subst e1; subst e2; subst e3; subst e6
    exact (run_ok T _ _ _ _ _ _ _ _ _ _ _ _ hr (EqOk.of (e4.trans e5.symm)) ho).2.2 k
  · cases h
end Orr

namespace Orr
open Go
theorem fieldAt_run {P : Program} {S f off T : Nat} {fs : Array Field} {k : Nat} (hu : ∀ w, (underlying S).run P w = .ok (.struct fs) w) (hf : (fs[f]?).map (fun fl => (fl.type, fl.offset)) = some (T, off)) (hs : ∀ w, (Go.sizeOf T).run P w = .ok k w) (hk : k ≠ 0) (b o : Nat) (w : World) :
    (Instr.fieldAt S (.pointer (some ⟨b, o, none⟩)) f).run P w = .ok (.pointer (some ⟨b, o + off, none⟩)) w := by
  cases h : fs[f]? with
  | none => rw [h] at hf; cases hf
  | some fl =>
    rw [h] at hf
    simp only [Option.map_some, Option.some.injEq, Prod.mk.injEq] at hf
    obtain ⟨rfl, rfl⟩ := hf
    simp [Instr.fieldAt, hu, h, Instr.sureAddr, fieldPlace, hs, hk, add_spot]

/-- the places of a struct's fields -/
def placesOf (fs : List Field) (sizes : List Nat) : List (Nat × Nat) := (fs.map (·.offset)).zip sizes
/-- the sizes of fields -/
def FieldSizes (P : Program) : List Field → List Nat → Prop
  | [], [] => True
  | f :: fs, k :: ks => (∀ w, (Go.sizeOf f.type).run P w = .ok k w) ∧ FieldSizes P fs ks
  | _, _ => False
theorem run_places' {P : Program} : ∀ (fs : List Field) (sizes : List Nat) (w : World), FieldSizes P fs sizes →
    (fs.mapM fun f => do pure (f.offset, ← Go.sizeOf f.type) : Sem (List (Nat × Nat))).run P w = .ok (placesOf fs sizes) w
  | [], [], w, _ => rfl
  | [], _ :: _, w, h => h.elim
  | _ :: _, [], w, h => h.elim
  | f :: fs, k :: sizes, w, ⟨h0, h⟩ => by
    have ih := run_places' fs sizes w h
    simp only [List.mapM_cons, Sem.run_bind, h0, Result.andThen_ok, Sem.run_pure]
    rw [ih]
    rfl
theorem build_run {P : Program} {T : Nat} {fs : Array Field} {sizes : List Nat} {z : Value} {vs : List (Nat × Value)} {cs : Array Value} (hu : ∀ w, (underlying T).run P w = .ok (.struct fs) w) (hz : ∀ w, (zeroValue T).run P w = .ok z w)
    (hs : FieldSizes P fs.toList sizes)
    (hf : Instr.fill ((placesOf fs.toList sizes)[·]?) z.cells vs = some cs) (w : World) : (Instr.build T vs.toArray).run P w = .ok (.agg cs) w := by
  have hp := run_places' (P := P) fs.toList sizes w hs
  have hm : (fs.mapM fun f => do pure (f.offset, ← Go.sizeOf f.type) : Sem (Array (Nat × Nat))).run P w = .ok (placesOf fs.toList sizes).toArray w := by
    cases fs with
    | mk l =>
      rw [List.mapM_toArray, map_eq_pure_bind, Sem.run_bind, show (List.mapM (fun f : Field => do pure (f.offset, ← Go.sizeOf f.type) : Field → Sem (Nat × Nat)) l).run P w = _ from hp]
      rfl
  simp only [Instr.build, Sem.run_bind, hz, hu, Result.andThen_ok, hm]
  have e : (fun x : Nat => (placesOf fs.toList sizes).toArray[x]?) = fun x => (placesOf fs.toList sizes)[x]? := by funext x; simp
  rw [e, hf]
  rfl
theorem buildA_run {P : Program} {T E m k : Nat} {z : Value} {vs : List (Nat × Value)} {cs : Array Value} (hu : ∀ w, (underlying T).run P w = .ok (.array m E) w) (hz : ∀ w, (zeroValue T).run P w = .ok z w)
    (hs : ∀ w, (Go.sizeOf E).run P w = .ok k w)
    (hf : Instr.fill (fun i => some (i * k, k)) z.cells vs = some cs) (w : World) : (Instr.build T vs.toArray).run P w = .ok (.agg cs) w := by
  simp only [Instr.build, Sem.run_bind, hz, hu, Result.andThen_ok, hs, hf]
  rfl
theorem field_run {P : Program} {S f off T m : Nat} {ag : Bool} {fs : Array Field} (hu : ∀ w, (underlying S).run P w = .ok (.struct fs) w) (hf : (fs[f]?).map (fun fl => (fl.type, fl.offset)) = some (T, off)) (ht : ∀ w, (isAgg T).run P w = .ok ag w) (hs : ∀ w, (Go.sizeOf T).run P w = .ok m w)
    (vs : List Value) (v : Value) (hv : if ag = true then v = .agg ((vs.drop off).take m).toArray else vs[off]? = some v) (_ : off + m ≤ vs.length) (w : World) : (Instr.field S (.agg vs.toArray) f).run P w = .ok v w := by
  cases h : fs[f]? with
  | none => rw [h] at hf; cases hf
  | some fl =>
    rw [h] at hf
    simp only [Option.map_some, Option.some.injEq, Prod.mk.injEq] at hf
    obtain ⟨rfl, rfl⟩ := hf
    cases ag with
    | true =>
      simp only [if_true] at hv
      subst hv
      simp [Instr.field, hu, h, asAgg, Go.part, ht, hs, List.extract]
      done
    | false =>
      simp at hv
      simp [Instr.field, hu, h, asAgg, Go.part, ht, hv]
variable {P : Program}
def Aggs (P : Program) : List Field → List Bool → Prop
  | [], [] => True
  | f :: fs, k :: ks => (∀ w, (isAgg f.type).run P w = .ok k w) ∧ Aggs P fs ks
  | _, _ => False
theorem FieldSizes.get : ∀ {fs : List Field} {ks : List Nat}, FieldSizes P fs ks → ∀ {i : Nat} {f : Field}, fs[i]? = some f → ∃ k, ks[i]? = some k ∧ ∀ w, (Go.sizeOf f.type).run P w = .ok k w
  | [], [], _, i, f, h => by simp at h
  | g :: fs, k :: ks, h, 0, f, hf => by simp at hf; subst hf; exact ⟨k, rfl, h.1⟩
  | g :: fs, k :: ks, h, i + 1, f, hf => by simpa using h.2.get (i := i) (by simpa using hf)
  | [], _ :: _, h, _, _, _ => h.elim
  | _ :: _, [], h, _, _, _ => h.elim
theorem Aggs.get : ∀ {fs : List Field} {ks : List Bool}, Aggs P fs ks → ∀ {i : Nat} {f : Field}, fs[i]? = some f → ∃ k, ks[i]? = some k ∧ ∀ w, (isAgg f.type).run P w = .ok k w
  | [], [], _, i, f, h => by simp at h
  | g :: fs, k :: ks, h, 0, f, hf => by simp at hf; subst hf; exact ⟨k, rfl, h.1⟩
  | g :: fs, k :: ks, h, i + 1, f, hf => by simpa using h.2.get (i := i) (by simpa using hf)
  | [], _ :: _, h, _, _, _ => h.elim
  | _ :: _, [], h, _, _, _ => h.elim
/-- neither a struct nor an array -/
def tiO (t : TypeId) {ag : Bool} {sz : Nat} {un : TypeDesc} {z : Value} (hag : ∀ w, (isAgg t).run P w = .ok ag w) (hsz : ∀ w, (Go.sizeOf t).run P w = .ok sz w) (hun : P.underlying t = some un) (hz : ∀ w, (zeroValue t).run P w = .ok z w) {info : TypeInfo} (hi : ∀ w, (typeInfo t).run P w = .ok info w) (by_ : Nat) (hby : info.bytes = by_) : TI P :=
  { t, ag, sz, un, z, by_, fo := [], fv := [], bl := none, hag, hsz, hun, hz, hi := ⟨info, hi, hby⟩, hfo := fun _ _ h => by simp at h, hfv := fun _ _ _ _ h => by simp at h, hbl := fun _ _ h => by cases h }
def tiA (t : TypeId) {sz m E k : Nat} {ag : Bool} {zs : Array Value} (hag : ∀ w, (isAgg t).run P w = .ok ag w) (hsz : ∀ w, (Go.sizeOf t).run P w = .ok sz w) (hun : P.underlying t = some (.array m E)) (hz : ∀ w, (zeroValue t).run P w = .ok (.agg zs) w) {info : TypeInfo} (hi : ∀ w, (typeInfo t).run P w = .ok info w) (by_ : Nat) (hby : info.bytes = by_) (he : ∀ w, (Go.sizeOf E).run P w = .ok k w) : TI P :=
  { t, ag, sz, un := .array m E, z := .agg zs, by_, fo := [], fv := [], bl := some (zs.toList, fun i => some (i * k, k)), hag, hsz, hun, hz, hi := ⟨info, hi, hby⟩, hfo := fun _ _ h => by simp at h, hfv := fun _ _ _ _ h => by simp at h
    hbl := fun zs' pl h => by
      injection h with h; injection h with h1 h2
      subst h1; subst h2
      intro vs cs hf w
      exact buildA_run (z := .agg zs) (hu_of hun) hz he (by simpa [Value.cells] using hf) w }
def pos3 : List Field → List Nat → List Bool → List (Nat × Nat × Bool)
  | f :: fs, k :: ks, a :: as => (f.offset, k, a) :: pos3 fs ks as
  | _, _, _ => []
theorem pos3_get : ∀ {fs : List Field} {ks : List Nat} {as : List Bool} {i : Nat} {x : Nat × Nat × Bool}, (pos3 fs ks as)[i]? = some x → ∃ f, fs[i]? = some f ∧ ks[i]? = some x.2.1 ∧ as[i]? = some x.2.2 ∧ x.1 = f.offset
  | [], _, _, i, x, h => by simp [pos3] at h
  | _ :: _, [], _, i, x, h => by simp [pos3] at h
  | _ :: _, _ :: _, [], i, x, h => by simp [pos3] at h
  | f :: fs, k :: ks, a :: as, 0, x, h => by simp [pos3] at h; subst h; exact ⟨f, rfl, rfl, rfl, rfl⟩
  | f :: fs, k :: ks, a :: as, i + 1, x, h => by simpa using pos3_get (fs := fs) (i := i) (by simpa [pos3] using h)
def tiS (t : TypeId) {sz : Nat} {fs : Array Field} {zs : Array Value} {g : Bool} {ks : List Nat} {ag : List Bool} (hag : ∀ w, (isAgg t).run P w = .ok g w) (hsz : ∀ w, (Go.sizeOf t).run P w = .ok sz w) (hun : P.underlying t = some (.struct fs)) (hz : ∀ w, (zeroValue t).run P w = .ok (.agg zs) w) {info : TypeInfo} (hi : ∀ w, (typeInfo t).run P w = .ok info w) (by_ : Nat) (hby : info.bytes = by_)
    (hs : FieldSizes P fs.toList ks) (ha : Aggs P fs.toList ag) (h0 : (ks.all fun k => Nat.blt 0 k) = true) : TI P :=
  { t, ag := g, sz, un := .struct fs, z := .agg zs, by_, fo := fs.toList.map (·.offset), fv := pos3 fs.toList ks ag, bl := some (zs.toList, ((placesOf fs.toList ks)[·]?)), hag, hsz, hun, hz, hi := ⟨info, hi, hby⟩
    hfo := fun f off h b o w => by
      rw [List.getElem?_map] at h
      cases hf : fs.toList[f]? with
      | none => rw [hf] at h; cases h
      | some fl =>
        rw [hf] at h
        simp only [Option.map_some, Option.some.injEq] at h
        obtain ⟨k, hk, hr⟩ := hs.get hf
        have hk0 : k ≠ 0 := by
          have := List.all_eq_true.1 h0 k (List.mem_of_getElem? hk)
          rw [Nat.blt_eq] at this; omega
        refine fieldAt_run (T := fl.type) (k := k) (hu_of hun) ?_ hr hk0 b o w
        rw [← Array.getElem?_toList, hf, ← h]; rfl
    hfv := fun f off m ag_ h vs v hv hl w => by
      obtain ⟨fl, hf, h1, h2, h3⟩ := pos3_get h
      obtain ⟨k, hk, hr⟩ := hs.get hf
      obtain ⟨a, ha', hr'⟩ := ha.get hf
      rw [hk] at h1; injection h1 with h1
      rw [ha'] at h2; injection h2 with h2
      have h1 : k = m := h1
      have h2 : a = ag_ := h2
      have h3 : off = fl.offset := h3
      subst h1; subst h2; subst h3
      exact field_run (T := fl.type) (hu_of hun) (by rw [← Array.getElem?_toList, hf]; rfl) hr' hr vs v hv hl w
    hbl := fun zs' pl h => by
      injection h with h; injection h with h1 h2
      subst h1; subst h2
      intro vs cs hf w
      exact build_run (z := .agg zs) (hu_of hun) hz hs (by simpa [Value.cells] using hf) w }
end Orr

namespace Orr
open Go
section
variable {F : Fr} {bl bl' : Nat → OB} {U U' : Nat → Prop} {E E' : Env} {M : Nat → Prop} {w : World}
/-- the same, under other numbers -/
theorem HS.renum (h : HS F bl U E M w) {ρ : Nat → Nat} (hi : ∀ i j, ρ i = ρ j → i = j) (hb : ∀ j, (bl' j).lv = true → bl (ρ j) = renO ρ (bl' j)) (hU : ∀ j, U' j → bl' j = .gone) (h1 : ∀ j, U' j → E' j = none) (h2 : ∀ j, ¬ U' j → E' j = E (ρ j)) (hids : ∀ j, ∀ i ∈ (bl' j).ids, ¬ U' i) (hJ : ∀ j, F.J j → ρ j = j ∧ ¬ U' j) : HS F bl' U' E' M w := by
  have hlu : ∀ j, (bl' j).lv = true → ¬ U' j := fun j hj hu => by rw [hU j hu] at hj; cases hj
  have hlv : ∀ j, (bl' j).lv = true → (bl (ρ j)).lv = true := fun j hj => by rw [hb j hj, (renO_lv _).1]; exact hj
  exact {
    size := h.size
    kept := h.kept
    io := h.io
    mlt := h.mlt
    m0 := h.m0
    ids := fun i hi => by obtain ⟨e, hu⟩ := hJ i hi; rw [h2 i hu, e]; exact h.ids i hi
    nj := fun i hi hj => by
      have hl : (bl' i).lv = true := by cases e : bl' i <;> rw [e] at hi <;> first | rfl | cases hi
      refine h.nj i ?_ hj
      have := hb i hl
      rw [(hJ i hj).1] at this
      rw [this, (renO_lv _).2]; exact hi
    blk := fun j => by
      cases hl : (bl' j).lv with
      | false => cases hbl : bl' j <;> rw [hbl] at hl <;> first | trivial | cases hl
      | true =>
        have := h.blk (ρ j)
        rw [hb j hl] at this
        exact this.to (fun _ => h2 j (hlu j hl)) fun i hi _ => h2 i (hids j i hi)
    nk := fun i g c m hl e => h.nk (ρ i) g c m (hlv i hl) (by rw [← h2 i (hlu i hl)]; exact e)
    inj := fun i j g c m c' m' hli hlj ei ej => hi _ _ (h.inj (ρ i) (ρ j) g c m c' m' (hlv i hli) (hlv j hlj) (by rw [← h2 i (hlu i hli)]; exact ei) (by rw [← h2 j (hlu j hlj)]; exact ej))
    un := fun i hi => ⟨h1 i hi, hU i hi⟩
    uj := fun i hi hj => (hJ i hj).2 hi }
end
variable {P : Program} {n : Nat} {L L' : Sg} {B B' : List OB} {Q : Exit → Sg → List OB → Prop}
/-! ### what is known, told with less -/
def eqA : AV → AV → Option Eqs
  | .v t, .v u => some [(.t t, .t u)]
  | .tup l, .tup r => zipT l r
  | .cnd b t, .cnd c u => some [(.t (.one (.bool b)), .t (.one (.bool c))), (.t t, .t u)]
  | _, _ => none
theorem eqA_ok {x y : AV} {q : Eqs} (h : eqA x y = some q) (hq : EqOk q) : x = y := by
  cases x <;> cases y <;> simp only [eqA] at h <;> first | (cases h; done) | skip
  · injection h with h; subst h; have e := hq.hd; injection e with e; rw [e]
  · rw [zipT_ok h hq]
  · injection h with h; subst h
    have e := hq.hd; injection e with e; injection e with e; injection e with e
    have e2 := hq.tl.hd; injection e2 with e2
    rw [e, e2]
def subS (nb : Nat) (L : Sg) : Sg → Option Eqs
  | [] => some []
  | (t, x) :: l => match lk L t with
    | some y => match eqA y x, subS nb L l with
      | some q, some q2 => match allB (Nat.blt · nb) x.ids with
        | true => some (appE q q2)
        | false => none
      | _, _ => none
    | none => none
theorem subS_ok {nb : Nat} : ∀ {l : Sg} {q : Eqs}, subS nb L l = some q → EqOk q → ∀ t x, lk l t = some x → lk L t = some x ∧ ∀ i ∈ x.ids, i < nb
  | [], _, _, _, t, x, h => by simp [lk] at h
  | (s, y) :: l, q, h, hq, t, x, hx => by
    simp only [subS] at h
    split at h
    · rename_i z hz
      split at h
      · rename_i q1 q2 h1 h2
        split at h
        · rename_i hi
          injection h with h; subst h
          rw [appE_eq] at hq
          obtain ⟨ha, hb⟩ := hq.app
          simp only [lk] at hx
          split at hx
          · rename_i e
            injection hx with hx; subst hx
            obtain rfl := Nat.eq_of_beq_eq_true e
            refine ⟨by rw [hz, eqA_ok h1 ha], fun i hm => ?_⟩
            have := allB_of hi i hm
            rwa [Nat.blt_eq] at this
          · exact subS_ok h2 hb t x hx
        · cases h
      · cases h
    · cases h
def isGone : OB → Bool
  | .gone => true
  | _ => false
def subB (nb : Nat) : List OB → List OB → Option Eqs
  | _, [] => some []
  | [], c :: l => match isGone c with
    | true => subB nb [] l
    | false => none
  | b :: r, c :: l => match subB nb r l with
    | some q => match isGone c with
      | true => some q
      | false => match allB (Nat.blt · nb) c.ids with
        | true => some ((.o b, .o c) :: q)
        | false => none
    | none => none
theorem subB_ok {nb : Nat} : ∀ {r l : List OB} {q : Eqs}, subB nb r l = some q → EqOk q → ∀ j, (ob l j).lv = true → ob r j = ob l j ∧ ∀ i ∈ (ob l j).ids, i < nb
  | _, [], _, _, _, j, hj => by simp [ob, OB.lv] at hj
  | [], c :: l, q, h, hq, j, hj => by
    simp only [subB] at h
    split at h
    · rename_i hg
      cases j with
      | zero => cases c <;> simp [isGone] at hg; simp [ob, OB.lv] at hj
      | succ j =>
        have := subB_ok h hq j (by simpa [ob] using hj)
        simpa [ob] using this
    · cases h
  | b :: r, c :: l, q, h, hq, j, hj => by
    simp only [subB] at h
    split at h
    · rename_i q' hq'
      split at h
      · rename_i hg
        injection h with h; subst h
        cases j with
        | zero => cases c <;> simp [isGone] at hg; simp [ob, OB.lv] at hj
        | succ j =>
          have := subB_ok hq' hq j (by simpa [ob] using hj)
          simpa [ob] using this
      · split at h
        · rename_i hi
          injection h with h; subst h
          have e := hq.hd; injection e with e
          cases j with
          | zero =>
            refine ⟨by simpa [ob] using e, fun i hm => ?_⟩
            have := allB_of hi i (by simpa [ob] using hm)
            rwa [Nat.blt_eq] at this
          | succ j =>
            have := subB_ok hq' hq.tl j (by simpa [ob] using hj)
            simpa [ob] using this
        · cases h
    · cases h
def subE (k : Option Nat) (L : Sg) (B : List OB) (L2 : Sg) (B2 : List OB) : Option Eqs := match lenB B, lenB B2 with
  | some n1, some n2 => match (match Nat.ble n1 n2 with
      | true => true
      | false => match k with
        | some k => Nat.ble k n2
        | none => false) with
    | true => match subS n2 L L2, subB n2 B B2 with
      | some q, some q2 => some (appE q q2)
      | _, _ => none
    | false => none
  | _, _ => none
theorem renO_id : ∀ b : OB, renO id b = b
  | .blk T xs => by
    have e : ∀ ys : List LV, ys.map (renY id) = ys := fun ys => by
      induction ys with
      | nil => rfl
      | cons y ys ih => simp only [List.map_cons, ih]; cases y <;> rfl
    have e2 : ∀ ys : List LV, ys.map (renL id) = ys := fun ys => by
      induction ys with
      | nil => rfl
      | cons y ys ih => simp only [List.map_cons, ih]; cases y <;> simp [renL, e]
    simp only [renO, e2]
  | .gone => rfl
  | .row .. => rfl
  | .mpb _ => rfl
theorem subE_ok {k : Option Nat} {L2 : Sg} {B2 : List OB} {q : Eqs} (h : subE k L B L2 B2 = some q) (hq : EqOk q) : SubK k n L B L2 B2 := by
  unfold subE at h
  split at h
  · rename_i n1 n2 h1 h2
    obtain rfl := lenB_eq h1
    obtain rfl := lenB_eq h2
    split at h
    · rename_i hk
      split at h
      · rename_i q1 q2 hs hb
        injection h with h; subst h
        rw [appE_eq] at hq
        obtain ⟨ha, hbq⟩ := hq.app
        have hs := subS_ok hs ha
        have hb := subB_ok hb hbq
        intro F E M a w hF hsa
        have hJ : ∀ j, F.J j → j < B2.length := fun j hj => by
          apply Classical.byContradiction
          intro hn
          split at hk
          · rename_i e
            have := Nat.le_of_ble_eq_true e
            exact hsa.hs.uj j (by simp only [nw]; omega) hj
          · split at hk
            · have := Nat.le_of_ble_eq_true hk
              exact hF j (by omega) hj
            · cases hk
        refine ⟨fun i => if i < B2.length then E i else none, M, hsa.hs.renum (ρ := id) (fun _ _ e => e) (fun j hj => ?_) (fun j hj => ob_gone hj) (fun j hj => if_neg (by simpa [nw] using hj)) (fun j hj => if_pos (by simpa [nw] using hj)) (fun j i hi => ?_) (fun j hj => ⟨rfl, by have := hJ j hj; simp only [nw]; omega⟩), hsa.size, hsa.defers, fun t x hx => ?_⟩
        · rw [renO_id]; exact (hb j hj).1
        · have hl : (ob B2 j).lv = true := by cases e : ob B2 j <;> rw [e] at hi <;> first | rfl | simp [OB.ids] at hi
          have := (hb j hl).2 i hi
          simp only [nw]; omega
        · obtain ⟨h1, h2⟩ := hs t x hx
          obtain ⟨v, h3, h4⟩ := hsa.slots t x h1
          exact ⟨v, h3, h4.keep (Le.refl _ _) fun i hi _ => if_pos (h2 i hi)⟩
      · cases h
    · cases h
  · cases h
/-- both sides of what has to be equal -/
def two : Option Eqs → Option (List Qv × List Qv)
  | some q => some (q.map (·.1), q.map (·.2))
  | none => none
theorem two_ok {o : Option Eqs} {as : List Qv} (h : two o = some (as, as)) : ∃ q, o = some q ∧ EqOk q := by
  cases o with
  | none => cases h
  | some q =>
    injection h with h; injection h with e1 e2
    exact ⟨q, rfl, EqOk.of (e1.trans e2.symm)⟩
/-- less is known -/
theorem sb {it : List It} (L2 : Sg) (B2 : List OB) {as : List Qv} (hs : startish it = true) (h : two (subE none L B L2 B2) = some (as, as)) (k : AK P n Q it L2 B2) : AK P n Q it L B := by
  obtain ⟨q, h1, h2⟩ := two_ok h
  exact AK.sub (fun F E M a w hsa => subE_ok h1 h2 F E M a w trivial hsa) hs k
/-- an own block becomes everybody's -/
theorem pb (i : Nat) {it : List It} (hs : startish it = true) (h : pubS L B i = some (L', B')) (k : AK P n Q it L' B') : AK P n Q it L B := ac_pub hs h k
def nilR : LV → LV
  | .nils => .row []
  | x => x
theorem nilR_ok {w : World} {M : Nat → Prop} {v : Value} {x : LV} (h : LRep w M v x) : LRep w M v (nilR x) := by
  cases x <;> first | exact h | exact nils_row h
/-- in an own row, nil slices are told as empty rows -/
theorem nl (i : Nat) {fx : Bool} {T : TypeId} {sz : Nat} {ls : List (List LV)} {it : List It} (hs : startish it = true) (hb : bAt B i = some (.row fx T sz ls)) (hB : setB B i (.row fx T sz (ls.map fun c => c.map nilR)) = some B') (k : AK P n Q it L B') : AK P n Q it L B := by
  obtain ⟨rfl, hl⟩ := setB_eq hB
  have hbi : B[i]? = some (.row fx T sz ls) := bAt_eq ▸ hb
  refine AK.sub (fun F E M a w h => ⟨E, M, ?_, h.size, h.defers, h.slots⟩) hs k
  rw [nw_set, ob_set hbi]
  have hn : (ls.map fun c => c.map nilR).length = ls.length := by simp
  refine h.hs.re (fun j => ?_) (fun j => ?_) (fun j => ?_) fun j hj => ?_
  · by_cases e : j = i
    · subst e
      rw [put1_self]
      obtain ⟨h0, h1, q, h2, h3⟩ := h.blk hb
      refine ⟨h0, fun c hc => ?_, q, by rw [hn]; exact h2, ?_⟩
      · obtain ⟨c', hc', rfl⟩ := List.mem_map.1 hc
        rw [List.length_map]; exact h1 c' hc'
      · cases q with
        | none => have h3 : ls = [] := h3; subst h3; rfl
        | some q =>
          obtain ⟨vss, ex, h4, h5, h6, h7⟩ := h3
          refine ⟨vss, ex, ?_, h5, h6, by rw [hn]; exact h7⟩
          refine F2.of (by rw [hn]; exact h4.len) fun k v x hv hx => ?_
          rw [List.getElem?_map] at hx
          cases hy : ls[k]? with
          | none => rw [hy] at hx; cases hx
          | some y =>
            rw [hy] at hx; injection hx with hx; subst hx
            have h8 := h4.get' hv hy
            refine F2.of (by rw [List.length_map]; exact h8.len) fun m u z hu hz => ?_
            rw [List.getElem?_map] at hz
            cases hy2 : y[m]? with
            | none => rw [hy2] at hz; cases hz
            | some y2 => rw [hy2] at hz; injection hz with hz; subst hz; exact nilR_ok (h8.get' hu hy2)
    · rw [put1_ne _ _ e]; exact h.hs.blk j
  · by_cases e : j = i
    · subst e; rw [put1_self, ob_of hbi]; rfl
    · rw [put1_ne _ _ e]
  · by_cases e : j = i
    · subst e; rw [put1_self, ob_of hbi]; rfl
    · rw [put1_ne _ _ e]
  · by_cases e : j = i
    · subst e; rw [ob_of hbi] at hj; cases hj
    · rw [put1_ne _ _ e]; exact hj
theorem nilX_ok {w : World} {M : Nat → Prop} {E : Env} {v : Value} {x : LV} (h : XRep w M E v x) : XRep w M E v (nilR x) := by
  cases x <;> first | exact h | exact nils_row h
/-- the same in an own block -/
theorem nlb (i : Nat) {T : TypeId} {xs : List LV} {it : List It} (hs : startish it = true) (hb : bAt B i = some (.blk T xs)) (hB : setB B i (.blk T (xs.map nilR)) = some B') (k : AK P n Q it L B') : AK P n Q it L B := by
  obtain ⟨rfl, hl⟩ := setB_eq hB
  have hbi : B[i]? = some (.blk T xs) := bAt_eq ▸ hb
  refine AK.sub (fun F E M a w h => ⟨E, M, ?_, h.size, h.defers, h.slots⟩) hs k
  rw [nw_set, ob_set hbi]
  refine h.hs.re (fun j => ?_) (fun j => ?_) (fun j => ?_) fun j hj => ?_
  · by_cases e : j = i
    · subst e
      rw [put1_self]
      obtain ⟨g, c, m, h1, cs, h2, h3⟩ := h.blk hb
      refine ⟨g, c, m, h1, cs, h2, F2.of (by rw [List.length_map]; exact h3.len) fun k v x hv hx => ?_⟩
      rw [List.getElem?_map] at hx
      cases hy : xs[k]? with
      | none => rw [hy] at hx; cases hx
      | some y => rw [hy] at hx; injection hx with hx; subst hx; exact nilX_ok (h3.get' hv hy)
    · rw [put1_ne _ _ e]; exact h.hs.blk j
  · by_cases e : j = i
    · subst e; rw [put1_self, ob_of hbi]; rfl
    · rw [put1_ne _ _ e]
  · by_cases e : j = i
    · subst e; rw [put1_self, ob_of hbi]; rfl
    · rw [put1_ne _ _ e]
  · by_cases e : j = i
    · subst e; rw [ob_of hbi] at hj; cases hj
    · rw [put1_ne _ _ e]; exact hj
/-- what follows from what is known -/
def coded : List It → Bool
  | .code _ :: _ => true
  | .ops _ (_ :: _) :: _ => true
  | .ops _ [] :: r => coded r
  | .blk _ :: r => coded r
  | .pst _ :: r => coded r
  | _ => false
theorem AK.fact {p : Prop} (hp : ∀ F E M a w, SA F n L B E M a w → p) : ∀ {it : List It}, coded it = true → (p → AK P n Q it L B) → AK P n Q it L B
  | .code _ :: _, _, k => fun F E M a w hs => k (hp F E M a w hs) F E M a w hs
  | .ops _ (_ :: _) :: _, _, k => fun F E M a w K Q hs hK => k (hp F E M a w hs) F E M a w K Q hs hK
  | .ops _ [] :: r, hs, k => AK.fact (it := r) hp hs k
  | .blk _ :: r, hs, k => AK.fact (it := r) hp hs k
  | .pst _ :: r, hs, k => AK.fact (it := r) hp hs k
/-- a row's length -/
theorem ln (t : Nat) {l : List (List LV)} {it : List It} (hl : lk L t = some (.v (.one (.row l)))) (hs : coded it = true) (k : l.length < 9223372036854775808 → AK P n Q it L B) : AK P n Q it L B :=
  AK.fact (fun F E M a w h => by
    obtain ⟨v, _, h2⟩ := h.slots t _ hl
    have h2 : LRep w M v (.row l) := h2
    cases h2 with
    | row A c sz b o l f hc hc63 => exact Nat.lt_of_le_of_lt hc hc63) hs k
/-! ### loops -/
def dstsO : List Oper → List Nat → List Nat
  | [], r => r
  | o :: l, r => match o.dst with
    | some d => d :: dstsO l r
    | none => dstsO l r
def wrts : Code → List Nat → List Nat
  | .region _ arr _, r => dstsO arr.toList r
  | .seq a b, r => wrts a (wrts b r)
  | .cond _ a b, r => wrts a (wrts b r)
  | .block _ c, r => wrts c r
  | .loop c, r => wrts c r
  | .scope c, r => wrts c r
  | _, r => r
/-- what is not written, each once -/
def prn (ks : List Nat) : Sg → Option Sg
  | [] => some []
  | (t, v) :: l => match memN t ks with
    | true => prn ks l
    | false => match prn (t :: ks) l with
      | some r => some ((t, v) :: r)
      | none => none
theorem lp {S : Type} {c : Code} {r : List It} {L1 : Sg} (k : Nat) (st : Sg → S → Sg) (bs : S → List OB) (μ : S → Nat) (I : S → Prop) (s0 : S) (h0 : I s0) (hL : prn (wrts c []) L = some L1) (hk : ∀ s, I s → (bs s).length = k) {as : List Qv} (hs : two (subE none L B (st L1 s0) (bs s0)) = some (as, as))
    (round : ∀ s, I s → AK P n Q (.code c :: .rnd (some k) (fun L B => ∃ s', μ s' < μ s ∧ I s' ∧ L = st L1 s' ∧ B = bs s') :: r) (st L1 s) (bs s)) : AK P n Q (.code (.loop c) :: r) L B := by
  obtain ⟨q, h1, h2⟩ := two_ok hs
  refine ac_loop (fun m L B => ∃ s, m = μ s ∧ I s ∧ L = st L1 s ∧ B = bs s) (m := μ s0) (k := k) (fun m L B ⟨s, _, hI, _, hB⟩ => by rw [hB, hk s hI]; exact Nat.le_refl _) ⟨_, _, fun F E M a w hsa => subE_ok h1 h2 F E M a w trivial hsa, s0, rfl, h0, rfl, rfl⟩ fun m L B ⟨s, hm, hI, hL, hB⟩ => ?_
  subst hm; subst hL; subst hB
  have := round s hI
  have e : (fun (L : Sg) (B : List OB) => ∃ m', m' < μ s ∧ ∃ s', m' = μ s' ∧ I s' ∧ L = st L1 s' ∧ B = bs s') = fun L B => ∃ s', μ s' < μ s ∧ I s' ∧ L = st L1 s' ∧ B = bs s' := by
    funext L B
    exact propext ⟨fun ⟨_, h1, s', e, h2⟩ => ⟨s', e ▸ h1, h2⟩, fun ⟨s', h1, h2⟩ => ⟨_, h1, s', rfl, h2⟩⟩
  rw [e]
  exact this
theorem rd {S : Type} {r : List It} {k : Option Nat} {st : S → Sg} {bs : S → List OB} {μ : S → Nat} {I : S → Prop} {m : Nat} (s' : S) (hμ : μ s' < m) (hI : I s') {as : List Qv} (hs : two (subE k L B (st s') (bs s')) = some (as, as)) : AK P n Q (.rnd k (fun L B => ∃ s', μ s' < m ∧ I s' ∧ L = st s' ∧ B = bs s') :: r) L B := by
  obtain ⟨q, h1, h2⟩ := two_ok hs
  exact ⟨_, _, subE_ok h1 h2, s', hμ, hI, rfl, rfl⟩
/-- a cut: what is known where two ways meet -/
theorem ct (j : Nat) {S : Type} {it : List It} (st : S → Sg) (bs : S → List OB) (I : S → Prop) (hs : startish (it.drop j) = true) (hx : AK P n Q (it.take j ++ .rnd none (fun L B => ∃ s', I s' ∧ L = st s' ∧ B = bs s') :: it.drop j) L B) (hy : ∀ s, I s → AK P n Q (it.drop j) (st s) (bs s)) : AK P n Q it L B :=
  k_cut j _ hx hs fun L B ⟨s, hI, hL, hB⟩ => by subst hL; subst hB; exact hy s hI
theorem rc {S : Type} {r : List It} {k : Option Nat} {st : S → Sg} {bs : S → List OB} {I : S → Prop} (s' : S) (hI : I s') {as : List Qv} (hs : two (subE k L B (st s') (bs s')) = some (as, as)) : AK P n Q (.rnd k (fun L B => ∃ s', I s' ∧ L = st s' ∧ B = bs s') :: r) L B := by
  obtain ⟨q, h1, h2⟩ := two_ok hs
  exact ⟨_, _, subE_ok h1 h2, s', hI, rfl, rfl⟩
/-! ### functions -/
theorem fnD {f : FuncId} {fn : Func} {c : Code} {args res : List TV} {Bin Bout : List OB} (hf : P.funcs[f]? = some fn) (hh : (fn.body, fn.ntmps, (fn.name == "runtime.NumGoroutine"), Nat.ble args.length n) = (some c, n, false, true)) (h : AK P n (RQ P fn n Bin.length fun u B => u = res ∧ B = Bout) [.code c] (argsA 0 args) Bin) : DoesD P f args Bin res Bout := by
  injection hh with hb hh; injection hh with hn hh; injection hh with hnm hl
  exact ⟨⟨fn, hf, hnm, by rw [hb]; rfl⟩, fn_ hf hb hn hl h⟩
/-- to the end: nothing of one's own comes out -/
def enE (T : TT P) (n : Nat) (rs : List ResultVar) (it : List It) (L : Sg) (B : List OB) (hs : List (H P)) : Option (List TV × List Qv × List Qv × List Prop) := match run T n 100000 it L B hs [] [] with
  | some (it, L, B, q, ob) => match ended it with
    | true => match finE T 100 L B rs with
      | some us => match nrmP ob with
        | some ob => some (us, q.map (·.1), q.map (·.2), ob)
        | none => none
      | none => none
    | false => none
  | none => none
theorem en [Mo P] (T : TT P) {fn : Func} {res us : List TV} {it : List It} {as : List Qv} {ob : List Prop} (hs : List (H P)) (h : enE T n fn.results.toList it L B hs = some (us, as, as, ob)) (he : us = res) (ho : AllP ob) : AK P n (RQ P fn n 0 fun u B => u = res ∧ B = []) it L B := by
  subst he
  unfold enE at h
  split at h
  · rename_i it L B q ob' hr
    split at h
    · rename_i hend
      split at h
      · rename_i us' hfin
        split at h <;> first | (cases h; done) | skip
        rename_i ob2 hnp
        obtain rfl := nrmP_eq hnp
        injection h with h; injection h with e1 h; injection h with e2 h; injection h with e3 e4; subst e1; subst e4
        have hq : EqOk q := EqOk.of (e2.trans e3.symm)
        obtain ⟨_, _, k⟩ := run_ok (Q := RQ P fn n 0 fun u B => u = us' ∧ B = []) T _ _ _ _ _ _ _ _ _ _ _ _ hr hq ho
        refine k ?_
        unfold ended at hend
        split at hend
        · exact ac_ret (fin_ok (.inl rfl) hfin)
        · exact fin_ok (.inr rfl) hfin
        · cases hend
      · cases h
    · cases h
  · cases h
/-- what comes out, own things among it: Bout is, under the numbers is, what there is -/
def finD (T : TT P) (k : Nat) (L : Sg) (B : List OB) (rs : List ResultVar) (res : List TV) (Bout : List OB) (is : List Nat) : Option Eqs := match resE T L B rs, mapO (tvO (rnL is)) res, outB is B is Bout with
  | some us, some rs', some q2 => match forceT us with
    | some us => match zipT us rs' with
      | some q => match seqP k 0 is, ndp is, Nat.beq is.length Bout.length with
        | true, true, true => some (appE q q2)
        | _, _, _ => none
      | none => none
    | none => none
  | _, _, _ => none
where
  outB (is0 : List Nat) (B : List OB) : List Nat → List OB → Option Eqs
    | i :: is, c :: l => match outB is0 B is l with
      | some q => match isGone c with
        | true => some q
        | false => match bAt B i, obO (rnL is0) c with
          | some b, some c' => some ((.o b, .o c') :: q)
          | _, _ => none
      | none => none
    | _, _ => some []
  seqP : Nat → Nat → List Nat → Bool
    | 0, _, _ => true
    | k + 1, j, i :: l => match Nat.beq i j with
      | true => seqP k (j + 1) l
      | false => false
    | _ + 1, _, [] => false
theorem outB_ok {is0 : List Nat} {c0 : Nat} : ∀ {is : List Nat} {l : List OB} {q : Eqs}, finD.outB is0 B is l = some q → EqOk q → ∀ (j : Nat) (i : Nat) (c : OB), is[j]? = some i → l[j]? = some c → c.lv = true → ob B i = renO (rho is0 c0) c ∧ ∀ m ∈ c.ids, m < is0.length
  | [], l, _, _, _, j, i, c, h, _, _ => by simp at h
  | _ :: _, [], _, _, _, j, i, c, _, h, _ => by simp at h
  | x :: is, d :: l, q, h, hq, j, i, c, hi, hc, hl => by
    simp only [finD.outB] at h
    split at h
    · rename_i q' hq'
      split at h
      · rename_i hg
        injection h with h; subst h
        cases j with
        | zero => simp at hc; subst hc; cases d <;> simp [isGone, OB.lv] at hg hl
        | succ j => exact outB_ok hq' hq j i c (by simpa using hi) (by simpa using hc) hl
      · split at h
        · rename_i b c' hb hc'
          injection h with h; subst h
          cases j with
          | zero =>
            simp at hi hc; subst hi; subst hc
            have e := hq.hd; injection e with e
            obtain ⟨h1, h2⟩ := rnO_ok (c := c0) (Pre.refl is0) hc'
            exact ⟨by rw [ob_of (bAt_eq ▸ hb), e, h1], h2⟩
          | succ j => exact outB_ok hq' hq.tl j i c (by simpa using hi) (by simpa using hc) hl
        · cases h
    · cases h
theorem seqP_ok : ∀ {k j : Nat} {l : List Nat}, finD.seqP k j l = true → ∀ m, m < k → l[m]? = some (j + m)
  | 0, _, _, _, m, h => by omega
  | k + 1, j, [], h, _, _ => by simp [finD.seqP] at h
  | k + 1, j, i :: l, h, m, hm => by
    simp only [finD.seqP] at h
    split at h
    · rename_i e
      cases m with
      | zero => simp [Nat.eq_of_beq_eq_true e]
      | succ m =>
        have := seqP_ok h m (by omega)
        rw [show j + (m + 1) = j + 1 + m from by omega]
        simpa using this
    · cases h
theorem bd_all : ∀ is : List Nat, ∃ c, ∀ i ∈ is, i < c
  | [] => ⟨0, fun i hi => by simp at hi⟩
  | x :: is => by
    obtain ⟨c, hc⟩ := bd_all is
    refine ⟨c + x + 1, fun i hi => ?_⟩
    rcases List.mem_cons.1 hi with rfl | hi
    · omega
    · have := hc i hi; omega
theorem finD_ok {T : TT P} {fn : Func} {k : Nat} {e : Exit} (he : e = .ret ∨ e = .normal) {res : List TV} {Bout : List OB} {is : List Nat} {q : Eqs} (h : finD T k L B fn.results.toList res Bout is = some q) (hq : EqOk q) : RQ P fn n k (fun u B => u = res ∧ B = Bout) e L B := by
  unfold finD at h
  split at h
  · rename_i us rs' q2 h1 h2 h3
    split at h
    · rename_i us2 hf
      split at h
      · rename_i q1 hz
        split at h
        · rename_i hsp hnd hlen
          injection h with h; subst h
          rw [appE_eq] at hq
          obtain ⟨ha, hb⟩ := hq.app
          have hlen := Nat.eq_of_beq_eq_true hlen
          refine ⟨he, fun F E M a w hs hJ => ?_⟩
          -- a bound for all numbers
          obtain ⟨c, hc⟩ := bd_all is
          have hrho : ∀ i j, rho is c i = rho is c j → i = j := fun i j e => by
            simp only [rho, nthN_eq] at e
            cases hi : is[i]? with
            | none =>
              cases hj : is[j]? with
              | none => simp only [hi, hj] at e; omega
              | some b => simp only [hi, hj] at e; have := hc b (List.mem_of_getElem? hj); omega
            | some a =>
              cases hj : is[j]? with
              | none => simp only [hi, hj] at e; have := hc a (List.mem_of_getElem? hi); omega
              | some b => simp only [hi, hj] at e; subst e; exact ndp_ok hnd i j a hi hj
          have hof : ∀ j i, is[j]? = some i → rho is c j = i := fun j i h => rho_of (Pre.refl is) (by rw [nthN_eq]; exact h)
          obtain ⟨hr1, hr2⟩ := rnTs_ok (c := c) (Pre.refl is) h2
          obtain ⟨vs, h4, h5⟩ := resE_ok hs h1
          have h6 := forceT_ok hf h4
          rw [zipT_ok hz ha, hr1] at h6
          let E' : Env := fun j => if j < Bout.length then E (rho is c j) else none
          have hE' : ∀ j, j < Bout.length → E' j = E (rho is c j) := fun j hj => if_pos hj
          have h7 : F2 (TRep w M E') vs res := F2.of (by rw [h6.len]; simp) fun j v t hv ht => by
            have := h6.get' (b := renT (rho is c) t) hv (by simp [ht])
            exact this.to fun i hi _ => hE' i (by have := hr2 t (List.mem_of_getElem? ht) i hi; omega)
          obtain ⟨r, h8, h9⟩ := run_results h5 h7
          have hkl : k ≤ Bout.length := by
            cases k with
            | zero => omega
            | succ k => have := (List.getElem?_eq_some_iff.1 (seqP_ok hsp k (by omega))).1; omega
          refine ⟨r, res, Bout, E', M, h8, ⟨rfl, rfl⟩, hkl, hs.hs.renum (ρ := rho is c) hrho (fun j hj => ?_) (fun j hj => ob_gone hj) (fun j hj => if_neg (by simpa [nw] using hj)) (fun j hj => hE' j (by simpa [nw] using hj)) (fun j i hi => ?_) (fun j hj => ?_), h9⟩
          · have hjl : j < Bout.length := by
              apply Classical.byContradiction
              intro hn
              rw [ob_gone (by omega)] at hj; cases hj
            have g1 : is[j]? = some is[j] := List.getElem?_eq_getElem (by omega)
            have g2 := List.getElem?_eq_getElem hjl
            rw [ob_of g2] at hj ⊢
            rw [hof j _ g1]
            exact (outB_ok (c0 := c) h3 hb j _ _ g1 g2 hj).1
          · have hl : (ob Bout j).lv = true := by cases e : ob Bout j <;> rw [e] at hi <;> first | rfl | simp [OB.ids] at hi
            have hjl : j < Bout.length := by
              apply Classical.byContradiction
              intro hn
              rw [ob_gone (by omega)] at hl; cases hl
            have g1 : is[j]? = some is[j] := List.getElem?_eq_getElem (by omega)
            have g2 := List.getElem?_eq_getElem hjl
            rw [ob_of g2] at hl hi
            have := (outB_ok (c0 := c) h3 hb j _ _ g1 g2 hl).2 i hi
            simp only [nw]; omega
          · have hjk : j < k := by
              apply Classical.byContradiction
              intro hn
              exact hJ j (by omega) hj
            have := seqP_ok hsp j hjk
            rw [Nat.zero_add] at this
            exact ⟨hof j j this, by simp only [nw]; omega⟩
        · cases h
      · cases h
    · cases h
  · cases h
/-- some are given away first -/
def pubL : List Nat → Sg → List OB → Option (Sg × List OB)
  | [], L, B => some (L, B)
  | i :: l, L, B => match pubS L B i with
    | some (L', B') => pubL l L' B'
    | none => none
theorem pubL_ok : ∀ {l : List Nat} {L L' : Sg} {B B' : List OB}, pubL l L B = some (L', B') → Sub n L B L' B'
  | [], _, _, _, _, h => by injection h with h; injection h with e1 e2; subst e1; subst e2; exact Sub.refl
  | i :: l, L, L', B, B', h => by
    simp only [pubL] at h
    split at h
    · rename_i hp; exact (pub_sub hp).trans (pubL_ok h)
    · cases h
theorem RQ.sub {fn : Func} {k : Nat} {Post : List TV → List OB → Prop} {e : Exit} (h : Sub n L B L' B') (hr : RQ P fn n k Post e L' B') : RQ P fn n k Post e L B := ⟨hr.1, fun F E M a w hs hJ => by
  obtain ⟨E', M', h1⟩ := h F E M a w hs
  exact hr.2 F E' M' a w h1 hJ⟩
def edE (T : TT P) (n k : Nat) (rs : List ResultVar) (it : List It) (L : Sg) (B : List OB) (hs : List (H P)) (res : List TV) (Bout : List OB) (ps is : List Nat) : Option (List Qv × List Qv × List Prop) := match run T n 100000 it L B hs [] [] with
  | some (it, L, B, q, ob) => match ended it with
    | true => match pubL ps L B with
      | some (L, B) => match finD T k L B rs res Bout is with
        | some q2 => (match nrmP ob with
          | some ob => some ((appE q q2).map (·.1), (appE q q2).map (·.2), ob)
          | none => none)
        | none => none
      | none => none
    | false => none
  | none => none
/-- to the end, with own things -/
theorem ed [Mo P] (T : TT P) {fn : Func} {k : Nat} {res : List TV} {Bout : List OB} {it : List It} {as : List Qv} {ob : List Prop} (ps is : List Nat) (hs : List (H P)) (h : edE T n k fn.results.toList it L B hs res Bout ps is = some (as, as, ob)) (ho : AllP ob) : AK P n (RQ P fn n k fun u B => u = res ∧ B = Bout) it L B := by
  unfold edE at h
  split at h
  · rename_i it L B q ob' hr
    split at h
    · rename_i hend
      split at h
      · rename_i L2 B2 hp
        split at h
        · rename_i q2 hfin
          split at h <;> first | (cases h; done) | skip
          rename_i ob2 hnp
          obtain rfl := nrmP_eq hnp
          injection h with h; injection h with e2 h; injection h with e3 e4; subst e4
          have hq : EqOk (appE q q2) := EqOk.of (e2.trans e3.symm)
          rw [appE_eq] at hq
          obtain ⟨ha, hb⟩ := hq.app
          obtain ⟨_, _, k⟩ := run_ok (Q := RQ P fn n k fun u B => u = res ∧ B = Bout) T _ _ _ _ _ _ _ _ _ _ _ _ hr ha ho
          refine k ?_
          unfold ended at hend
          split at hend
          · exact ac_ret (RQ.sub (pubL_ok hp) (finD_ok (.inl rfl) hfin hb))
          · exact RQ.sub (pubL_ok hp) (finD_ok (.inr rfl) hfin hb)
          · cases hend
        · cases h
      · cases h
    · cases h
  · cases h
end Orr

namespace Orr
open Go
/-- the first m limbs count -/
def Cut (l : List Nat) (m : Nat) : Prop := m ≤ l.length ∧ (∀ j, m ≤ j → j < l.length → l[j]? = some 0) ∧ (0 < m → ∃ x, l[m - 1]? = some x ∧ x ≠ 0)
/-- the number of a row -/
def val : List Nat → Nat
  | [] => 0
  | x :: l => x + 4294967296 * val l
/-- a normal row -/
def Nrm (l : List Nat) : Prop := (∀ x ∈ l, x < 4294967296) ∧ (l ≠ [] → ∃ x, l[l.length - 1]? = some x ∧ x ≠ 0)
/-- how many binary digits -/
def sz (x : Nat) : Nat := if x = 0 then 0 else x.log2 + 1
theorem sz_le {x k : Nat} : sz x ≤ k ↔ x < 2 ^ k := by
  unfold sz
  split
  · rename_i h; subst h; simp [Nat.pow_pos]
  · rename_i h
    rw [Nat.succ_le_iff, Nat.log2_lt h]
theorem lt_sz (x : Nat) : x < 2 ^ sz x := sz_le.1 (Nat.le_refl _)
theorem sz_mono {x y : Nat} (h : x ≤ y) : sz x ≤ sz y := sz_le.2 (Nat.lt_of_le_of_lt h (lt_sz y))
theorem sz_add (x y : Nat) : sz (x + y) ≤ max (sz x) (sz y) + 1 := by
  rw [sz_le, Nat.pow_succ]
  have h1 : x < 2 ^ max (sz x) (sz y) := sz_le.1 (Nat.le_max_left _ _)
  have h2 : y < 2 ^ max (sz x) (sz y) := sz_le.1 (Nat.le_max_right _ _)
  omega
theorem sz_mul (x y : Nat) : sz (x * y) ≤ sz x + sz y := by
  rw [sz_le, Nat.pow_add]
  rcases Nat.eq_zero_or_pos y with h | h
  · subst h; simp [Nat.pow_pos]
  · exact Nat.mul_lt_mul_of_lt_of_le (lt_sz x) (Nat.le_of_lt (lt_sz y)) (by exact Nat.pow_pos (by decide))
theorem sz_pos {x : Nat} (h : 0 < x) : 0 < sz x := by
  unfold sz; split
  · omega
  · omega

theorem val_append (l r : List Nat) : val (l ++ r) = val l + 4294967296 ^ l.length * val r := by
  induction l with
  | nil => simp [val]
  | cons x l ih => simp only [List.cons_append, val, List.length_cons, ih, Nat.pow_succ]; grind
theorem val_zeros (k : Nat) : val (List.replicate k 0) = 0 := by
  induction k with
  | zero => rfl
  | succ k ih => simp [List.replicate_succ, val, ih]
theorem val_lt (l : List Nat) (h : ∀ x ∈ l, x < 4294967296) : val l < 4294967296 ^ l.length := by
  induction l with
  | nil => simp [val]
  | cons x l ih =>
    have h1 := h x (List.mem_cons_self ..)
    have h2 := ih fun y hy => h y (List.mem_cons_of_mem _ hy)
    simp only [val, List.length_cons, Nat.pow_succ]
    omega
theorem val_take_succ (l : List Nat) (i x : Nat) (h : l[i]? = some x) : val (l.take (i + 1)) = val (l.take i) + 4294967296 ^ i * x := by
  have hi : i < l.length := (List.getElem?_eq_some_iff.1 h).1
  rw [List.take_add_one, h, val_append]
  simp only [Option.toList, List.length_take, Nat.min_eq_left (Nat.le_of_lt hi), val]
  simp
theorem cut_zeros {l : List Nat} {m : Nat} (h : Cut l m) : l.drop m = List.replicate (l.length - m) 0 := by
  apply List.ext_getElem?
  intro i
  rw [List.getElem?_drop, List.getElem?_replicate]
  split
  · rename_i hi
    exact h.2.1 (m + i) (by omega) (by omega)
  · rw [List.getElem?_eq_none (by have := h.1; omega)]
theorem cut_val {l : List Nat} {m : Nat} (h : Cut l m) : val (l.take m) = val l := by
  have : l = l.take m ++ l.drop m := (List.take_append_drop m l).symm
  conv => rhs; rw [this, cut_zeros h, val_append, val_zeros]
  simp
theorem cut_nrm {l : List Nat} {m : Nat} (h : Cut l m) (hl : ∀ x ∈ l, x < 4294967296) : Nrm (l.take m) := by
  refine ⟨fun x hx => hl x (List.mem_of_mem_take hx), fun hne => ?_⟩
  have hm : 0 < m := by
    rcases Nat.eq_zero_or_pos m with e | e
    · subst e; simp at hne
    · exact e
  obtain ⟨x, hx, hx0⟩ := h.2.2 hm
  have hlen : (l.take m).length = m := by rw [List.length_take]; have := h.1; omega
  refine ⟨x, ?_, hx0⟩
  rw [hlen, List.getElem?_take, if_pos (by omega), hx]
theorem nrm_low {l : List Nat} (h : Nrm l) (hne : l ≠ []) : 4294967296 ^ (l.length - 1) ≤ val l := by
  obtain ⟨x, hx, hx0⟩ := h.2 hne
  have hlen : 0 < l.length := List.length_pos_iff.2 hne
  have := val_take_succ l (l.length - 1) x hx
  rw [show l.length - 1 + 1 = l.length from by omega, List.take_length] at this
  rw [this]
  calc 4294967296 ^ (l.length - 1) = 4294967296 ^ (l.length - 1) * 1 := by rw [Nat.mul_one]
    _ ≤ 4294967296 ^ (l.length - 1) * x := Nat.mul_le_mul_left _ (by omega)
    _ ≤ _ := Nat.le_add_left _ _
theorem nrm_len {l : List Nat} (h : Nrm l) : 32 * l.length ≤ sz (val l) + 31 := by
  rcases l with _ | ⟨x, l⟩
  · simp
  · have h1 := nrm_low h (by simp)
    have h2 := lt_sz (val (x :: l))
    have h3 : (4294967296 : Nat) ^ ((x :: l).length - 1) < 2 ^ sz (val (x :: l)) := Nat.lt_of_le_of_lt h1 h2
    rw [show (4294967296 : Nat) = 2 ^ 32 from by decide, ← Nat.pow_mul] at h3
    have := (Nat.pow_lt_pow_iff_right (by decide : 1 < 2)).1 h3
    omega
theorem nrm_zero {l : List Nat} (h : Nrm l) : val l = 0 ↔ l = [] := by
  constructor
  · intro h0
    apply Classical.byContradiction
    intro hne
    have := nrm_low h hne
    have : 0 < 4294967296 ^ (l.length - 1) := Nat.pow_pos (by decide)
    omega
  · rintro rfl; rfl
theorem nrm_inj : ∀ {l r : List Nat}, Nrm l → Nrm r → val l = val r → l = r
  | [], r, _, hr, h => ((nrm_zero hr).1 h.symm).symm
  | x :: l, [], hl, _, h => (nrm_zero hl).1 h
  | x :: l, y :: r, hl, hr, h => by
    have hx := hl.1 x (List.mem_cons_self ..)
    have hy := hr.1 y (List.mem_cons_self ..)
    simp only [val] at h
    have h1 : x = y := by omega
    have h2 : val l = val r := by omega
    have tail : ∀ {z : Nat} {l : List Nat}, Nrm (z :: l) → Nrm l := fun {z l} hl => ⟨fun u hu => hl.1 u (List.mem_cons_of_mem _ hu), fun hne => by
      obtain ⟨u, hu, hu0⟩ := hl.2 (by simp)
      refine ⟨u, ?_, hu0⟩
      have := List.length_pos_iff.2 hne
      rw [List.length_cons, show l.length + 1 - 1 = (l.length - 1) + 1 from by omega, List.getElem?_cons_succ] at hu
      exact hu⟩
    rw [h1, nrm_inj (tail hl) (tail hr) h2]
/-- the longer normal row is the greater number -/
theorem nrm_lt_of_len {l r : List Nat} (hl : Nrm l) (hr : Nrm r) (h : l.length < r.length) : val l < val r := by
  have h1 := val_lt l hl.1
  have h2 := nrm_low hr (by rintro rfl; simp at h)
  have : (4294967296 : Nat) ^ l.length ≤ 4294967296 ^ (r.length - 1) := Nat.pow_le_pow_right (by decide) (by omega)
  omega

theorem val_split (l : List Nat) (k x : Nat) (hx : l[k]? = some x) : val l = val (l.take k) + 4294967296 ^ k * (x + 4294967296 * val (l.drop (k + 1))) := by
  have hk : k < l.length := (List.getElem?_eq_some_iff.1 hx).1
  have e : l = l.take k ++ (x :: l.drop (k + 1)) := by
    have h2 : l[k] = x := (List.getElem?_eq_some_iff.1 hx).2
    rw [← h2, ← List.drop_eq_getElem_cons hk, List.take_append_drop]
  have h1 : (l.take k).length = k := by rw [List.length_take]; omega
  conv => lhs; rw [e, val_append, h1]
  rfl
theorem val_top {l r : List Nat} {k x y : Nat} (hl : ∀ x ∈ l, x < 4294967296) (hd : l.drop (k + 1) = r.drop (k + 1)) (hx : l[k]? = some x) (hy : r[k]? = some y) (h : x < y) : val l < val r := by
  rw [val_split l k x hx, val_split r k y hy, hd]
  have h1 := val_lt (l.take k) (fun x hx => hl x (List.mem_of_mem_take hx))
  have h2 : (l.take k).length ≤ k := by rw [List.length_take]; omega
  have h3 : (4294967296 : Nat) ^ (l.take k).length ≤ 4294967296 ^ k := Nat.pow_le_pow_right (by decide) h2
  have h4 : 4294967296 ^ k * (x + 1 + 4294967296 * val (r.drop (k + 1))) ≤ 4294967296 ^ k * (y + 4294967296 * val (r.drop (k + 1))) := Nat.mul_le_mul_left _ (by omega)
  rw [show x + 1 + 4294967296 * val (r.drop (k + 1)) = (x + 4294967296 * val (r.drop (k + 1))) + 1 from by omega, Nat.mul_add, Nat.mul_one] at h4
  omega
theorem drop_same {l r : List Nat} {k x : Nat} (hd : l.drop (k + 1) = r.drop (k + 1)) (hx : l[k]? = some x) (hy : r[k]? = some x) : l.drop k = r.drop k := by
  obtain ⟨h1, e1⟩ := List.getElem?_eq_some_iff.1 hx
  obtain ⟨h2, e2⟩ := List.getElem?_eq_some_iff.1 hy
  rw [List.drop_eq_getElem_cons h1, List.drop_eq_getElem_cons h2, hd, e1, e2]
/-- which number is greater -/
def cmpN (x y : Nat) : Int := if x < y then -1 else if y < x then 1 else 0
theorem cmpN_lt {x y : Nat} (h : x < y) : cmpN x y = -1 := by unfold cmpN; rw [if_pos h]
theorem cmpN_gt {x y : Nat} (h : y < x) : cmpN x y = 1 := by unfold cmpN; rw [if_neg (by omega), if_pos h]
theorem cmpN_eq {x y : Nat} (h : x = y) : cmpN x y = 0 := by unfold cmpN; rw [if_neg (by omega), if_neg (by omega)]
theorem or_add {k q : Nat} (hq : q < 4294967296) : (4294967296 * k) ||| q = 4294967296 * k + q := by
  have := Nat.two_pow_add_eq_or_of_lt (i := 32) (b := q) (by omega) k
  simpa using this.symm

theorem take_set_same (o : List Nat) (i v : Nat) : (o.set i v).take i = o.take i := by
  apply List.ext_getElem?
  intro j
  rw [List.getElem?_take, List.getElem?_take]
  split
  · rw [List.getElem?_set_ne (by omega)]
  · rfl
theorem val_set (o : List Nat) (i v : Nat) (h : i < o.length) : val ((o.set i v).take (i + 1)) = val (o.take i) + 4294967296 ^ i * v := by
  rw [val_take_succ (o.set i v) i v (by rw [List.getElem?_set_self h]), take_set_same]
theorem take_of_le (r : List Nat) (i : Nat) (h : r.length ≤ i) : r.take (i + 1) = r.take i := by
  rw [List.take_of_length_le (by omega), List.take_of_length_le h]
theorem val_next {r : List Nat} {i y : Nat} (hy : r[i]? = some y ∨ (r.length ≤ i ∧ y = 0)) : val (r.take (i + 1)) = val (r.take i) + 4294967296 ^ i * y := by
  rcases hy with hy | ⟨h, rfl⟩
  · exact val_take_succ r i y hy
  · rw [take_of_le r i h]; omega
theorem add_step {o l r : List Nat} {i x y s cy : Nat} (ho : i < o.length) (hx : l[i]? = some x) (hy : r[i]? = some y ∨ (r.length ≤ i ∧ y = 0))
    (h : val (o.take i) + cy * 4294967296 ^ i = val (l.take i) + val (r.take i)) (hs : s = x + cy + y) :
    val ((o.set i (s % 4294967296)).take (i + 1)) + (s / 4294967296) * 4294967296 ^ (i + 1) = val (l.take (i + 1)) + val (r.take (i + 1)) := by
  rw [val_set o i _ ho, val_take_succ l i x hx, val_next hy, Nat.pow_succ]
  have e : s = 4294967296 * (s / 4294967296) + s % 4294967296 := (Nat.div_add_mod s 4294967296).symm
  generalize s / 4294967296 = q at *
  generalize s % 4294967296 = m at *
  generalize 4294967296 ^ i = p at *
  grind
theorem set_lt {o : List Nat} (h : ∀ x ∈ o, x < 4294967296) (i v : Nat) (hv : v < 4294967296) : ∀ x ∈ o.set i v, x < 4294967296 := by
  intro x hx
  rcases List.mem_or_eq_of_mem_set hx with h' | h'
  · exact h x h'
  · omega
/-- a borrow: what is taken is y + b, what is left s, round 2^64 -/
theorem sub_step {o l r : List Nat} {i x y s b : Nat} (ho : i < o.length) (hx : l[i]? = some x) (hy : r[i]? = some y ∨ (r.length ≤ i ∧ y = 0)) (hxb : x < 4294967296) (hyb : y < 4294967296) (hb : b ≤ 1)
    (h : val (o.take i) + val (r.take i) = val (l.take i) + b * 4294967296 ^ i) (hs : s = (x + 18446744073709551616 - b - y) % 18446744073709551616) :
    val ((o.set i (s % 4294967296)).take (i + 1)) + val (r.take (i + 1)) = val (l.take (i + 1)) + (s / 9223372036854775808) * 4294967296 ^ (i + 1) ∧ s / 9223372036854775808 ≤ 1 := by
  rw [val_set o i _ ho, val_take_succ l i x hx, val_next hy, Nat.pow_succ]
  by_cases hlt : x < b + y
  · have e1 : s = 18446744073709551616 + x - b - y := by omega
    have e2 : s / 9223372036854775808 = 1 := by omega
    have e3 : s % 4294967296 + b + y = x + 4294967296 := by omega
    rw [e2]
    generalize s % 4294967296 = m at *
    generalize 4294967296 ^ i = p at *
    exact ⟨by grind, by omega⟩
  · have e1 : s = x - b - y := by omega
    have e2 : s / 9223372036854775808 = 0 := by omega
    have e3 : s % 4294967296 + b + y = x := by omega
    rw [e2]
    generalize s % 4294967296 = m at *
    generalize 4294967296 ^ i = p at *
    exact ⟨by grind, by omega⟩

theorem val_set_eq (o : List Nat) (i v z : Nat) (hz : o[i]? = some z) : val (o.set i v) + 4294967296 ^ i * z = val o + 4294967296 ^ i * v := by
  have hi : i < o.length := (List.getElem?_eq_some_iff.1 hz).1
  have h1 := val_split o i z hz
  have h2 := val_split (o.set i v) i v (by rw [List.getElem?_set_self hi])
  have e : (o.set i v).drop (i + 1) = o.drop (i + 1) := by
    apply List.ext_getElem?
    intro j
    rw [List.getElem?_drop, List.getElem?_drop, List.getElem?_set_ne (by omega)]
  rw [take_set_same, e] at h2
  rw [h1, h2]
  generalize 4294967296 ^ i = p
  grind
theorem mul_le_limb {x y : Nat} (hx : x < 4294967296) (hy : y < 4294967296) : x * y ≤ 18446744065119617025 := by
  have := Nat.mul_le_mul (show x ≤ 4294967295 by omega) (show y ≤ 4294967295 by omega)
  omega
/-- a product's row: one limb more -/
theorem mul_step {o' r : List Nat} {i k x y z s cy V : Nat} (hz : o'[i + k]? = some z) (hy : r[k]? = some y)
    (h : val o' + cy * 4294967296 ^ (i + k) = V + 4294967296 ^ i * x * val (r.take k)) (hs : s = x * y + z + cy) :
    val (o'.set (i + k) (s % 4294967296)) + (s / 4294967296) * 4294967296 ^ (i + (k + 1)) = V + 4294967296 ^ i * x * val (r.take (k + 1)) := by
  have h1 := val_set_eq o' (i + k) (s % 4294967296) z hz
  rw [val_take_succ r k y hy, show i + (k + 1) = (i + k) + 1 from by omega, Nat.pow_succ]
  have e : s = 4294967296 * (s / 4294967296) + s % 4294967296 := (Nat.div_add_mod s 4294967296).symm
  have hp : (4294967296 : Nat) ^ (i + k) = 4294967296 ^ i * 4294967296 ^ k := Nat.pow_add _ _ _
  generalize s / 4294967296 = q at *
  generalize s % 4294967296 = m at *
  generalize val (o'.set (i + k) m) = A at *
  rw [hp] at h h1 ⊢
  clear hz hy hp
  generalize val (r.take k) = R at *
  generalize val o' = O at *
  generalize (4294967296 : Nat) ^ i = pi at *
  generalize (4294967296 : Nat) ^ k = pk at *
  grind
theorem mul_last {o' l r : List Nat} {i x cy V : Nat} (hz : o'[i + r.length]? = some 0) (hx : l[i]? = some x) (hcy : cy < 4294967296) (hV : V = val (l.take i) * val r)
    (h : val o' + cy * 4294967296 ^ (i + r.length) = V + 4294967296 ^ i * x * val (r.take r.length)) :
    val (o'.set (i + r.length) (cy % 4294967296)) = val (l.take (i + 1)) * val r := by
  have h1 := val_set_eq o' (i + r.length) (cy % 4294967296) 0 hz
  rw [Nat.mod_eq_of_lt hcy] at *
  rw [List.take_length] at h
  rw [val_take_succ l i x hx]
  clear hz hx
  generalize (4294967296 : Nat) ^ (i + r.length) = p at *
  generalize (4294967296 : Nat) ^ i = pi at *
  grind
end Orr
namespace Orr
theorem val_drop (l : List Nat) (k x : Nat) (hx : l[k]? = some x) : val (l.drop k) = x + 4294967296 * val (l.drop (k + 1)) := by
  obtain ⟨h, e⟩ := List.getElem?_eq_some_iff.1 hx
  rw [List.drop_eq_getElem_cons h, e]; rfl
theorem drop_set (o : List Nat) (i v k : Nat) (h : i < k) : (o.set i v).drop k = o.drop k := by
  apply List.ext_getElem?
  intro j
  rw [List.getElem?_drop, List.getElem?_drop, List.getElem?_set_ne (by omega)]
/-- one limb of a quotient by a limb -/
theorem one_step {l o : List Nat} {k x w r s : Nat} (hx : l[k]? = some x) (hxb : x < 4294967296) (ho : k < o.length) (hw : 0 < w) (hr : r < w)
    (h : val (l.drop (k + 1)) = w * val (o.drop (k + 1)) + r) (hs : s = r * 4294967296 + x) :
    s / w < 4294967296 ∧ s % w < w ∧ val (l.drop k) = w * val ((o.set k (s / w % 4294967296)).drop k) + s % w := by
  have h1 : s < w * 4294967296 := by
    have : (r + 1) * 4294967296 ≤ w * 4294967296 := Nat.mul_le_mul_right _ hr
    omega
  have h2 : s / w < 4294967296 := Nat.div_lt_of_lt_mul h1
  refine ⟨h2, Nat.mod_lt _ hw, ?_⟩
  rw [Nat.mod_eq_of_lt h2, val_drop l k x hx, val_drop (o.set k (s / w)) k (s / w) (List.getElem?_set_self ho), drop_set o k _ (k + 1) (by omega), h]
  have e := Nat.div_add_mod s w
  generalize s / w = q at *
  generalize s % w = m at *
  clear hx h
  grind
/-- B is the base, top the highest limb, nx the next one -/
theorem est_start {B X Y q top nx Yr h3 Xr p : Nat} (hY : Y = (top * B + nx) * p + Yr) (hX : X = h3 * p + Xr) (hXr : Xr < p) (hq : q * Y ≤ X) {head x2 : Nat} (h3e : h3 = head * B + x2) (hx2 : x2 < B) (ht : 0 < top) :
    q ≤ head / top := by
  rw [Nat.le_div_iff_mul_le ht]
  rcases Nat.lt_or_ge head (q * top) with h | h
  · exfalso
    have h1 : (head + 1) * B * p ≤ q * top * B * p := Nat.mul_le_mul_right _ (Nat.mul_le_mul_right _ h)
    have h2 : q * top * B * p ≤ q * Y := by
      rw [hY, Nat.mul_add]
      have : q * ((top * B + nx) * p) = q * top * B * p + q * nx * p := by grind
      omega
    have h4 : h3 * p + p ≤ (head + 1) * B * p := by
      have : (h3 + 1) * p ≤ (head + 1) * B * p := Nat.mul_le_mul_right _ (by rw [h3e, Nat.succ_mul]; omega)
      have e : (h3 + 1) * p = h3 * p + p := by grind
      omega
    omega
  · exact h
/-- too great: the next lower one will do -/
theorem est_down {B X Y q top nx Yr h3 Xr p g r head x2 : Nat} (hY : Y = (top * B + nx) * p + Yr) (hX : X = h3 * p + Xr) (hXr : Xr < p) (hq : q * Y ≤ X) (h3e : h3 = head * B + x2) (hg : g * top + r = head)
    (hc : g * nx > r * B + x2) (hle : q ≤ g) : q ≤ g - 1 := by
  rcases Nat.eq_or_lt_of_le hle with h | h
  · exfalso
    subst h
    have h1 : h3 + 1 ≤ q * (top * B + nx) := by
      have e : q * (top * B + nx) = q * top * B + q * nx := by grind
      have e2 : head * B = q * top * B + r * B := by rw [← hg]; grind
      rw [h3e, e, e2]; omega
    have h2 : (h3 + 1) * p ≤ q * (top * B + nx) * p := Nat.mul_le_mul_right _ h1
    have h4 : q * (top * B + nx) * p ≤ q * Y := by
      have : q * ((top * B + nx) * p) = q * (top * B + nx) * p := by grind
      rw [hY, Nat.mul_add q ((top * B + nx) * p) Yr, this]; exact Nat.le_add_right _ _
    have e : (h3 + 1) * p = h3 * p + p := by grind
    omega
  · omega
/-- small enough: one less will surely do -/
theorem est_end {B X Y top nx Yr h3 Xr p g r head x2 : Nat} (hY : Y = (top * B + nx) * p + Yr) (hYr : Yr < p) (hX : X = h3 * p + Xr) (h3e : h3 = head * B + x2) (hg : g * top + r = head) (ht : 0 < top)
    (hc : g * nx ≤ r * B + x2) (hgB : g ≤ B) : (g - 1) * Y ≤ X := by
  rcases Nat.eq_zero_or_pos g with h0 | h0
  · subst h0; simp
  · obtain ⟨k, rfl⟩ : ∃ k, g = k + 1 := ⟨g - 1, by omega⟩
    simp only [Nat.add_sub_cancel]
    have h1 : (k + 1) * (top * B + nx) ≤ h3 := by
      have e : (k + 1) * (top * B + nx) = (k + 1) * top * B + (k + 1) * nx := by grind
      have e2 : head * B = (k + 1) * top * B + r * B := by rw [← hg]; grind
      rw [h3e, e, e2]; omega
    have h2 : (k + 1) * (top * B + nx) * p ≤ h3 * p := Nat.mul_le_mul_right _ h1
    have h3' : k * Yr ≤ k * p := Nat.mul_le_mul_left _ (by omega)
    have h5 : B ≤ top * B := Nat.le_mul_of_pos_left _ ht
    have h4 : k * p ≤ (top * B + nx) * p := Nat.mul_le_mul_right _ (by omega)
    have e1 : k * Y = k * (top * B + nx) * p + k * Yr := by rw [hY]; grind
    have e2 : (k + 1) * (top * B + nx) * p = k * (top * B + nx) * p + (top * B + nx) * p := by grind
    omega
/-- one limb less g times one limb -/
theorem mulsub_step {o x y : List Nat} {i u w g c b p s : Nat} (ho : i < o.length) (hu : x[i]? = some u) (hw : y[i]? = some w) (hub : u < 4294967296) (hb : b ≤ 1)
    (h : val (o.take i) + g * val (y.take i) = val (x.take i) + (c + b) * 4294967296 ^ i) (hp : p = g * w + c)
    (hs : s = ((u + 18446744073709551616 - p % 4294967296) % 18446744073709551616 + 18446744073709551616 - b) % 18446744073709551616) :
    val ((o.set i (s % 4294967296)).take (i + 1)) + g * val (y.take (i + 1)) = val (x.take (i + 1)) + (p / 4294967296 + s / 9223372036854775808) * 4294967296 ^ (i + 1) ∧ s / 9223372036854775808 ≤ 1 := by
  rw [val_set o i _ ho, val_take_succ x i u hu, val_take_succ y i w hw, Nat.pow_succ]
  have ep : p = 4294967296 * (p / 4294967296) + p % 4294967296 := (Nat.div_add_mod p 4294967296).symm
  have hpl : p % 4294967296 < 4294967296 := Nat.mod_lt _ (by decide)
  generalize p / 4294967296 = ph at *
  generalize p % 4294967296 = pl at *
  have key : s % 4294967296 + pl + b = u + (s / 9223372036854775808) * 4294967296 ∧ s / 9223372036854775808 ≤ 1 := by omega
  refine ⟨?_, key.2⟩
  have k1 := key.1
  generalize s % 4294967296 = m at *
  generalize s / 9223372036854775808 = b' at *
  generalize (4294967296 : Nat) ^ i = P at *
  clear hs hub hu hw ho hpl key
  have e1 : g * (val (y.take i) + P * w) = g * val (y.take i) + P * (g * w) := by grind
  have e2 : g * w + c = 4294967296 * ph + pl := by omega
  have e3 : P * (g * w) + P * c = P * (4294967296 * ph) + P * pl := by rw [← Nat.mul_add, ← Nat.mul_add, e2]
  have e4 : P * m + P * pl + P * b = P * u + P * (b' * 4294967296) := by rw [← Nat.mul_add, ← Nat.mul_add, ← Nat.mul_add, k1]
  grind
theorem mulsub_step' {o x y : List Nat} {i u w g c b : Nat} (ho : i < o.length) (hu : x[i]? = some u) (hw : y[i]? = some w) (hub : u < 4294967296) (hb : b ≤ 1)
    (h : val (o.take i) + g * val (y.take i) = val (x.take i) + (c + b) * 4294967296 ^ i) {p s : Nat} (hp : p = g * w + c)
    (hs : s = ((u + 18446744073709551616 - p % 4294967296) % 18446744073709551616 + 18446744073709551616 - b) % 18446744073709551616) :
    val ((o.set i (s % 4294967296)).take (i + 1)) + g * val (y.take (i + 1)) = val (x.take (i + 1)) + (p / 2 ^ 32 + s / 2 ^ 63) * 4294967296 ^ (i + 1) ∧ s / 2 ^ 63 ≤ 1 :=
  mulsub_step ho hu hw hub hb h hp hs
theorem val_top1 {l : List Nat} {k c : Nat} (hl : l.length = k + 1) (hc : l[k]? = some c) : val l = val (l.take k) + 4294967296 ^ k * c := by
  rw [← val_take_succ l k c hc, List.take_of_length_le (by omega)]
theorem val_take_lt {l : List Nat} (hb : ∀ u ∈ l, u < 4294967296) {k : Nat} (hk : k ≤ l.length) : val (l.take k) < 4294967296 ^ k := by
  have := val_lt (l.take k) (fun u hu => hb u (List.mem_of_mem_take hu))
  rwa [List.length_take, Nat.min_eq_left hk] at this
theorem drop_get {o x : List Nat} {i : Nat} (h : o.drop i = x.drop i) : o[i]? = x[i]? := by
  have := congrArg (·[0]?) h
  simpa using this
theorem drop_next {o x : List Nat} {i v : Nat} (h : o.drop i = x.drop i) : (o.set i v).drop (i + 1) = x.drop (i + 1) := by
  rw [drop_set o i v (i + 1) (by omega)]
  have := congrArg (List.drop 1) h
  simpa [List.drop_drop] using this
/-- what a digit begins with -/
structure Dig (x l : List Nat) (n top nx xn x1 x2 : Nat) : Prop where
  hn : 2 ≤ n
  hl : l.length = n
  hx : x.length = n + 1
  lb : ∀ u ∈ l, u < 4294967296
  xb : ∀ u ∈ x, u < 4294967296
  ltop : l[n - 1]? = some top
  lnx : l[n - 2]? = some nx
  xn : x[n]? = some xn
  x1 : x[n - 1]? = some x1
  x2 : x[n - 2]? = some x2
  top0 : 0 < top
  lt : val x < val l * 4294967296
section
variable {x l : List Nat} {n top nx xn x1 x2 : Nat} (D : Dig x l n top nx xn x1 x2)
include D
theorem Dig.parts : ∃ p Yr Xr, val l = (top * 4294967296 + nx) * p + Yr ∧ Yr < p ∧ val x = ((xn * 2 ^ 32 + x1) * 4294967296 + x2) * p + Xr ∧ Xr < p := by
  obtain ⟨hn, hl, hx, lb, xb, ltop, lnx, exn, ex1, ex2, _, _⟩ := D
  obtain ⟨k, rfl⟩ : ∃ k, n = k + 2 := ⟨n - 2, by omega⟩
  simp only [show k + 2 - 1 = k + 1 from by omega, Nat.add_sub_cancel] at *
  refine ⟨4294967296 ^ k, val (l.take k), val (x.take k), ?_, val_take_lt lb (by omega), ?_, val_take_lt xb (by omega)⟩
  · rw [val_top1 hl ltop, val_take_succ l k nx lnx, Nat.pow_succ]
    generalize (4294967296 : Nat) ^ k = p
    grind
  · have e32 : (2 : Nat) ^ 32 = 4294967296 := by decide
    have q1 : (4294967296 : Nat) ^ (k + 1) = 4294967296 ^ k * 4294967296 := Nat.pow_succ _ _
    have q2 : (4294967296 : Nat) ^ (k + 2) = 4294967296 ^ k * 4294967296 * 4294967296 := by rw [← q1]; exact Nat.pow_succ _ _
    rw [val_top1 hx exn, val_take_succ x (k + 1) x1 ex1, val_take_succ x k x2 ex2, q1, q2, e32]
    clear q1 q2
    generalize (4294967296 : Nat) ^ k = p
    grind
theorem Dig.Ypos : 0 < val l := by
  obtain ⟨p, Yr, Xr, hY, hYr, _, _⟩ := D.parts
  have h1 : 0 < top * 4294967296 + nx := by have := D.top0; omega
  have := Nat.mul_pos h1 (show 0 < p by omega)
  omega
theorem Dig.qlt : val x / val l < 4294967296 := Nat.div_lt_of_lt_mul D.lt
theorem Dig.qle : val x / val l * val l ≤ val x := Nat.div_mul_le_self _ _
theorem Dig.bnd : top < 4294967296 ∧ nx < 4294967296 ∧ xn < 4294967296 ∧ x1 < 4294967296 ∧ x2 < 4294967296 :=
  ⟨D.lb _ (List.mem_of_getElem? D.ltop), D.lb _ (List.mem_of_getElem? D.lnx), D.xb _ (List.mem_of_getElem? D.xn), D.xb _ (List.mem_of_getElem? D.x1), D.xb _ (List.mem_of_getElem? D.x2)⟩
theorem Dig.head_le : xn * 2 ^ 32 + x1 < top * 4294967296 + 4294967296 := by
  obtain ⟨p, Yr, Xr, hY, hYr, hX, hXr⟩ := D.parts
  have hlt := D.lt
  have hb := D.bnd
  have e32 : (2 : Nat) ^ 32 = 4294967296 := by decide
  rw [e32] at hX ⊢
  rcases Nat.lt_or_ge xn (top + 1) with h | h
  · omega
  · exfalso
    have h1 : val l < (top + 1) * 4294967296 * p := by
      have h2 : (top * 4294967296 + nx + 1) * p ≤ (top + 1) * 4294967296 * p := Nat.mul_le_mul_right _ (by omega)
      have e : (top * 4294967296 + nx + 1) * p = (top * 4294967296 + nx) * p + p := by grind
      omega
    have h3 : (top + 1) * 4294967296 * 4294967296 * p ≤ ((xn * 4294967296 + x1) * 4294967296 + x2) * p := Nat.mul_le_mul_right _ (by omega)
    have h4 : val l * 4294967296 < (top + 1) * 4294967296 * p * 4294967296 := Nat.mul_lt_mul_of_pos_right h1 (by decide)
    have e2 : (top + 1) * 4294967296 * p * 4294967296 = (top + 1) * 4294967296 * 4294967296 * p := by
      generalize (4294967296 : Nat) = B; grind
    omega
theorem Dig.start : val x / val l ≤ (xn * 2 ^ 32 + x1) / top := by
  obtain ⟨p, Yr, Xr, hY, hYr, hX, hXr⟩ := D.parts
  exact est_start hY hX hXr D.qle rfl D.bnd.2.2.2.2 D.top0
theorem Dig.fin {g r : Nat} (hg : g * top + r = xn * 2 ^ 32 + x1) (hc : g * nx ≤ r * 2 ^ 32 + x2) (hB : g ≤ 4294967296) : (g - 1) * val l ≤ val x := by
  obtain ⟨p, Yr, Xr, hY, hYr, hX, hXr⟩ := D.parts
  have e32 : (2 : Nat) ^ 32 = 4294967296 := by decide
  rw [e32] at hc
  exact est_end hY hYr hX rfl hg D.top0 hc hB
theorem Dig.round {g r : Nat} (hg : g * top + r = xn * 2 ^ 32 + x1) (hq : val x / val l ≤ g) (hc : 4294967296 ≤ g ∨ r * 2 ^ 32 + x2 < g * nx) :
    1 ≤ g ∧ val x / val l ≤ g - 1 ∧ (g - 1) * top + (r + top) = xn * 2 ^ 32 + x1 ∧ (4294967296 ≤ r + top → (g - 1 - 1) * val l ≤ val x ∧ g - 1 ≤ 4294967296) := by
  have e32 : (2 : Nat) ^ 32 = 4294967296 := by decide
  have hb := D.bnd
  have h1 : 1 ≤ g := by
    rcases hc with h | h
    · omega
    · rcases Nat.eq_zero_or_pos g with h0 | h0
      · subst h0; simp at h
      · exact h0
  have h2 : val x / val l ≤ g - 1 := by
    rcases hc with h | h
    · have := D.qlt; omega
    · obtain ⟨p, Yr, Xr, hY, hYr, hX, hXr⟩ := D.parts
      rw [e32] at h
      exact est_down hY hX hXr D.qle rfl hg h hq
  obtain ⟨k, rfl⟩ : ∃ k, g = k + 1 := ⟨g - 1, by omega⟩
  simp only [Nat.add_sub_cancel] at h2 ⊢
  have h3 : k * top + (r + top) = xn * 2 ^ 32 + x1 := by rw [← hg, Nat.succ_mul]; omega
  refine ⟨h1, h2, h3, fun hr => ?_⟩
  have hk : k < 4294967296 := by
    have hh := D.head_le
    rcases Nat.lt_or_ge k 4294967296 with h | h
    · exact h
    · have := Nat.mul_le_mul_right top h
      omega
  refine ⟨D.fin h3 ?_ (by omega), by omega⟩
  have h4 := mul_le_limb hk hb.2.1
  rw [e32]
  have h5 : 4294967296 * 4294967296 ≤ (r + top) * 4294967296 := Nat.mul_le_mul_right _ hr
  omega
/-- nothing borrowed at the top: g was right -/
theorem Dig.fin0 {o : List Nat} {g c b s : Nat} (ho : o.length = n + 1) (hc : c < 4294967296) (hb : b ≤ 1) (hq : val x / val l ≤ g)
    (h : val (o.take n) + g * val l = val (x.take n) + (c + b) * 4294967296 ^ n)
    (hs : s = ((xn + 18446744073709551616 - c) % 18446744073709551616 + 18446744073709551616 - b) % 18446744073709551616) (hs0 : s / 2 ^ 63 = 0) :
    g % 4294967296 = val x / val l ∧ val (o.set n (s % 4294967296)) = val x % val l := by
  have hbd := D.bnd
  have e63 : (2 : Nat) ^ 63 = 9223372036854775808 := by decide
  rw [e63] at hs0
  have hs1 : s = xn - c - b ∧ c + b ≤ xn := by omega
  have hsB : s % 4294967296 = xn - c - b := by omega
  have hset : (o.set n (s % 4294967296))[n]? = some (s % 4294967296) := by rw [List.getElem?_set_self (by omega)]
  have ev : val (o.set n (s % 4294967296)) = val (o.take n) + 4294967296 ^ n * (xn - c - b) := by
    rw [val_top1 (by rw [List.length_set]; exact ho) hset, take_set_same, hsB]
  have eX := val_top1 D.hx D.xn
  have key : val (o.set n (s % 4294967296)) + g * val l = val x := by
    rw [ev, eX]
    obtain ⟨m, rfl⟩ : ∃ m, xn = m + (c + b) := ⟨xn - (c + b), by omega⟩
    rw [show m + (c + b) - c - b = m from by omega]
    generalize (4294967296 : Nat) ^ n = p at *
    have : p * (m + (c + b)) = p * m + (c + b) * p := by grind
    omega
  have hg : g ≤ val x / val l := by
    rw [Nat.le_div_iff_mul_le D.Ypos]; omega
  have hgq : g = val x / val l := by omega
  have hgB := D.qlt
  have hdm := Nat.div_add_mod (val x) (val l)
  rw [← hgq] at hdm hgB ⊢
  refine ⟨Nat.mod_eq_of_lt hgB, ?_⟩
  rw [Nat.mul_comm] at hdm
  omega
/-- one too many -/
theorem Dig.fin1 {o : List Nat} {g c b s : Nat} (ho : o.length = n + 1) (hob : ∀ u ∈ o, u < 4294967296) (hc : c < 4294967296) (hb : b ≤ 1) (hg1 : (g - 1) * val l ≤ val x)
    (h : val (o.take n) + g * val l = val (x.take n) + (c + b) * 4294967296 ^ n)
    (hs : s = ((xn + 18446744073709551616 - c) % 18446744073709551616 + 18446744073709551616 - b) % 18446744073709551616) (hs0 : ¬ s / 2 ^ 63 = 0) :
    g = val x / val l + 1 ∧ val (o.set n (s % 4294967296)) + val l = val x % val l + 4294967296 ^ n * 4294967296 := by
  have hbd := D.bnd
  have e63 : (2 : Nat) ^ 63 = 9223372036854775808 := by decide
  rw [e63] at hs0
  have hsB : s % 4294967296 + (c + b) = xn + 4294967296 := by omega
  have hset : (o.set n (s % 4294967296))[n]? = some (s % 4294967296) := by rw [List.getElem?_set_self (by omega)]
  have hm : s % 4294967296 < 4294967296 := Nat.mod_lt _ (by decide)
  have ev : val (o.set n (s % 4294967296)) = val (o.take n) + 4294967296 ^ n * (s % 4294967296) := by
    rw [val_top1 (by rw [List.length_set]; exact ho) hset, take_set_same]
  have eX := val_top1 D.hx D.xn
  have hlt : val (o.take n) < 4294967296 ^ n := val_take_lt hob (by omega)
  have key : val (o.set n (s % 4294967296)) + g * val l = val x + 4294967296 ^ n * 4294967296 := by
    rw [ev, eX]
    generalize (4294967296 : Nat) ^ n = p at *
    have e1 : p * (s % 4294967296 + (c + b)) = p * (xn + 4294967296) := by rw [hsB]
    rw [Nat.mul_add p (s % 4294967296) (c + b), Nat.mul_add p xn, Nat.mul_comm p (c + b)] at e1
    omega
  have hvlt : val (o.set n (s % 4294967296)) < 4294967296 ^ n * 4294967296 := by
    have := val_lt (o.set n (s % 4294967296)) (set_lt hob _ _ hm)
    rwa [List.length_set, ho, Nat.pow_succ] at this
  have hq1 : g - 1 ≤ val x / val l := (Nat.le_div_iff_mul_le D.Ypos).2 hg1
  have hq2 : val x / val l < g := by
    rw [Nat.div_lt_iff_lt_mul D.Ypos]; omega
  have hgq : g = val x / val l + 1 := by omega
  refine ⟨hgq, ?_⟩
  have hdm := Nat.div_add_mod (val x) (val l)
  rw [hgq, Nat.succ_mul] at key
  rw [Nat.mul_comm] at hdm
  omega
/-- added back -/
theorem Dig.fin2 {o1 o2 : List Nat} {v bk : Nat} (h1 : o1.length = n + 1) (h1b : ∀ u ∈ o1, u < 4294967296) (h2 : o2.length = n + 1) (h2b : ∀ u ∈ o2, u < 4294967296) (hv : o1[n]? = some v) (hbk : bk ≤ 1)
    (hk : val o1 + val l = val x % val l + 4294967296 ^ n * 4294967296) (h : val (o2.take n) + bk * 4294967296 ^ n = val (o1.take n) + val l) :
    val (o2.set n ((v + bk) % 4294967296)) = val x % val l := by
  have hset : (o2.set n ((v + bk) % 4294967296))[n]? = some ((v + bk) % 4294967296) := by rw [List.getElem?_set_self (by omega)]
  rw [val_top1 (by rw [List.length_set]; exact h2) hset, take_set_same]
  rw [val_top1 h1 hv] at hk
  have hvb := h1b _ (List.mem_of_getElem? hv)
  have hlt : val (o2.take n) < 4294967296 ^ n := val_take_lt h2b (by omega)
  have hY : val l < 4294967296 ^ n := by have := val_lt l D.lb; rwa [D.hl] at this
  have hR : val x % val l < val l := Nat.mod_lt _ D.Ypos
  generalize (4294967296 : Nat) ^ n = p at *
  have e : val (o2.take n) + p * (v + bk) = val x % val l + p * 4294967296 := by
    rw [Nat.mul_add, Nat.mul_comm p bk]; omega
  have hvk : v + bk = 4294967296 := by
    rcases Nat.lt_trichotomy (v + bk) 4294967296 with h' | h' | h'
    · have := Nat.mul_le_mul_left p h'
      rw [Nat.mul_succ] at this
      omega
    · exact h'
    · omega
  rw [hvk] at e ⊢
  simp
  omega
end
end Orr
namespace Orr
open Go
theorem sub32 {g q : Nat} (h : g = q + 1) (hq : q < 4294967296) : IntKind.u32.wrap (((g % 4294967296 : Nat) : Int) - 1) = (q : Int) := by
  subst h
  simp [IntKind.wrap, IntKind.bits, IntKind.signed]
  omega
/-- the window of a round -/
def win (o : List Nat) (i n : Nat) : List Nat := (o.drop i).take (n + 1)
theorem win_split (o : List Nat) (i n : Nat) : o.take i ++ win o i n ++ o.drop (i + n + 1) = o := by
  unfold win
  rw [List.append_assoc, show o.drop (i + n + 1) = (o.drop i).drop (n + 1) from by rw [List.drop_drop]; congr 1]
  rw [List.take_append_drop, List.take_append_drop]
theorem win_len {o : List Nat} {i n : Nat} (h : i + n < o.length) : (win o i n).length = n + 1 := by
  unfold win
  rw [List.length_take, List.length_drop]; omega
theorem win_mem {o : List Nat} {i n x : Nat} (h : x ∈ win o i n) : x ∈ o := List.mem_of_mem_drop (List.mem_of_mem_take h)
theorem val_three (p w q : List Nat) : val (p ++ w ++ q) = val p + 4294967296 ^ p.length * (val w + 4294967296 ^ w.length * val q) := by
  rw [List.append_assoc, val_append, val_append]
/-- limbs, and how great they are -/
structure Rest (o l : List Nat) (la n m : Nat) : Prop where
  ol : o.length = la + 1
  ob : ∀ u ∈ o, u < 4294967296
  ll : l.length = n
  lb : ∀ u ∈ l, u < 4294967296
  n2 : 2 ≤ n
  top : 4294967296 ^ (n - 1) ≤ val l
  hm : m + n ≤ la + 1
  lt : val o < val l * 4294967296 ^ m
section
variable {o l : List Nat} {la n m : Nat}
theorem Rest.zero (R : Rest o l la n (m + 1)) : val (o.drop (m + n + 1)) = 0 := by
  have hlen := win_len (o := o) (i := m) (n := n) (by have := R.ol; have := R.hm; omega)
  have h1 := val_three (o.take m) (win o m n) (o.drop (m + n + 1))
  rw [win_split, hlen, List.length_take, Nat.min_eq_left (by have := R.ol; have := R.hm; omega)] at h1
  have hY : val l < 4294967296 ^ n := by have := val_lt l R.lb; rwa [R.ll] at this
  have hlt := R.lt
  rcases Nat.eq_zero_or_pos (val (o.drop (m + n + 1))) with h | h
  · exact h
  · exfalso
    have h2 : 4294967296 ^ m * (4294967296 ^ (n + 1) * 1) ≤ 4294967296 ^ m * (val (win o m n) + 4294967296 ^ (n + 1) * val (o.drop (m + n + 1))) :=
      Nat.mul_le_mul_left _ (Nat.le_trans (Nat.mul_le_mul_left _ h) (Nat.le_add_left _ _))
    have h3 : val l * 4294967296 ^ (m + 1) < 4294967296 ^ n * 4294967296 ^ (m + 1) := Nat.mul_lt_mul_of_pos_right hY (Nat.pow_pos (by decide))
    have e : (4294967296 : Nat) ^ n * 4294967296 ^ (m + 1) = 4294967296 ^ m * (4294967296 ^ (n + 1) * 1) := by
      rw [Nat.mul_one, ← Nat.pow_add, ← Nat.pow_add]; congr 1; omega
    omega
theorem Rest.dig (R : Rest o l la n (m + 1)) : ∃ top nx xn x1 x2, Dig (win o m n) l n top nx xn x1 x2 := by
  have hwl := win_len (o := o) (i := m) (n := n) (by have := R.ol; have := R.hm; omega)
  have hz := R.zero
  obtain ⟨ol, ob, ll, lb, n2, htop, hm, hlt⟩ := R
  have g1 : ∀ k, k < n + 1 → ∃ u, (win o m n)[k]? = some u := fun k hk => ⟨_, List.getElem?_eq_getElem (by omega)⟩
  have g2 : ∀ k, k < n → ∃ u, l[k]? = some u := fun k hk => ⟨_, List.getElem?_eq_getElem (by omega)⟩
  obtain ⟨top, ht⟩ := g2 (n - 1) (by omega)
  obtain ⟨nx, hnx⟩ := g2 (n - 2) (by omega)
  obtain ⟨xn, hxn⟩ := g1 n (by omega)
  obtain ⟨x1, hx1⟩ := g1 (n - 1) (by omega)
  obtain ⟨x2, hx2⟩ := g1 (n - 2) (by omega)
  have h1 := val_three (o.take m) (win o m n) (o.drop (m + n + 1))
  rw [win_split, hz, List.length_take, Nat.min_eq_left (by omega)] at h1
  refine ⟨top, nx, xn, x1, x2, n2, ll, hwl, lb, fun u hu => ob u (win_mem hu), ht, hnx, hxn, hx1, hx2, ?_, ?_⟩
  · rcases Nat.eq_zero_or_pos top with h0 | h0
    · exfalso
      subst h0
      have e := val_top1 (l := l) (k := n - 1) (by omega) ht
      have := val_take_lt lb (k := n - 1) (by omega)
      omega
    · exact h0
  · rcases Nat.lt_or_ge (val (win o m n)) (val l * 4294967296) with h | h
    · exact h
    · exfalso
      have h2 : 4294967296 ^ m * (val l * 4294967296) ≤ 4294967296 ^ m * (val (win o m n)) := Nat.mul_le_mul_left _ h
      have e : val l * (4294967296 : Nat) ^ (m + 1) = 4294967296 ^ m * (val l * 4294967296) := by
        rw [Nat.pow_succ]; generalize (4294967296 : Nat) ^ m = p; grind
      simp only [Nat.mul_zero, Nat.add_zero] at h1
      omega
/-- one limb of the quotient -/
theorem Rest.next (R : Rest o l la n (m + 1)) {w' : List Nat} (hw : w'.length = (win o m n).length) (hb : ∀ u ∈ w', u < 4294967296) (hv : val w' = val (win o m n) % val l) {X0 : Nat} {q : List Nat} (hq : m < q.length)
    (hX : val (q.drop (m + 1)) * 4294967296 ^ (m + 1) * val l + val o = X0) :
    Rest (o.take m ++ w' ++ o.drop (m + n + 1)) l la n m ∧ val ((q.set m (val (win o m n) / val l)).drop m) * 4294967296 ^ m * val l + val (o.take m ++ w' ++ o.drop (m + n + 1)) = X0 := by
  have hwl := win_len (o := o) (i := m) (n := n) (by have := R.ol; have := R.hm; omega)
  have hz := R.zero
  obtain ⟨ol, ob, ll, lb, n2, htop, hm, hlt⟩ := R
  have hY : 0 < val l := Nat.lt_of_lt_of_le (Nat.pow_pos (by decide)) htop
  have h1 := val_three (o.take m) (win o m n) (o.drop (m + n + 1))
  have h2 := val_three (o.take m) w' (o.drop (m + n + 1))
  rw [win_split, hz, List.length_take, Nat.min_eq_left (by omega)] at h1
  rw [hz, List.length_take, Nat.min_eq_left (by omega)] at h2
  simp only [Nat.mul_zero, Nat.add_zero] at h1 h2
  have hp := val_take_lt ob (k := m) (by omega)
  have hr : val w' < val l := by rw [hv]; exact Nat.mod_lt _ hY
  have hdm := Nat.div_add_mod (val (win o m n)) (val l)
  rw [← hv] at hdm
  refine ⟨⟨?_, ?_, ll, lb, n2, htop, by omega, ?_⟩, ?_⟩
  · simp only [List.length_append, List.length_take, List.length_drop, hw, hwl]; omega
  · intro u hu
    rcases List.mem_append.1 hu with hu | hu
    · rcases List.mem_append.1 hu with hu | hu
      · exact ob u (List.mem_of_mem_take hu)
      · exact hb u hu
    · exact ob u (List.mem_of_mem_drop hu)
  · rw [h2]
    have : 4294967296 ^ m * (val w' + 1) ≤ 4294967296 ^ m * val l := Nat.mul_le_mul_left _ hr
    rw [Nat.mul_comm (val l)]
    rw [Nat.mul_add] at this
    omega
  · have hset : (q.set m (val (win o m n) / val l))[m]? = some (val (win o m n) / val l) := by rw [List.getElem?_set_self hq]
    rw [val_drop _ m _ hset, drop_set q m _ (m + 1) (by omega), h2, ← hX, h1, Nat.pow_succ]
    generalize val (win o m n) / val l = d at *
    generalize (4294967296 : Nat) ^ m = p at *
    generalize val (q.drop (m + 1)) = Q at *
    have e : p * val (win o m n) = p * (val l * d) + p * val w' := by rw [← hdm, Nat.mul_add]
    rw [e]
    clear h1 h2 hX hset hp hdm hv hz hwl hlt
    generalize val (o.take m) = A
    generalize (4294967296 : Nat) = B
    grind
end
/-- how a quotient begins -/
theorem rest_start {x y : Nat} {X Y : List Nat} {la n s : Nat} (hX : val X = x * 2 ^ s) (hY : val Y = y * 2 ^ s) (hXl : X.length = la + 1) (hXb : ∀ u ∈ X, u < 4294967296) (hYl : Y.length = n) (hYb : ∀ u ∈ Y, u < 4294967296) (hn : 2 ≤ n)
    (hx : x < 4294967296 ^ la) (hy : 4294967296 ^ (n - 1) ≤ y) (hle : n ≤ la) : Rest X Y la n (la - n + 1) := by
  have hs : 0 < 2 ^ s := Nat.pow_pos (by decide)
  refine ⟨hXl, hXb, hYl, hYb, hn, ?_, by omega, ?_⟩
  · rw [hY]
    have := Nat.mul_le_mul hy hs
    omega
  · rw [hX, hY]
    have h1 : x * 2 ^ s < 4294967296 ^ la * 2 ^ s := Nat.mul_lt_mul_of_pos_right hx hs
    have h2 : 4294967296 ^ (n - 1) * 2 ^ s * 4294967296 ^ (la - n + 1) ≤ y * 2 ^ s * 4294967296 ^ (la - n + 1) := Nat.mul_le_mul_right _ (Nat.mul_le_mul_right _ hy)
    have e : 4294967296 ^ (n - 1) * 2 ^ s * 4294967296 ^ (la - n + 1) = 4294967296 ^ la * 2 ^ s := by
      rw [Nat.mul_right_comm, ← Nat.pow_add]; congr 2; omega
    omega
/-- how it ends -/
theorem rest_end {x y s r : Nat} {q : List Nat} (hy : 0 < y) (h : val q * (y * 2 ^ s) + r = x * 2 ^ s) (hr : r < y * 2 ^ s) : val q = x / y ∧ r = x % y * 2 ^ s := by
  have hs : 0 < 2 ^ s := Nat.pow_pos (by decide)
  have e1 : x * 2 ^ s / (y * 2 ^ s) = val q := by
    rw [← h, Nat.mul_comm, Nat.mul_add_div (Nat.mul_pos hy hs), Nat.div_eq_of_lt hr, Nat.add_zero]
  have e2 : x * 2 ^ s % (y * 2 ^ s) = r := by
    rw [← h, Nat.mul_comm (val q), Nat.mul_add_mod, Nat.mod_eq_of_lt hr]
  rw [Nat.mul_div_mul_right _ _ hs] at e1
  rw [Nat.mul_mod_mul_right] at e2
  exact ⟨e1.symm, e2.symm⟩
end Orr
namespace Orr
theorem take_small {o : List Nat} {n : Nat} (hn : n ≤ o.length) (h : val o < 4294967296 ^ n) : val (o.take n) = val o := by
  have h1 : val o = val (o.take n) + 4294967296 ^ (o.take n).length * val (o.drop n) := by rw [← val_append, List.take_append_drop]
  rw [List.length_take, Nat.min_eq_left hn] at h1
  rcases Nat.eq_zero_or_pos (val (o.drop n)) with h0 | h0
  · rw [h0] at h1; omega
  · have := Nat.mul_le_mul_left (4294967296 ^ n) h0
    omega
/-- a number by size and sign -/
def ofSign (b : Bool) (m : Nat) : Int := if b = true then -(m : Int) else (m : Int)
theorem ofSign_natAbs (b : Bool) (m : Nat) : (ofSign b m).natAbs = m := by unfold ofSign; split <;> omega
theorem ofSign_neg (b : Bool) (m : Nat) : decide (ofSign b m < 0) = (b && decide (0 < m)) := by
  unfold ofSign
  cases b <;> simp <;> omega
/-- how many binary digits -/
def isz (z : Int) : Nat := sz z.natAbs
theorem isz_mul (x y : Int) : isz (x * y) ≤ isz x + isz y := by unfold isz; rw [Int.natAbs_mul]; exact sz_mul _ _
theorem isz_add (x y : Int) : isz (x + y) ≤ max (isz x) (isz y) + 1 := by
  unfold isz
  exact Nat.le_trans (sz_mono (Int.natAbs_add_le x y)) (sz_add _ _)
theorem isz_neg (x : Int) : isz (-x) = isz x := by unfold isz; rw [Int.natAbs_neg]
theorem isz_sub (x y : Int) : isz (x - y) ≤ max (isz x) (isz y) + 1 := by
  rw [Int.sub_eq_add_neg]
  have := isz_add x (-y)
  rwa [isz_neg] at this
theorem isz_le {x : Int} {k : Nat} : isz x ≤ k ↔ x.natAbs < 2 ^ k := sz_le
theorem sz_shift {x k : Nat} (h : 2 ^ k ≤ x) : sz x = k + sz (x / 2 ^ k) := by
  have e : ∀ m, sz x ≤ m ↔ k + sz (x / 2 ^ k) ≤ m := by
    intro m
    by_cases hm : k ≤ m
    · obtain ⟨j, rfl⟩ := Nat.le.dest hm
      rw [Nat.add_le_add_iff_left, sz_le, sz_le, Nat.div_lt_iff_lt_mul (Nat.pow_pos (by decide)), ← Nat.pow_add, Nat.add_comm j k]
    · constructor
      · intro h1
        rw [sz_le] at h1
        have := Nat.pow_lt_pow_right (a := 2) (by decide) (Nat.lt_of_not_le hm)
        omega
      · intro h1
        omega
  exact Nat.le_antisymm ((e _).2 (Nat.le_refl _)) ((e _).1 (Nat.le_refl _))
theorem sz_val : ∀ {l : List Nat} {y : Nat}, Nrm l → l[l.length - 1]? = some y → sz (val l) = 32 * (l.length - 1) + sz y
  | [], y, _, h => by simp at h
  | [x], y, _, h => by
    simp at h
    subst h
    simp [val]
  | x :: z :: l, y, hn, h => by
    have h32 : (4294967296 : Nat) = 2 ^ 32 := by decide
    have hn' : Nrm (z :: l) := ⟨fun u hu => hn.1 u (List.mem_cons_of_mem _ hu), fun _ => by
      obtain ⟨u, hu, h0⟩ := hn.2 (by simp)
      exact ⟨u, by simpa using hu, h0⟩⟩
    have ih := sz_val hn' (y := y) (by simpa using h)
    have hx := hn.1 x (by simp)
    have hp : 0 < val (z :: l) := by
      rcases Nat.eq_zero_or_pos (val (z :: l)) with h0 | h0
      · exact absurd ((nrm_zero hn').1 h0) (by simp)
      · exact h0
    have e : val (x :: z :: l) = x + 4294967296 * val (z :: l) := rfl
    rw [sz_shift (k := 32) (by rw [e, ← h32]; omega), show val (x :: z :: l) / 2 ^ 32 = val (z :: l) from by rw [e, ← h32]; omega, ih]
    simp only [List.length_cons]
    omega
/-- which one is greater -/
def cmpZ (x y : Int) : Int := if x < y then -1 else if y < x then 1 else 0
theorem sz_eq_zero {x : Nat} : sz x = 0 ↔ x = 0 := by
  constructor
  · intro h
    have := lt_sz x
    rw [h] at this
    simpa using this
  · rintro rfl; rfl
theorem sign_cases (z : Int) : (z < 0 ∧ Int.sign z = -1) ∨ (z = 0 ∧ Int.sign z = 0) ∨ (0 < z ∧ Int.sign z = 1) := by
  rcases Int.lt_trichotomy z 0 with h | h | h
  · exact .inl ⟨h, Int.sign_eq_neg_one_of_neg h⟩
  · subst h; exact .inr (.inl ⟨rfl, rfl⟩)
  · exact .inr (.inr ⟨h, Int.sign_eq_one_of_pos h⟩)
theorem euclid {a b q r : Int} (hb : 0 < b) (h : r + b * q = a) (h0 : 0 ≤ r) (h1 : r < b) : a / b = q ∧ a % b = r := (Int.ediv_emod_unique hb).2 ⟨h, h0, h1⟩
theorem euclid' {a b q r : Int} (hb : b ≠ 0) (h : r + b * q = a) (h0 : 0 ≤ r) (h1 : r < b.natAbs) : a / b = q ∧ a % b = r := by
  rcases Int.lt_or_gt_of_ne hb with h' | h'
  · have := euclid (a := a) (b := -b) (q := -q) (r := r) (by omega) (by rw [Int.neg_mul_neg]; exact h) h0 (by omega)
    rw [Int.ediv_neg, Int.emod_neg] at this
    exact ⟨by omega, this.2⟩
  · exact euclid h' h h0 (by omega)
section
variable {x y : Int} {d : Bool} (hy : y = if d = true then -(y.natAbs : Int) else (y.natAbs : Int)) (hp : 0 < y.natAbs)
include hy hp
theorem div_pos_ofSign (hx : x = if false = true then -(x.natAbs : Int) else (x.natAbs : Int)) :
    x / y = ofSign (!(false == d)) (x.natAbs / y.natAbs) ∧ x % y = ofSign false (x.natAbs % y.natAbs) := by
  have e := Nat.div_add_mod x.natAbs y.natAbs
  have hl := Nat.mod_lt x.natAbs hp
  refine euclid' (by omega) ?_ ?_ ?_
  · generalize x.natAbs / y.natAbs = q at *
    generalize x.natAbs % y.natAbs = r at *
    generalize y.natAbs = n at *
    generalize x.natAbs = m at *
    subst hx hy e
    unfold ofSign
    cases d <;> simp [Int.neg_mul, Int.mul_neg] <;> omega
  · unfold ofSign; simp only [Bool.false_eq_true, if_false]; exact Int.natCast_nonneg _
  · unfold ofSign; simp; omega
theorem div_zero_ofSign (hx : x = if true = true then -(x.natAbs : Int) else (x.natAbs : Int)) (h0 : x.natAbs % y.natAbs = 0) :
    x / y = ofSign (!(true == d)) (x.natAbs / y.natAbs) ∧ x % y = ofSign false (x.natAbs % y.natAbs) := by
  have e := Nat.div_add_mod x.natAbs y.natAbs
  refine euclid' (by omega) ?_ ?_ ?_
  · rw [h0] at e ⊢
    generalize x.natAbs / y.natAbs = q at *
    generalize y.natAbs = n at *
    generalize x.natAbs = m at *
    subst hx hy e
    unfold ofSign
    cases d <;> simp [Int.neg_mul, Int.mul_neg]
  · unfold ofSign; simp only [Bool.false_eq_true, if_false]; exact Int.natCast_nonneg _
  · unfold ofSign; simp; omega
theorem div_neg_ofSign (hx : x = if true = true then -(x.natAbs : Int) else (x.natAbs : Int)) (h0 : 0 < x.natAbs % y.natAbs) :
    x / y = ofSign (!(true == d)) (x.natAbs / y.natAbs + 1) ∧ x % y = ofSign false (y.natAbs - x.natAbs % y.natAbs) := by
  have e := Nat.div_add_mod x.natAbs y.natAbs
  have hl := Nat.mod_lt x.natAbs hp
  refine euclid' (by omega) ?_ ?_ ?_
  · generalize x.natAbs / y.natAbs = q at *
    generalize x.natAbs % y.natAbs = r at *
    generalize y.natAbs = n at *
    generalize x.natAbs = m at *
    subst hx hy e
    unfold ofSign
    have e2 : ((n - r : Nat) : Int) = (n : Int) - (r : Int) := by omega
    cases d <;> simp [Int.neg_mul, Int.mul_neg, Int.mul_add, e2] <;> omega
  · unfold ofSign; simp only [Bool.false_eq_true, if_false]; exact Int.natCast_nonneg _
  · unfold ofSign; simp; omega
end
def limbs (x : Nat) : List Nat := if h : x = 0 then [] else (x % 4294967296) :: limbs (x / 4294967296)
termination_by x
decreasing_by omega
theorem limbs_zero : limbs 0 = [] := by unfold limbs; simp
theorem limbs_pos {x : Nat} (h : x ≠ 0) : limbs x = (x % 4294967296) :: limbs (x / 4294967296) := by rw [limbs]; simp [h]
theorem val_limbs (x : Nat) : val (limbs x) = x := by
  induction x using Nat.strongRecOn with
  | _ x ih =>
    rcases Nat.eq_zero_or_pos x with h | h
    · subst h; rw [limbs_zero]; rfl
    · rw [limbs_pos (by omega)]
      simp only [val]
      rw [ih _ (by omega)]; omega
theorem nrm_limbs (x : Nat) : Nrm (limbs x) := by
  induction x using Nat.strongRecOn with
  | _ x ih =>
    rcases Nat.eq_zero_or_pos x with h | h
    · subst h; rw [limbs_zero]; exact ⟨by simp, fun h => absurd rfl h⟩
    · rw [limbs_pos (by omega)]
      obtain ⟨h1, h2⟩ := ih (x / 4294967296) (by omega)
      refine ⟨fun u hu => ?_, fun _ => ?_⟩
      · rcases List.mem_cons.1 hu with rfl | hu
        · omega
        · exact h1 u hu
      · by_cases h3 : x / 4294967296 = 0
        · rw [h3, limbs_zero]; exact ⟨x % 4294967296, rfl, by omega⟩
        · have h4 : limbs (x / 4294967296) ≠ [] := by rw [limbs_pos h3]; simp
          obtain ⟨u, hu, hu0⟩ := h2 h4
          refine ⟨u, ?_, hu0⟩
          rcases hl : limbs (x / 4294967296) with _ | ⟨y, l⟩
          · exact absurd hl h4
          · rw [hl] at hu; simpa using hu
theorem limbs_of {l : List Nat} {x : Nat} (h : Nrm l) (hv : val l = x) : l = limbs x := nrm_inj h (nrm_limbs x) (by rw [hv, val_limbs])
theorem shl_step {o l : List Nat} {i s x z : Nat} (hs : s ≤ 31) (hx : l[i]? = some x) (hxb : x < 4294967296) (hz : o[i]? = some z) (hzs : z < 2 ^ s) (hi1 : i + 1 < o.length) (h : val (o.take (i + 1)) = val (l.take i) * 2 ^ s) :
    z + x * 2 ^ s % 4294967296 < 4294967296 ∧ x * 2 ^ s / 2 ^ 32 < 2 ^ s ∧
    val (((o.set i (z + x * 2 ^ s % 4294967296)).set (i + 1) (x * 2 ^ s / 2 ^ 32 % 4294967296)).take (i + 2)) = val (l.take (i + 1)) * 2 ^ s ∧ x * 2 ^ s % 4294967296 = 2 ^ s * (x % 2 ^ (32 - s)) := by
  have e32 : (2 : Nat) ^ 32 = 4294967296 := by decide
  have ep : (4294967296 : Nat) = 2 ^ s * 2 ^ (32 - s) := by rw [← Nat.pow_add, ← e32]; congr 1; omega
  have hpos : 0 < 2 ^ s := Nat.pow_pos (by decide)
  have e1 : x * 2 ^ s % 4294967296 = 2 ^ s * (x % 2 ^ (32 - s)) := by rw [Nat.mul_comm x, ep, Nat.mul_mod_mul_left]
  have hq : x * 2 ^ s / 2 ^ 32 < 2 ^ s := by
    rw [Nat.div_lt_iff_lt_mul (Nat.pow_pos (by decide)), e32, Nat.mul_comm (2 ^ s)]
    exact Nat.mul_lt_mul_of_pos_right hxb hpos
  have hm : x % 2 ^ (32 - s) < 2 ^ (32 - s) := Nat.mod_lt _ (Nat.pow_pos (by decide))
  have hlow : z + x * 2 ^ s % 4294967296 < 4294967296 := by
    rw [e1]
    have : 2 ^ s * (x % 2 ^ (32 - s) + 1) ≤ 2 ^ s * 2 ^ (32 - s) := Nat.mul_le_mul_left _ hm
    rw [← ep, Nat.mul_add, Nat.mul_one] at this
    omega
  have hs31 : 2 ^ s ≤ 4294967296 := by rw [← e32]; exact Nat.pow_le_pow_right (by decide) (by omega)
  refine ⟨hlow, hq, ?_, e1⟩
  have t1 := val_take_succ o i z hz
  rw [val_set _ (i + 1) _ (by simpa using hi1), val_set o i _ (by omega), val_take_succ l i x hx, Nat.mod_eq_of_lt (Nat.lt_of_lt_of_le hq hs31), Nat.pow_succ]
  have e3 := Nat.div_add_mod (x * 2 ^ s) 4294967296
  rw [e32]
  rw [t1] at h
  generalize x * 2 ^ s / 4294967296 = qh at *
  generalize x * 2 ^ s % 4294967296 = ql at *
  generalize (4294967296 : Nat) ^ i = P' at *
  generalize 2 ^ s = S at *
  clear ep e1 hq hm hlow hs31 t1 hx hz hzs e32 hpos hxb
  have e4 : P' * (4294967296 * qh + ql) = P' * (x * S) := by rw [e3]
  have e5 : (val (l.take i) + P' * x) * S = val (l.take i) * S + P' * (x * S) := by grind
  rw [e5, ← h, ← e4]
  grind
/-- shifting right: one limb more -/
theorem shr_step {o l : List Nat} {i s x y : Nat} (hs : s ≤ 31) (hx : l[i]? = some x) (hy : l[i + 1]? = some y ∨ (l.length ≤ i + 1 ∧ y = 0)) (ho : i < o.length) (hb : ∀ u ∈ l, u < 4294967296) (h : val (o.take i) = val l / 2 ^ s % 4294967296 ^ i) :
    val ((o.set i ((x + y * 2 ^ 32) / 2 ^ s % 4294967296)).take (i + 1)) = val l / 2 ^ s % 4294967296 ^ (i + 1) := by
  rw [val_set o i _ ho, h, Nat.mod_pow_succ]
  congr 1
  congr 1
  have e32 : (2 : Nat) ^ 32 = 4294967296 := by decide
  have ep : (4294967296 : Nat) = 2 ^ s * 2 ^ (32 - s) := by rw [← Nat.pow_add, ← e32]; congr 1; omega
  have hsp := val_split l i x hx
  obtain ⟨R, hR⟩ : ∃ R, val (l.drop (i + 1)) = y + 4294967296 * R := by
    rcases hy with hy | ⟨h1, rfl⟩
    · exact ⟨_, val_drop l (i + 1) y hy⟩
    · exact ⟨0, by rw [List.drop_eq_nil_of_le h1]; rfl⟩
  have ht : val (l.take i) < 4294967296 ^ i := by
    have := val_lt (l.take i) (fun u hu => hb u (List.mem_of_mem_take hu))
    have hi := (List.getElem?_eq_some_iff.1 hx).1
    rwa [List.length_take, Nat.min_eq_left (by omega)] at this
  have e1 : val l / 2 ^ s / 4294967296 ^ i = (x + 4294967296 * (y + 4294967296 * R)) / 2 ^ s := by
    rw [Nat.div_div_eq_div_mul, Nat.mul_comm, ← Nat.div_div_eq_div_mul, hsp, hR, Nat.add_mul_div_left _ _ (Nat.pow_pos (by decide)), Nat.div_eq_of_lt ht, Nat.zero_add]
  rw [e1]
  have e2 : x + 4294967296 * (y + 4294967296 * R) = (x + y * 2 ^ 32) + 2 ^ s * (4294967296 * (2 ^ (32 - s) * R)) := by
    have : 2 ^ s * (4294967296 * (2 ^ (32 - s) * R)) = (2 ^ s * 2 ^ (32 - s)) * (4294967296 * R) := by grind
    rw [this, ← ep, e32]
    grind
  rw [e2, Nat.add_mul_div_left _ _ (Nat.pow_pos (by decide)), Nat.add_mul_mod_self_left]
theorem shl_lt {x s : Nat} (hs : s ≤ 31) (hx : x < 4294967296) : x * 2 ^ s < 18446744073709551616 := by
  have h1 : 2 ^ s ≤ 2 ^ 31 := Nat.pow_le_pow_right (by decide) hs
  have h2 : x * 2 ^ s ≤ 4294967295 * 2 ^ 31 := Nat.mul_le_mul (by omega) h1
  have h3 : 4294967295 * 2 ^ 31 < 18446744073709551616 := by decide
  omega
end Orr
