/- Control: what is still to be done, as a list. How far one gets by reckoning; and the end. Calls that are handed things of one's own. Calls that are handed own things: reckoned. The reckoning of a function. Operations whose order is drawn: what one of them does, whatever else there is. Operations whose order is drawn: every order comes to the same. Regions that draw their order: reckoned in the order of their text. A region that draws its order: all of it. -/
import Derived.Test.YtbnjginelkkonaaGreatPart01
set_option linter.all false

namespace Orr
open Go
variable {P : Program} {n : Nat} {L L' : Sg} {B B' : List OB} {Q : Exit → Sg → List OB → Prop}
abbrev Kp := Sg → List OB → Prop
def lift (F : Fr) (n : Nat) (Q : Exit → Sg → List OB → Prop) : Exit → Act → World → Prop := fun e a w => ∃ L B E M, SA F n L B E M a w ∧ Q e L B
def AC (P : Program) (n : Nat) (c : Code) (Q : Exit → Sg → List OB → Prop) (L : Sg) (B : List OB) : Prop := ∀ F E M a w, SA F n L B E M a w → c.wp P (lift F n Q) a w
def AW (P : Program) (arr : Array Oper) (n : Nat) : List Oper → Kp → Kp
  | [], N => N
  | o :: l, N => fun L B => W1 P arr n o (AW P arr n l N) L B
theorem W1.mono {arr : Array Oper} {o : Oper} {N N' : Kp} (h : W1 P arr n o N L B) (hn : ∀ L B, N L B → N' L B) : W1 P arr n o N' L B := fun F E M a w K Q hs hK => h F E M a w K Q hs fun a' w' L' B' E' M' h1 h2 => hK a' w' L' B' E' M' h1 (hn _ _ h2)
theorem AW.mono {arr : Array Oper} {N N' : Kp} (hn : ∀ L B, N L B → N' L B) : ∀ {l : List Oper} {L : Sg} {B : List OB}, AW P arr n l N L B → AW P arr n l N' L B
  | [], _, _, h => hn _ _ h
  | _ :: _, _, _, h => W1.mono h fun _ _ h => AW.mono hn h
theorem aw_list {arr : Array Oper} {N : Kp} {Q : Exit → Act → World → Prop} {F : Fr} (hq : ∀ a w L B E M, SA F n L B E M a w → N L B → Q .normal a w) : ∀ {l : List Oper} {L : Sg} {B : List OB} {E : Env} {M : Nat → Prop} {a : Act} {w : World}, AW P arr n l N L B → SA F n L B E M a w → wpList P arr Q l a w
  | [], _, _, _, _, _, _, h, hs => hq _ _ _ _ _ _ hs h
  | o :: l, _, _, _, _, _, _, h, hs => by
    unfold wpList
    exact h F _ _ _ _ (wpList P arr Q l) Q hs fun a' w' L' B' E' M' h1 h2 => aw_list hq h2 h1
/-- another telling of what is known -/
def Sub (n : Nat) (L : Sg) (B : List OB) (L2 : Sg) (B2 : List OB) : Prop := ∀ F E M a w, SA F n L B E M a w → ∃ E' M', SA F n L2 B2 E' M' a w
/-- numbers from k on are nobody's -/
def Fk (k : Option Nat) (F : Fr) : Prop := match k with
  | none => True
  | some k => ∀ i, k ≤ i → ¬ F.J i
def SubK (k : Option Nat) (n : Nat) (L : Sg) (B : List OB) (L2 : Sg) (B2 : List OB) : Prop := ∀ F E M a w, Fk k F → SA F n L B E M a w → ∃ E' M', SA F n L2 B2 E' M' a w
def Wk (n : Nat) (k : Option Nat) (N : Kp) : Kp := fun L B => ∃ L2 B2, SubK k n L B L2 B2 ∧ N L2 B2
theorem Sub.refl : Sub n L B L B := fun _ E M _ _ h => ⟨E, M, h⟩
theorem Sub.trans {L2 L3 : Sg} {B2 B3 : List OB} (h : Sub n L B L2 B2) (h' : Sub n L2 B2 L3 B3) : Sub n L B L3 B3 := fun F E M a w hs => by
  obtain ⟨E', M', h1⟩ := h F E M a w hs
  exact h' F E' M' a w h1
inductive It where
  | code (c : Code)
  | ops (arr : Array Oper) (l : List Oper)
  | pst (d : Nat)
  | blk (id : Nat)
  | rnd (k : Option Nat) (N : Kp)
def mkQ (Q : Exit → Sg → List OB → Prop) (p : Kp × (Nat → Kp)) : Exit → Sg → List OB → Prop
  | .normal, L, B => p.1 L B
  | .exit id, L, B => p.2 id L B
  | e, L, B => Q e L B
def AKp (P : Program) (n : Nat) (Q : Exit → Sg → List OB → Prop) : List It → Kp × (Nat → Kp)
  | [] => (Q .normal, fun id => Q (.exit id))
  | .code c :: r => (fun L B => AC P n c (mkQ Q (AKp P n Q r)) L B, (AKp P n Q r).2)
  | .ops arr l :: r => (fun L B => AW P arr n l (AKp P n Q r).1 L B, (AKp P n Q r).2)
  | .pst _ :: r => AKp P n Q r
  | .blk i :: r => ((AKp P n Q r).1, fun id L B => if i = id then (AKp P n Q r).1 L B else (AKp P n Q r).2 id L B)
  | .rnd k N :: r => (Wk n k N, (AKp P n Q r).2)
def AK (P : Program) (n : Nat) (Q : Exit → Sg → List OB → Prop) (it : List It) : Kp := (AKp P n Q it).1
def exitTo (id : Nat) : List It → Option (List It)
  | [] => none
  | .blk i :: r => match Nat.beq i id with
    | true => some r
    | false => exitTo id r
  | _ :: r => exitTo id r
theorem exitTo_eq {id : Nat} : ∀ {it r : List It}, exitTo id it = some r → (AKp P n Q it).2 id = AK P n Q r
  | [], r, h => by cases h
  | .blk i :: q, r, h => by
    simp only [exitTo] at h
    split at h
    · rename_i e
      have e := Nat.eq_of_beq_eq_true e
      injection h with h; subst h
      funext L B
      simp only [AKp]
      rw [if_pos e]; rfl
    · rename_i e
      have e := Nat.ne_of_beq_eq_false e
      rw [← exitTo_eq h]
      funext L B
      simp only [AKp]
      rw [if_neg e]
  | .code c :: q, r, h => exitTo_eq (it := q) h
  | .ops _ _ :: q, r, h => exitTo_eq (it := q) h
  | .pst _ :: q, r, h => exitTo_eq (it := q) h
  | .rnd _ _ :: q, r, h => exitTo_eq (it := q) h
/-! ### code -/
theorem ac_mono {c : Code} {Q' : Exit → Sg → List OB → Prop} (h : AC P n c Q' L B) (hq : ∀ e L B, Q' e L B → Q e L B) : AC P n c Q L B := fun F E M a w hs =>
  wp_mono (h F E M a w hs) fun e a w ⟨L, B, E, M, h1, h2⟩ => ⟨L, B, E, M, h1, hq _ _ _ h2⟩
theorem ac_seq {x y : Code} {r : List It} (h : AK P n Q (.code x :: .code y :: r) L B) : AK P n Q (.code (.seq x y) :: r) L B := fun F E M a w hs =>
  wp_seq (wp_mono (h F E M a w hs) fun e a w ⟨L, B, E, M, h1, h2⟩ => by cases e <;> first | exact h2 F E M a w h1 | exact ⟨L, B, E, M, h1, h2⟩)
theorem ac_skip {r : List It} (h : AK P n Q r L B) : AK P n Q (.code .skip :: r) L B := fun F E M a w hs => wp_skip ⟨L, B, E, M, hs, h⟩
theorem ac_exit {id : Nat} {r r' : List It} (hr : exitTo id r = some r') (h : AK P n Q r' L B) : AK P n Q (.code (.exit id) :: r) L B := fun F E M a w hs => wp_exit ⟨L, B, E, M, hs, by
  show (AKp P n Q r).2 id L B
  rw [exitTo_eq hr]; exact h⟩
theorem ac_ret {r : List It} (h : Q .ret L B) : AK P n Q (.code .ret :: r) L B := fun F E M a w hs => wp_ret ⟨L, B, E, M, hs, h⟩
theorem ac_block {id : Nat} {c : Code} {r : List It} (h : AK P n Q (.code c :: .blk id :: r) L B) : AK P n Q (.code (.block id c) :: r) L B := fun F E M a w hs =>
  wp_block (wp_mono (h F E M a w hs) fun e a w ⟨L, B, E, M, h1, h2⟩ => by
    cases e with
    | exit id' =>
      have h2 : if id = id' then (AKp P n Q r).1 L B else (AKp P n Q r).2 id' L B := h2
      simp only [Exit.inBlock]
      split
      · rename_i e; rw [if_pos e.symm] at h2; exact ⟨L, B, E, M, h1, h2⟩
      · rename_i e; rw [if_neg (fun e' => e e'.symm)] at h2; exact ⟨L, B, E, M, h1, h2⟩
    | _ => exact ⟨L, B, E, M, h1, h2⟩)
theorem ac_reg {id : Nat} {arr : Array Oper} {r : List It} (h : AK P n Q (.ops arr arr.toList :: r) L B) : AK P n Q (.code (.region id arr false) :: r) L B := fun F E M a w hs =>
  wp_region_list (aw_list (fun a w L B E M h1 h2 => ⟨L, B, E, M, h1, h2⟩) h hs)
theorem ac_cond {c : Operand} {x y : Code} {b : Bool} {r : List It} (hc : evT L c = some (.one (.bool b))) (ht : b = true → AK P n Q (.code x :: r) L B) (hf : b = false → AK P n Q (.code y :: r) L B) : AK P n Q (.code (.cond c x y) :: r) L B := fun F E M a w hs =>
  wp_cond_split (trep_bool (hs.evT hc)) (fun e => ht e F E M a w hs) fun e => hf e F E M a w hs
theorem AC.sub {c : Code} {L2 : Sg} {B2 : List OB} (h : Sub n L B L2 B2) (k : AC P n c Q L2 B2) : AC P n c Q L B := fun F E M a w hs => by
  obtain ⟨E', M', h1⟩ := h F E M a w hs
  exact k F E' M' a w h1
theorem W1.sub {arr : Array Oper} {o : Oper} {N : Kp} {L2 : Sg} {B2 : List OB} (h : Sub n L B L2 B2) (k : W1 P arr n o N L2 B2) : W1 P arr n o N L B := fun F E M a w K Q hs hK => by
  obtain ⟨E', M', h1⟩ := h F E M a w hs
  exact k F E' M' a w K Q h1 hK
/-- only for what begins with code or operations -/
def startish : List It → Bool
  | .code _ :: _ => true
  | .ops _ (_ :: _) :: _ => true
  | .ops _ [] :: r => startish r
  | .rnd _ _ :: _ => true
  | .blk _ :: r => startish r
  | .pst _ :: r => startish r
  | [] => false
theorem AK.sub {L2 : Sg} {B2 : List OB} (h : Sub n L B L2 B2) : ∀ {it : List It}, startish it = true → AK P n Q it L2 B2 → AK P n Q it L B
  | .code _ :: _, _, k => AC.sub h k
  | .ops _ (_ :: _) :: _, _, k => W1.sub h k
  | .ops _ [] :: r, hs, k => AK.sub (it := r) h hs k
  | .rnd _ _ :: _, _, ⟨L3, B3, h3, h4⟩ => ⟨L3, B3, fun F E M a w hk hs => by
    obtain ⟨E', M', h1⟩ := h F E M a w hs
    exact h3 F E' M' a w hk h1, h4⟩
  | .blk _ :: r, hs, k => AK.sub (it := r) h hs k
  | .pst _ :: r, hs, k => AK.sub (it := r) h hs k
/-- a loop by what holds at each round's head, with a number that falls -/
theorem loop_ {c : Code} {a : Act} {w : World} {Q : Exit → Act → World → Prop} (I : Nat → Act → World → Prop) {m : Nat} (h0 : I m a w)
    (round : ∀ m a w, I m a w → c.wp P (Exit.then (fun a' w' => ∃ m', m' < m ∧ I m' a' w') Q) a w) : (Code.loop c).wp P Q a w := by
  have key : ∀ m a w, I m a w → ∀ (b : Frame) (k : List Item) (cs : List Frame),
      ∃ e a' w', Q e a' w' ∧ Arrives P (lone (b.at a (.code c :: .inLoop c :: k)) cs w) b k cs e a' w' := by
    intro m
    induction m using Nat.strongRecOn with
    | _ m ih =>
      intro a w hI b k cs
      obtain ⟨e, a₁, w₁, hq, harr⟩ := round m a w hI b (.inLoop c :: k) cs
      have past : ∀ e' : Exit, e' ≠ .normal → Q e' a₁ w₁ → Arrives P (lone (b.at a (.code c :: .inLoop c :: k)) cs w) b (.inLoop c :: k) cs e' a₁ w₁ →
          ∃ e a' w', Q e a' w' ∧ Arrives P (lone (b.at a (.code c :: .inLoop c :: k)) cs w) b k cs e a' w' := fun e' hne hq harr =>
        ⟨e', a₁, w₁, hq, .pass (x := .inLoop c) rfl (fun _ _ => .inl hne) harr⟩
      cases e with
      | normal =>
        obtain ⟨m', hlt, hI'⟩ := hq
        obtain ⟨e₂, a₂, w₂, hq₂, harr₂⟩ := ih m' hlt a₁ w₁ hI' b k cs
        exact ⟨e₂, a₂, w₂, hq₂, .of_steps (Steps.trans harr (.one step_inLoop)) harr₂⟩
      | exit id => exact past _ (by simp) hq harr
      | goto l => exact past _ (by simp) hq harr
      | ret => exact past _ (by simp) hq harr
      | panic ch => exact past _ (by simp) hq harr
      | outgrown => exact past _ (by simp) hq harr
  intro b k cs
  obtain ⟨e, a', w', hq, harr⟩ := key m a w h0 b k cs
  exact ⟨e, a', w', hq, .of_steps (.one step_loop) harr⟩
theorem ac_loop {c : Code} {r : List It} (I : Nat → Kp) {m k : Nat} (hk : ∀ m L B, I m L B → B.length ≤ k) (h0 : ∃ L2 B2, Sub n L B L2 B2 ∧ I m L2 B2) (round : ∀ m L B, I m L B → AK P n Q (.code c :: .rnd (some k) (fun L B => ∃ m', m' < m ∧ I m' L B) :: r) L B) : AK P n Q (.code (.loop c) :: r) L B := fun F E M a w hs => by
  obtain ⟨L2, B2, h1, h2⟩ := h0
  obtain ⟨E', M', h3⟩ := h1 F E M a w hs
  refine loop_ (fun m a w => ∃ L B E M, SA F n L B E M a w ∧ I m L B) (m := m) ⟨L2, B2, E', M', h3, h2⟩ fun m a w ⟨L, B, E, M, h1, h2⟩ => ?_
  have hF : Fk (some k) F := fun i hi => h1.hs.uj i (Nat.le_trans (hk _ _ _ h2) hi)
  refine wp_mono (round m L B h2 F E M a w h1) fun e a w ⟨L, B, E, M, h1, h2⟩ => ?_
  cases e with
  | normal =>
    obtain ⟨L3, B3, h3, m', h4, h5⟩ := h2
    obtain ⟨E', M', h6⟩ := h3 F E M a w hF h1
    exact ⟨m', h4, L3, B3, E', M', h6, h5⟩
  | _ => exact ⟨L, B, E, M, h1, h2⟩
/-! ### cuts -/
def Imp (p q : Kp × (Nat → Kp)) : Prop := (∀ L B, p.1 L B → q.1 L B) ∧ ∀ i L B, p.2 i L B → q.2 i L B
theorem mkQ_imp {p q : Kp × (Nat → Kp)} (h : Imp p q) : ∀ e L B, mkQ Q p e L B → mkQ Q q e L B := fun e L B hq => by
  cases e with
  | normal => exact h.1 _ _ hq
  | exit id => exact h.2 _ _ _ hq
  | _ => exact hq
theorem imp_pre {I : Kp} {r : List It} (hy : ∀ L B, Wk n none I L B → AK P n Q r L B) : ∀ pre : List It, Imp (AKp P n Q (pre ++ .rnd none I :: r)) (AKp P n Q (pre ++ r))
  | [] => ⟨hy, fun _ _ _ h => h⟩
  | .code c :: q => by
    have ih := imp_pre hy q
    exact ⟨fun L B h => ac_mono h (mkQ_imp ih), ih.2⟩
  | .ops a l :: q => by
    have ih := imp_pre hy q
    exact ⟨fun L B h => AW.mono ih.1 h, ih.2⟩
  | .pst _ :: q => imp_pre hy q
  | .blk i :: q => by
    have ih := imp_pre hy q
    refine ⟨ih.1, fun id L B h => ?_⟩
    simp only [List.cons_append, AKp] at h ⊢
    split at h
    · rename_i e; rw [if_pos e]; exact ih.1 _ _ h
    · rename_i e; rw [if_neg e]; exact ih.2 _ _ _ h
  | .rnd k N :: q => by
    have ih := imp_pre hy q
    exact ⟨fun L B h => h, ih.2⟩
/-- what is told behind the first j things -/
theorem k_cut (j : Nat) {it : List It} (I : Kp) (hx : AK P n Q (it.take j ++ .rnd none I :: it.drop j) L B) (hs : startish (it.drop j) = true) (hy : ∀ L B, I L B → AK P n Q (it.drop j) L B) : AK P n Q it L B := by
  have := (imp_pre (P := P) (n := n) (Q := Q) (I := I) (r := it.drop j) (fun L B ⟨L2, B2, h1, h2⟩ => AK.sub (fun F E M a w hs => h1 F E M a w trivial hs) hs (hy _ _ h2)) (it.take j)).1 L B hx
  rw [List.take_append_drop] at this
  exact this
/-! ### functions -/
def argsA : Nat → List TV → Sg
  | _, [] => []
  | i, x :: xs => (i, .v x) :: argsA (i + 1) xs
theorem args_ok {w : World} {M : Nat → Prop} {E : Env} : ∀ {vs : List Value} {us : List TV} (i : Nat), F2 (TRep w M E) vs us → ∀ t x, lk (argsA i us) t = some x → i ≤ t ∧ ∃ v, vs[t - i]? = some v ∧ ARep w M E v x
  | _, _, i, .nil, t, x, h => by simp [argsA, lk] at h
  | v :: vs, u :: us, i, .cons h0 hr, t, x, h => by
    simp only [argsA, lk] at h
    split at h
    · rename_i e
      obtain rfl := Nat.eq_of_beq_eq_true e
      injection h with h; subst h
      exact ⟨Nat.le_refl _, v, by simp, h0⟩
    · rename_i e
      have e := Nat.ne_of_beq_eq_false e
      obtain ⟨h1, v', h2, h3⟩ := args_ok (i + 1) hr t x h
      refine ⟨by omega, v', ?_, h3⟩
      rw [show t - i = (t - (i + 1)) + 1 from by omega, List.getElem?_cons_succ]
      exact h2
/-- at a function's end -/
def RQ (P : Program) (fn : Func) (n k : Nat) (Post : List TV → List OB → Prop) (e : Exit) (L : Sg) (B : List OB) : Prop :=
  (e = .ret ∨ e = .normal) ∧ ∀ F E M a w, SA F n L B E M a w → (∀ i, k ≤ i → ¬ F.J i) → ∃ r u Bo E' M', (results fn a.tmps).run P w = .ok r w ∧ Post u Bo ∧ k ≤ Bo.length ∧ HS F (ob Bo) (nw Bo) E' M' w ∧ ARep w M' E' r (avOf u)
theorem fn_ {f : FuncId} {fn : Func} {c : Code} {args : List TV} {Bin : List OB} {Post : List TV → List OB → Prop} (hf : P.funcs[f]? = some fn) (hb : fn.body = some c) (hn : fn.ntmps = n) (hl : Nat.ble args.length n = true)
    (h : AK P n (RQ P fn n Bin.length Post) [.code c] (argsA 0 args) Bin) : DoesR P f args Bin Post := by
  intro F E M w vs hs hargs
  have hl := Nat.le_of_ble_eq_true hl
  have hvl := hargs.len
  refine calls_of_wp hf hb ?_
  have hsa : SA F n (argsA 0 args) Bin E M ⟨vs.toArray ++ Array.replicate (fn.ntmps - vs.toArray.size) undef, []⟩ w := by
    refine ⟨hs, by simp [hn]; omega, rfl, fun t x hx => ?_⟩
    obtain ⟨_, v, h1, h2⟩ := args_ok 0 hargs t x hx
    refine ⟨v, ?_, h2⟩
    have ht : t < vs.length := by have := (List.getElem?_eq_some_iff.1 h1).1; simpa using this
    rw [Array.getElem?_append_left (by simpa using ht)]
    simpa using h1
  have huj : ∀ i, Bin.length ≤ i → ¬ F.J i := fun i hi => hs.uj i hi
  refine wp_mono (h F E M _ w hsa) fun e a w ⟨L, B, E, M, h1, h2⟩ => ?_
  have key : RQ P fn n Bin.length Post e L B := by cases e <;> exact h2
  obtain ⟨he, h3⟩ := key
  obtain ⟨r, u, Bo, E', M', h4, h5, h6, h7, h8⟩ := h3 F E M a w h1 huj
  have : bodyPost P fn (fun e w' => ∃ r u Bo E' M', e = .returned r ∧ Post u Bo ∧ Bin.length ≤ Bo.length ∧ HS F (ob Bo) (nw Bo) E' M' w' ∧ ARep w' M' E' r (avOf u)) .ret a w := ⟨h1.defers, r, h4, r, u, Bo, E', M', rfl, h5, h6, h7, h8⟩
  rcases he with rfl | rfl <;> exact this
end Orr

namespace Orr
open Go
variable {P : Program} {n : Nat} {L L' : Sg} {B B' : List OB} {Q : Exit → Sg → List OB → Prop}
def isNl : List OB → Bool
  | [] => true
  | _ => false
theorem isNl_eq {B : List OB} (h : isNl B = true) : B = [] := by cases B <;> first | rfl | cases h
def avF : List TV → Option AV
  | [t] => some (.v t)
  | l => some (.tup l)
theorem avF_eq {l : List TV} {u : AV} (h : avF l = some u) : avOf l = u := by
  match l with
  | [t] => injection h
  | [] => injection h
  | _ :: _ :: _ => injection h
def callE (L : Sg) (B : List OB) (h : List (H P)) (d f : Nat) (ys : List TV) : St P := match h with
  | .c (f := f') (args := args) (Bin := Bin) (res := res) (Bout := Bout) _ _ :: h => match isNl Bin && isNl Bout, freeTs ys && freeTs res with
    | true, true => match zipT ys args with
      | some q => match avF res with
        | some u => some ((d, u) :: L, B, h, (.n f, .n f') :: q, [])
        | none => none
      | none => none
    | _, _ => none
  | _ => none
/-- the first own number in what is handed over -/
def ownL : List LV → Option Nat
  | [] => none
  | .ow i _ :: _ => some i
  | .orow i _ _ :: _ => some i
  | .ofn _ a b :: l => match yids a, yids b with
    | i :: _, _ => some i
    | [], i :: _ => some i
    | [], [] => ownL l
  | _ :: l => ownL l
def ownT : List TV → Option Nat
  | [] => none
  | .one x :: l => match ownL [x] with
    | some i => some i
    | none => ownT l
  | .agg xs :: l => match ownL xs with
    | some i => some i
    | none => ownT l
def dig (B : List OB) : Nat → Nat → Nat
  | 0, i => i
  | f + 1, i => match bAt B i with
    | some (.blk _ xs) => match ownL xs with
      | some j => dig B f j
      | none => i
    | _ => i
theorem pub_sub {i : Nat} (h : pubS L B i = some (L', B')) : Sub n L B L' B' := fun _ E _ _ _ hs => by
  obtain ⟨M', h1⟩ := hs.pub h
  exact ⟨E, M', h1⟩
/-- what is said of a slot just filled -/
def pstE (d : Nat) (L : Sg) (B : List OB) : List (H P) → Option (Sg × List OB × List (H P) × Eqs)
  | .r d' (u := u) (v := v) _ :: h => match Nat.beq d d' with
    | true => match lk L d with
      | some (.v t) => some ((d, .v v) :: L, B, h, [(.t t, .t u)])
      | _ => none
    | false => none
  | .z d' :: h => match Nat.beq d d' with
    | true => match lk L d with
      | some (.v t) => match tvO nilV t with
        | some u => some ((d, .v u) :: L, B, h, [])
        | none => none
      | _ => none
    | false => none
  | .g d' v (b := b') _ :: h => match Nat.beq d d' with
    | true => match lk L d with
      | some (.v (.one (.bool b))) => some ((d, .cnd true (.one (.bool v))) :: L, B, h, [(.t (.one (.bool b)), .t (.one (.bool b')))])
      | _ => none
    | false => none
  | .o d' T sz :: h => match Nat.beq d d', Nat.blt 0 sz with
    | true, true => match lk L d with
      | some (.v (.one .nils)) => match lenB B, pushB B (.row false T sz []) with
        | some i, some B' => some ((d, .v (.one (.orow i sz none))) :: L, B', h, [])
        | _, _ => none
      | _ => none
    | _, _ => none
  | .oc d' off T sz :: h => match Nat.beq d d', Nat.blt 0 sz with
    | true, true => match lk L d with
      | some (.v (.one (.ow j 0))) => match bAt B j with
        | some (.blk T' xs) => match subL xs off 1 with
          | some [.nils] => match lenB B with
            | some i => match updO xs off [.orow i sz none] with
              | some r => match setB B j (.blk T' r) with
                | some B1 => match pushB B1 (.row false T sz []) with
                  | some B' => some (L, B', h, [])
                  | none => none
                | none => none
              | none => none
            | none => none
          | _ => none
        | _ => none
      | _ => none
    | _, _ => none
  | _ => none
theorem SA.same {F : Fr} {E : Env} {M : Nat → Prop} {a : Act} {w : World} (h : SA F n L B E M a w) {d : Nat} {u v : AV} (hd : lk L d = some u) (hv : ∀ x, ARep w M E x u → ARep w M E x v) : SA F n ((d, v) :: L) B E M a w :=
  ⟨h.hs, h.size, h.defers, fun t x hx => by
    simp only [lk] at hx
    split at hx
    · rename_i e
      obtain rfl := Nat.eq_of_beq_eq_true e
      injection hx with hx; subst hx
      obtain ⟨y, h1, h2⟩ := h.slots t u hd
      exact ⟨y, h1, hv y h2⟩
    · exact h.slots t x hx⟩
theorem pst_ok {d : Nat} {h h' : List (H P)} {q : Eqs} (hp : pstE d L B h = some (L', B', h', q)) (hq : EqOk q) : Sub n L B L' B' := by
  unfold pstE at hp
  split at hp
  · rename_i d' u v huv h2
    split at hp
    · split at hp
      · rename_i t ht
        obtain ⟨rfl, rfl, rfl, rfl⟩ := some4 hp
        have e := hq.hd; injection e with e; subst e; subst huv
        exact fun F E M a w hs => ⟨E, M, hs.same ht fun _ h => h⟩
      · cases hp
    · cases hp
  · rename_i d' h2
    split at hp
    · split at hp
      · rename_i ht
        split at hp
        · rename_i hu
          obtain ⟨rfl, rfl, rfl, rfl⟩ := some4 hp
          exact fun F E M a w hs => ⟨E, M, hs.same ht fun _ h => turnT nilV_ok hu h⟩
        · cases hp
      · cases hp
    · cases hp
  · rename_i d' v b' hb h2
    split at hp
    · split at hp
      · rename_i b ht
        obtain ⟨rfl, rfl, rfl, rfl⟩ := some4 hp
        have e := hq.hd; injection e with e; injection e with e; injection e with e; subst e; subst hb
        exact fun F E M a w hs => ⟨E, M, hs.same ht fun _ h => ⟨fun _ => h, fun e => by cases e⟩⟩
      · cases hp
    · cases hp
  · rename_i d' T sz h2
    split at hp
    · rename_i e h0
      rw [Nat.blt_eq] at h0
      split at hp
      · rename_i ht
        split at hp
        · rename_i i B2 hi hB
          obtain ⟨rfl, rfl, rfl, rfl⟩ := some4 hp
          obtain rfl := lenB_eq hi
          obtain rfl := pushB_eq hB
          intro F E M a w hs
          obtain ⟨E', M', h1, h3⟩ := hs.ownNil (T := T) h0
          exact ⟨E', M', h1.same ht fun x hx => ⟨none, 0, h3, by simp, by cases (show LRep _ _ _ .nils from hx); exact ⟨rfl, rfl, rfl⟩⟩⟩
        · cases hp
      · cases hp
    · cases hp
  · rename_i d' off T sz h2
    split at hp
    · rename_i e h0
      rw [Nat.blt_eq] at h0
      split at hp
      · rename_i j ht
        split at hp
        · rename_i T' xs hb
          split at hp
          · rename_i hnil
            split at hp
            · rename_i i hi
              split at hp
              · rename_i r hr
                split at hp
                · rename_i B1 hB1
                  split at hp
                  · rename_i B2 hB
                    obtain ⟨rfl, rfl, rfl, rfl⟩ := some4 hp
                    obtain rfl := lenB_eq hi
                    obtain rfl := pushB_eq hB
                    obtain ⟨rfl, hjl⟩ := setB_eq hB1
                    intro F E M a w hs
                    obtain ⟨E', M', h1, h3⟩ := hs.ownNil (T := T) h0
                    refine ⟨E', M', ?_⟩
                    have hbj : (B ++ [OB.row false T sz []])[j]? = some (.blk T' xs) := by rw [List.getElem?_append_left hjl, ← bAt_eq]; exact hb
                    have e1 : B.set j (.blk T' r) ++ [OB.row false T sz []] = (B ++ [OB.row false T sz []]).set j (.blk T' r) := by rw [List.set_append_left _ _ hjl]
                    obtain ⟨g, c, m, e2, cs, h4, h5⟩ := h1.blk (bAt_eq ▸ hbj)
                    obtain ⟨rfl, hle⟩ := updO_eq hr
                    obtain ⟨h6, h7⟩ := subL_eq hnil
                    rw [e1]
                    refine ⟨?_, h1.size, h1.defers, h1.slots⟩
                    have hn : nw ((B ++ [OB.row false T sz []]).set j (.blk T' (upd xs off [.orow B.length sz none]))) = nw (B ++ [OB.row false T sz []]) := nw_set
                    rw [hn, ob_set hbj]
                    refine h1.hs.re (fun i => ?_) (fun i => ?_) (fun i => ?_) fun i hi => ?_
                    · by_cases ei : i = j
                      · subst ei
                        rw [put1_self]
                        refine ⟨g, c, m, e2, cs, h4, F2.of (by rw [length_upd]; exact h5.len) fun k v x hv hx => ?_⟩
                        have hol : off < xs.length := by omega
                        have hx0 : xs[off]? = some .nils := by
                          have : ((xs.drop off).take 1)[0]? = some .nils := by rw [← h6]; rfl
                          rw [List.getElem?_take] at this
                          simpa using this
                        rw [upd_one] at hx
                        rw [List.getElem?_set] at hx
                        split at hx
                        · rename_i ek
                          subst ek
                          simp [hol] at hx
                          subst hx
                          have := h5.get' hv hx0
                          exact ⟨none, 0, h3, by simp, by cases (show LRep _ _ _ .nils from this); exact ⟨rfl, rfl, rfl⟩⟩
                        · exact h5.get' hv hx
                      · rw [put1_ne _ _ ei]; exact h1.hs.blk i
                    · by_cases ei : i = j
                      · subst ei; rw [put1_self, ob_of hbj]; rfl
                      · rw [put1_ne _ _ ei]
                    · by_cases ei : i = j
                      · subst ei; rw [put1_self, ob_of hbj]; rfl
                      · rw [put1_ne _ _ ei]
                    · by_cases ei : i = j
                      · subst ei; rw [ob_of hbj] at hi; cases hi
                      · rw [put1_ne _ _ ei]; exact hi
                  · cases hp
                · cases hp
              · cases hp
            · cases hp
          · cases hp
        · cases hp
      · cases hp
    · cases hp
  · cases hp
where upd_one {α : Type} : ∀ {xs : List α} {k : Nat} {x : α}, upd xs k [x] = xs.set k x
  | [], k, x => by cases k <;> rfl
  | y :: xs, 0, x => by simp [upd, upd_nil]
  | y :: xs, k + 1, x => by simp only [upd, List.set_cons_succ]; rw [upd_one]
end Orr

namespace Orr
open Go
def memN (i : Nat) : List Nat → Bool
  | [] => false
  | j :: l => match Nat.beq i j with
    | true => true
    | false => memN i l
theorem memN_iff {i : Nat} : ∀ {l : List Nat}, memN i l = true ↔ i ∈ l
  | [] => by simp [memN]
  | j :: l => by
    simp only [memN]
    split
    · rename_i e; simp [Nat.eq_of_beq_eq_true e]
    · rename_i e; rw [memN_iff]; simp [Nat.ne_of_beq_eq_false e]
def allB {α : Type} (f : α → Bool) : List α → Bool
  | [] => true
  | x :: l => match f x with
    | true => allB f l
    | false => false
theorem allB_of {α : Type} {f : α → Bool} : ∀ {l : List α}, allB f l = true → ∀ x ∈ l, f x = true
  | [], _, _, h => by cases h
  | y :: l, h, x, hx => by
    simp only [allB] at h
    split at h
    · rename_i e
      rcases List.mem_cons.1 hx with rfl | hx
      · exact e
      · exact allB_of h x hx
    · cases h
section
variable {F : Fr} {E : Env} {M : Nat → Prop} {w : World}
/-- as one that may not be moved -/
def fxO : OB → OB
  | .row _ T sz ls => .row true T sz ls
  | b => b
/-- the flag of another one -/
def flO : OB → OB → OB
  | .row f _ _ _, .row _ T sz ls => .row f T sz ls
  | _, b => b
theorem fxO_rep {i : Nat} {b c : OB} (h : fxO b = fxO c) (hr : OBRep w M E i b) : OBRep w M E i c := by
  cases b <;> cases c <;> simp only [fxO, OB.row.injEq, OB.blk.injEq, OB.mpb.injEq, reduceCtorEq] at h
  · trivial
  · obtain ⟨rfl, rfl⟩ := h; exact hr
  · obtain ⟨_, rfl, rfl, rfl⟩ := h; exact hr
  · subst h; exact hr
theorem fxO_lv {b c : OB} (h : fxO b = fxO c) : b.lv = c.lv := by
  cases b <;> cases c <;> simp only [fxO, reduceCtorEq] at h <;> rfl
theorem flO_fx (b c : OB) : fxO (flO b c) = fxO c := by cases b <;> cases c <;> rfl
theorem HS.flag {bl bl' : Nat → OB} {U : Nat → Prop} (h : HS F bl U E M w) (h1 : ∀ i, fxO (bl i) = fxO (bl' i)) (h2 : ∀ i, (bl' i).mv = true → ¬ F.J i) : HS F bl' U E M w :=
  { h with
    nj := h2
    blk := fun i => fxO_rep (h1 i) (h.blk i)
    nk := fun i g c m hi => h.nk i g c m (by rw [fxO_lv (h1 i)]; exact hi)
    inj := fun i j g c m c' m' hi hj => h.inj i j g c m c' m' (by rw [fxO_lv (h1 i)]; exact hi) (by rw [fxO_lv (h1 j)]; exact hj)
    un := fun i hi => ⟨(h.un i hi).1, by
      have := h1 i
      rw [(h.un i hi).2] at this
      cases hb : bl' i <;> rw [hb] at this <;> simp only [fxO, reduceCtorEq] at this⟩ }
end
variable {P : Program} {n : Nat} {L L' : Sg} {B B' : List OB} {Q : Exit → Sg → List OB → Prop}
/-- a call that is handed own things: under other numbers; they come back -/
theorem W1.callD {arr : Array Oper} {o : Oper} {N : Kp} {f d : Nat} {x : Operand} {xs : Array Operand} {ats : Array TypeId} {fv : LV} {pre post : List LV} {us ys args res : List TV} {Bin Bout B1 B2 : List OB} {L1 : Sg} {ρ : Nat → Nat}
    (hc : DoesD P f args Bin res Bout) (ho : o.op = .call { callee := .value x, args := xs, argTypes := ats }) (hg : o.guard = none) (hd : o.dst = some d) (hdn : Nat.blt d n = true) (hx : evT L x = some (.one fv)) (hfv : fnOf fv = some (f, pre, post)) (hxs : evTs L xs.toList = some us)
    (hys : forceT (appT pre us post) = some ys) (he : ys = args.map (renT ρ)) (hrho : ∀ i j, ρ i = ρ j → i = j) (hai : ∀ t ∈ args, ∀ i ∈ t.ids, i < Bin.length) (hbi : ∀ j, ∀ i ∈ (ob Bin j).ids, i < Bin.length) (hlv : ∀ j, j < Bin.length → (ob Bin j).lv = true)
    (hlt : ∀ j, j < Bin.length → ρ j < B.length) (hnw : ∀ j, Bin.length ≤ j → j < Bout.length → ρ j = B.length + (j - Bin.length)) (hio : Bin.length ≤ Bout.length)
    (hk1 : ∀ F E M a w, SA F n L B E M a w → SA F n L1 B1 E M a w) (hB1 : B1.length = B.length)
    (hks : ∀ j, (ob Bin j).mv = true → (∀ t x, lk L1 t = some x → ρ j ∉ x.ids) ∧ ∀ i, (∀ k, k < Bin.length → ρ k ≠ i) → ρ j ∉ (ob B1 i).ids)
    (hfx : ∀ j, j < Bin.length → fxO (ob B1 (ρ j)) = fxO (renO ρ (ob Bin j)) ∧ ((ob Bin j).mv = true → (ob B1 (ρ j)).mv = true))
    (hB2a : ∀ j, j < Bout.length → fxO (ob B2 (ρ j)) = fxO (renO ρ (ob Bout j)) ∧ (j < Bin.length → (ob B2 (ρ j)).mv = true → (ob B1 (ρ j)).mv = true))
    (hB2b : ∀ i, i < B.length → (∀ j, j < Bin.length → ρ j ≠ i) → ob B2 i = ob B1 i) (hB2l : B2.length = B.length + (Bout.length - Bin.length))
    (k : N ((d, avOf (res.map (renT ρ))) :: L1) B2) : W1 P arr n o N L B := by
  intro F E M a w K Q h0 hK
  subst he
  obtain ⟨vs, us', hv, h1, h2⟩ := fnOf_ok (h0.evT hx) hfv
  have hargs : F2 (TRep w M E) (vs ++ xs.toList.map a.eval ++ us') (args.map (renT ρ)) := forceT_ok hys (by rw [appT_eq]; exact (h1.ones.append (h0.evTs hxs)).append h2.ones)
  have h := hk1 _ _ _ _ _ h0
  have hnwB : nw B1 = nw B := by funext i; simp only [nw, hB1]
  let E0 : Env := fun j => if j < Bin.length then E (ρ j) else none
  have hE0 : ∀ j, j < Bin.length → E0 j = E (ρ j) := fun j hj => if_pos hj
  let blx : Nat → OB := fun i => open Classical in if hh : ∃ j, j < Bin.length ∧ ρ j = i then renO ρ (ob Bin hh.choose) else ob B1 i
  have hx1 : ∀ j, j < Bin.length → blx (ρ j) = renO ρ (ob Bin j) := fun j hj => by
    have hh : ∃ j', j' < Bin.length ∧ ρ j' = ρ j := ⟨j, hj, rfl⟩
    simp only [blx]
    rw [dif_pos hh, hrho _ _ hh.choose_spec.2]
  have hx2 : ∀ i, (∀ j, j < Bin.length → ρ j ≠ i) → blx i = ob B1 i := fun i hi => by
    simp only [blx]
    rw [dif_neg fun ⟨j, h1, h2⟩ => hi j h1 h2]
  have hcase : ∀ i, (∃ j, j < Bin.length ∧ ρ j = i) ∨ ∀ j, j < Bin.length → ρ j ≠ i := fun i => by
    by_cases hh : ∃ j, j < Bin.length ∧ ρ j = i
    · exact .inl hh
    · exact .inr fun j h1 h2 => hh ⟨j, h1, h2⟩
  have hsx : HS F blx (nw B1) E M w := by
    refine h.hs.flag (fun i => ?_) fun i hi => ?_
    · rcases hcase i with ⟨j, hj, rfl⟩ | hn
      · rw [hx1 j hj]; exact (hfx j hj).1
      · rw [hx2 i hn]
    · rcases hcase i with ⟨j, hj, rfl⟩ | hn
      · rw [hx1 j hj, (renO_lv _).2] at hi
        exact h.hs.nj _ ((hfx j hj).2 hi)
      · rw [hx2 i hn] at hi; exact h.hs.nj i hi
  have hlv' : ∀ j, (ob Bin j).lv = true → j < Bin.length := fun j hj => by
    apply Classical.byContradiction
    intro hn
    rw [ob_gone (by omega)] at hj; cases hj
  have hs0 : HS (prt (ob Bin) (nw Bin) E0 M w) (ob Bin) (nw Bin) E0 M w := hsx.sub (ρ := ρ) (fun j hj => hx1 j (hlv' j hj)) hrho (fun j hj => ob_gone hj) (fun j hj => if_neg (by simpa [nw] using hj)) (fun j hj => hE0 j (by simpa [nw] using hj)) fun j i hi => by have := hbi j i hi; simp only [nw]; omega
  have hargs0 : F2 (TRep w M E0) (vs ++ xs.toList.map a.eval ++ us') args := F2.of (by rw [hargs.len]; simp) fun j v t hv ht => by
    have := hargs.get' (b := renT ρ t) hv (by simp [ht])
    exact this.to fun i hi _ => hE0 i (hai t (List.mem_of_getElem? ht) i hi)
  refine stp_call hg (x_call hc.1 ho hv) (R := fun r w' => ∃ E' M', HS (prt (ob Bin) (nw Bin) E0 M w) (ob Bout) (nw Bout) E' M' w' ∧ ARep w' M' E' r (avOf res)) ((hc.2 _ _ _ _ _ hs0 hargs0).mono fun e w' hr => ?_) fun r w' ⟨E', M', hs1, hr⟩ => ?_
  · obtain ⟨r, u, Bo, E', M', e1, ⟨rfl, rfl⟩, _, hs1, hr⟩ := hr
    exact ⟨r, e1, E', M', hs1, hr⟩
  · have hcas2 : ∀ i, (∃ j, j < Bout.length ∧ ρ j = i) ∨ ∀ j, j < Bout.length → ρ j ≠ i := fun i => by
      by_cases hh : ∃ j, j < Bout.length ∧ ρ j = i
      · exact .inl hh
      · exact .inr fun j h1 h2 => hh ⟨j, h1, h2⟩
    let E2 : Env := fun i => open Classical in if hh : ∃ j, j < Bout.length ∧ ρ j = i then E' hh.choose else E i
    let bl2 : Nat → OB := fun i => open Classical in if hh : ∃ j, j < Bout.length ∧ ρ j = i then renO ρ (ob Bout hh.choose) else blx i
    have hE2 : ∀ j, j < Bout.length → E2 (ρ j) = E' j ∧ bl2 (ρ j) = renO ρ (ob Bout j) := fun j hj => by
      have hh : ∃ j', j' < Bout.length ∧ ρ j' = ρ j := ⟨j, hj, rfl⟩
      have := hrho _ _ hh.choose_spec.2
      simp only [E2, bl2]
      rw [dif_pos hh, dif_pos hh, this]
      exact ⟨rfl, rfl⟩
    have hE2n : ∀ i, (∀ j, j < Bout.length → ρ j ≠ i) → E2 i = E i ∧ bl2 i = blx i := fun i hi => by
      simp only [E2, bl2]
      rw [dif_neg fun ⟨j, h1, h2⟩ => hi j h1 h2, dif_neg fun ⟨j, h1, h2⟩ => hi j h1 h2]
      exact ⟨rfl, rfl⟩
    have kb : Back blx (ob Bin) (ob Bout) bl2 (nw B1) (nw Bin) (nw Bout) (nw B2) E E0 E' E2 ρ fun j => j < Bout.length := {
      inj := hrho
      hb := fun j hj => hx1 j (hlv' j hj)
      e' := fun j hj => hE0 j (by simpa [nw] using hj)
      a0 := fun j hj => by have := hlv' j hj; exact ⟨Nat.lt_of_lt_of_le this hio, by simp only [nw]; omega⟩
      a1 := fun j hj => by
        rcases Nat.lt_or_ge j Bin.length with h | h
        · exact .inl (hlv j h)
        · refine .inr ⟨h, ?_⟩
          rw [hnw j h hj, hnwB]; simp only [nw]; omega
      a2 := fun j h1 h2 => by simpa [nw] using h2
      hit := hE2
      no := hE2n
      u2 := fun i hi => by
        simp only [nw, hB2l] at hi
        refine ⟨by rw [hnwB]; simp only [nw]; omega, fun j hj e => ?_⟩
        rcases Nat.lt_or_ge j Bin.length with h | h
        · have := hlt j h; omega
        · have := hnw j h hj; omega
      mv := fun j hj i hi hm => by
        have hi' : ∀ k, k < Bin.length → ρ k ≠ i := fun k hk => hi k (Nat.lt_of_lt_of_le hk hio)
        rw [hx2 i hi'] at hm
        exact (hks j hj).2 i hi' hm }
    have hs2 := HS.back kb hsx hs1
    have hle := back_le kb hsx hs1
    have hs3 : HS F (ob B2) (nw B2) E2 M' w' := by
      refine hs2.flag (fun i => ?_) fun i hi => ?_
      · rcases hcas2 i with ⟨j, hj, rfl⟩ | hn
        · rw [(hE2 j hj).2]; exact (hB2a j hj).1.symm
        · have hn' : ∀ k, k < Bin.length → ρ k ≠ i := fun k hk => hn k (Nat.lt_of_lt_of_le hk hio)
          rw [(hE2n i hn).2, hx2 i hn']
          rcases Nat.lt_or_ge i B.length with h | h
          · rw [hB2b i h hn']
          · have : B2.length ≤ i := by
              apply Classical.byContradiction
              intro h3
              refine hn (Bin.length + (i - B.length)) (by omega) ?_
              rw [hnw _ (by omega) (by omega)]
              omega
            rw [ob_gone this, ob_gone (by omega)]
      · rcases hcas2 i with ⟨j, hj, rfl⟩ | hn
        · rcases Nat.lt_or_ge j Bin.length with h3 | h3
          · exact h.hs.nj _ ((hB2a j hj).2 h3 hi)
          · exact h0.hs.uj _ (by rw [hnw j h3 hj]; simp only [nw]; omega)
        · have hn' : ∀ k, k < Bin.length → ρ k ≠ i := fun k hk => hn k (Nat.lt_of_lt_of_le hk hio)
          rcases Nat.lt_or_ge i B.length with h3 | h3
          · rw [hB2b i h3 hn'] at hi; exact h.hs.nj i hi
          · exact h0.hs.uj i h3
    have hr2 : ARep w' M' E2 r (avOf (res.map (renT ρ))) := by
      have one : ∀ v t, TRep w' M' E' v t → TRep w' M' E2 v (renT ρ t) := fun v t h => h.un fun i _ hi => back_ren kb hsx hs1 hi
      match res, hr with
      | [t], hr => exact one r t hr
      | [], ⟨vs, e, hr⟩ => exact ⟨vs, e, by cases hr; exact .nil⟩
      | t :: t' :: l, ⟨vs, e, hr⟩ =>
        have key : ∀ (l : List TV) (vs : List Value), F2 (TRep w' M' E') vs l → F2 (TRep w' M' E2) vs (l.map (renT ρ)) := fun l vs hr => by
          induction hr with
          | nil => exact .nil
          | cons h0 _ ih => exact .cons (one _ _ h0) ih
        exact ⟨vs, e, key _ _ hr⟩
    exact hd ▸ hK _ _ _ _ _ _ (SA.put ⟨hs3, h.size, h.defers, fun t x hx => by
      obtain ⟨v, h3, h4⟩ := h.slots t x hx
      refine ⟨v, h3, h4.keep hle fun i hi hne => back_same kb hsx hs1 hne fun j hj e => ?_⟩
      subst e
      exact (hks j hj).1 t x hx hi⟩ hdn hr2) k
end Orr

namespace Orr
open Go
variable {P : Program} {n : Nat} {L L' : Sg} {B B' : List OB}
def nthN : List Nat → Nat → Option Nat
  | [], _ => none
  | i :: _, 0 => some i
  | _ :: l, j + 1 => nthN l j
theorem nthN_eq : ∀ {l : List Nat} {j : Nat}, nthN l j = l[j]?
  | [], _ => by simp [nthN]
  | _ :: _, 0 => by simp [nthN]
  | _ :: l, j + 1 => by simp [nthN, nthN_eq]
def rho (is : List Nat) (c : Nat) (j : Nat) : Nat := match nthN is j with
  | some i => i
  | none => c + j
def rnY (is : List Nat) : LV → Option LV
  | .ow i o => match nthN is i with
    | some j => some (.ow j o)
    | none => none
  | x => some x
def rnL (is : List Nat) : LV → Option LV
  | .ow i o => match nthN is i with
    | some j => some (.ow j o)
    | none => none
  | .orow i s p => match nthN is i with
    | some j => some (.orow j s p)
    | none => none
  | .oel i s k o => match nthN is i with
    | some j => some (.oel j s k o)
    | none => none
  | .omap i => match nthN is i with
    | some j => some (.omap j)
    | none => none
  | .ofn f a b => match mapO (rnY is) a, mapO (rnY is) b with
    | some a, some b => some (.ofn f a b)
    | _, _ => none
  | x => some x
/-- the one list is the beginning of the other -/
def Pre (is js : List Nat) : Prop := ∀ i j, nthN is i = some j → nthN js i = some j
theorem Pre.refl (is : List Nat) : Pre is is := fun _ _ h => h
theorem nthN_lt {is : List Nat} {i j : Nat} (h : nthN is i = some j) : i < is.length := by
  rw [nthN_eq] at h; exact (List.getElem?_eq_some_iff.1 h).1
section
variable {is js : List Nat} {c : Nat} (hp : Pre is js)
include hp
theorem rho_of {i j : Nat} (h : nthN is i = some j) : rho js c i = j := by simp only [rho, hp i j h]
theorem rnY_ok {x y : LV} (h : rnY is x = some y) : y = renY (rho js c) x ∧ ∀ i ∈ yids [x], i < is.length := by
  cases x <;> simp only [rnY] at h
  case ow i o =>
    split at h
    · rename_i j hj
      injection h with h; subst h
      exact ⟨by simp only [renY, rho_of hp hj], fun i' hi => by simp [yids] at hi; subst hi; exact nthN_lt hj⟩
    · cases h
  all_goals (injection h with h; subst h; exact ⟨rfl, fun i hi => by simp [yids] at hi⟩)
theorem rnYs_ok : ∀ {xs ys : List LV}, mapO (rnY is) xs = some ys → ys = xs.map (renY (rho js c)) ∧ ∀ i ∈ yids xs, i < is.length
  | [], ys, h => by simp only [mapO, Option.some.injEq] at h; subst h; exact ⟨rfl, fun i hi => by simp [yids] at hi⟩
  | x :: xs, ys, h => by
    simp only [mapO] at h
    split at h
    · rename_i y hy
      split at h
      · rename_i r hr
        injection h with h; subst h
        obtain ⟨h1, h2⟩ := rnY_ok (c := c) hp hy
        obtain ⟨h3, h4⟩ := rnYs_ok hr
        refine ⟨by rw [List.map_cons, ← h1, ← h3], fun i hi => ?_⟩
        cases x with
        | ow j o =>
          simp only [yids, List.mem_cons] at hi
          rcases hi with rfl | hi
          · exact h2 _ (by simp [yids])
          · exact h4 i hi
        | _ => exact h4 i hi
      · cases h
    · cases h
theorem rnL_ok {x y : LV} (h : rnL is x = some y) : y = renL (rho js c) x ∧ ∀ i ∈ x.ids, i < is.length := by
  cases x <;> simp only [rnL] at h
  case ofn f a b =>
    split at h
    · rename_i a' b' ha hb
      injection h with h; subst h
      obtain ⟨h1, h2⟩ := rnYs_ok (c := c) hp ha
      obtain ⟨h3, h4⟩ := rnYs_ok (c := c) hp hb
      exact ⟨by rw [h1, h3]; rfl, fun i hi => (List.mem_append.1 hi).elim (h2 i) (h4 i)⟩
    · cases h
  all_goals first
    | (injection h with h; subst h; exact ⟨rfl, fun i hi => by simp [LV.ids] at hi⟩)
    | (split at h
       · rename_i j hj
         injection h with h; subst h
         exact ⟨by simp only [renL, rho_of hp hj], fun i' hi => by simp [LV.ids] at hi; subst hi; exact nthN_lt hj⟩
       · cases h)
theorem rnLs_ok : ∀ {xs ys : List LV}, mapO (rnL is) xs = some ys → ys = xs.map (renL (rho js c)) ∧ ∀ i ∈ xs.flatMap LV.ids, i < is.length
  | [], ys, h => by simp only [mapO, Option.some.injEq] at h; subst h; exact ⟨rfl, fun i hi => by simp at hi⟩
  | x :: xs, ys, h => by
    simp only [mapO] at h
    split at h
    · rename_i y hy
      split at h
      · rename_i r hr
        injection h with h; subst h
        obtain ⟨h1, h2⟩ := rnL_ok (c := c) hp hy
        obtain ⟨h3, h4⟩ := rnLs_ok hr
        refine ⟨by rw [List.map_cons, ← h1, ← h3], fun i hi => ?_⟩
        rw [List.flatMap_cons] at hi
        exact (List.mem_append.1 hi).elim (h2 i) (h4 i)
      · cases h
    · cases h
theorem rnT_ok {t u : TV} (h : tvO (rnL is) t = some u) : u = renT (rho js c) t ∧ ∀ i ∈ t.ids, i < is.length := by
  cases t <;> simp only [tvO] at h <;> split at h <;> first | (cases h; done) | skip
  · rename_i hy; injection h with h; subst h; obtain ⟨h1, h2⟩ := rnL_ok (c := c) hp hy; exact ⟨by rw [h1]; rfl, h2⟩
  · rename_i hy; injection h with h; subst h; obtain ⟨h1, h2⟩ := rnLs_ok (c := c) hp hy; exact ⟨by rw [h1]; rfl, h2⟩
theorem rnTs_ok : ∀ {xs ys : List TV}, mapO (tvO (rnL is)) xs = some ys → ys = xs.map (renT (rho js c)) ∧ ∀ t ∈ xs, ∀ i ∈ t.ids, i < is.length
  | [], ys, h => by simp only [mapO, Option.some.injEq] at h; subst h; exact ⟨rfl, fun i hi => by simp at hi⟩
  | x :: xs, ys, h => by
    simp only [mapO] at h
    split at h
    · rename_i y hy
      split at h
      · rename_i r hr
        injection h with h; subst h
        obtain ⟨h1, h2⟩ := rnT_ok (c := c) hp hy
        obtain ⟨h3, h4⟩ := rnTs_ok hr
        refine ⟨by rw [List.map_cons, ← h1, ← h3], fun t ht => ?_⟩
        rcases List.mem_cons.1 ht with rfl | ht
        · exact h2
        · exact h4 t ht
      · cases h
    · cases h
theorem rnO_ok {b d : OB} (h : obO (rnL is) b = some d) : d = renO (rho js c) b ∧ ∀ i ∈ b.ids, i < is.length := by
  cases b with
  | blk T xs =>
    simp only [obO] at h
    split at h
    · rename_i hy; injection h with h; subst h; obtain ⟨h1, h2⟩ := rnLs_ok (c := c) hp hy; exact ⟨by rw [h1]; rfl, h2⟩
    · cases h
  | _ => simp only [obO, Option.some.injEq] at h; subst h; exact ⟨rfl, fun i hi => by simp [OB.ids] at hi⟩
end
/-! ### what is moved is forgotten elsewhere -/
def disj : List Nat → List Nat → Bool
  | [], _ => true
  | i :: l, ms => match memN i ms with
    | true => false
    | false => disj l ms
theorem disj_ok : ∀ {l ms : List Nat}, disj l ms = true → ∀ m ∈ ms, m ∉ l
  | [], _, _, m, _ => by simp
  | i :: l, ms, h, m, hm => by
    simp only [disj] at h
    split at h
    · cases h
    · rename_i hn
      intro hi
      rcases List.mem_cons.1 hi with rfl | hi
      · rw [memN_iff.2 hm] at hn; cases hn
      · exact disj_ok h m hm hi
def kilV (ms : List Nat) (x : LV) : Option LV := match disj x.ids ms with
  | true => some x
  | false => some .any
theorem kilV_ok {w : World} {M : Nat → Prop} {E : Env} {ms : List Nat} : Turn w M E w M E (kilV ms) := by
  intro v x y h hr
  unfold kilV at h
  split at h <;> (injection h with h; subst h)
  · exact hr
  · exact LRep.any v hr.one
theorem kilV_ids {ms : List Nat} {i : Nat} (hi : i ∈ ms) (x y : LV) (h : kilV ms x = some y) : i ∉ y.ids := by
  unfold kilV at h
  split at h <;> (injection h with h; subst h)
  · rename_i hd; exact disj_ok hd i hi
  · simp [LV.ids]
def klB (ms is : List Nat) : Nat → List OB → Option (List OB)
  | _, [] => some []
  | k, b :: l => match klB ms is (k + 1) l with
    | some r => match memN k is with
      | true => some (b :: r)
      | false => match obO (kilV ms) b with
        | some c => some (c :: r)
        | none => none
    | none => none
theorem klB_ok {ms is : List Nat} : ∀ {l r : List OB} {k : Nat}, klB ms is k l = some r → r.length = l.length ∧ ∀ (j : Nat) (b : OB), l[j]? = some b → ∃ c, r[j]? = some c ∧ (k + j ∈ is ∧ c = b ∨ k + j ∉ is ∧ obO (kilV ms) b = some c)
  | [], r, k, h => by simp only [klB, Option.some.injEq] at h; subst h; exact ⟨rfl, fun j b hb => by simp at hb⟩
  | b :: l, r, k, h => by
    simp only [klB] at h
    split at h
    · rename_i q hq
      obtain ⟨h1, h2⟩ := klB_ok hq
      have key : ∀ c, r = c :: q → (k ∈ is ∧ c = b ∨ k ∉ is ∧ obO (kilV ms) b = some c) → r.length = (b :: l).length ∧ ∀ (j : Nat) (b' : OB), (b :: l)[j]? = some b' → ∃ c, r[j]? = some c ∧ (k + j ∈ is ∧ c = b' ∨ k + j ∉ is ∧ obO (kilV ms) b' = some c) := fun c e hc => by
        subst e
        refine ⟨by simp [h1], fun j b' hb => ?_⟩
        cases j with
        | zero => simp at hb; subst hb; exact ⟨c, rfl, hc⟩
        | succ j =>
          rw [show k + (j + 1) = k + 1 + j from by omega]
          simpa using h2 j b' (by simpa using hb)
      split at h
      · rename_i hm
        injection h with h
        exact key b h.symm (.inl ⟨memN_iff.1 hm, rfl⟩)
      · rename_i hm
        split at h
        · rename_i c hc
          injection h with h
          exact key c h.symm (.inr ⟨fun h => (by rw [memN_iff.2 h] at hm; cases hm), hc⟩)
        · cases h
    · cases h
def kl (ms is : List Nat) (L : Sg) (B : List OB) : Option (Sg × List OB) := match ms with
  | [] => some (L, B)
  | _ => match sgO (kilV ms) L, klB ms is 0 B with
    | some L', some B' => some (L', B')
    | _, _ => none
theorem kl_ok {ms is : List Nat} (h : kl ms is L B = some (L', B')) : (∀ F E M a w, SA F n L B E M a w → SA F n L' B' E M a w) ∧ B'.length = B.length ∧ (∀ m ∈ ms, (∀ t x, lk L' t = some x → m ∉ x.ids) ∧ ∀ i, i ∉ is → m ∉ (ob B' i).ids) := by
  unfold kl at h
  split at h
  · injection h with h; injection h with e1 e2; subst e1; subst e2
    exact ⟨fun _ _ _ _ _ h => h, rfl, fun m hm => (by cases hm)⟩
  · split at h
    · rename_i L2 B2 hL hB
      injection h with h; injection h with e1 e2; subst e1; subst e2
      obtain ⟨h1, h2⟩ := klB_ok hB
      have hn : nw B2 = nw B := by funext i; simp only [nw, h1]
      have hg : ∀ i, (ob B2 i = .gone ∧ ob B i = .gone) ∨ ob B2 i = ob B i ∨ i ∉ is ∧ obO (kilV ms) (ob B i) = some (ob B2 i) := fun i => by
        rcases Nat.lt_or_ge i B.length with hi | hi
        · obtain ⟨c, h3, h4⟩ := h2 i _ (List.getElem?_eq_getElem hi)
          rw [Nat.zero_add] at h4
          rw [ob_of h3, ob_of (List.getElem?_eq_getElem hi)]
          rcases h4 with h4 | h4
          · exact .inr (.inl h4.2)
          · exact .inr (.inr h4)
        · exact .inl ⟨ob_gone (by omega), ob_gone hi⟩
      refine ⟨fun F E M a w hs => ⟨?_, hs.size, hs.defers, turnS kilV_ok hL hs.slots⟩, h1, fun m hm => ⟨fun t x hx => sgO_ids (kilV_ids hm) hL t x hx, fun i hi => ?_⟩⟩
      · rw [hn]
        refine hs.hs.re (fun i => ?_) (fun i => ?_) (fun i => ?_) fun i hi => ?_
        · rcases hg i with ⟨e, _⟩ | e | ⟨_, e⟩
          · rw [e]; trivial
          · rw [e]; exact hs.hs.blk i
          · exact obO_rep kilV_ok e (hs.hs.blk i)
        · rcases hg i with ⟨e, e'⟩ | e | ⟨_, e⟩
          · rw [e, e']
          · rw [e]
          · exact (obO_lv e).1
        · rcases hg i with ⟨e, e'⟩ | e | ⟨_, e⟩
          · rw [e, e']
          · rw [e]
          · exact (obO_lv e).2.1
        · rcases hg i with ⟨e, e'⟩ | e | ⟨_, e⟩
          · exact e
          · rw [e]; exact hi
          · exact (obO_lv e).2.2 hi
      · rcases Nat.lt_or_ge i B.length with hl | hl
        · obtain ⟨c, h3, h4⟩ := h2 i _ (List.getElem?_eq_getElem hl)
          rw [Nat.zero_add] at h4
          rw [ob_of h3]
          rcases h4 with ⟨h4, _⟩ | ⟨_, h4⟩
          · exact absurd h4 hi
          · generalize B[i] = b at h4
            cases b with
            | blk T xs =>
              simp only [obO] at h4
              split at h4
              · rename_i r hr; injection h4 with e; rw [← e]; exact mapO_ids (kilV_ids hm) hr
              · cases h4
            | _ => simp only [obO, Option.some.injEq] at h4; rw [← h4]; simp [OB.ids]
        · rw [ob_gone (by omega)]; simp [OB.ids]
    · cases h
/-! ### the blocks that are handed over -/
def mvsB : List Nat → List OB → Option (List Nat)
  | i :: is, b :: l => match mvsB is l with
    | some r => match b.mv with
      | true => some (i :: r)
      | false => some r
    | none => none
  | _, _ => some []
theorem mvsB_ok : ∀ {is : List Nat} {l : List OB} {r : List Nat}, mvsB is l = some r → ∀ (j i : Nat) (b : OB), is[j]? = some i → l[j]? = some b → b.mv = true → i ∈ r
  | [], _, _, _, j, i, b, h, _, _ => by simp at h
  | _ :: _, [], _, _, j, i, b, _, h, _ => by simp at h
  | i0 :: is, b0 :: l, r, h, j, i, b, hi, hb, hm => by
    simp only [mvsB] at h
    split at h
    · rename_i q hq
      have key : (j = 0 → i0 ∈ r) → (∀ x ∈ q, x ∈ r) → i ∈ r := fun k1 k2 => by
        cases j with
        | zero => simp at hi; subst hi; exact k1 rfl
        | succ j => exact k2 _ (mvsB_ok hq j i b (by simpa using hi) (by simpa using hb) hm)
      split at h
      · injection h with h; subst h; exact key (fun _ => .head _) fun x hx => .tail _ hx
      · rename_i hf
        injection h with h; subst h
        refine key (fun e => ?_) fun x hx => hx
        subst e; simp at hb; subst hb; rw [hm] at hf; cases hf
    · cases h
def eqB (is0 : List Nat) (B1 : List OB) : List Nat → List OB → Option Eqs
  | [], [] => some []
  | i :: is, c :: l => match bAt B1 i, obO (rnL is0) c, eqB is0 B1 is l with
    | some b, some c', some q => match c.lv && (!c.mv || b.mv) with
      | true => some ((.o c', .o (flO c' b)) :: q)
      | false => none
    | _, _, _ => none
  | _, _ => none
theorem eqB_ok {is0 js : List Nat} {c0 : Nat} {B1 : List OB} (hp : Pre is0 js) : ∀ {is : List Nat} {l : List OB} {q : Eqs}, eqB is0 B1 is l = some q → EqOk q → is.length = l.length ∧ ∀ (j : Nat) (c : OB), l[j]? = some c → ∃ i b, is[j]? = some i ∧ B1[i]? = some b ∧ c.lv = true ∧ (c.mv = true → b.mv = true) ∧ fxO b = fxO (renO (rho js c0) c) ∧ ∀ k ∈ c.ids, k < is0.length
  | [], [], _, _, _ => ⟨rfl, fun j c h => by simp at h⟩
  | i :: is, c :: l, q, h, hq => by
    simp only [eqB] at h
    split at h
    · rename_i b c' q' hb hc' hq'
      split at h
      · rename_i hf
        injection h with h; subst h
        obtain ⟨h1, h2⟩ := eqB_ok hp hq' hq.tl
        refine ⟨by simp [h1], fun j d hd => ?_⟩
        cases j with
        | zero =>
          simp at hd; subst hd
          obtain ⟨h3, h4⟩ := rnO_ok (c := c0) hp hc'
          have e := hq.hd; injection e with e
          rw [Bool.and_eq_true] at hf
          refine ⟨i, b, rfl, bAt_eq ▸ hb, hf.1, fun hm => by simpa [hm] using hf.2, ?_, h4⟩
          rw [← h3, e, flO_fx]
        | succ j => simpa using h2 j d (by simpa using hd)
      · cases h
    · cases h
  | [], _ :: _, _, h, _ => by cases h
  | _ :: _, [], _, h, _ => by cases h
def flF : OB → OB → Option OB
  | .row f _ _ _, .row _ T sz ls => some (.row f T sz ls)
  | _, .gone => some .gone
  | _, .blk T xs => some (.blk T xs)
  | _, .mpb es => some (.mpb es)
  | .gone, .row f T sz ls => some (.row f T sz ls)
  | .blk .., .row f T sz ls => some (.row f T sz ls)
  | .mpb _, .row f T sz ls => some (.row f T sz ls)
theorem flF_eq (b c : OB) : flF b c = some (flO b c) := by cases b <;> cases c <;> rfl
def fndB : List Nat → List OB → Nat → Option OB
  | i :: is, b :: bs, k => match Nat.beq i k with
    | true => some b
    | false => fndB is bs k
  | _, _, _ => none
def dropN : List Nat → List OB → Option (List OB)
  | [], l => some l
  | _ :: is, _ :: l => dropN is l
  | _ :: _, [] => none
theorem dropN_ok : ∀ {is : List Nat} {l r : List OB}, dropN is l = some r → is.length ≤ l.length ∧ r = l.drop is.length
  | [], l, r, h => by simp only [dropN, Option.some.injEq] at h; subst h; exact ⟨Nat.zero_le _, rfl⟩
  | _ :: is, _ :: l, r, h => by
    obtain ⟨h1, h2⟩ := dropN_ok (is := is) h
    exact ⟨by simp; omega, by simpa using h2⟩
  | _ :: _, [], _, h => by cases h
def putB (is : List Nat) (Bo : List OB) : Nat → List OB → Option (List OB)
  | _, [] => dropN is Bo
  | k, b :: l => match putB is Bo (k + 1) l with
    | some r => match fndB is Bo k with
      | some c => match flF b c with
        | some d => match !d.mv || b.mv with
          | true => some (d :: r)
          | false => none
        | none => none
      | none => some (b :: r)
    | none => none
theorem putB_ok {is : List Nat} {Bo : List OB} : ∀ {l r : List OB} {k : Nat}, putB is Bo k l = some r → is.length ≤ Bo.length ∧ r.length = l.length + (Bo.length - is.length) ∧ (∀ j, j < l.length → (ob r j = match fndB is Bo (k + j) with | some c => flO (ob l j) c | none => ob l j) ∧ ((ob r j).mv = true → (ob l j).mv = true)) ∧ ∀ j, ob r (l.length + j) = ob Bo (is.length + j)
  | [], r, k, h => by
    obtain ⟨h1, h2⟩ := dropN_ok h
    refine ⟨h1, by simp [h2], fun j hj => by simp at hj, fun j => ?_⟩
    subst h2
    simp [ob, List.getElem?_drop]
  | b :: l, r, k, h => by
    simp only [putB] at h
    split at h
    · rename_i q hq
      obtain ⟨h1, h2, h3, h4⟩ := putB_ok hq
      have key : ∀ d, r = d :: q → (d = match fndB is Bo k with | some c => flO b c | none => b) → (d.mv = true → b.mv = true) → is.length ≤ Bo.length ∧ r.length = (b :: l).length + (Bo.length - is.length) ∧ (∀ j, j < (b :: l).length → (ob r j = match fndB is Bo (k + j) with | some c => flO (ob (b :: l) j) c | none => ob (b :: l) j) ∧ ((ob r j).mv = true → (ob (b :: l) j).mv = true)) ∧ ∀ j, ob r ((b :: l).length + j) = ob Bo (is.length + j) := fun d e hd hdm => by
        subst e
        refine ⟨h1, by simp [h2]; omega, fun j hj => ?_, fun j => ?_⟩
        · cases j with
          | zero => rw [Nat.add_zero]; exact ⟨by simpa [ob] using hd, by simpa [ob] using hdm⟩
          | succ j =>
            have := h3 j (by simpa using hj)
            rw [show k + (j + 1) = k + 1 + j from by omega]
            simpa [ob] using this
        · rw [← h4 j, show (b :: l).length + j = (l.length + j) + 1 from by simp; omega]
          simp [ob]
      split at h
      · rename_i c hc
        rw [flF_eq] at h
        simp only at h
        split at h
        · rename_i hf
          injection h with h
          exact key _ h.symm (by rw [hc]) fun hm => by simpa [hm] using hf
        · cases h
      · rename_i hc
        injection h with h
        exact key _ h.symm (by rw [hc]) id
    · cases h
theorem fndB_some : ∀ {is : List Nat} {Bo : List OB} {k : Nat} {c : OB}, fndB is Bo k = some c → ∃ j : Nat, is[j]? = some k ∧ Bo[j]? = some c
  | [], _, _, _, h => by simp [fndB] at h
  | _ :: _, [], _, _, h => by simp [fndB] at h
  | i :: is, b :: bs, k, c, h => by
    simp only [fndB] at h
    split at h
    · rename_i e; injection h with h; subst h; exact ⟨0, by simp [Nat.eq_of_beq_eq_true e], rfl⟩
    · obtain ⟨j, h1, h2⟩ := fndB_some h; exact ⟨j + 1, by simpa using h1, by simpa using h2⟩
theorem fndB_none : ∀ {is : List Nat} {Bo : List OB} {k : Nat}, is.length ≤ Bo.length → fndB is Bo k = none → k ∉ is
  | [], _, _, _, _ => by simp
  | _ :: _, [], _, hl, _ => by simp at hl
  | i :: is, b :: bs, k, hl, h => by
    simp only [fndB] at h
    split at h
    · cases h
    · rename_i e
      have := fndB_none (by simpa using hl) h
      simp [Ne.symm (Nat.ne_of_beq_eq_false e), this]
def splN : List Nat → List OB → Option (List Nat × List Nat)
  | is, [] => some ([], is)
  | i :: is, _ :: l => match splN is l with
    | some (a, b) => some (i :: a, b)
    | none => none
  | [], _ :: _ => none
theorem splN_ok : ∀ {is : List Nat} {l : List OB} {a b : List Nat}, splN is l = some (a, b) → is = a ++ b ∧ a.length = l.length
  | is, [], a, b, h => by simp only [splN, Option.some.injEq, Prod.mk.injEq] at h; obtain ⟨rfl, rfl⟩ := h; exact ⟨rfl, rfl⟩
  | i :: is, _ :: l, a, b, h => by
    simp only [splN] at h
    split at h
    · rename_i a' b' hh
      obtain ⟨h1, h2⟩ := splN_ok hh
      simp only [Option.some.injEq, Prod.mk.injEq] at h
      obtain ⟨rfl, rfl⟩ := h
      exact ⟨by rw [h1]; rfl, by simp [h2]⟩
    · cases h
  | [], _ :: _, _, _, h => by cases h
def seqN : Nat → List Nat → Bool
  | _, [] => true
  | k, i :: l => match Nat.beq i k with
    | true => seqN (k + 1) l
    | false => false
theorem seqN_ok : ∀ {k : Nat} {l : List Nat}, seqN k l = true → ∀ (j i : Nat), l[j]? = some i → i = k + j
  | _, [], _, j, i, h => by simp at h
  | k, x :: l, h, j, i, hi => by
    simp only [seqN] at h
    split at h
    · rename_i e
      cases j with
      | zero => simp at hi; subst hi; exact Nat.eq_of_beq_eq_true e
      | succ j => have := seqN_ok h j i (by simpa using hi); omega
    · cases h
def ndp : List Nat → Bool
  | [] => true
  | i :: l => match memN i l with
    | true => false
    | false => ndp l
theorem ndp_ok : ∀ {l : List Nat}, ndp l = true → ∀ i j k : Nat, l[i]? = some k → l[j]? = some k → i = j
  | [], _, i, j, k, h, _ => by simp at h
  | x :: l, h, i, j, k, hi, hj => by
    simp only [ndp] at h
    split at h
    · cases h
    · rename_i hn
      have hx : x ∉ l := fun h => by rw [memN_iff.2 h] at hn; cases hn
      cases i with
      | zero =>
        cases j with
        | zero => rfl
        | succ j => simp at hi hj; subst hi; exact absurd (List.mem_of_getElem? hj) hx
      | succ i =>
        cases j with
        | zero => simp at hi hj; subst hj; exact absurd (List.mem_of_getElem? hi) hx
        | succ j => rw [ndp_ok h i j k (by simpa using hi) (by simpa using hj)]
def callF (L : Sg) (B : List OB) (h : List (H P)) (d f : Nat) (ys : List TV) : St P := match h with
  | .c (f := f') (args := args) (Bin := Bin) (res := res) (Bout := Bout) is _ :: h => match Nat.beq f f', lenB B, splN is Bin with
    | true, some nB, some (is1, is2) => match mapO (tvO (rnL is1)) args, mvsB is1 Bin with
      | some args', some ms => match zipT ys args', kl ms is1 L B with
        | some q, some (L1, B1) => match eqB is1 B1 is1 Bin, mapO (obO (rnL is)) Bout with
          | some q2, some Bo => match putB is1 Bo 0 B1, mapO (tvO (rnL is)) res with
            | some B2, some res' => match avF res' with
              | some u => match ndp is, seqN nB is2, (allB (Nat.blt · nB) is1 && Nat.beq is.length Bout.length) with
                | true, true, true => some ((d, u) :: L1, B2, h, q ++ q2, [])
                | _, _, _ => none
              | none => none
            | _, _ => none
          | _, _ => none
        | _, _ => none
      | _, _ => none
    | _, _, _ => none
  | _ => none
def callO (L : Sg) (B : List OB) (h : List (H P)) (d f : Nat) (ys : List TV) : St P := match callE L B h d f ys with
  | some r => some r
  | none => callF L B h d f ys
theorem mapO_len {α β : Type} {f : α → Option β} {l : List α} {r : List β} (h : mapO f l = some r) : r.length = l.length := (mapO_get h).1
theorem rnOs_ok {is js : List Nat} {c : Nat} (hp : Pre is js) {l r : List OB} (h : mapO (obO (rnL is)) l = some r) (j : Nat) : ob r j = renO (rho js c) (ob l j) := by
  rcases mapO_ob h j with ⟨h1, h2⟩ | h1
  · rw [ob_gone h1, ob_gone h2]; rfl
  · exact (rnO_ok hp h1).1
theorem callO_ok {arr : Array Oper} {o : Oper} {N : Kp} {h h' : List (H P)} {q : Eqs} {obs : List Prop} {d f : Nat} {us ys : List TV} {x : Operand} {xs : Array Operand} {ats : Array TypeId} {fv : LV} {pre post : List LV} (ho : o.op = .call { callee := .value x, args := xs, argTypes := ats }) (hg : o.guard = none) (hd : o.dst = some d) (hdn : Nat.blt d n = true)
    (hx : evT L x = some (.one fv)) (hfv : fnOf fv = some (f, pre, post)) (hus : evTs L xs.toList = some us) (hys : forceT (appT pre us post) = some ys) (hc : callO L B h d f ys = some (L', B', h', q, obs)) (hq : EqOk q) (k : N L' B') : W1 P arr n o N L B := by
  unfold callO at hc
  split at hc
  · rename_i r hcE
    injection hc with hc; subst hc
    rename_i hc
    unfold callE at hcE
    split at hcE
    · rename_i f' args Bin res Bout is hdo h2
      split at hcE
      · rename_i hB hfr
        simp only [Bool.and_eq_true] at hB hfr
        obtain rfl := isNl_eq hB.1
        obtain rfl := isNl_eq hB.2
        split at hcE
        · rename_i q2 hz
          split at hcE
          · rename_i u hu
            obtain ⟨rfl, rfl, rfl, rfl, rfl⟩ := some5 hcE
            have e0 := hq.hd; injection e0 with e0; subst e0
            exact W1.call hdo ho hg hd hdn hx hfv hus hys (zipT_ok hz hq.tl) hfr.1 hfr.2 (by rw [avF_eq hu]; exact k)
          · cases hcE
        · cases hcE
      · cases hcE
    · cases hcE
  · rename_i hne; clear hne
    unfold callF at hc
    split at hc
    · rename_i f' args Bin res Bout is hdo h2
      split at hc
      · rename_i nB is1 is2 e hnB hspl
        obtain rfl := Nat.eq_of_beq_eq_true e
        obtain rfl := lenB_eq hnB
        obtain ⟨hsp, hl1⟩ := splN_ok hspl
        split at hc
        · rename_i args' ms hargs hms
          split at hc
          · rename_i q1 L1 B1 hz hkl
            split at hc
            · rename_i q2 Bo hq2 hBo
              split at hc
              · rename_i B2 res' hput hres
                split at hc
                · rename_i u hu
                  split at hc
                  · rename_i hnd hseq hlt
                    obtain ⟨rfl, rfl, rfl, rfl, rfl⟩ := some5 hc
                    rw [Bool.and_eq_true] at hlt
                    obtain ⟨hlt, hlen⟩ := hlt
                    have hlen := Nat.eq_of_beq_eq_true hlen
                    have hlt : ∀ i ∈ is1, i < B.length := fun i hi => by have := allB_of hlt i hi; rwa [Nat.blt_eq] at this
                    obtain ⟨hqa, hqb⟩ := hq.app
                    have hpre : Pre is1 is := fun i j hj => by
                      rw [nthN_eq] at hj ⊢
                      rw [hsp, List.getElem?_append_left (List.getElem?_eq_some_iff.1 hj).1]; exact hj
                    let c := B.length + is.length
                    obtain ⟨ha1, ha2⟩ := rnTs_ok (c := c) hpre hargs
                    obtain ⟨hr1, _⟩ := rnTs_ok (c := c) (Pre.refl is) hres
                    obtain ⟨hk1, hk2, hk3⟩ := kl_ok (n := n) hkl
                    obtain ⟨_, he2⟩ := eqB_ok (c0 := c) hpre hq2 hqb
                    have hBol := mapO_len hBo
                    obtain ⟨hp1, hp2, hp3, hp4⟩ := putB_ok hput
                    have hmv := mvsB_ok hms
                    have hi1 : ∀ j, j < Bin.length → ∃ i, is1[j]? = some i ∧ rho is c j = i := fun j hj => by
                      have h1 : is1[j]? = some is1[j] := List.getElem?_eq_getElem (by omega)
                      exact ⟨_, h1, rho_of hpre (by rw [nthN_eq]; exact h1)⟩
                    have hall : ∀ j i, is[j]? = some i → i < c := fun j i hj => by
                      have hjl := (List.getElem?_eq_some_iff.1 hj).1
                      have hll : is.length = is1.length + is2.length := by rw [hsp]; simp
                      rcases Nat.lt_or_ge j is1.length with h | h
                      · rw [hsp, List.getElem?_append_left h] at hj
                        have := hlt i (List.mem_of_getElem? hj)
                        simp only [c]; omega
                      · rw [hsp, List.getElem?_append_right h] at hj
                        have := seqN_ok hseq _ _ hj
                        have := (List.getElem?_eq_some_iff.1 hj).1
                        simp only [c]; omega
                    have hrho : ∀ i j, rho is c i = rho is c j → i = j := fun i j e => by
                      simp only [rho, nthN_eq] at e
                      cases hi : is[i]? with
                      | none =>
                        cases hj : is[j]? with
                        | none => simp only [hi, hj] at e; omega
                        | some b => simp only [hi, hj] at e; have := hall j b hj; omega
                      | some a =>
                        cases hj : is[j]? with
                        | none => simp only [hi, hj] at e; have := hall i a hi; omega
                        | some b => simp only [hi, hj] at e; subst e; exact ndp_ok hnd i j a hi hj
                    have hobin : ∀ j, j < Bin.length → ∃ i b, is1[j]? = some i ∧ B1[i]? = some b ∧ (ob Bin j).lv = true ∧ ((ob Bin j).mv = true → b.mv = true) ∧ fxO b = fxO (renO (rho is c) (ob Bin j)) ∧ ∀ k ∈ (ob Bin j).ids, k < is1.length := fun j hj => by
                      have h1 := List.getElem?_eq_getElem hj
                      rw [ob_of h1]
                      exact he2 j _ h1
                    have hbg : ∀ j, ¬ j < Bin.length → ob Bin j = .gone := fun j hj => ob_gone (by omega)
                    have hBoutl : Bo.length = Bout.length := hBol
                    refine W1.callD (ρ := rho is c) (B1 := B1) (L1 := L1) hdo ho hg hd hdn hx hfv hus hys ((zipT_ok hz hqa).trans ha1) hrho (fun t ht i hi => by have := ha2 t ht i hi; omega) (fun j i hi => ?_) (fun j hj => ?_) (fun j hj => ?_) (fun j h1 h2 => ?_) (by omega) hk1 hk2 (fun j hj => ?_) (fun j hj => ?_) (fun j hj => ?_) (fun i hi hn => ?_) (by rw [hp2, hk2]; omega) ?_
                    · rcases Nat.lt_or_ge j Bin.length with hj | hj
                      · obtain ⟨_, _, _, _, _, _, _, h9⟩ := hobin j hj
                        have := h9 i hi; omega
                      · rw [ob_gone hj] at hi; simp [OB.ids] at hi
                    · obtain ⟨_, _, _, _, h5, _⟩ := hobin j hj; exact h5
                    · obtain ⟨i, h1, h2⟩ := hi1 j hj
                      rw [h2]; exact hlt i (List.mem_of_getElem? h1)
                    · have hll : is.length = is1.length + is2.length := by rw [hsp]; simp
                      have h3 : is[j]? = is2[j - is1.length]? := by rw [hsp, List.getElem?_append_right (by omega)]
                      have h4 : is2[j - is1.length]? = some is2[j - is1.length] := List.getElem?_eq_getElem (by omega)
                      have h5 := seqN_ok hseq _ _ h4
                      rw [h4] at h3
                      have : rho is c j = is2[j - is1.length] := rho_of (Pre.refl is) (by rw [nthN_eq]; exact h3)
                      rw [this, h5, hl1]
                    · have hjl : j < Bin.length := by
                        apply Classical.byContradiction
                        intro hn
                        rw [hbg j hn] at hj; cases hj
                      obtain ⟨i, h1, h2⟩ := hi1 j hjl
                      have hb := List.getElem?_eq_getElem hjl
                      rw [ob_of hb] at hj
                      have := hmv j i _ h1 hb hj
                      rw [h2]
                      refine ⟨(hk3 i this).1, fun m hm => (hk3 i this).2 m fun hmi => ?_⟩
                      obtain ⟨j', hj'⟩ := List.mem_iff_getElem?.1 hmi
                      have hjl' : j' < Bin.length := by have := (List.getElem?_eq_some_iff.1 hj').1; omega
                      obtain ⟨i', h3, h4⟩ := hi1 j' hjl'
                      rw [hj'] at h3; injection h3 with h3
                      exact hm j' hjl' (h4.trans h3.symm)
                    · obtain ⟨i, b, h1, h3, h5, h6, h7, _⟩ := hobin j hj
                      obtain ⟨i', h1', h2⟩ := hi1 j hj
                      rw [h1] at h1'; injection h1' with h1'; subst h1'
                      rw [h2, ob_of h3]
                      exact ⟨h7, h6⟩
                    · have hBj := rnOs_ok (c := c) (Pre.refl is) hBo j
                      rcases Nat.lt_or_ge j Bin.length with h | h
                      · obtain ⟨i, h1, h2⟩ := hi1 j h
                        have hil := hlt i (List.mem_of_getElem? h1)
                        rw [h2]
                        obtain ⟨h3, h3m⟩ := hp3 i (by omega)
                        rw [Nat.zero_add] at h3
                        cases hf : fndB is1 Bo i with
                        | none => exact absurd (List.mem_of_getElem? h1) (fndB_none (by omega) hf)
                        | some b =>
                          rw [hf] at h3
                          have h3 : ob B2 i = flO (ob B1 i) b := h3
                          obtain ⟨j', h4, h5⟩ := fndB_some hf
                          have : j' = j := ndp_ok hnd j' j i (by rw [hsp, List.getElem?_append_left (List.getElem?_eq_some_iff.1 h4).1]; exact h4) (by rw [hsp, List.getElem?_append_left (List.getElem?_eq_some_iff.1 h1).1]; exact h1)
                          subst this
                          rw [ob_of h5] at hBj
                          exact ⟨by rw [h3, flO_fx, hBj], fun _ => h3m⟩
                      · have h1 := hp4 (j - Bin.length)
                        have e1 : is1.length + (j - Bin.length) = j := by omega
                        rw [e1] at h1
                        have hll : is.length = is1.length + is2.length := by rw [hsp]; simp
                        have h3 : is[j]? = is2[j - is1.length]? := by rw [hsp, List.getElem?_append_right (by omega)]
                        have h4 : is2[j - is1.length]? = some is2[j - is1.length] := List.getElem?_eq_getElem (by omega)
                        have h5 := seqN_ok hseq _ _ h4
                        rw [h4] at h3
                        have e2 : rho is c j = is2[j - is1.length] := rho_of (Pre.refl is) (by rw [nthN_eq]; exact h3)
                        rw [e2, h5, ← hk2, hl1, h1, hBj]
                        exact ⟨rfl, fun h' => by omega⟩
                    · have h3 := (hp3 i (by omega)).1
                      rw [Nat.zero_add] at h3
                      cases hf : fndB is1 Bo i with
                      | none => rw [hf] at h3; exact h3
                      | some b =>
                        obtain ⟨j', h4, _⟩ := fndB_some hf
                        have hjl' : j' < Bin.length := by have := (List.getElem?_eq_some_iff.1 h4).1; omega
                        obtain ⟨i', h5, h6⟩ := hi1 j' hjl'
                        rw [h4] at h5; injection h5 with h5
                        exact absurd (h6.trans h5.symm) (hn j' hjl')
                    · rw [← hr1, avF_eq hu]; exact k
                  · cases hc
                · cases hc
              · cases hc
            · cases hc
          · cases hc
        · cases hc
      · cases hc
    · cases hc
end Orr

namespace Orr
open Go
variable {P : Program} {n : Nat} {L L' : Sg} {B B' : List OB} {Q : Exit → Sg → List OB → Prop}
/-- what a call is handed: f and all arguments -/
def callA (L : Sg) (x : Operand) (xs : List Operand) : Option (Nat × List TV) := match evT L x with
  | some (.one fv) => match fnOf fv with
    | some (f, pre, post) => match evTs L xs with
      | some us => match forceT (appT pre us post) with
        | some ys => some (f, ys)
        | none => none
      | none => none
    | none => none
  | _ => none
theorem call_ok {arr : Array Oper} {o : Oper} {N : Kp} {h h' : List (H P)} {q : Eqs} {ob : List Prop} {d f : Nat} {ys : List TV} {x : Operand} {xs : Array Operand} {ats : Array TypeId} (ho : o.op = .call { callee := .value x, args := xs, argTypes := ats }) (hg : o.guard = none) (hd : o.dst = some d) (hdn : Nat.blt d n = true)
    (ha : callA L x xs.toList = some (f, ys)) (hc : callO L B h d f ys = some (L', B', h', q, ob)) (hq : EqOk q) (k : N L' B') : W1 P arr n o N L B := by
  unfold callA at ha
  split at ha
  · rename_i fv hx
    split at ha
    · rename_i f pre post hfv
      split at ha
      · rename_i us hus
        split at ha
        · rename_i ys hys
          injection ha with ha; injection ha with e1 e2; subst e1; subst e2
          exact callO_ok ho hg hd hdn hx hfv hus hys hc hq k
        · cases ha
      · cases ha
    · cases ha
  · cases ha
end Orr

namespace Orr
open Go
variable {P : Program} {arr : Array Oper} {n : Nat} {o : Oper} {F : Fr} {E : Env} {M : Nat → Prop} {a : Act} {w : World}
theorem wp_conv {o : Oper} {a : Act} {w : World} {K1 K2 : Act → World → Prop} {Q1 Q2 : Exit → Act → World → Prop} (hd : a.defers = [])
    (hK : ∀ a' w', K1 a' w' → a'.defers = [] ∧ ((∃ v, a' = a.put o.dst v) → K2 a' w')) (hp : ∀ c a w, ¬ Q1 (.panic c) a w) (ho : ¬ LetsOut Q1) (h : o.wp P a w K1 Q1) : o.wp P a w K2 Q2 := by
  unfold Oper.wp at *
  generalize (execOp a.eval o).run P w = r at *
  cases r with
  | ok nx w' =>
    cases nx <;> simp only [Oper.upon] at h ⊢
    case value v => exact (hK _ _ h).2 ⟨v, rfl⟩
    case skip => exact (hK _ _ h).2 ⟨_, rfl⟩
    case defer d =>
      have := (hK _ _ h).1
      cases hdst : o.dst <;> simp [Act.put, hdst] at this
    case enter f args =>
      refine Calls.mono h fun e w'' he => ?_
      cases e with
      | returned v => exact (hK _ _ he).2 ⟨v, rfl⟩
      | panicked c => exact absurd he (hp _ _ _)
      | outgrown => exact absurd he ho
    case row row args => exact Rows.mono h fun v w'' he => (hK _ _ he).2 ⟨v, rfl⟩
  | halt x w' =>
    cases x <;> simp only [Oper.upon] at h ⊢
    case panic v => exact absurd h (hp _ _ _)
theorem stp_conv {K1 K2 : Act → World → Prop} {Q : Exit → Act → World → Prop} (hd : a.defers = []) (hK : ∀ a' w', K1 a' w' → a'.defers = [] ∧ ((∃ v, a' = a.put o.dst v) → K2 a' w')) (h : stp P arr o a w K1 fun _ _ _ => False) : stp P arr o a w K2 Q := by
  have hno : ¬ LetsOut fun (_ : Exit) (_ : Act) (_ : World) => False := fun ⟨_, _, h⟩ => h
  unfold stp at *
  split
  · rename_i hw
    rw [if_pos hw] at h
    exact .inl (wp_conv hd hK (fun _ _ _ h => h) hno (h.resolve_right fun h => hno h.2))
  · rename_i hw
    rw [if_neg hw] at h
    exact (hK _ _ h).2 ⟨_, rfl⟩
/-- a state as functions -/
structure SF (F : Fr) (n : Nat) (sl : Nat → Option AV) (bl : Nat → OB) (U : Nat → Prop) (E : Env) (M : Nat → Prop) (a : Act) (w : World) : Prop where
  hs : HS F bl U E M w
  size : a.tmps.size = n
  defers : a.defers = []
  slots : ∀ t x, sl t = some x → ∃ v, a.tmps[t]? = some v ∧ ARep w M E v x
def lkf {α : Type} : List (Nat × α) → Nat → Option α
  | [], _ => none
  | (t, v) :: l, s => match Nat.beq s t with
    | true => some v
    | false => lkf l s
def upf {α : Type} (f : Nat → α) (l : List (Nat × α)) : Nat → α := fun t => match lkf l t with
  | some v => v
  | none => f t
/-- what is known of one operation: L0, B0: what it is begun with (only that); L1, B1: behind it; ws, wb: what it changes; mv: a number that it moves; nb, k: new numbers -/
structure Rc where
  L0 : Sg
  B0 : List OB
  L1 : Sg
  B1 : List OB
  ws : List (Nat × Option AV)
  wb : List (Nat × OB)
  mv : Option Nat
def Rc.act (r : Rc) (j : Nat) : Prop := (ob r.B0 j).lv = true ∨ r.B0.length ≤ j ∧ j < r.B1.length
/-- what a record says fits what is known -/
structure Loc (r : Rc) (sl : Nat → Option AV) (bl : Nat → OB) (U : Nat → Prop) : Prop where
  l0 : ∀ t x, lk r.L0 t = some x → sl t = some x
  b0 : ∀ j, (ob r.B0 j).lv = true → fxO (bl j) = fxO (ob r.B0 j) ∧ ((ob r.B0 j).mv = true → (bl j).mv = true) ∧ ∀ b, lkf r.wb j = some b → b.mv = true → (bl j).mv = true
  new : ∀ j, r.B0.length ≤ j → j < r.B1.length → U j
  mvs : ∀ i, r.mv = some i → (∀ t x, sl t = some x → i ∈ x.ids → (lkf r.ws t).isSome = true) ∧ ∀ j, i ∈ (bl j).ids → (lkf r.wb j).isSome = true
  kl : ∀ j b, lkf r.wb j = some b → ¬ r.act j → ∃ i, r.mv = some i ∧ obO (killV i) (bl j) = some b
/-- what a record says is right by itself -/
structure Wf (P : Program) (arr : Array Oper) (n : Nat) (o : Oper) (r : Rc) : Prop where
  w1 : W1 P arr n o (fun L B => L = r.L1 ∧ B = r.B1) r.L0 r.B0
  ids0 : ∀ t x, lk r.L0 t = some x → ∀ i ∈ x.ids, i < r.B0.length
  idsb : ∀ j, ∀ i ∈ (ob r.B0 j).ids, i < r.B0.length
  mv0 : ∀ j, (ob r.B0 j).mv = true → r.mv = some j
  mv1 : ∀ j, r.mv = some j → (ob r.B0 j).lv = true ∧ (lkf r.wb j).isSome = true
  ws1 : ∀ t x, lkf r.ws t = some (some x) → lk r.L1 t = some x
  ws2 : ∀ t, o.dst = some t → (lkf r.ws t).isSome = true
  wb1 : ∀ j b, lkf r.wb j = some b → r.act j → fxO b = fxO (ob r.B1 j)
  wb2 : ∀ j, r.act j → lkf r.wb j = none → fxO (ob r.B1 j) = fxO (ob r.B0 j) ∧ (ob r.B0 j).lv = true
theorem ren_id : ∀ b : OB, renO id b = b
  | .blk T xs => by
    have e : ∀ ys : List LV, ys.map (renY id) = ys := fun ys => by
      induction ys with
      | nil => rfl
      | cons y ys ih => simp only [List.map_cons, ih]; cases y <;> rfl
    have e2 : ∀ ys : List LV, ys.map (renL id) = ys := fun ys => by
      induction ys with
      | nil => rfl
      | cons y ys ih => simp only [List.map_cons, ih]; cases y <;> simp [renL, e]
    simp only [renO, e2]
  | .gone => rfl
  | .row .. => rfl
  | .mpb _ => rfl
theorem Loc.step {r : Rc} {sl : Nat → Option AV} {bl : Nat → OB} {U : Nat → Prop} (hl : Loc r sl bl U) (hw : Wf P arr n o r) (h : SF F n sl bl U E M a w) {K : Act → World → Prop} {Q : Exit → Act → World → Prop}
    (hK : ∀ a' w' E' M', SF F n (upf sl r.ws) (upf bl r.wb) (fun j => U j ∧ ¬ (r.B0.length ≤ j ∧ j < r.B1.length)) E' M' a' w' → K a' w') : stp P arr o a w K Q := by
  have hlv0 : ∀ j, (ob r.B0 j).lv = true → j < r.B0.length := fun j hj => by
    apply Classical.byContradiction
    intro hn
    rw [ob_gone (by omega)] at hj; cases hj
  -- other blocks forget what is moved
  have hkill : ∀ j, ¬ r.act j → OBRep w M E j (upf bl r.wb j) ∧ (upf bl r.wb j).lv = (bl j).lv ∧ (upf bl r.wb j).mv = (bl j).mv ∧ (bl j = .gone → upf bl r.wb j = .gone) ∧ ∀ i, r.mv = some i → i ∉ (upf bl r.wb j).ids := fun j hj => by
    simp only [upf]
    split
    · rename_i b hb
      obtain ⟨i, hi, hk⟩ := hl.kl j b hb hj
      obtain ⟨e1, e2, e3⟩ := obO_lv hk
      refine ⟨obO_rep killV_ok hk (h.hs.blk j), e1, e2, e3, fun i' hi' => ?_⟩
      rw [hi] at hi'; injection hi' with hi'; subst hi'
      cases hbj : bl j <;> rw [hbj] at hk <;> simp only [obO, Option.some.injEq] at hk <;> first | (rw [← hk]; simp [OB.ids]; done) | skip
      split at hk
      · rename_i r' hr'; injection hk with hk; rw [← hk]; exact mapO_ids (fun _ _ => killV_ids) hr'
      · cases hk
    · rename_i hb
      refine ⟨h.hs.blk j, rfl, rfl, id, fun i hi hm => ?_⟩
      have := (hl.mvs i hi).2 j hm
      rw [hb] at this; cases this
  let blx : Nat → OB := fun j => if (ob r.B0 j).lv = true then ob r.B0 j else if r.B0.length ≤ j ∧ j < r.B1.length then bl j else upf bl r.wb j
  have hx1 : ∀ j, (ob r.B0 j).lv = true → blx j = ob r.B0 j := fun j hj => if_pos hj
  have hx2 : ∀ j, ¬ r.act j → blx j = upf bl r.wb j := fun j hj => by
    simp only [blx]
    rw [if_neg fun h => hj (.inl h), if_neg fun h => hj (.inr h)]
  have hx3 : ∀ j, r.B0.length ≤ j ∧ j < r.B1.length → blx j = bl j := fun j hj => by
    simp only [blx]
    rw [if_neg fun h => by have := hlv0 j h; omega, if_pos hj]
  have hcase : ∀ j, (ob r.B0 j).lv = true ∨ (r.B0.length ≤ j ∧ j < r.B1.length) ∨ ¬ r.act j := fun j => by
    by_cases h1 : (ob r.B0 j).lv = true
    · exact .inl h1
    · by_cases h2 : r.B0.length ≤ j ∧ j < r.B1.length
      · exact .inr (.inl h2)
      · exact .inr (.inr fun h => h.elim h1 h2)
  have hsx : HS F blx U E M w := by
    have h1 : ∀ j, OBRep w M E j (blx j) ∧ (blx j).lv = (bl j).lv ∧ ((blx j).mv = true → (bl j).mv = true) ∧ (bl j = .gone → blx j = .gone) := fun j => by
      rcases hcase j with hj | hj | hj
      · rw [hx1 j hj]
        obtain ⟨e1, e2, _⟩ := hl.b0 j hj
        exact ⟨fxO_rep e1 (h.hs.blk j), (fxO_lv e1).symm, e2, fun e => by rw [e] at e1; have := fxO_lv e1; rw [hj] at this; cases this⟩
      · rw [hx3 j hj]; exact ⟨h.hs.blk j, rfl, id, id⟩
      · rw [hx2 j hj]
        obtain ⟨e1, e2, e3, e4, _⟩ := hkill j hj
        exact ⟨e1, e2, fun h => e3 ▸ h, e4⟩
    exact { h.hs with
      nj := fun i hi => h.hs.nj i ((h1 i).2.2.1 hi)
      blk := fun i => (h1 i).1
      nk := fun i g c m hi => h.hs.nk i g c m (by rw [← (h1 i).2.1]; exact hi)
      inj := fun i j g c m c' m' hi hj => h.hs.inj i j g c m c' m' (by rw [← (h1 i).2.1]; exact hi) (by rw [← (h1 j).2.1]; exact hj)
      un := fun i hi => ⟨(h.hs.un i hi).1, (h1 i).2.2.2 (h.hs.un i hi).2⟩ }
  let E' : Env := fun j => if r.B0.length ≤ j then none else E j
  have hE' : ∀ j, j < r.B0.length → E' j = E j := fun j hj => if_neg (by omega)
  have hsub : HS (prt (ob r.B0) (nw r.B0) E' M w) (ob r.B0) (nw r.B0) E' M w := hsx.sub (ρ := id) (fun j hj => by rw [ren_id]; exact hx1 j hj)
    (fun _ _ e => e) (fun j hj => ob_gone hj) (fun j hj => if_pos hj) (fun j hj => hE' j (by simpa [nw] using hj)) (fun j i hi => by have := hw.idsb j i hi; simp only [nw]; omega)
  have hsa : SA (prt (ob r.B0) (nw r.B0) E' M w) n r.L0 r.B0 E' M a w := ⟨hsub, h.size, h.defers, fun t x hx => by
    obtain ⟨v, h1, h2⟩ := h.slots t x (hl.l0 t x hx)
    exact ⟨v, h1, h2.keep (Le.refl _ _) fun i hi _ => hE' i (hw.ids0 t x hx i hi)⟩⟩
  refine stp_conv (K1 := fun a' w' => ∃ E1 M1, SA (prt (ob r.B0) (nw r.B0) E' M w) n r.L1 r.B1 E1 M1 a' w') h.defers (fun a' w' ⟨E1, M1, h1⟩ => ⟨h1.defers, fun ⟨v, ha⟩ => ?_⟩) (hw.w1 _ _ _ _ _ _ _ hsa fun a' w' L' B' E1 M1 h1 ⟨e1, e2⟩ => by subst e1; subst e2; exact ⟨E1, M1, h1⟩)
  -- it comes back
  have dec : ∀ j, r.act j ∨ ¬ r.act j := fun j => Classical.em _
  let E2 : Env := fun j => if (ob r.B0 j).lv = true ∨ r.B0.length ≤ j ∧ j < r.B1.length then E1 j else E j
  let bl2 : Nat → OB := fun j => if (ob r.B0 j).lv = true ∨ r.B0.length ≤ j ∧ j < r.B1.length then ob r.B1 j else blx j
  have kb : Back blx (ob r.B0) (ob r.B1) bl2 U (nw r.B0) (nw r.B1) (fun j => U j ∧ ¬ (r.B0.length ≤ j ∧ j < r.B1.length)) E E' E1 E2 id r.act := {
    inj := fun _ _ e => e
    hb := fun j hj => by rw [ren_id]; exact hx1 j hj
    e' := fun j hj => hE' j (by simpa [nw] using hj)
    a0 := fun j hj => ⟨.inl hj, by have := hlv0 j hj; simp only [nw]; omega⟩
    a1 := fun j hj => hj.imp id fun h => ⟨h.1, hl.new j h.1 h.2⟩
    a2 := fun j h1 h2 => .inr ⟨h1, by simpa [nw] using h2⟩
    hit := fun j hj => ⟨if_pos hj, by rw [ren_id]; exact if_pos hj⟩
    no := fun i hi => ⟨if_neg fun h => hi i h rfl, if_neg fun h => hi i h rfl⟩
    u2 := fun i hi => ⟨hi.1, fun j hj e => by
      have e : j = i := e
      subst e
      rcases hj with hj | hj
      · have h1 := (h.hs.un j hi.1).2
        have h2 := (hl.b0 j hj).1
        rw [h1] at h2
        rw [← fxO_lv h2] at hj; cases hj
      · exact hi.2 hj⟩
    mv := fun j hj i hi hm => by
      have hn : ¬ r.act i := fun h => hi i h rfl
      rw [hx2 i hn] at hm
      exact (hkill i hn).2.2.2.2 j (hw.mv0 j hj) hm }
  have hs2 := HS.back kb hsx h1.hs
  have hle := back_le kb hsx h1.hs
  have hfl : HS F (upf bl r.wb) (fun j => U j ∧ ¬ (r.B0.length ≤ j ∧ j < r.B1.length)) E2 M1 w' := by
    refine hs2.flag (fun j => ?_) fun j hj => ?_
    · rcases dec j with hj | hj
      · rw [show bl2 j = ob r.B1 j from if_pos hj]
        simp only [upf]
        split
        · rename_i b hb; exact (hw.wb1 j b hb hj).symm
        · rename_i hb
          obtain ⟨e1, e2⟩ := hw.wb2 j hj hb
          exact e1.trans (hl.b0 j e2).1.symm
      · rw [show bl2 j = blx j from if_neg hj, hx2 j hj]
    · rcases hcase j with hj' | hj' | hj'
      · simp only [upf] at hj
        split at hj
        · rename_i b hb; exact h.hs.nj j ((hl.b0 j hj').2.2 b hb hj)
        · exact h.hs.nj j hj
      · exact h.hs.uj j (hl.new j hj'.1 hj'.2)
      · rw [(hkill j hj').2.2.1] at hj; exact h.hs.nj j hj
  refine hK a' w' E2 M1 ⟨hfl, h1.size, h1.defers, fun t x hx => ?_⟩
  simp only [upf] at hx
  split at hx
  · rename_i y hy
    subst hx
    obtain ⟨v', h2, h3⟩ := h1.slots t x (hw.ws1 t x hy)
    exact ⟨v', h2, h3.keep (Le.refl _ _) fun i _ hi => back_ren kb hsx h1.hs hi⟩
  · rename_i hy
    have hne : o.dst ≠ some t := fun e => by have := hw.ws2 t e; rw [hy] at this; cases this
    obtain ⟨v', h2, h3⟩ := h.slots t x hx
    refine ⟨v', ?_, h3.keep hle fun i hi hne' => back_same kb hsx h1.hs hne' fun j hj e => ?_⟩
    · rw [ha]
      cases hd : o.dst with
      | none => exact h2
      | some d =>
        simp only [Act.put]
        rw [Array.getElem?_setIfInBounds_ne (fun e => hne (by rw [hd, e]))]
        exact h2
    · have e : j = i := e
      subst e
      have := (hl.mvs j (hw.mv0 j hj)).1 t x hx hi
      rw [hy] at this; cases this
end Orr

namespace Orr
open Go
variable {P : Program} {n : Nat} {Q : Exit → Act → World → Prop} {F : Fr}
def Rc.nw_ (r : Rc) (j : Nat) : Prop := r.B0.length ≤ j ∧ j < r.B1.length
/-- what is overwritten does not refer to what is moved -/
def Ov (mvs : List Nat) (r : Rc) (sl : Nat → Option AV) (bl : Nat → OB) : Prop :=
  (∀ t y, (lkf r.ws t).isSome = true → sl t = some y → ∀ i ∈ y.ids, i ∈ mvs → r.mv = some i) ∧ ∀ j, (lkf r.wb j).isSome = true → ∀ i ∈ (bl j).ids, i ∈ mvs → r.mv = some i
def DR (R : Nat → Rc) (mvs : List Nat) (N : (Nat → Option AV) → (Nat → OB) → (Nat → Prop) → Prop) : List Nat → (Nat → Option AV) → (Nat → OB) → (Nat → Prop) → Prop
  | [], sl, bl, U => N sl bl U
  | i :: l, sl, bl, U => Loc (R i) sl bl U ∧ Ov mvs (R i) sl bl ∧ DR R mvs N l (upf sl (R i).ws) (upf bl (R i).wb) (fun j => U j ∧ ¬ (R i).nw_ j)
structure Dj1 (p x : Rc) : Prop where
  rd : ∀ t, (lkf p.ws t).isSome = true → lk x.L0 t = none
  ws : ∀ t, (lkf p.ws t).isSome = true → lkf x.ws t = none
  wb : ∀ j, (lkf p.wb j).isSome = true → (ob x.B0 j).lv = false ∧ lkf x.wb j = none
  mv : ∀ i, p.mv = some i → (∀ t y, lkf x.ws t = some (some y) → i ∉ y.ids) ∧ ∀ j b, lkf x.wb j = some b → i ∉ b.ids
  nw : ∀ j, p.nw_ j → ¬ x.nw_ j
theorem isSome_none {α : Type} {o : Option α} (h : ¬ o.isSome = true) : o = none := by cases o <;> first | rfl | (exact absurd rfl h)
theorem upf_none {α : Type} {f : Nat → α} {l : List (Nat × α)} {t : Nat} (h : lkf l t = none) : upf f l t = f t := by simp [upf, h]
theorem Dj1.loc {p x : Rc} {mvs : List Nat} {sl : Nat → Option AV} {bl : Nat → OB} {U : Nat → Prop} (d : Dj1 p x) (d' : Dj1 x p) (hx : x.mv.all (mvs.contains ·) = true) (hx1 : ∀ j, x.mv = some j → (ob x.B0 j).lv = true) (hp1 : ∀ j, p.mv = some j → (lkf p.wb j).isSome = true) (ho : Ov mvs p sl bl)
    (h : Loc x (upf sl p.ws) (upf bl p.wb) fun j => U j ∧ ¬ p.nw_ j) : Loc x sl bl U := by
  have hno : ∀ i, x.mv = some i → i ∈ mvs ∧ p.mv ≠ some i := fun i hi => by
    rw [hi] at hx
    refine ⟨by simpa using hx, fun e => ?_⟩
    have := (d.wb i (hp1 i e)).1
    rw [hx1 i hi] at this; cases this
  refine ⟨fun t y hy => ?_, fun j hj => ?_, fun j h1 h2 => (h.new j h1 h2).1, fun i hi => ⟨fun t y hy hm => ?_, fun j hm => ?_⟩, fun j b hb hn => ?_⟩
  · have h1 := h.l0 t y hy
    rwa [upf_none (isSome_none fun e => by rw [d.rd t e] at hy; cases hy)] at h1
  · have h1 := h.b0 j hj
    rwa [upf_none (isSome_none fun e => by rw [(d.wb j e).1] at hj; cases hj)] at h1
  · by_cases e : (lkf p.ws t).isSome = true
    · obtain ⟨h1, h2⟩ := hno i hi
      exact absurd (ho.1 t y e hy i hm h1) h2
    · exact (h.mvs i hi).1 t y (by rw [upf_none (isSome_none e)]; exact hy) hm
  · by_cases e : (lkf p.wb j).isSome = true
    · obtain ⟨h1, h2⟩ := hno i hi
      exact absurd (ho.2 j e i hm h1) h2
    · exact (h.mvs i hi).2 j (by rw [upf_none (isSome_none e)]; exact hm)
  · have h1 := h.kl j b hb hn
    rwa [upf_none (d'.wb j (by rw [hb]; rfl)).2] at h1
theorem Dj1.loc' {p x : Rc} {sl : Nat → Option AV} {bl : Nat → OB} {U : Nat → Prop} (d : Dj1 p x) (d' : Dj1 x p) (h : Loc p sl bl U) : Loc p (upf sl x.ws) (upf bl x.wb) fun j => U j ∧ ¬ x.nw_ j := by
  refine ⟨fun t y hy => ?_, fun j hj => ?_, fun j h1 h2 => ⟨h.new j h1 h2, fun h3 => d.nw j ⟨h1, h2⟩ h3⟩, fun i hi => ⟨fun t y hy hm => ?_, fun j hm => ?_⟩, fun j b hb hn => ?_⟩
  · rw [upf_none (isSome_none fun e => by rw [d'.rd t e] at hy; cases hy)]; exact h.l0 t y hy
  · rw [upf_none (isSome_none fun e => by rw [(d'.wb j e).1] at hj; cases hj)]; exact h.b0 j hj
  · simp only [upf] at hy
    split at hy
    · rename_i v hv
      subst hy
      exact absurd hm ((d.mv i hi).1 t y hv)
    · exact (h.mvs i hi).1 t y hy hm
  · simp only [upf] at hm
    split at hm
    · rename_i b hb; exact absurd hm ((d.mv i hi).2 j b hb)
    · exact (h.mvs i hi).2 j hm
  · rw [upf_none (d.wb j (by rw [hb]; rfl)).2]; exact h.kl j b hb hn
theorem Ov.of {mvs : List Nat} {r r' : Rc} {sl : Nat → Option AV} {bl : Nat → OB} (d : Dj1 r r') (h : Ov mvs r sl bl) : Ov mvs r (upf sl r'.ws) (upf bl r'.wb) :=
  ⟨fun t y ht hy => h.1 t y ht (by rwa [upf_none (d.ws t ht)] at hy), fun j hj i hi => h.2 j hj i (by rwa [upf_none (d.wb j hj).2] at hi)⟩
theorem Ov.to {mvs : List Nat} {r r' : Rc} {sl : Nat → Option AV} {bl : Nat → OB} (d : Dj1 r r') (h : Ov mvs r (upf sl r'.ws) (upf bl r'.wb)) : Ov mvs r sl bl :=
  ⟨fun t y ht hy => h.1 t y ht (by rw [upf_none (d.ws t ht)]; exact hy), fun j hj i hi => h.2 j hj i (by rw [upf_none (d.wb j hj).2]; exact hi)⟩
theorem upf_comm {α : Type} {f : Nat → α} {a b : List (Nat × α)} (h : ∀ t, (lkf a t).isSome = true → lkf b t = none) : upf (upf f a) b = upf (upf f b) a := by
  funext t
  simp only [upf]
  cases ha : lkf a t with
  | none => cases lkf b t <;> rfl
  | some v => rw [h t (by rw [ha]; rfl)]
section
variable {R : Nat → Rc} {mvs : List Nat} {N : (Nat → Option AV) → (Nat → OB) → (Nat → Prop) → Prop}
structure Dj (mvs : List Nat) (p x : Rc) : Prop where
  a : Dj1 p x
  b : Dj1 x p
  m : x.mv.all (mvs.contains ·) = true
  x1 : ∀ j, x.mv = some j → (ob x.B0 j).lv = true
  p1 : ∀ j, p.mv = some j → (lkf p.wb j).isSome = true
theorem DR.swap {p x : Nat} {l : List Nat} {sl : Nat → Option AV} {bl : Nat → OB} {U : Nat → Prop} (d : Dj mvs (R p) (R x)) (h : DR R mvs N (p :: x :: l) sl bl U) : DR R mvs N (x :: p :: l) sl bl U := by
  obtain ⟨h1, h2, h3, h4, h5⟩ := h
  refine ⟨d.a.loc d.b d.m d.x1 d.p1 h2 h3, h4.to d.b, d.a.loc' d.b h1, h2.of d.a, ?_⟩
  rw [upf_comm (a := (R x).ws) (b := (R p).ws) d.b.ws, upf_comm (a := (R x).wb) (b := (R p).wb) fun j hj => (d.b.wb j hj).2]
  have e : (fun j => (U j ∧ ¬ (R x).nw_ j) ∧ ¬ (R p).nw_ j) = fun j => (U j ∧ ¬ (R p).nw_ j) ∧ ¬ (R x).nw_ j := by
    funext j; exact propext ⟨fun ⟨⟨a, b⟩, c⟩ => ⟨⟨a, c⟩, b⟩, fun ⟨⟨a, b⟩, c⟩ => ⟨⟨a, c⟩, b⟩⟩
  rw [e]; exact h5
theorem DR.front {i : Nat} : ∀ {l1 l2 : List Nat} {sl : Nat → Option AV} {bl : Nat → OB} {U : Nat → Prop}, (∀ p ∈ l1, Dj mvs (R p) (R i)) → DR R mvs N (l1 ++ i :: l2) sl bl U → DR R mvs N (i :: (l1 ++ l2)) sl bl U
  | [], _, _, _, _, _, h => h
  | p :: l1, l2, sl, bl, U, hd, h => by
    obtain ⟨h1, h2, h3⟩ := h
    exact DR.swap (hd p (.head _)) ⟨h1, h2, DR.front (l1 := l1) (fun q hq => hd q (.tail _ hq)) h3⟩
end
/-! ### what goes ahead -/
def preds (ops : List Oper) (i : Nat) : List Nat := match ops[i]? with
  | none => []
  | some o => o.after.toList.filterMap fun e => if Region.binds .any e then some e.on else none
/-- all that goes ahead of each operation, by and by -/
structure Cl (l : List Oper) (cl : Nat → Nat → Bool) : Prop where
  down : ∀ i, i < l.length → ∀ j ∈ preds l i, j < i
  closed : ∀ i, i < l.length → ∀ p, cl i p = true → p ∈ preds l i ∨ ∃ j ∈ preds l i, cl j p = true
theorem ready_iff {l : List Oper} {listed : Array Bool} {i : Nat} : i ∈ Region.ready .any l.toArray listed ↔ listed.getD i true = false ∧ i < l.length ∧ ∀ j ∈ preds l i, listed.getD j false = true := by
  constructor
  · intro h
    obtain ⟨h0, o, ho, hall⟩ := mem_ready.1 h
    have ho' : l[i]? = some o := by simpa using ho
    refine ⟨h0, (List.getElem?_eq_some_iff.1 ho').1, fun j hj => ?_⟩
    simp only [preds, ho', List.mem_filterMap] at hj
    obtain ⟨e, he, hb⟩ := hj
    split at hb
    · rename_i hbind
      injection hb with hb; subst hb
      exact hall e (by simpa using he) hbind
    · cases hb
  · rintro ⟨h0, hi, hp⟩
    refine mem_ready.2 ⟨h0, l[i], by simp [hi], fun e he hb => hp _ ?_⟩
    simp only [preds, List.getElem?_eq_getElem hi, List.mem_filterMap]
    exact ⟨e, by simpa using he, by simp [hb]⟩
theorem getD_tf {listed : Array Bool} {j : Nat} (hj : j < listed.size) : listed.getD j true = listed.getD j false := by simp [Array.getD, hj]
theorem draw_any {l : List Oper} {R : Nat → Rc} {mvs : List Nat} {cl : Nat → Nat → Bool} {N : (Nat → Option AV) → (Nat → OB) → (Nat → Prop) → Prop} (hc : Cl l cl) (hw : ∀ i o, l[i]? = some o → Wf P l.toArray n o (R i)) (hd : ∀ i, i < l.length → ∀ p, p < i → cl i p = false → Dj mvs (R p) (R i))
    (hq : ∀ a w sl bl U E M, SF F n sl bl U E M a w → N sl bl U → Q .normal a w) :
    ∀ (fuel : Nat) (listed : Array Bool) (rem : List Nat) (sl : Nat → Option AV) (bl : Nat → OB) (U : Nat → Prop) (E : Env) (M : Nat → Prop) (a : Act) (w : World), listed.size = l.length → rem.Pairwise (· < ·) → (∀ j, j ∈ rem ↔ j < l.length ∧ listed.getD j true = false) → rem.length ≤ fuel →
      (∀ i, i < l.length → listed.getD i true = true → ∀ j ∈ preds l i, listed.getD j true = true) →
      DR R mvs N rem sl bl U → SF F n sl bl U E M a w → wpAny P .any l.toArray Q fuel listed a w := by
  intro fuel
  have hnil : ∀ (listed : Array Bool) (rem : List Nat), listed.size = l.length → rem.Pairwise (· < ·) → (∀ j, j ∈ rem ↔ j < l.length ∧ listed.getD j true = false) → Region.ready .any l.toArray listed = [] → rem = [] := fun listed rem hs hp hm hr => by
    cases rem with
    | nil => rfl
    | cons i rem =>
      have hi := (hm i).1 (.head _)
      have : i ∈ Region.ready .any l.toArray listed := ready_iff.2 ⟨hi.2, hi.1, fun j hj => by
        have hji := hc.down i hi.1 j hj
        rw [← getD_tf (by omega)]
        cases e : listed.getD j true with
        | true => rfl
        | false =>
          have hjm := (hm j).2 ⟨by omega, e⟩
          rcases List.mem_cons.1 hjm with rfl | hjm
          · omega
          · have := (List.pairwise_cons.1 hp).1 j hjm; omega⟩
      rw [hr] at this; cases this
  induction fuel with
  | zero =>
    intro listed rem sl bl U E M a w hs hp hm hl hcl h hsf
    have : rem = [] := List.eq_nil_of_length_eq_zero (by omega)
    subst this
    refine ⟨?_, hq _ _ _ _ _ _ _ hsf h⟩
    apply List.eq_nil_iff_forall_not_mem.2
    intro j hj
    obtain ⟨h0, hjl, _⟩ := ready_iff.1 hj
    exact absurd ((hm j).2 ⟨hjl, h0⟩) (by simp)
  | succ fuel ih =>
    intro listed rem sl bl U E M a w hs hp hm hl hcl h hsf
    refine ⟨fun hr => ?_, fun i hi => ?_⟩
    · have := hnil listed rem hs hp hm hr
      subst this
      exact hq _ _ _ _ _ _ _ hsf h
    · obtain ⟨h0, hil, hpr⟩ := ready_iff.1 hi
      obtain ⟨l1, l2, rfl⟩ := List.append_of_mem ((hm i).2 ⟨hil, h0⟩)
      have hpp := List.pairwise_append.1 hp
      have hlt : ∀ p ∈ l1, p < i := fun p hp1 => hpp.2.2 p hp1 i (.head _)
      -- what is ahead of it and not done does not matter
      have hdone : ∀ j, cl i j = true → listed.getD j true = true := by
        have key : ∀ k, k < l.length → (∀ j ∈ preds l k, listed.getD j true = true) → ∀ j, cl k j = true → listed.getD j true = true := by
          intro k
          induction k using Nat.strongRecOn with
          | _ k ihk =>
            intro hk hpk j hj
            rcases hc.closed k hk j hj with h1 | ⟨q, hq1, hq2⟩
            · exact hpk j h1
            · have hqk := hc.down k hk q hq1
              exact ihk q hqk (by omega) (hcl q (by omega) (hpk q hq1)) j hq2
        exact fun j hj => key i hil (fun q hq => by have := hc.down i hil q hq; rw [getD_tf (by omega)]; exact hpr q hq) j hj
      have hdj : ∀ p ∈ l1, Dj mvs (R p) (R i) := fun p hp1 => hd i hil p (hlt p hp1) (by
        cases e : cl i p with
        | false => rfl
        | true =>
          have h1 := hdone p e
          have h2 := ((hm p).1 (List.mem_append.2 (.inl hp1))).2
          rw [h1] at h2; cases h2)
      obtain ⟨h1, _, h3⟩ := DR.front hdj h
      have ho : l[i]? = some l[i] := List.getElem?_eq_getElem hil
      unfold wpOp
      have hoa : l.toArray[i]? = some l[i] := by simpa using ho
      simp only [hoa]
      refine h1.step (hw i _ ho) hsf (Q := Q) fun a' w' E' M' hsf' => ?_
      refine ih _ (l1 ++ l2) _ _ _ E' M' a' w' (by simp [hs]) ?_ (fun j => ?_) (by simp at hl ⊢; omega) (fun k hk hkl j hj => ?_) h3 hsf'
      · refine List.pairwise_append.2 ⟨hpp.1, (List.pairwise_cons.1 hpp.2.1).2, fun a ha b hb => hpp.2.2 a ha b (.tail _ hb)⟩
      · by_cases hji : i = j
        · subst hji
          have : i ∉ l1 ++ l2 := fun hm' => by
            rcases List.mem_append.1 hm' with h | h
            · exact Nat.lt_irrefl _ (hlt i h)
            · exact Nat.lt_irrefl _ ((List.pairwise_cons.1 hpp.2.1).1 i h)
          simp [this, hs, hil]
        · rw [getD_set_ne true hji, ← hm j]
          simp [Ne.symm hji]
      · by_cases hki : i = k
        · subst hki
          have hji := hc.down i hil j hj
          rw [getD_set_ne true (by omega), getD_tf (by omega)]
          exact hpr j hj
        · rw [getD_set_ne true hki] at hkl
          have h2 := hcl k hk hkl j hj
          by_cases hij : i = j
          · subst hij; rw [h0] at h2; cases h2
          · rw [getD_set_ne true hij]; exact h2
end Orr

namespace Orr
open Go
variable {P : Program} {n : Nat}
theorem lk_mem : ∀ {L : Sg} {t : Nat} {x : AV}, lk L t = some x → (t, x) ∈ L
  | (s, v) :: L, t, x, h => by
    simp only [lk] at h
    split at h
    · rename_i e; injection h with h; subst h; rw [Nat.eq_of_beq_eq_true e]; exact .head _
    · exact .tail _ (lk_mem h)
theorem lkf_mem {α : Type} : ∀ {L : List (Nat × α)} {t : Nat} {x : α}, lkf L t = some x → (t, x) ∈ L
  | (s, v) :: L, t, x, h => by
    simp only [lkf] at h
    split at h
    · rename_i e; injection h with h; subst h; rw [Nat.eq_of_beq_eq_true e]; exact .head _
    · exact .tail _ (lkf_mem h)
/-- slots that are looked at -/
def tsl : List Operand → List Nat
  | [] => []
  | .tmp t :: r => t :: tsl r
  | _ :: r => tsl r
def gsl (arr : Array Oper) (o : Oper) : List Nat := match o.guard with
  | none => tsl o.op.operands.toList
  | some (j, _) => match (arr[j]?).bind (·.dst) with
    | some t => t :: tsl o.op.operands.toList
    | none => tsl o.op.operands.toList
def rsl (L : Sg) : List Nat → Option Sg
  | [] => some []
  | t :: r => match rsl L r with
    | some q => match lk L t with
      | some v => some ((t, v) :: q)
      | none => some q
    | none => none
theorem rsl_lk {L : Sg} : ∀ {ts : List Nat} {L0 : Sg}, rsl L ts = some L0 → ∀ t x, lk L0 t = some x → lk L t = some x
  | [], L0, h, t, x, hx => by simp only [rsl, Option.some.injEq] at h; subst h; cases hx
  | s :: r, L0, h, t, x, hx => by
    simp only [rsl] at h
    split at h
    · rename_i q hq
      split at h
      · rename_i v hv
        injection h with h; subst h
        simp only [lk] at hx
        split at hx
        · rename_i e; injection hx with hx; subst hx; rw [Nat.eq_of_beq_eq_true e]; exact hv
        · exact rsl_lk hq t x hx
      · injection h with h; subst h; exact rsl_lk hq t x hx
    · cases h
def idsS : Sg → List Nat
  | [] => []
  | (_, v) :: l => v.ids ++ idsS l
/-- only these numbers are shown; only mv may be moved -/
def fxF : OB → Option OB
  | .row _ T sz ls => some (.row true T sz ls)
  | b => some b
theorem fxF_eq {b c : OB} (h : fxF b = some c) : fxO b = fxO c ∧ c.mv = false := by
  cases b <;> simp only [fxF, Option.some.injEq] at h <;> subst h <;> exact ⟨rfl, rfl⟩
def isI (mv : Option Nat) (k : Nat) : Bool := match mv with
  | some i => Nat.beq i k
  | none => false
theorem isI_eq {mv : Option Nat} {k : Nat} (h : isI mv k = true) : mv = some k := by
  cases mv with
  | none => cases h
  | some i => rw [Nat.eq_of_beq_eq_true h]
def mask (ids : List Nat) (mv : Option Nat) : Nat → List OB → Option (List OB)
  | _, [] => some []
  | k, b :: l => match mask ids mv (k + 1) l with
    | some r => match memN k ids with
      | true => match isI mv k with
        | true => some (b :: r)
        | false => match fxF b with
          | some c => some (c :: r)
          | none => none
      | false => some (.gone :: r)
    | none => none
theorem mask_len {ids : List Nat} {mv : Option Nat} : ∀ {l : List OB} {k : Nat} {r : List OB}, mask ids mv k l = some r → r.length = l.length ∧ ∀ (j : Nat) (b : OB), l[j]? = some b → ∃ c, r[j]? = some c ∧ (c.lv = true → fxO b = fxO c ∧ (c.mv = true → b.mv = true ∧ mv = some (k + j)))
  | [], k, r, h => by simp only [mask, Option.some.injEq] at h; subst h; exact ⟨rfl, fun j b hb => by simp at hb⟩
  | b :: l, k, r, h => by
    simp only [mask] at h
    split at h
    · rename_i q hq
      obtain ⟨h1, h2⟩ := mask_len hq
      have key : ∀ c, (c.lv = true → fxO b = fxO c ∧ (c.mv = true → b.mv = true ∧ mv = some k)) → r = c :: q → r.length = (b :: l).length ∧ ∀ (j : Nat) (b' : OB), (b :: l)[j]? = some b' → ∃ c, r[j]? = some c ∧ (c.lv = true → fxO b' = fxO c ∧ (c.mv = true → b'.mv = true ∧ mv = some (k + j))) := fun c hc e => by
        subst e
        refine ⟨by simp [h1], fun j b' hb => ?_⟩
        cases j with
        | zero => simp at hb; subst hb; exact ⟨c, rfl, hc⟩
        | succ j =>
          obtain ⟨c', h3, h4⟩ := h2 j b' (by simpa using hb)
          exact ⟨c', by simpa using h3, by rw [show k + (j + 1) = k + 1 + j from by omega]; exact h4⟩
      split at h
      · split at h
        · rename_i e
          injection h with h
          exact key b (fun _ => ⟨rfl, fun h => ⟨h, isI_eq e⟩⟩) h.symm
        · split at h
          · rename_i c hc
            injection h with h
            obtain ⟨e1, e2⟩ := fxF_eq hc
            exact key c (fun _ => ⟨e1, fun h => by rw [e2] at h; cases h⟩) h.symm
          · cases h
      · injection h with h; exact key .gone (fun h => by cases h) h.symm
    · cases h
/-- what an operation moves; what it writes -/
def mvOf (L0 : Sg) : Op → Option Nat
  | .call { callee := .builtin .append, args := xs, argTypes := _ } => match xs.toList with
    | x :: _ => match evT L0 x with
      | some (.one (.orow i _ _)) => some i
      | _ => none
    | [] => none
  | _ => none
def wrOf (L0 : Sg) (mv : Option Nat) : Op → List Nat
  | .store _ x _ => match evT L0 x with
    | some (.one (.ow i _)) => [i]
    | some (.one (.oel i _ _ _)) => [i]
    | _ => []
  | .call { callee := .builtin .copy, args := xs, argTypes := _ } => match xs.toList with
    | x :: _ => match evT L0 x with
      | some (.one (.orow i _ _)) => [i]
      | _ => []
    | [] => []
  | _ => match mv with
    | some i => [i]
    | none => []
def kills (mv : Option Nat) : Sg → Option (List Nat)
  | [] => some []
  | (t, v) :: l => match kills mv l with
    | some r => match mv with
      | some i => match memN i v.ids with
        | true => some (t :: r)
        | false => some r
      | none => some r
    | none => none
theorem kills_mem {mv : Option Nat} {i : Nat} (hi : mv = some i) : ∀ {L : Sg} {ks : List Nat}, kills mv L = some ks → ∀ t v, (t, v) ∈ L → i ∈ v.ids → t ∈ ks
  | [], _, _, t, v, h, _ => by cases h
  | (s, u) :: L, ks, h, t, v, hm, hv => by
    subst hi
    simp only [kills] at h
    split at h
    · rename_i r hr
      split at h
      · injection h with h; subst h
        rcases List.mem_cons.1 hm with e | hm
        · injection e with e1 e2; subst e1; exact .head _
        · exact .tail _ (kills_mem rfl hr t v hm hv)
      · rename_i hn
        injection h with h; subst h
        rcases List.mem_cons.1 hm with e | hm
        · injection e with e1 e2; subst e2; rw [memN_iff.2 hv] at hn; cases hn
        · exact kills_mem rfl hr t v hm hv
    · cases h
def rmv (ks : List Nat) : Sg → Option Sg
  | [] => some []
  | (t, v) :: l => match rmv ks l with
    | some r => match memN t ks with
      | true => some r
      | false => some ((t, v) :: r)
    | none => none
theorem rmv_lk {ks : List Nat} : ∀ {L L' : Sg}, rmv ks L = some L' → ∀ t, lk L' t = if memN t ks = true then none else lk L t
  | [], L', h, t => by simp only [rmv, Option.some.injEq] at h; subst h; simp [lk]
  | (s, v) :: L, L', h, t => by
    simp only [rmv] at h
    split at h
    · rename_i r hr
      have ih := rmv_lk hr t
      split at h
      · rename_i hm
        injection h with h; subst h
        rw [ih]
        simp only [lk]
        split
        · rfl
        · rename_i hn
          split
          · rename_i e; rw [Nat.eq_of_beq_eq_true e] at hn; exact absurd hm hn
          · rfl
      · rename_i hm
        injection h with h; subst h
        simp only [lk]
        split
        · rename_i e; rw [Nat.eq_of_beq_eq_true e, hm]; rfl
        · exact ih
    · cases h
def nones : List Nat → List (Nat × Option AV)
  | [] => []
  | t :: l => (t, none) :: nones l
theorem lkf_nones {t : Nat} : ∀ {ks : List Nat}, lkf (nones ks) t = if memN t ks = true then some none else none
  | [] => by simp [nones, lkf, memN]
  | s :: ks => by
    by_cases e : Nat.beq t s = true
    · simp only [nones, lkf, memN, e, if_true]
    · have e : Nat.beq t s = false := by cases h : Nat.beq t s <;> first | rfl | exact absurd h e
      simp only [nones, lkf, memN, e]
      exact lkf_nones
/-- what slots become -/
def dWs (dst : Option Nat) (L1 Lg : Sg) (ks : List Nat) : Option (List (Nat × Option AV) × Sg) := match rmv ks Lg with
  | some L' => match dst with
    | some d => match lk L1 d with
      | some u => some ((d, some u) :: nones ks, (d, u) :: L')
      | none => none
    | none => some (nones ks, L')
  | none => none
theorem dWs_ok {dst : Option Nat} {L1 Lg L' : Sg} {ks : List Nat} {ws : List (Nat × Option AV)} (h : dWs dst L1 Lg ks = some (ws, L')) : lk L' = upf (lk Lg) ws ∧ (∀ t x, lkf ws t = some (some x) → lk L1 t = some x) ∧ (∀ t, dst = some t → (lkf ws t).isSome = true) ∧ ∀ t ∈ ks, (lkf ws t).isSome = true := by
  unfold dWs at h
  split at h
  · rename_i L2 hr
    have h2 := rmv_lk hr
    have h3 : lk L2 = upf (lk Lg) (nones ks) := by
      funext t
      rw [h2 t]
      simp only [upf, lkf_nones]
      split <;> rfl
    split at h
    · rename_i d
      split at h
      · rename_i u hu
        injection h with h; injection h with e1 e2; subst e1; subst e2
        refine ⟨?_, fun t x hx => ?_, fun t ht => ?_, fun t ht => ?_⟩
        · funext t
          simp only [lk, upf, lkf]
          cases e : Nat.beq t d
          · rw [h3]; rfl
          · rfl
        · simp only [lkf] at hx
          split at hx
          · rename_i e; injection hx with hx; injection hx with hx; subst hx; rw [Nat.eq_of_beq_eq_true e]; exact hu
          · rw [lkf_nones] at hx
            split at hx <;> cases hx
        · injection ht with ht; subst ht; simp [lkf]
        · simp only [lkf]
          split
          · rfl
          · rw [lkf_nones, if_pos (memN_iff.2 ht)]; rfl
      · cases h
    · injection h with h; injection h with e1 e2; subst e1; subst e2
      refine ⟨h3, fun t x hx => ?_, fun t ht => by (cases ht), fun t ht => ?_⟩
      · rw [lkf_nones] at hx
        split at hx <;> cases hx
      · rw [lkf_nones, if_pos (memN_iff.2 ht)]; rfl
  · cases h
/-- what blocks become: B: all of them; B0: what was shown; B1: what came of that -/
def dWb (wr : List Nat) (mv : Option Nat) : Nat → List OB → List OB → List OB → Option (List (Nat × OB) × List OB × Eqs)
  | _, [], _, [] => some ([], [], [])
  | k, [], r, b1 :: l1 => match dWb wr mv (k + 1) [] r l1 with
    | some (wb, B', q) => some ((k, b1) :: wb, b1 :: B', q)
    | none => none
  | k, b :: l, b0 :: l0, b1 :: l1 => match dWb wr mv (k + 1) l l0 l1 with
    | some (wb, B', q) => match b0.lv with
      | true => match memN k wr with
        | true => match !(flO b b1).mv || b.mv with
          | true => some ((k, flO b b1) :: wb, flO b b1 :: B', q)
          | false => none
        | false => match mv with
          | some i => match memN i b.ids with
            | true => none
            | false => some (wb, b :: B', (.o b0, .o b1) :: q)
          | none => some (wb, b :: B', (.o b0, .o b1) :: q)
      | false => match mv with
        | some i => match memN i b.ids with
          | true => match obO (killV i) b with
            | some b' => some ((k, b') :: wb, b' :: B', q)
            | none => none
          | false => some (wb, b :: B', q)
        | none => some (wb, b :: B', q)
    | none => none
  | _, _, _, _ => none
/-- what that says of one number -/
def BOk (mv : Option Nat) (nb n1 j : Nat) (wbj : Option OB) (b b0 b1 b' : OB) : Prop :=
  b' = wbj.getD b ∧
  (∀ x, wbj = some x → (b0.lv = true → fxO x = fxO b1 ∧ (x.mv = true → b.mv = true)) ∧ (nb ≤ j → j < n1 ∧ x = b1) ∧ (b0.lv = false → j < nb → ∃ i, mv = some i ∧ obO (killV i) b = some x)) ∧
  (wbj = none → (b0.lv = true → fxO b1 = fxO b0) ∧ (nb ≤ j → n1 ≤ j) ∧ ∀ i, mv = some i → j < nb → i ∉ b.ids)
theorem lkf_cons_ne {α : Type} {l : List (Nat × α)} {k j : Nat} {x : α} (h : j ≠ k) : lkf ((k, x) :: l) j = lkf l j := by
  have e : Nat.beq j k = false := by cases e : Nat.beq j k <;> first | rfl | exact absurd (Nat.eq_of_beq_eq_true e) h
  simp only [lkf, e]
theorem lkf_cons {α : Type} {l : List (Nat × α)} {k : Nat} {x : α} : lkf ((k, x) :: l) k = some x := by simp [lkf]
theorem dWb_ok {wr : List Nat} {mv : Option Nat} : ∀ {B B0 B1 B' : List OB} {k : Nat} {wb : List (Nat × OB)} {q : Eqs}, dWb wr mv k B B0 B1 = some (wb, B', q) → EqOk q → B0.length = B.length → B'.length = B1.length ∧ B.length ≤ B1.length ∧ (∀ j, j < k → lkf wb j = none) ∧
    ∀ j, BOk mv B.length B1.length j (lkf wb (k + j)) (ob B j) (ob B0 j) (ob B1 j) (ob B' j)
  | [], [], [], B', k, wb, q, h, _, _ => by
    simp only [dWb, Option.some.injEq, Prod.mk.injEq] at h
    obtain ⟨rfl, rfl, rfl⟩ := h
    exact ⟨rfl, Nat.le_refl _, fun _ _ => rfl, fun j => ⟨rfl, fun x hx => (by cases hx), fun _ => ⟨fun _ => rfl, fun h => h, fun i _ h => (by simp at h)⟩⟩⟩
  | [], [], b1 :: l1, B', k, wb, q, h, hq, hl => by
    simp only [dWb] at h
    split at h
    · rename_i wb2 B2 q2 h2
      simp only [Option.some.injEq, Prod.mk.injEq] at h
      obtain ⟨rfl, rfl, rfl⟩ := h
      obtain ⟨i1, i2, i3, i4⟩ := dWb_ok h2 hq rfl
      refine ⟨by simp [i1], by simp, fun j hj => by rw [lkf_cons_ne (by omega)]; exact i3 j (by omega), fun j => ?_⟩
      cases j with
      | zero => exact ⟨by simp [lkf_cons, ob], fun x hx => (by
          simp only [Nat.add_zero, lkf_cons, Option.some.injEq] at hx
          subst hx
          exact ⟨fun h => (by simp [ob, OB.lv] at h), fun _ => ⟨by simp, by simp [ob]⟩, fun _ h => (by simp at h)⟩), fun hx => (by simp [lkf_cons] at hx)⟩
      | succ j =>
        rw [lkf_cons_ne (by omega), show k + (j + 1) = k + 1 + j from by omega]
        obtain ⟨j1, j2, j3⟩ := i4 j
        refine ⟨by simpa [ob] using j1, fun x hx => ?_, fun hx => ?_⟩
        · obtain ⟨a1, a2, a3⟩ := j2 x hx
          exact ⟨fun h => (by simp [ob, OB.lv] at h), fun h => by simpa [ob] using a2 (Nat.zero_le _), fun _ h => (by simp at h)⟩
        · obtain ⟨a1, a2, a3⟩ := j3 hx
          exact ⟨fun h => (by simp [ob, OB.lv] at h), fun h => by simpa using a2 (Nat.zero_le _), fun i _ h => (by simp at h)⟩
    · cases h
  | b :: l, b0 :: l0, b1 :: l1, B', k, wb, q, h, hq, hl => by
    simp only [dWb] at h
    split at h
    · rename_i wb2 B2 q2 h2
      have key : ∀ (x : Option OB) (b' : OB), (B' = b' :: B2) → (wb = match x with | some y => (k, y) :: wb2 | none => wb2) → EqOk q2 → BOk mv (l.length + 1) (l1.length + 1) 0 x b b0 b1 b' → B'.length = (b1 :: l1).length ∧ (b :: l).length ≤ (b1 :: l1).length ∧ (∀ j, j < k → lkf wb j = none) ∧ ∀ j, BOk mv (b :: l).length (b1 :: l1).length j (lkf wb (k + j)) (ob (b :: l) j) (ob (b0 :: l0) j) (ob (b1 :: l1) j) (ob B' j) := fun x b' e1 e2 hq2 h0 => by
        subst e1 e2
        obtain ⟨i1, i2, i3, i4⟩ := dWb_ok h2 hq2 (by simpa using hl)
        have hx : ∀ j, lkf (match x with | some y => (k, y) :: wb2 | none => wb2) j = if j = k then x else lkf wb2 j := fun j => by
          cases x with
          | none =>
            show lkf wb2 j = _
            by_cases e : j = k
            · rw [if_pos e, e]; exact i3 k (by omega)
            · rw [if_neg e]
          | some y =>
            show lkf ((k, y) :: wb2) j = _
            by_cases e : j = k
            · rw [if_pos e, e]; exact lkf_cons
            · rw [if_neg e]; exact lkf_cons_ne e
        refine ⟨by simp [i1], by simpa using i2, fun j hj => by rw [hx, if_neg (by omega)]; exact i3 j (by omega), fun j => ?_⟩
        cases j with
        | zero => rw [hx, Nat.add_zero, if_pos rfl]; simpa [ob] using h0
        | succ j =>
          rw [hx, if_neg (by omega), show k + (j + 1) = k + 1 + j from by omega]
          obtain ⟨j1, j2, j3⟩ := i4 j
          refine ⟨by simpa [ob] using j1, fun x hx => ?_, fun hx => ?_⟩
          · obtain ⟨a1, a2, a3⟩ := j2 x hx
            exact ⟨fun h => by simpa [ob] using a1 (by simpa [ob] using h), fun h => by simpa [ob] using a2 (by simpa using h), fun h h' => by simpa [ob] using a3 (by simpa [ob] using h) (by simpa using h')⟩
          · obtain ⟨a1, a2, a3⟩ := j3 hx
            exact ⟨fun h => by simpa [ob] using a1 (by simpa [ob] using h), fun h => by simpa using a2 (by simpa using h), fun i hi h => by simpa [ob] using a3 i hi (by simpa using h)⟩
      have big : ∀ {p : Prop}, l.length + 1 ≤ 0 → p := fun h => by omega
      split at h
      · rename_i hlv
        split at h
        · split at h
          · rename_i hm
            simp only [Option.some.injEq, Prod.mk.injEq] at h
            obtain ⟨rfl, rfl, rfl⟩ := h
            refine key (some (flO b b1)) _ rfl rfl hq ⟨rfl, fun x hx => ?_, fun hx => by cases hx⟩
            injection hx with hx; subst hx
            refine ⟨fun _ => ⟨flO_fx _ _, fun h => ?_⟩, fun h => big h, fun h => (by rw [hlv] at h; cases h)⟩
            simpa [h] using hm
          · cases h
        · split at h
          · rename_i i
            split at h
            · cases h
            · rename_i hn
              simp only [Option.some.injEq, Prod.mk.injEq] at h
              obtain ⟨rfl, rfl, rfl⟩ := h
              have e := hq.hd; injection e with e
              refine key none _ rfl rfl hq.tl ⟨rfl, fun x hx => (by cases hx), fun _ => ⟨fun _ => by rw [e], fun h => big h, fun i' hi' _ hm => ?_⟩⟩
              injection hi' with hi'; subst hi'
              rw [memN_iff.2 hm] at hn; cases hn
          · simp only [Option.some.injEq, Prod.mk.injEq] at h
            obtain ⟨rfl, rfl, rfl⟩ := h
            have e := hq.hd; injection e with e
            exact key none _ rfl rfl hq.tl ⟨rfl, fun x hx => (by cases hx), fun _ => ⟨fun _ => by rw [e], fun h => big h, fun i' hi' => by cases hi'⟩⟩
      · rename_i hlv
        have hlv' : ¬ b0.lv = true := by rw [hlv]; simp
        split at h
        · rename_i i
          split at h
          · split at h
            · rename_i b2 hb2
              simp only [Option.some.injEq, Prod.mk.injEq] at h
              obtain ⟨rfl, rfl, rfl⟩ := h
              refine key (some b2) _ rfl rfl hq ⟨rfl, fun x hx => ?_, fun hx => by cases hx⟩
              injection hx with hx; subst hx
              exact ⟨fun h => absurd h hlv', fun h => big h, fun _ _ => ⟨i, rfl, hb2⟩⟩
            · cases h
          · rename_i hn
            simp only [Option.some.injEq, Prod.mk.injEq] at h
            obtain ⟨rfl, rfl, rfl⟩ := h
            refine key none _ rfl rfl hq ⟨rfl, fun x hx => (by cases hx), fun _ => ⟨fun h => absurd h hlv', fun h => big h, fun i' hi' _ hm => ?_⟩⟩
            injection hi' with hi'; subst hi'
            rw [memN_iff.2 hm] at hn; cases hn
        · simp only [Option.some.injEq, Prod.mk.injEq] at h
          obtain ⟨rfl, rfl, rfl⟩ := h
          exact key none _ rfl rfl hq ⟨rfl, fun x hx => (by cases hx), fun _ => ⟨fun h => absurd h hlv', fun h => big h, fun i' hi' => by cases hi'⟩⟩
    · cases h
  | [], _ :: _, _, _, _, _, _, _, _, hl => by simp at hl
  | _ :: _, [], _, _, _, _, _, _, _, hl => by simp at hl
  | _ :: _, _ :: _, [], _, _, _, _, h, _, _ => by simp [dWb] at h
end Orr

namespace Orr
open Go
variable {P : Program} {n : Nat}
def isCall : Op → Option (Operand × List Operand)
  | .call { callee := .value x, args := xs, argTypes := _ } => some (x, xs.toList)
  | _ => none
theorem isCall_eq {op : Op} {x : Operand} {xs : List Operand} (h : isCall op = some (x, xs)) : ∃ as ats, op = .call { callee := .value x, args := as, argTypes := ats } ∧ xs = Array.toList as := by
  unfold isCall at h
  split at h
  · injection h with h; injection h with e1 e2; subst e1; subst e2; exact ⟨_, _, rfl, rfl⟩
  · cases h
def appE : Eqs → Eqs → Eqs
  | [], l => l
  | x :: r, l => x :: appE r l
def appP : List Prop → List Prop → List Prop
  | [], l => l
  | x :: r, l => x :: appP r l
theorem appE_eq : ∀ {a b : Eqs}, appE a b = a ++ b
  | [], _ => rfl
  | _ :: _, _ => by simp [appE, appE_eq]
theorem appP_eq : ∀ {a b : List Prop}, AllP (appP a b) ↔ AllP a ∧ AllP b
  | [], _ => by simp [appP, AllP]
  | x :: r, b => by simp only [appP]; rw [AllP_cons, AllP_cons, appP_eq, and_assoc]
/-- an operation, or a call -/
def st1 (T : TT P) (n : Nat) (arr : Array Oper) (L : Sg) (B : List OB) (h : List (H P)) (o : Oper) : St P := match isCall o.op with
  | some (x, xs) => match gdE arr L o with
    | some true => match o.dst with
      | some d => match Nat.blt d n with
        | true => match callA L x xs with
          | some (g, ys) => callO L B h d g ys
          | none => none
        | false => none
      | none => none
    | some false => match offE n L o.dst with
      | some L' => some (L', B, h, [], [])
      | none => none
    | none => none
  | none => stE T n arr L B h o
theorem st1_ok {T : TT P} {arr : Array Oper} {o : Oper} {N : Kp} {L L' : Sg} {B B' : List OB} {h h' : List (H P)} {q : Eqs} {ob : List Prop} (hs : st1 T n arr L B h o = some (L', B', h', q, ob)) (hq : EqOk q) (hob : AllP ob) (k : N L' B') : W1 P arr n o N L B := by
  unfold st1 at hs
  split at hs
  · rename_i x xs hcall
    obtain ⟨as, ats, ho, rfl⟩ := isCall_eq hcall
    split at hs
    · rename_i hg
      split at hs
      · rename_i d hd
        split at hs
        · rename_i hdn
          split at hs
          · rename_i g ys ha
            exact W1.on hg (call_ok (o := ung o) ho rfl hd hdn ha hs hq k)
          · cases hs
        · cases hs
      · cases hs
    · rename_i hg
      split at hs
      · rename_i L2 hL
        obtain ⟨rfl, rfl, rfl, rfl, rfl⟩ := some5 hs
        exact W1.off hg hL k
      · cases hs
    · cases hs
  · exact stE_ok hs hq hob k
/-- what is said of a slot just filled, as far as it goes -/
def psts : Nat → Option Nat → Sg → List OB → List (H P) → Eqs → Option (Sg × List OB × List (H P) × Eqs)
  | 0, _, L, B, h, q => some (L, B, h, q)
  | f + 1, d, L, B, h, q => match d with
    | none => some (L, B, h, q)
    | some t => match pstE t L B h with
      | some (L', B', h', q') => psts f d L' B' h' (appE q' q)
      | none => some (L, B, h, q)
theorem psts_ok : ∀ {f : Nat} {d : Option Nat} {L L' : Sg} {B B' : List OB} {h h' : List (H P)} {q q' : Eqs}, psts f d L B h q = some (L', B', h', q') → EqOk q' → EqOk q ∧ Sub n L B L' B'
  | 0, _, _, _, _, _, _, _, _, _, hp, hq => by obtain ⟨rfl, rfl, rfl, rfl⟩ := some4 hp; exact ⟨hq, Sub.refl⟩
  | f + 1, d, _, _, _, _, _, _, _, _, hp, hq => by
    simp only [psts] at hp
    split at hp
    · obtain ⟨rfl, rfl, rfl, rfl⟩ := some4 hp; exact ⟨hq, Sub.refl⟩
    · split at hp
      · rename_i hpe
        obtain ⟨h1, h2⟩ := psts_ok hp hq
        rw [appE_eq] at h1
        obtain ⟨h3, h4⟩ := h1.app
        exact ⟨h4, (pst_ok hpe h3).trans h2⟩
      · obtain ⟨rfl, rfl, rfl, rfl⟩ := some4 hp; exact ⟨hq, Sub.refl⟩
theorem W1.post {arr : Array Oper} {o : Oper} {L L1 L2 : Sg} {B B1 B2 : List OB} (h : W1 P arr n o (fun L B => L = L1 ∧ B = B1) L B) (hs : Sub n L1 B1 L2 B2) : W1 P arr n o (fun L B => L = L2 ∧ B = B2) L B := fun F E M a w K Q hsa hK =>
  h F E M a w K Q hsa fun a' w' L' B' E' M' h1 ⟨e1, e2⟩ => by
    subst e1; subst e2
    obtain ⟨E2, M2, h2⟩ := hs F E' M' a' w' h1
    exact hK _ _ _ _ _ _ h2 ⟨rfl, rfl⟩
def isS {α : Type} : Option α → Bool
  | some _ => true
  | none => false
def mvI (mv : Option Nat) (B0 : List OB) (wb : List (Nat × OB)) : Bool := match mv with
  | none => true
  | some i => match bAt B0 i with
    | some b => b.lv && isS (lkf wb i)
    | none => false
def wr2 (L0 : Sg) (mv : Option Nat) (op : Op) (h : List (H P)) : List Nat := match isCall op with
  | some _ => match h with
    | .c is _ :: _ => is
    | _ => []
  | none => match mv with
    | some i => i :: wrOf L0 mv op
    | none => wrOf L0 mv op
/-- what lies behind own blocks -/
def rdJ (B : List OB) : List Nat → List Nat
  | [] => []
  | i :: l => match bAt B i with
    | some b => i :: (b.ids ++ rdJ B l)
    | none => i :: rdJ B l
def mvRow (B : List OB) : List Nat → Option Nat
  | [] => none
  | i :: l => match bAt B i with
    | some (.row false _ _ _) => some i
    | _ => mvRow B l
/-- the row that may be moved -/
def mvJ (B : List OB) (h : List (H P)) (L0 : Sg) (op : Op) : Option Nat := match mvOf L0 op with
  | some i => some i
  | none => match isCall op with
    | some _ => match h with
      | .c is _ :: _ => mvRow B is
      | _ => none
    | none => match op with
      | .store _ x _ => match evT L0 x with
        | some (.one (.ow i _)) => match bAt B i with
          | some b => mvRow B b.ids
          | none => none
        | _ => none
      | _ => none
/-- what an operation looks at: nothing behind pointers, if it only hands them on -/
def rdI (L0 : Sg) : Op → List Nat
  | .move _ => []
  | .assign _ => []
  | .nilCheck .. => []
  | .fieldAddr .. => []
  | .makeFunc .. => []
  | _ => idsS L0
def rdK (B : List OB) (L0 : Sg) (op : Op) : List Nat := match isCall op with
  | some _ => rdJ B (rdI L0 op)
  | none => match op with
    | .store .. => rdJ B (rdI L0 op)
    | _ => rdI L0 op
/-- a call that leaves the blocks given to it as they are: '.lo' ahead of its '.c' -/
def roH (op : Op) (h : List (H P)) : Option (List (H P)) := match isCall op with
  | some _ => match h with
    | .lo :: r => some r
    | _ => none
  | none => none
def rest_ (o : Option (List (H P))) (h : List (H P)) : List (H P) := match o with
  | some r => r
  | none => h
def wr3 (L0 : Sg) (mv : Option Nat) (op : Op) (h : List (H P)) : List Nat := match roH op h with
  | some _ => []
  | none => wr2 L0 mv op h
/-- one operation among others -/
def ds (T : TT P) (n : Nat) (arr : Array Oper) (Lg : Sg) (Bg : List OB) (h : List (H P)) (o : Oper) (mv : Option Nat) (L0 : Sg) : Option (Rc × Sg × List OB × List (H P) × Eqs × List Prop) := match mask (rdK Bg L0 o.op) mv 0 Bg, lenB Bg with
  | some B0, some nb => match st1 T n arr L0 B0 (rest_ (roH o.op h) h) o with
    | some (L1, B1, h1, q1, ob1) => match psts 3 o.dst L1 B1 h1 q1 with
      | some (L2, B2, h2, q2) => match kills mv Lg with
        | some ks => match dWs o.dst L2 Lg ks with
          | some (ws, Lg') => match dWb (wr3 L0 mv o.op h) mv 0 Bg B0 B2 with
            | some (wb, Bg', q3) => match (allB (fun p => allB (Nat.blt · nb) p.2.ids) L0 && allB (fun b => allB (Nat.blt · nb) b.ids) B0 && mvI mv B0 wb) with
              | true => some (⟨L0, B0, L2, B2, ws, wb, mv⟩, Lg', Bg', h2, appE q3 q2, ob1)
              | false => none
            | none => none
          | none => none
        | none => none
      | none => none
    | none => none
  | _, _ => none
def mem_ob {B : List OB} {j : Nat} (h : ¬ ob B j = .gone) : ∃ b, B[j]? = some b ∧ ob B j = b := by
  unfold ob at h ⊢
  cases hb : B[j]? with
  | none => rw [hb] at h; exact absurd rfl h
  | some b => exact ⟨b, rfl, rfl⟩
theorem ds_ok {T : TT P} {arr : Array Oper} {o : Oper} {Lg Lg' L0 : Sg} {Bg Bg' : List OB} {h h' : List (H P)} {q : Eqs} {obs : List Prop} {mv : Option Nat} {r : Rc} (hL : rsl Lg (gsl arr o) = some L0) (hd : ds T n arr Lg Bg h o mv L0 = some (r, Lg', Bg', h', q, obs)) (hq : EqOk q) (hob : AllP obs) :
    Wf P arr n o r ∧ Loc r (lk Lg) (ob Bg) (nw Bg) ∧ lk Lg' = upf (lk Lg) r.ws ∧ ob Bg' = upf (ob Bg) r.wb ∧ nw Bg' = fun j => nw Bg j ∧ ¬ r.nw_ j := by
  unfold ds at hd
  split at hd
  · rename_i B0 nb hm hnb
    split at hd
    · rename_i L1 B1 h1 q1 ob1 hs
      split at hd
      · rename_i L2 B2 h2 q2 hp
        split at hd
        · rename_i ks hk
          split at hd
          · rename_i ws Lg2 hws
            split at hd
            · rename_i wb Bg2 q3 hwb
              split at hd
              · rename_i hc
                injection hd with hd; injection hd with e1 hd; injection hd with e2 hd; injection hd with e3 hd; injection hd with e4 hd; injection hd with e5 e6
                subst e1; subst e2; subst e3; subst e5; subst e6
                rw [appE_eq] at hq
                obtain ⟨hq3, hq2⟩ := hq.app
                obtain ⟨hq1, hsub⟩ := psts_ok (n := n) hp hq2
                obtain rfl := lenB_eq hnb
                obtain ⟨m1, m2⟩ := mask_len hm
                obtain ⟨b1, b2, b3, b4⟩ := dWb_ok hwb hq3 m1
                obtain ⟨w1, w2, w3, w4⟩ := dWs_ok hws
                simp only [Bool.and_eq_true] at hc
                obtain ⟨⟨c1, c2⟩, c3⟩ := hc
                have c1 := allB_of c1
                have c2 := allB_of c2
                have hmask : ∀ j, (ob B0 j).lv = true → j < Bg.length ∧ fxO (ob Bg j) = fxO (ob B0 j) ∧ ((ob B0 j).mv = true → (ob Bg j).mv = true ∧ mv = some j) := fun j hj => by
                  have hjl : j < Bg.length := by
                    apply Classical.byContradiction
                    intro hn
                    rw [ob_gone (by omega)] at hj; cases hj
                  obtain ⟨c, e1, e2⟩ := m2 j _ (List.getElem?_eq_getElem hjl)
                  rw [ob_of e1] at hj ⊢
                  rw [ob_of (List.getElem?_eq_getElem hjl)]
                  have := e2 hj
                  rw [Nat.zero_add] at this
                  exact ⟨hjl, this⟩
                have b4' : ∀ j, BOk mv Bg.length B2.length j (lkf wb j) (ob Bg j) (ob B0 j) (ob B2 j) (ob Bg2 j) := fun j => by have := b4 j; rwa [Nat.zero_add] at this
                refine ⟨⟨W1.post (st1_ok hs hq1 hob ⟨rfl, rfl⟩) hsub, fun t x hx i hi => ?_, fun j i hi => ?_, fun j hj => ?_, fun j hj => ?_, w2, w3, fun j b hb ha => ?_, fun j ha hn => ?_⟩, ⟨rsl_lk hL, fun j hj => ?_, fun j h1 h2 => ?_, fun i hi => ⟨fun t x hx hm => ?_, fun j hm => ?_⟩, fun j b hb ha => ?_⟩, w1, ?_, ?_⟩
                · have := allB_of (c1 _ (lk_mem hx)) i hi
                  rw [Nat.blt_eq] at this
                  show i < B0.length
                  omega
                · have hne : ¬ ob B0 j = .gone := fun e => by rw [show ob B0 j = .gone from e] at hi; simp [OB.ids] at hi
                  obtain ⟨b, e1, e2⟩ := mem_ob hne
                  have hi : i ∈ (ob B0 j).ids := hi
                  rw [e2] at hi
                  have := allB_of (c2 b (List.mem_of_getElem? e1)) i hi
                  rw [Nat.blt_eq] at this
                  show i < B0.length
                  omega
                · have hlv : (ob B0 j).lv = true := by
                    have hj : (ob B0 j).mv = true := hj
                    cases hb : ob B0 j <;> rw [hb] at hj <;> first | rfl | cases hj
                  exact ((hmask j hlv).2.2 hj).2
                · have hj : mv = some j := hj
                  rw [hj] at c3
                  simp only [mvI] at c3
                  split at c3
                  · rename_i b hb
                    simp only [Bool.and_eq_true] at c3
                    refine ⟨by rw [show ob B0 j = b from ob_of (bAt_eq ▸ hb)]; exact c3.1, ?_⟩
                    have := c3.2
                    show (lkf wb j).isSome = true
                    cases e : lkf wb j <;> rw [e] at this <;> first | rfl | cases this
                  · cases c3
                · obtain ⟨_, h3, _⟩ := b4' j
                  obtain ⟨a1, a2, _⟩ := h3 b hb
                  rcases ha with ha | ha
                  · exact (a1 ha).1
                  · obtain ⟨_, e⟩ := a2 (by have : B0.length ≤ j := ha.1; omega); exact congrArg fxO e
                · obtain ⟨_, _, h3⟩ := b4' j
                  obtain ⟨a1, a2, _⟩ := h3 hn
                  rcases ha with ha | ha
                  · exact ⟨a1 ha, ha⟩
                  · have := a2 (by have : B0.length ≤ j := ha.1; omega)
                    have h5 : j < B2.length := ha.2
                    omega
                · obtain ⟨e1, e2, e3⟩ := hmask j hj
                  exact ⟨e2, fun h => (e3 h).1, fun b hb hbm => (((b4' j).2.1 b hb).1 hj).2 hbm⟩
                · show Bg.length ≤ j
                  have : B0.length ≤ j := h1
                  omega
                · exact w4 t (kills_mem hi hk t x (lk_mem hx) hm)
                · show (lkf wb j).isSome = true
                  cases e : lkf wb j with
                  | some _ => rfl
                  | none =>
                    have hjl : j < Bg.length := by
                      apply Classical.byContradiction
                      intro hn
                      rw [ob_gone (by omega)] at hm; simp [OB.ids] at hm
                    exact absurd hm (((b4' j).2.2 e).2.2 i hi hjl)
                · obtain ⟨_, h3, _⟩ := b4' j
                  obtain ⟨_, a2, a3⟩ := h3 b hb
                  have hlv : (ob B0 j).lv = false := by
                    cases e : (ob B0 j).lv with
                    | false => rfl
                    | true => exact absurd (.inl e) ha
                  refine a3 hlv ?_
                  apply Classical.byContradiction
                  intro hn
                  have := (a2 (by omega)).1
                  exact ha (.inr ⟨by show B0.length ≤ j; omega, this⟩)
                · funext j
                  rw [(b4' j).1]
                  simp only [upf]
                  cases lkf wb j <;> rfl
                · funext j
                  show (Bg2.length ≤ j) = (Bg.length ≤ j ∧ ¬ (B0.length ≤ j ∧ j < B2.length))
                  refine propext ⟨fun h => ⟨by omega, by omega⟩, fun ⟨h1, h2⟩ => by omega⟩
              · cases hd
            · cases hd
          · cases hd
        · cases hd
      · cases hd
    · cases hd
  · cases hd
/-- all operations, in the order of the text -/
def dr (T : TT P) (n : Nat) (arr : Array Oper) : List Oper → Sg → List OB → List (H P) → Option (List (Rc × Sg × List OB) × Sg × List OB × List (H P) × Eqs × List Prop)
  | [], L, B, h => some ([], L, B, h, [], [])
  | o :: l, L, B, h => match rsl L (gsl arr o) with
    | some L0 => match (match mvJ B h L0 o.op with
        | some i => ds T n arr L B h o (some i) L0
        | none => ds T n arr L B h o none L0) with
      | some (r, L', B', h', q, ob) => match dr T n arr l L' B' h' with
        | some (rs, L2, B2, h2, q2, ob2) => some ((r, L, B) :: rs, L2, B2, h2, appE q q2, appP ob ob2)
        | none => none
      | none => none
    | none => none
def ovC (mvs : List Nat) (x : Rc × Sg × List OB) : Bool :=
  allB (fun p => match lk x.2.1 p.1 with
    | some y => allB (fun i => !memN i mvs || isI x.1.mv i) y.ids
    | none => true) x.1.ws &&
  allB (fun p => match bAt x.2.2 p.1 with
    | some b => allB (fun i => !memN i mvs || isI x.1.mv i) b.ids
    | none => true) x.1.wb
def dj1C (p x : Rc) : Bool :=
  allB (fun t => !isS (lk x.L0 t.1) && !isS (lkf x.ws t.1)) p.ws &&
  allB (fun j => (match bAt x.B0 j.1 with
    | some b => !b.lv
    | none => true) && !isS (lkf x.wb j.1)) p.wb &&
  (match p.mv with
    | none => true
    | some i => allB (fun t => match t.2 with
        | some y => !memN i y.ids
        | none => true) x.ws && allB (fun j => !memN i j.2.ids) x.wb) &&
  (Nat.ble p.B1.length x.B0.length || Nat.ble x.B1.length p.B0.length)
def predO (o : Oper) : List Nat := o.after.toList.filterMap fun e => if Region.binds .any e then some e.on else none
def nthL : List (List Nat) → Nat → List Nat
  | [], _ => []
  | x :: _, 0 => x
  | _ :: l, i + 1 => nthL l i
def uni : List Nat → List Nat → Option (List Nat)
  | [], l => some l
  | x :: r, l => match uni r l with
    | some q => match memN x q with
      | true => some q
      | false => some (x :: q)
    | none => none
def unis (cs : List (List Nat)) : List Nat → List Nat → Option (List Nat)
  | [], l => some l
  | j :: r, l => match uni (j :: nthL cs j) l with
    | some q => unis cs r q
    | none => none
/-- what goes ahead of each -/
def clo : List Oper → List (List Nat) → Option (List (List Nat))
  | [], cs => some cs
  | o :: l, cs => match unis cs (predO o) [] with
    | some u => match snoc cs u with
      | some c => clo l c
      | none => none
    | none => none
where snoc : List (List Nat) → List Nat → Option (List (List Nat))
  | [], u => some [u]
  | x :: l, u => match snoc l u with
    | some r => some (x :: r)
    | none => none
def cloC (cs : List (List Nat)) : Nat → List Oper → Bool
  | _, [] => true
  | i, o :: l => match allB (Nat.blt · i) (predO o) && allB (fun p => memN p (predO o) || !allB (fun j => !memN p (nthL cs j)) (predO o)) (nthL cs i) with
    | true => cloC cs (i + 1) l
    | false => false
def djC (mvs : List Nat) (p x : Rc) : Bool := dj1C p x && dj1C x p
def pairs (cs : List (List Nat)) (mvs : List Nat) (x : Rc) (i : Nat) : Nat → List (Rc × Sg × List OB) → Bool
  | k, p :: l => match Nat.blt k i with
    | true => match memN k (nthL cs i) || djC mvs p.1 x with
      | true => pairs cs mvs x i (k + 1) l
      | false => false
    | false => true
  | _, [] => true
def allPairs (cs : List (List Nat)) (mvs : List Nat) (all : List (Rc × Sg × List OB)) : Nat → List (Rc × Sg × List OB) → Bool
  | _, [] => true
  | i, x :: l => match pairs cs mvs x.1 i 0 all && ovC mvs x && x.1.mv.all (memN · mvs) with
    | true => allPairs cs mvs all (i + 1) l
    | false => false
def mvsOf : List (Rc × Sg × List OB) → List Nat
  | [] => []
  | x :: l => match x.1.mv with
    | some i => i :: mvsOf l
    | none => mvsOf l
/-- the whole region -/
def drE (T : TT P) (n : Nat) (l : List Oper) (L : Sg) (B : List OB) (h : List (H P)) : St P := match dr T n l.toArray l L B h with
  | some (rs, L', B', h', q, ob) => match clo l [] with
    | some cs => match cloC cs 0 l && allPairs cs (mvsOf rs) rs 0 rs with
      | true => some (L', B', h', q, ob)
      | false => none
    | none => none
  | none => none
end Orr
