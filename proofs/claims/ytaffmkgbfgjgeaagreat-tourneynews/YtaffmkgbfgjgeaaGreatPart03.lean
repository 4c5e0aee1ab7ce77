/- Whole numbers as data: their leaves, and the way from the elder contracts. Fields of values. Package limb: rows of limbs. Lengths in bits. -/
import Derived.Test.YtaffmkgbfgjgeaaGreatPart02
import Derived.Test.YtaffmkgbfgjgeaaGreatPart01
set_option linter.all false

namespace Orr
open Go
variable {P : Program}

def limbs (x : Nat) : List Nat := if h : x = 0 then [] else (x % 4294967296) :: limbs (x / 4294967296)
termination_by x
decreasing_by omega
theorem limbs_zero : limbs 0 = [] := by unfold limbs; simp
theorem limbs_pos {x : Nat} (h : x ≠ 0) : limbs x = (x % 4294967296) :: limbs (x / 4294967296) := by rw [limbs]; simp [h]
theorem val_limbs (x : Nat) : val (limbs x) = x := by
  induction x using Nat.strongRecOn with
  | _ x ih =>
    rcases Nat.eq_zero_or_pos x with h | h
    · subst h; rw [limbs_zero]; rfl
    · rw [limbs_pos (by omega)]
      simp only [val]
      rw [ih _ (by omega)]; omega
theorem nrm_limbs (x : Nat) : Nrm (limbs x) := by
  induction x using Nat.strongRecOn with
  | _ x ih =>
    rcases Nat.eq_zero_or_pos x with h | h
    · subst h; rw [limbs_zero]; exact ⟨by simp, fun h => absurd rfl h⟩
    · rw [limbs_pos (by omega)]
      obtain ⟨h1, h2⟩ := ih (x / 4294967296) (by omega)
      refine ⟨fun u hu => ?_, fun _ => ?_⟩
      · rcases List.mem_cons.1 hu with rfl | hu
        · omega
        · exact h1 u hu
      · by_cases h3 : x / 4294967296 = 0
        · rw [h3, limbs_zero]; exact ⟨x % 4294967296, rfl, by omega⟩
        · have h4 : limbs (x / 4294967296) ≠ [] := by rw [limbs_pos h3]; simp
          obtain ⟨u, hu, hu0⟩ := h2 h4
          refine ⟨u, ?_, hu0⟩
          rcases hl : limbs (x / 4294967296) with _ | ⟨y, l⟩
          · exact absurd hl h4
          · rw [hl] at hu; simpa using hu
theorem limbs_of {l : List Nat} {x : Nat} (h : Nrm l) (hv : val l = x) : l = limbs x := nrm_inj h (nrm_limbs x) (by rw [hv, val_limbs])
/-- a row of limbs, as a leaf -/
def u32r (l : List Nat) : LV := .row (l.map fun (x : Nat) => [.int .u32 (x : Int)])
/-- a whole number's two leaves -/
def sg (z : Int) : LV := .bool (decide (z < 0))
def mg (z : Int) : LV := u32r (limbs z.natAbs)
abbrev ofI (z : Int) : List LV := [sg z, mg z]
/-- in any form -/
def IsInt (x y : LV) (z : Int) : Prop := ∃ b l, x = .bool b ∧ y = u32r l ∧ (∀ u ∈ l, u < 4294967296) ∧ z = if b = true then -((val l : Nat) : Int) else ((val l : Nat) : Int)
theorem isInt_n (z : Int) : IsInt (sg z) (mg z) z := by
  refine ⟨_, _, rfl, rfl, (nrm_limbs _).1, ?_⟩
  rw [val_limbs]
  by_cases h : z < 0 <;> simp [h] <;> omega
theorem isInt_zero : IsInt (.bool false) (.row []) 0 := ⟨false, [], rfl, rfl, by simp, rfl⟩
theorem sg_zero : sg 0 = .bool false := rfl
theorem mg_zero : mg 0 = .row [] := by unfold mg; rw [show (0 : Int).natAbs = 0 from rfl, limbs_zero]; rfl
theorem mg_len (z : Int) : 32 * (limbs z.natAbs).length ≤ isz z + 31 := by
  have := nrm_len (nrm_limbs z.natAbs)
  rwa [val_limbs] at this
theorem limbs_nil {z : Int} : (limbs z.natAbs).length = 0 ↔ z = 0 := by
  constructor
  · intro h
    have h0 := List.eq_nil_of_length_eq_zero h
    have := (nrm_zero (nrm_limbs z.natAbs)).2 h0
    rw [val_limbs] at this; omega
  · rintro rfl; rw [show (0 : Int).natAbs = 0 from rfl, limbs_zero]; rfl

theorem row32_of {w : World} {O : Nat → Prop} {v : Value} {l : List Nat} (h : LRep w O v (u32r l)) (hl : ∀ u ∈ l, u < 4294967296) : ∃ A c, v = .slice A l.length c ∧ Rel.row32.at_ w O [.slice A l.length c] l := by
  unfold u32r at h
  generalize hm : l.map (fun (x : Nat) => [LV.int .u32 (x : Int)]) = m at h
  cases h with
  | row A c sz b o m f hc hc63 hm47 hs hA hcell hrep =>
    have e : m.length = l.length := by rw [← hm]; simp
    refine ⟨A, c, by rw [e], A, c, rfl, by omega, hc63, by omega, fun h0 => ?_⟩
    obtain ⟨rfl, h1, h2⟩ := hA (by omega)
    refine ⟨b, o, rfl, h1, h2, fun i x hx => ?_⟩
    have hi : m[i]? = some [LV.int .u32 (x : Int)] := by rw [← hm, List.getElem?_map, hx]; rfl
    have hsz : sz = 1 := (hs _ (List.mem_of_getElem? hi)).symm
    subst hsz
    refine ⟨[.int .u32 (x : Int)], ⟨rfl, hl x (List.mem_of_getElem? hx)⟩, fun j v hj => ?_⟩
    cases j with
    | succ j => simp at hj
    | zero =>
      simp at hj; subst hj
      have h3 := hcell i _ hi 0 (by simp)
      have h4 := hrep i _ hi 0 _ rfl
      have h5 : f i 0 = .int .u32 (x : Int) := by generalize f i 0 = q at h4; cases h4; rfl
      rw [h5] at h3
      exact h3
theorem row32_to {w : World} {O : Nat → Prop} {A : Option Addr} {n c : Nat} {l : List Nat} (h : Rel.row32.at_ w O [.slice A n c] l) : LRep w O (.slice A n c) (u32r l) := by
  obtain ⟨A', c', h1, h2, h3, h4, hr⟩ := h
  simp at h1; obtain ⟨rfl, rfl, rfl⟩ := h1
  have hb : ∃ b o, 0 < l.length → A = some ⟨b, o, none⟩ ∧ b < w.heap.size ∧ ¬ O b ∧ ∀ i x, l[i]? = some x → ∃ cs, Rel.u32.at_ w O cs x ∧ ∀ j v, cs[j]? = some v → w.cell? ⟨b, o + i * Rel.u32.size + j, none⟩ = some v := by
    rcases Nat.eq_zero_or_pos l.length with h0 | h0
    · exact ⟨0, 0, fun h => by omega⟩
    · obtain ⟨b, o, h⟩ := hr h0
      exact ⟨b, o, fun _ => h⟩
  obtain ⟨b, o, hb⟩ := hb
  have hlen : (l.map fun (x : Nat) => [LV.int .u32 (x : Int)]).length = l.length := by simp
  have hget : ∀ (i : Nat) (cs : List LV), (l.map fun (x : Nat) => [LV.int .u32 (x : Int)])[i]? = some cs → ∃ x, l[i]? = some x ∧ cs = [LV.int .u32 (x : Int)] := fun i cs hi => by
    rw [List.getElem?_map] at hi
    cases hx : l[i]? with
    | none => rw [hx] at hi; cases hi
    | some x => rw [hx] at hi; injection hi with hi; exact ⟨x, rfl, hi.symm⟩
  have key := LRep.row (w := w) (O := O) A c 1 b o (l.map fun (x : Nat) => [LV.int .u32 (x : Int)]) (fun i _ => .int .u32 (((l[i]?).getD 0 : Nat) : Int)) (by rw [hlen]; exact h2) h3 (by rw [hlen]; exact h4) (by simp)
    (fun h0 => by rw [hlen] at h0; obtain ⟨h5, h6, h7, _⟩ := hb h0; exact ⟨h5, h6, h7⟩)
    (fun i cs hi j hj => by
      obtain ⟨x, hx, rfl⟩ := hget i cs hi
      have h0 : 0 < l.length := Nat.lt_of_le_of_lt (Nat.zero_le _) (List.getElem?_eq_some_iff.1 hx).1
      obtain ⟨_, _, _, hc⟩ := hb h0
      obtain ⟨cs, ⟨rfl, _⟩, h8⟩ := hc i x hx
      have hj0 : j = 0 := by simp at hj; omega
      subst hj0
      have := h8 0 _ rfl
      rw [hx]; exact this)
    (fun i cs hi j x hx => by
      obtain ⟨y, hy, rfl⟩ := hget i cs hi
      cases j with
      | succ j => simp at hx
      | zero =>
        simp at hx; subst hx
        rw [hy]; exact .int _ _)
  rw [hlen] at key
  exact key
theorem natA_to {w : World} {O : Nat → Prop} {v : Value} {l : List Nat} (h : LRep w O v (u32r l)) (hl : ∀ u ∈ l, u < 4294967296) : ∃ A n c, v = .slice A n c ∧ Rel.natA.at_ w O [.slice A n c] (val l) := by
  obtain ⟨A, c, rfl, h1⟩ := row32_of h hl
  exact ⟨A, _, c, rfl, l, h1, hl, rfl⟩
theorem natN_to {w : World} {O : Nat → Prop} {A : Option Addr} {n c : Nat} {x : Nat} (h : Rel.natN.at_ w O [.slice A n c] x) : LRep w O (.slice A n c) (u32r (limbs x)) := by
  obtain ⟨l, h1, h2, h3⟩ := h
  rw [← limbs_of h2 h3]
  exact row32_to h1
theorem intA_to {w : World} {O : Nat → Prop} {v : Value} {x y : LV} {z : Int} (h : TRep w O v (.agg [x, y])) (hi : IsInt x y z) : ∃ b A n c, v = .agg #[.bool b, .slice A n c] ∧ Rel.intA.at_ w O [.bool b, .slice A n c] z := by
  obtain ⟨vs, rfl, hr⟩ := h
  obtain ⟨b, l, rfl, rfl, hl, rfl⟩ := hi
  rcases vs with _ | ⟨v1, _ | ⟨v2, _ | ⟨v3, vs⟩⟩⟩
  · exact hr.elim
  · exact hr.2.elim
  · have h1 : LRep w O v1 (.bool b) := hr.1
    cases h1
    obtain ⟨A, n, c, rfl, h2⟩ := natA_to (hr.2.1 : LRep w O v2 (u32r l)) hl
    exact ⟨b, A, n, c, rfl, (b, val l), ⟨[.bool b], [.slice A n c], rfl, rfl, h2⟩, rfl⟩
  · exact hr.2.2.elim
theorem intN_to {w : World} {O : Nat → Prop} {v : Value} {z : Int} (h : (Rel.intN.aggF z v).holds w O) : TRep w O v (.agg (ofI z)) := by
  obtain ⟨cs, rfl, h⟩ := h
  obtain ⟨b, A, n, c, rfl⟩ := intN_shape h
  obtain ⟨h1, h2⟩ := intN_open h
  refine ⟨_, rfl, ?_, (natN_to h1).x, trivial⟩
  show LRep w O (.bool b) (.bool (decide (z < 0)))
  rw [h2]; exact .bool _
theorem owns_nil (Ob : Nat → Prop) : owns Ob [] = Ob := by funext b; simp [owns]
/-- from an elder contract -/
theorem does_of {f : Nat} {args : List AV} {r : AV} (h : ∀ (Ob : Nat → Prop) (W : World) (vs : List Value), (∀ b, Ob b → b < W.heap.size) → TReps W Ob vs args → ∃ F, Calls P f vs.toArray W (Ret W Ob F) ∧ ∀ w v, (F v).holds w Ob → ARep w Ob v r) : Does P f args r := by
  intro Ob W vs Bi hO hheld hargs hBin
  have hBin : Bi = [] := hBin
  subst hBin
  rw [owns_nil] at hargs
  obtain ⟨F, hc, hF⟩ := h Ob W vs hO hargs
  refine hc.mono fun e w' ⟨v, he, hg, hv⟩ => ⟨v, r, [], [], he, ⟨rfl, rfl⟩, by rw [owns_nil]; exact hF w' v hv, rfl, ⟨hg.1, fun b hb _ => hg.2 b hb, fun b _ hb => (by simp at hb), hg.io⟩, ⟨fun _ _ _ hm => by (cases hm), List.nodup_nil⟩⟩
theorem does_int1 {f : Nat} {x y : LV} {z : Int} {r : AV} (hi : IsInt x y z) (h : ∀ (Ob : Nat → Prop) (W : World) (b : Bool) (A : Option Addr) (n c : Nat), (∀ b, Ob b → b < W.heap.size) → Rel.intA.at_ W Ob [.bool b, .slice A n c] z → ∃ F, Calls P f #[.agg #[.bool b, .slice A n c]] W (Ret W Ob F) ∧ ∀ w v, (F v).holds w Ob → ARep w Ob v r) : Does P f [.agg [x, y]] r :=
  does_of fun Ob W vs hO hargs => by
    rcases vs with _ | ⟨v, _ | ⟨v2, vs⟩⟩
    · exact hargs.elim
    · obtain ⟨b, A, n, c, rfl, h1⟩ := intA_to hargs.1 hi
      exact h Ob W b A n c hO h1
    · exact hargs.2.elim
theorem does_int2 {f : Nat} {x y x' y' : LV} {z z' : Int} {r : AV} (hi : IsInt x y z) (hi' : IsInt x' y' z') (h : ∀ (Ob : Nat → Prop) (W : World) (b : Bool) (A : Option Addr) (n c : Nat) (b' : Bool) (A' : Option Addr) (n' c' : Nat), (∀ b, Ob b → b < W.heap.size) → Rel.intA.at_ W Ob [.bool b, .slice A n c] z → Rel.intA.at_ W Ob [.bool b', .slice A' n' c'] z' → ∃ F, Calls P f #[.agg #[.bool b, .slice A n c], .agg #[.bool b', .slice A' n' c']] W (Ret W Ob F) ∧ ∀ w v, (F v).holds w Ob → ARep w Ob v r) : Does P f [.agg [x, y], .agg [x', y']] r :=
  does_of fun Ob W vs hO hargs => by
    rcases vs with _ | ⟨v, _ | ⟨v2, _ | ⟨v3, vs⟩⟩⟩
    · exact hargs.elim
    · exact hargs.2.elim
    · obtain ⟨b, A, n, c, rfl, h1⟩ := intA_to hargs.1 hi
      obtain ⟨b', A', n', c', rfl, h2⟩ := intA_to hargs.2.1 hi'
      exact h Ob W b A n c b' A' n' c' hO h1 h2
    · exact hargs.2.2.elim
theorem aggF_a {w : World} {O : Nat → Prop} {z : Int} : ∀ v, (Rel.intN.aggF z v).holds w O → ARep w O v (.agg (ofI z)) := fun _ h => (intN_to h).a
theorem eqF_a {w : World} {O : Nat → Prop} {c : Value} {r : AV} (hr : cst c = some r) : ∀ v, (eqF c v).holds w O → ARep w O v r := fun v h => by
  have h : v = c := h
  subst h; exact cst_rep hr
/-- rows of whole numbers -/
def IsInts : List (List LV) → List Int → Prop
  | [], [] => True
  | x :: l, z :: p => (∃ a b, x = [a, b] ∧ IsInt a b z) ∧ IsInts l p
  | _, _ => False
theorem IsInts.len : ∀ {l : List (List LV)} {p : List Int}, IsInts l p → l.length = p.length
  | [], [], _ => rfl
  | x :: l, z :: p, h => by simp [h.2.len]
  | [], _ :: _, h => h.elim
  | _ :: _, [], h => h.elim
theorem IsInts.get : ∀ {l : List (List LV)} {p : List Int}, IsInts l p → ∀ {i : Nat} {z : Int}, p[i]? = some z → ∃ a b, l[i]? = some [a, b] ∧ IsInt a b z
  | [], [], _, i, z, h => by simp at h
  | x :: l, y :: p, h, 0, z, hz => by
    simp at hz; subst hz
    obtain ⟨a, b, rfl, hi⟩ := h.1
    exact ⟨a, b, rfl, hi⟩
  | x :: l, y :: p, h, i + 1, z, hz => by simpa using h.2.get (i := i) (by simpa using hz)
  | [], _ :: _, h, _, _, _ => h.elim
  | _ :: _, [], h, _, _, _ => h.elim
theorem isInts_n : ∀ (p : List Int), IsInts (p.map ofI) p
  | [] => trivial
  | z :: p => ⟨⟨_, _, rfl, isInt_n z⟩, isInts_n p⟩
theorem IsInts.append : ∀ {l l' : List (List LV)} {p p' : List Int}, IsInts l p → IsInts l' p' → IsInts (l ++ l') (p ++ p')
  | [], _, [], _, _, h => h
  | x :: l, _, z :: p, _, h, h' => ⟨h.1, h.2.append h'⟩
  | [], _, _ :: _, _, h, _ => h.elim
  | _ :: _, _, [], _, h, _ => h.elim
theorem ints_to {w : World} {O : Nat → Prop} {v : Value} {l : List (List LV)} {p : List Int} (h : LRep w O v (.row l)) (hi : IsInts l p) : ∃ A n c, v = .slice A n c ∧ Rel.intA.slice.at_ w O [.slice A n c] p := by
  have hl := hi.len
  cases h with
  | row A c sz b o l f hc hc63 hm47 hs hA hcell hrep =>
    refine ⟨A, _, c, rfl, A, c, by rw [hl], by omega, hc63, by omega, fun h0 => ?_⟩
    obtain ⟨rfl, h1, h2⟩ := hA (by omega)
    refine ⟨b, o, rfl, h1, h2, fun i z hz => ?_⟩
    obtain ⟨x, y, hx, hxy⟩ := hi.get hz
    have hsz : sz = 2 := (hs _ (List.mem_of_getElem? hx)).symm
    subst hsz
    have hr1 := hrep i _ hx 0 x rfl
    have hr2 := hrep i _ hx 1 y rfl
    have hT : TRep w O (.agg #[f i 0, f i 1]) (.agg [x, y]) := ⟨[f i 0, f i 1], rfl, hr1.x, hr2.x, trivial⟩
    obtain ⟨bb, A', n', c', e, h3⟩ := intA_to hT hxy
    simp at e
    obtain ⟨e1, e2⟩ := e
    refine ⟨_, h3, fun j v hj => ?_⟩
    have hc0 := hcell i _ hx 0 (by simp)
    have hc1 := hcell i _ hx 1 (by simp)
    rw [e1] at hc0
    rw [e2] at hc1
    rcases j with _ | _ | j
    · simp at hj; subst hj; exact hc0
    · simp at hj; subst hj; exact hc1
    · simp at hj
theorem does_ints {f : Nat} {l : List (List LV)} {p : List Int} {r : AV} (hi : IsInts l p) (h : ∀ (Ob : Nat → Prop) (W : World) (A : Option Addr) (n c : Nat), (∀ b, Ob b → b < W.heap.size) → Rel.intA.slice.at_ W Ob [.slice A n c] p → ∃ F, Calls P f #[.slice A n c] W (Ret W Ob F) ∧ ∀ w v, (F v).holds w Ob → ARep w Ob v r) : Does P f [.one (.row l)] r :=
  does_of fun Ob W vs hO hargs => by
    rcases vs with _ | ⟨v, _ | ⟨v2, vs⟩⟩
    · exact hargs.elim
    · obtain ⟨A, n, c, rfl, h1⟩ := ints_to hargs.1 hi
      exact h Ob W A n c hO h1
    · exact hargs.2.elim
theorem tup2_a {w : World} {O : Nat → Prop} {f g : Value → Fact} {r s : AV} (h1 : ∀ v, (f v).holds w O → TRep w O v r) (h2 : ∀ v, (g v).holds w O → TRep w O v s) : ∀ v, (tup2 f g v).holds w O → ARep w O v (.tup [r, s]) := fun v ⟨x, y, e, h3, h4⟩ => ⟨[x, y], e, h1 x h3, h2 y h4, trivial⟩
theorem tup3_a {w : World} {O : Nat → Prop} {f g k : Value → Fact} {r s t : AV} (h1 : ∀ v, (f v).holds w O → TRep w O v r) (h2 : ∀ v, (g v).holds w O → TRep w O v s) (h5 : ∀ v, (k v).holds w O → TRep w O v t) : ∀ v, (tup3 f g k v).holds w O → ARep w O v (.tup [r, s, t]) := fun v ⟨x, y, z, e, h3, h4, h6⟩ => ⟨[x, y, z], e, h1 x h3, h2 y h4, h5 z h6, trivial⟩
theorem eqF_t {w : World} {O : Nat → Prop} {kd : IntKind} {p : Int} : ∀ v, (eqF (.int kd p) v).holds w O → TRep w O v (.one (.int kd p)) := fun v h => by
  have h : v = .int kd p := h
  subst h; exact LRep.int _ _
end Orr
namespace Orr
open Go
variable {P : Program} {n : Nat} {L : Sg} {B : List OB}
theorem rvs_0 {fn : Func} (hr : fn.results = #[]) : RVs P n L B fn.results.toList [] := by rw [hr]; trivial
theorem rvs_1 {fn : Func} {r1 : ResultVar} {u : AV} (hr : fn.results = #[r1]) (h1 : RV P n L B r1 u) : RVs P n L B fn.results.toList [u] := by rw [hr]; exact ⟨h1, trivial⟩
theorem rvs_3 {fn : Func} {r1 r2 r3 : ResultVar} {u1 u2 u3 : AV} (hr : fn.results = #[r1, r2, r3]) (h1 : RV P n L B r1 u1) (h2 : RV P n L B r2 u2) (h3 : RV P n L B r3 u3) : RVs P n L B fn.results.toList [u1, u2, u3] := by rw [hr]; exact ⟨h1, h2, h3, trivial⟩
theorem rvs_2 {fn : Func} {r1 r2 : ResultVar} {u1 u2 : AV} (hr : fn.results = #[r1, r2]) (h1 : RV P n L B r1 u1) (h2 : RV P n L B r2 u2) : RVs P n L B fn.results.toList [u1, u2] := by rw [hr]; exact ⟨h1, h2, trivial⟩
theorem rq_all {fn : Func} {us : List AV} {r : AV} (h : RVs P n L B fn.results.toList us) (he : bundR us = r) : RQ P fn n (Is r) .ret L B := by
  obtain ⟨is, hs⟩ := subB_all B
  exact ⟨us, is, [], h, hs, he, rfl⟩
theorem retB_0 {fn : Func} (hr : fn.results = #[]) {r : AV} (he : AV.tup [] = r) : RQ P fn n (Is r) .ret L B := rq_all (rvs_0 hr) he
theorem retB_1 {fn : Func} {r1 : ResultVar} {u r : AV} (hr : fn.results = #[r1]) (h1 : RV P n L B r1 u) (he : u = r) : RQ P fn n (Is r) .ret L B := rq_all (rvs_1 hr h1) he
theorem retB_2 {fn : Func} {r1 r2 : ResultVar} {u1 u2 r : AV} (hr : fn.results = #[r1, r2]) (h1 : RV P n L B r1 u1) (h2 : RV P n L B r2 u2) (he : AV.tup [u1, u2] = r) : RQ P fn n (Is r) .ret L B := rq_all (rvs_2 hr h1 h2) he
theorem retB_3 {fn : Func} {r1 r2 r3 : ResultVar} {u1 u2 u3 r : AV} (hr : fn.results = #[r1, r2, r3]) (h1 : RV P n L B r1 u1) (h2 : RV P n L B r2 u2) (h3 : RV P n L B r3 u3) (he : AV.tup [u1, u2, u3] = r) : RQ P fn n (Is r) .ret L B := rq_all (rvs_3 hr h1 h2 h3) he
theorem ret_ {fn : Func} {Post : AV → List OB → Prop} {us : List AV} {B' : List OB} (is : List Nat) (h : RVs P n L B fn.results.toList us) (hs : subB is B = some B') (hp : Post (bundR us) B') : RQ P fn n Post .ret L B := ⟨us, is, B', h, hs, hp⟩
/-- a row of whole numbers, as a leaf -/
def pl (p : List Int) : LV := .row (p.map ofI)
def ids (l : List Int) : LV := .row (l.map fun (x : Int) => [.int .i64 x])
theorem ofI_zero : ofI 0 = [LV.bool false, LV.row []] := by simp [ofI, sg_zero, mg_zero]
theorem rlen_pl (p : List Int) : rlen (pl p) = some p.length := by simp [rlen, pl]
theorem rlen_ids (p : List Int) : rlen (ids p) = some p.length := by simp [rlen, ids]
theorem map_get {α β : Type} {f : α → β} {l : List α} {i : Nat} {x : α} (h : l[i]? = some x) : (l.map f)[i]? = some (f x) := by rw [List.getElem?_map, h]; rfl
theorem map_w {α : Type} {f : α → List LV} {sz : Nat} (l : List α) (h : ∀ x, (f x).length = sz) : ∀ c ∈ l.map f, c.length = sz := fun c hc => by
  obtain ⟨x, _, rfl⟩ := List.mem_map.1 hc
  exact h x
theorem map_f {α : Type} {f : α → List LV} (l : List α) (h : ∀ x, freeL (f x) = true) : ∀ c ∈ l.map f, ∀ x ∈ c, x.free = true := fun c hc x hx => by
  obtain ⟨y, _, rfl⟩ := List.mem_map.1 hc
  exact freeL_of (h y) x hx
theorem one_w {c0 : List LV} {sz : Nat} (h : c0.length = sz) : ∀ c ∈ [c0], c.length = sz := fun c hc => by rw [List.mem_singleton] at hc; rw [hc]; exact h
theorem one_f {c0 : List LV} (h : freeL c0 = true) : ∀ c ∈ [c0], ∀ x ∈ c, x.free = true := fun c hc x hx => by rw [List.mem_singleton] at hc; rw [hc] at hx; exact freeL_of h x hx
theorem i64_ok {x : Int} (h1 : -9223372036854775808 ≤ x ∧ x ≤ 9223372036854775807) : IntKind.i64.wrap x = x := wrap64_of h1.1 h1.2
variable {ops : Array Oper} {rest : List Oper} {N : Sg → List OB → Prop} {d : Nat} {ty : TypeId} {pos : String} {after : Array Edge}
theorem p_indexO {x y : Operand} {r : Option (Nat × Nat)} {sz lo len : Nat} {kd : IntKind} {p : Int} (i : Nat) {E t : TypeId} (hu : ∀ w, (underlying t).run P w = .ok (.slice E) w) (hs : ∀ w, (Go.sizeOf E).run P w = .ok sz w)
    (hx : evA L x = some (.one (.orow r sz lo len))) (hy : evA L y = some (.one (.int kd p))) (hp : p = (i : Int)) (hi : i < len) (hd : Nat.blt d n = true) :
    AP P ops n { dst := some d, op := .indexAddr t x y, type := ty, pos := pos, after := after, guard := none } d (.one (.oel r sz (lo + i) 0)) L B := by
  intro K Ob w0 w a Bs L' Fs h hL hB
  obtain ⟨v, hv, hr⟩ := ev_of hL hx
  obtain ⟨u, hu', hr2⟩ := ev_of hL hy
  obtain rfl := rep_int hr2
  rcases r with _ | ⟨g, c⟩
  · obtain ⟨_, _, rfl⟩ := hr; omega
  · obtain ⟨h8, o, rfl, h9⟩ := hr
    have ho : o = lo * sz := h9 (.inr (by omega))
    refine st_indexI i h hv hu' hu hs hp hi hd fun a' h' => wpList_nil ⟨rfl, _, h', ?_⟩
    show _ = _
    subst ho
    simp [Nat.add_mul]
theorem p_fieldO {S : TypeId} {x : Operand} {f off : Nat} {r : Option (Nat × Nat)} {sz i o : Nat} (hrun : ∀ b o w, (Instr.fieldAt S (.pointer (some ⟨b, o, none⟩)) f).run P w = .ok (.pointer (some ⟨b, o + off, none⟩)) w)
    (hx : evA L x = some (.one (.oel r sz i o))) (hd : Nat.blt d n = true) :
    AP P ops n { dst := some d, op := .fieldAddr S x f, type := ty, pos := pos, after := after, guard := none } d (.one (.oel r sz i (o + off))) L B := by
  intro K Ob w0 w a Bs L' Fs h hL hB
  obtain ⟨v, hv, hr1⟩ := ev_of hL hx
  rcases r with _ | ⟨g, c⟩
  · exact hr1.elim
  · obtain rfl : v = .pointer (some ⟨g, i * sz + o, none⟩) := hr1
    exact st_fieldAddr h hv hrun hd fun a' h' => wpList_nil ⟨rfl, _, h', by show _ = _; rw [Nat.add_assoc]⟩
theorem p_loadO (j : Nat) {T E : TypeId} {x : Operand} {r : Option (Nat × Nat)} {sz i o m : Nat} {ls : List (List LV)} {z q : List LV} {ag : Bool} {u : AV} {B' : List OB} (ht : ∀ w, (isAgg T).run P w = .ok ag w) (hs : ∀ w, (Go.sizeOf T).run P w = .ok m w)
    (hi : frontB B j = some (.row r E sz ls, B')) (hx : evA L x = some (.one (.oel r sz i o))) (hz : ls[i]? = some z) (hr : subL z o m = some q) (hu : bundle ag q = some u) (hd : Nat.blt d n = true) :
    AP P ops n { dst := some d, op := .load T x, type := ty, pos := pos, after := after, guard := none } d u L B := by
  intro K Ob w0 w a Bs L' Fs h hL hB
  obtain ⟨hxi, rfl⟩ := frontB_eq hi
  obtain ⟨Bo, Bs', hp, hob, _⟩ := hB.front hxi
  obtain ⟨v, hv, hr1⟩ := ev_of hL hx
  rcases r with _ | ⟨g, c⟩
  · exact hr1.elim
  · obtain rfl : v = .pointer (some ⟨g, i * sz + o, none⟩) := hr1
    obtain ⟨h0, h2, h3, vss, ex, h4, rfl, h5, h6, h7⟩ := hob
    have hmem : (g, E, vss.flatten ++ ex) ∈ Bs := hp.mem_iff.2 (by simp)
    obtain ⟨k, hk⟩ := List.mem_iff_getElem?.1 hmem
    obtain ⟨rfl, hle⟩ := subL_eq hr
    obtain ⟨vs, hvs, hreps⟩ := h4.get hz
    have hzl := h2 z (List.mem_of_getElem? hz)
    have hall := h4.all h2
    have hlen := hreps.len
    have hreps' : XReps w (owns Ob Bs) ((vs.drop o).take m) ((z.drop o).take m) := (hreps.drop o).take m
    have hl : ((vs.drop o).take m).length = m := by simp; omega
    have hcell : ∀ j u, ((vs.drop o).take m)[j]? = some u → w.cell? ⟨g, i * sz + o + j, none⟩ = some u := fun j u hj => by
      rw [h.own_cell hk]
      rw [List.getElem?_take] at hj
      split at hj
      · rw [List.getElem?_drop] at hj
        have e2 : vss.flatten[i * sz + (o + j)]? = vs[o + j]? := by
          rw [flat_get hall (by have := (List.getElem?_eq_some_iff.1 hj).1; omega), hvs]; rfl
        rw [hj] at e2
        rw [Nat.add_assoc, List.getElem?_append_left (List.getElem?_eq_some_iff.1 e2).1, e2]
      · cases hj
    cases ag with
    | true =>
      simp only [bundle, Option.some.injEq] at hu
      subst hu
      exact st_loadS h hv ht hs hl hcell hd fun a' h' => wpList_nil ⟨rfl, _, h', show ARep _ _ _ (.agg _) from ⟨_, rfl, hreps'⟩⟩
    | false =>
      obtain ⟨y, e2, rfl⟩ := bundle_false hu
      rw [e2] at hreps'
      generalize (vs.drop o).take m = vs at *
      rcases vs with _ | ⟨v0, _ | ⟨v1, vs⟩⟩
      · exact hreps'.elim
      · exact st_load h hv ht (by simpa using hcell 0 v0 rfl) hd fun a' h' => wpList_nil ⟨rfl, _, h', show ARep _ _ _ (.one y) from hreps'.1⟩
      · exact hreps'.2.elim
theorem RReps.setAt {w : World} {O : Nat → Prop} {vss : List (List Value)} {ls : List (List LV)} (h : RReps w O vss ls) {vs : List Value} {z : List LV} (hz : XReps w O vs z) (i : Nat) : RReps w O (vss.set i vs) (ls.set i z) := by
  refine RReps.of (by simp [h.len]) fun j v x hv hx => ?_
  rw [List.getElem?_set] at hv hx
  split at hv
  · rename_i e
    rw [if_pos e] at hx
    split at hv <;> first | cases hv | skip
    rename_i hl
    rw [if_pos (by rw [← h.len]; exact hl)] at hx
    injection hx with hx; subst hx; exact hz
  · rename_i e
    rw [if_neg e] at hx
    exact h.get' hv hx
/-- a store into an element of an own row, which comes to the front -/
theorem a_storeO (j : Nat) {T E : TypeId} {x y : Operand} {r : Option (Nat × Nat)} {sz i o m : Nat} {ls ls2 : List (List LV)} {z ys q : List LV} {u : AV} {B' : List OB} (hs : ∀ w, (Go.sizeOf T).run P w = .ok m w)
    (hi : frontB B j = some (.row r E sz ls, B')) (hx : evA L x = some (.one (.oel r sz i o))) (hy : evA L y = some u) (hl : leaves u = some ys) (hf : freeL ys = true) (hm : ys.length = m) (hz : ls[i]? = some z) (hr : updO z o m ys = some q) (hls : ls.set i q = ls2)
    (k : AW P ops n rest N L (.row r E sz ls2 :: B')) :
    AW P ops n ({ dst := none, op := .store T x y, type := ty, pos := pos, after := after, guard := none } :: rest) N L B := by
  intro K Ob w0 w a Q hs0 hQ
  subst hls
  obtain ⟨L', Bo, Bs, h, hL, hob, hB⟩ := hs0.front hi
  obtain ⟨v, hv, hr1⟩ := ev_of hL hx
  obtain ⟨v2, hv2, hr2⟩ := ev_of hL hy
  obtain ⟨hc2, ht2⟩ := leaves_of hr2 hl
  obtain ⟨rfl, hlen⟩ := updO_eq hr
  rcases r with _ | ⟨g, c⟩
  · exact hr1.elim
  · obtain rfl : v = .pointer (some ⟨g, i * sz + o, none⟩) := hr1
    obtain ⟨h0, h2, h3, vss, ex, h4, rfl, h5, h6, h7⟩ := hob
    obtain ⟨vs, hvs, hreps⟩ := h4.get hz
    have hzl := h2 z (List.mem_of_getElem? hz)
    have hall := h4.all h2
    have hvl := hreps.len
    have hil : i < vss.length := (List.getElem?_eq_some_iff.1 hvs).1
    have hcl := hc2.len
    have hadd := h.add (f := ⟨fun w O => (∀ t x, lk L t = some x → ∃ v, look L' t = some v ∧ ARep w O v x) ∧ BsRep w O B' Bs ∧ RReps w O vss ls ∧ XReps w O vs z ∧ XReps w O v2.cells.toList ys, fun hle h => ⟨keep_of hle h.1, h.2.1.keep hle, h.2.2.1.keep hle, h.2.2.2.1.keep hle, h.2.2.2.2.keep hle⟩⟩) ⟨hL, hB, h4, hreps, hc2⟩
    have hfl := flat_len hall
    have hbound : (i + 1) * sz ≤ vss.length * sz := Nat.mul_le_mul_right _ hil
    rw [Nat.succ_mul] at hbound
    refine st_store hadd 0 rfl hv hv2 hs rfl (hcl.trans hm) (by rw [Nat.ble_eq, List.length_append]; omega) (List.all_eq_true.2 hc2.one) fun w' h' => ?_
    obtain ⟨h8, h9, h10, h11, h12⟩ := h'.fact 0 rfl
    have e : upd (vss.flatten ++ ex) (i * sz + o) v2.cells.toList = (vss.set i (upd vs o v2.cells.toList)).flatten ++ ex := by
      have hpre : ∀ (pre post : List Value) (k : Nat) (ys : List Value), k + ys.length ≤ pre.length → upd (pre ++ post) k ys = upd pre k ys ++ post := by
        intro pre
        induction pre with
        | nil =>
          intro post k ys hk
          cases ys with
          | nil => cases post <;> simp [upd]
          | cons y ys => simp at hk
        | cons p pre ih =>
          intro post k ys hk
          cases ys with
          | nil => simp [upd]
          | cons y ys =>
            cases k with
            | zero => simp only [List.cons_append, upd]; rw [ih post 0 ys (by simp at hk ⊢; omega)]
            | succ k => simp only [List.cons_append, upd]; rw [ih post k (y :: ys) (by simp at hk ⊢; omega)]
      rw [hpre _ _ _ _ (by omega)]
      congr 1
      have h13 : vss = vss.take i ++ vs :: vss.drop (i + 1) := by
        rw [← (List.getElem?_eq_some_iff.1 hvs).2]; simp
      have h14 : vss.set i (upd vs o v2.cells.toList) = vss.take i ++ upd vs o v2.cells.toList :: vss.drop (i + 1) := List.set_eq_take_append_cons_drop .. |>.trans (by rw [if_pos hil])
      rw [h14]
      conv => lhs; rw [h13]
      rw [List.flatten_append, List.flatten_cons, List.flatten_append, List.flatten_cons]
      have h15 : (vss.take i).flatten.length = i * sz := by
        rw [flat_len (sz := sz) fun c hc => hall c (List.mem_of_mem_take hc), List.length_take, Nat.min_eq_left (by omega)]
      rw [← h15, upd_append_right, hpre _ _ _ _ (by omega)]
    rw [show i * sz + o = i * sz + o from rfl] at h'
    simp only [List.cons_append, List.nil_append, List.set_cons_zero] at h' h8 h9 h10 h11 h12
    have e' := e
    refine k _ _ _ _ _ _ (SA.of (Bo := [_]) h'.noFacts h8 ?_ h9) hQ
    refine ⟨h0, ?_, ?_, vss.set i (upd vs o v2.cells.toList), ex, h10.setAt (h11.upd o h12) i, by rw [← e'], ?_, by simpa using h6, h7⟩
    · intro c hc
      rcases List.mem_or_eq_of_mem_set hc with hc | rfl
      · exact h2 c hc
      · rw [length_updL]; exact hzl
    · intro c hc y hy
      rcases List.mem_or_eq_of_mem_set hc with hc | rfl
      · exact h3 c hc y hy
      · obtain ⟨k2, hk2⟩ := List.mem_iff_getElem?.1 hy
        have key : ∀ (z ys : List LV) (o : Nat), (∀ x ∈ z, x.free = true) → (∀ x ∈ ys, x.free = true) → ∀ x ∈ updL z o ys, x.free = true := by
          intro z
          induction z with
          | nil => intro ys o _ _ x hx; cases ys <;> simp [updL] at hx
          | cons a z ih =>
            intro ys o hz hy x hx
            cases ys with
            | nil => simp [updL] at hx; exact hz x (by simpa using hx)
            | cons b ys =>
              cases o with
              | zero =>
                simp only [updL, List.mem_cons] at hx
                rcases hx with rfl | hx
                · exact hy _ (List.mem_cons_self ..)
                · exact ih ys 0 (fun q hq => hz q (List.mem_cons_of_mem _ hq)) (fun q hq => hy q (List.mem_cons_of_mem _ hq)) x hx
              | succ o =>
                simp only [updL, List.mem_cons] at hx
                rcases hx with rfl | hx
                · exact hz _ (List.mem_cons_self ..)
                · exact ih (b :: ys) o (fun q hq => hz q (List.mem_cons_of_mem _ hq)) hy x hx
        exact key z ys o (h3 z (List.mem_of_getElem? hz)) (freeL_of hf) y hy
    · rw [← e', length_upd]; exact h5
end Orr
namespace Orr
open Go
theorem seqQ_exit {Y : Sg → List OB → Prop} {Q : Exit → Sg → List OB → Prop} {id : Nat} {L : Sg} {B : List OB} (h : Q (.exit id) L B) : seqQ Y Q (.exit id) L B := h
theorem blkQ_here {Q : Exit → Sg → List OB → Prop} {id : Nat} {L : Sg} {B : List OB} (h : Q .normal L B) : blkQ id Q (.exit id) L B := by simp only [blkQ, if_true]; exact h
theorem blkQ_other {Q : Exit → Sg → List OB → Prop} {id id' : Nat} {L : Sg} {B : List OB} (hne : Nat.beq id' id = false) (h : Q (.exit id') L B) : blkQ id Q (.exit id') L B := by
  have : ¬ (id' = id) := Nat.ne_of_beq_eq_false hne
  simp only [blkQ, this, if_false]; exact h
theorem i64_is {x r : Int} (h : x = r) (h1 : -9223372036854775808 ≤ r ∧ r ≤ 9223372036854775807) : IntKind.i64.wrap x = r := by rw [h]; exact wrap64_of h1.1 h1.2
theorem ac_front {P : Program} {n : Nat} {L : Sg} {B : List OB} {Q : Exit → Sg → List OB → Prop} {c : Code} (i : Nat) {x : OB} {r : List OB} (hi : frontB B i = some (x, r)) (k : AC P n c Q L (x :: r)) : AC P n c Q L B := fun _ _ _ _ _ hs => k _ _ _ _ _ (hs.toFront hi)
end Orr
namespace Orr
open Go
theorem field_run {P : Program} {S f off T m : Nat} {ag : Bool} {fs : Array Field} (hu : ∀ w, (underlying S).run P w = .ok (.struct fs) w) (hf : (fs[f]?).map (fun fl => (fl.type, fl.offset)) = some (T, off)) (ht : ∀ w, (isAgg T).run P w = .ok ag w) (hs : ∀ w, (Go.sizeOf T).run P w = .ok m w)
    (vs : List Value) (v : Value) (hv : if ag = true then v = .agg ((vs.drop off).take m).toArray else vs[off]? = some v) (_ : off + m ≤ vs.length) (w : World) : (Instr.field S (.agg vs.toArray) f).run P w = .ok v w := by
  cases h : fs[f]? with
  | none => rw [h] at hf; cases hf
  | some fl =>
    rw [h] at hf
    simp only [Option.map_some, Option.some.injEq, Prod.mk.injEq] at hf
    obtain ⟨rfl, rfl⟩ := hf
    cases ag with
    | true =>
      simp only [if_true] at hv
      subst hv
      simp [Instr.field, hu, h, asAgg, Go.part, ht, hs, List.extract]
      done
    | false =>
      simp at hv
      simp [Instr.field, hu, h, asAgg, Go.part, ht, hv]
end Orr
namespace Orr
open Go
variable {P : Program} {ops : Array Oper} {n : Nat} {rest : List Oper} {N : Sg → List OB → Prop} {L : Sg} {B : List OB}
theorem unNilL_all {w : World} {O : Nat → Prop} {zs zs' : List LV} (h : unNilL zs = some zs') {vs : List Value} (hr : XReps w O vs zs) : XReps w O vs zs' := unNilL_of h hr
theorem unNilL_free : ∀ {xs ys : List LV}, unNilL xs = some ys → (∀ x ∈ xs, x.free = true) → ∀ y ∈ ys, y.free = true
  | [], ys, h, _ => by simp [unNilL] at h; subst h; simp
  | x :: l, ys, h, hf => by
    simp only [unNilL] at h
    split at h
    · cases h
    · rename_i r hl
      have ih := unNilL_free hl fun y hy => hf y (List.mem_cons_of_mem _ hy)
      split at h <;> injection h with h <;> subst h <;> intro y hy <;> rcases List.mem_cons.1 hy with rfl | hy
      · rfl
      · exact ih y hy
      · exact hf _ (List.mem_cons_self ..)
      · exact ih y hy
/-- fresh elements: what is nil reads as an empty row -/
theorem aw_zeros (i : Nat) {r : Option (Nat × Nat)} {E sz m : Nat} {zs zs' : List LV} {ls' : List (List LV)} {B' : List OB} (hi : frontB B i = some (.row r E sz (List.replicate m zs), B')) (hz : unNilL zs = some zs') (hls : List.replicate m zs' = ls') (k : AW P ops n rest N L (.row r E sz ls' :: B')) : AW P ops n rest N L B := by
  intro K Ob w0 w a Q hs hQ
  subst hls
  obtain ⟨L', Bo, Bs, h1, h2, h3, h4⟩ := hs.front hi
  refine k _ _ _ _ _ _ (SA.of h1 h2 ?_ h4) hQ
  rcases r with _ | ⟨g, c⟩
  · obtain ⟨h5, h6, h7⟩ := h3
    have hm : m = 0 := by have := congrArg List.length h6; simpa using this
    subst hm
    exact ⟨h5, rfl, h7⟩
  · obtain ⟨h5, h6, h7, vss, ex, h8, h9, h10, h11, h12⟩ := h3
    refine ⟨h5, fun c hc => ?_, fun c hc x hx => ?_, vss, ex, ?_, h9, h10, by simpa using h11, h12⟩
    · have e := List.eq_of_mem_replicate hc
      subst e
      rw [unNilL_len hz]
      obtain ⟨hm, _⟩ := List.mem_replicate.1 hc
      exact h6 zs (List.mem_replicate.2 ⟨hm, rfl⟩)
    · have e := List.eq_of_mem_replicate hc
      subst e
      obtain ⟨hm, _⟩ := List.mem_replicate.1 hc
      exact unNilL_free hz (h7 zs (List.mem_replicate.2 ⟨hm, rfl⟩)) x hx
    · refine RReps.of (by have := h8.len; simpa using this) fun j v x hv hx => ?_
      have e := List.eq_of_mem_replicate (List.mem_of_getElem? hx)
      subst e
      have hj : j < m := by have := (List.getElem?_eq_some_iff.1 hx).1; simpa using this
      exact unNilL_of hz (h8.get' hv (by simp [hj]))
theorem aw_rowEq (i : Nat) {r : Option (Nat × Nat)} {E sz : Nat} {ls ls' : List (List LV)} {B' : List OB} (hi : frontB B i = some (.row r E sz ls, B')) (he : ls = ls') (k : AW P ops n rest N L (.row r E sz ls' :: B')) : AW P ops n rest N L B := by
  subst he; exact aw_front i hi k
theorem zeros_I (m : Nat) : List.replicate m [LV.bool false, LV.row []] = (List.replicate m (0 : Int)).map ofI := by simp [ofI, sg_zero, mg_zero]
theorem set_map {α : Type} (f : α → List LV) (l : List α) (i : Nat) (x : α) : (l.map f).set i (f x) = (l.set i x).map f := List.map_set.symm
/-- a row that is filled with g 0, g 1, .. -/
def tab (g : Nat → Int) (n i : Nat) : List Int := (List.range i).map g ++ List.replicate (n - i) 0
theorem tab_zero (g : Nat → Int) (n : Nat) : List.replicate n 0 = tab g n 0 := by simp [tab]
theorem tab_len (g : Nat → Int) {n i : Nat} (h : i ≤ n) : (tab g n i).length = n := by simp [tab]; omega
theorem tab_get (g : Nat → Int) {n i : Nat} (h : i < n) : (tab g n i)[i]? = some 0 := by
  unfold tab
  rw [List.getElem?_append_right (by simp), List.length_map, List.length_range, Nat.sub_self, List.getElem?_replicate, if_pos (by omega)]
theorem tab_set (g : Nat → Int) {n i : Nat} (h : i < n) : (tab g n i).set i (g i) = tab g n (i + 1) := by
  unfold tab
  obtain ⟨k, hk⟩ : ∃ k, n - i = k + 1 := ⟨n - i - 1, by omega⟩
  rw [hk, show n - (i + 1) = k from by omega, List.set_append_right _ _ (by simp), List.range_succ]
  simp [List.replicate_succ]
theorem tab_all (g : Nat → Int) (n : Nat) : tab g n n = (List.range n).map g := by simp [tab]
theorem p_max {x y : Operand} {kd : IntKind} {p q r : Int} {ats : Array TypeId} {d : Nat} {ty : TypeId} {pos : String} {after : Array Edge} (hx : evA L x = some (.one (.int kd p))) (hy : evA L y = some (.one (.int kd q))) (hr : (if q > p then q else p) = r) (hd : Nat.blt d n = true) :
    AP P ops n { dst := some d, op := .call { callee := .builtin .max, args := #[x, y], argTypes := ats }, type := ty, pos := pos, after := after, guard := none } d (.one (.int kd r)) L B := by
  intro K Ob w0 w a Bs L' Fs h hL hB
  obtain ⟨v, hv, hr1⟩ := ev_of hL hx
  obtain ⟨u, hu', hr2⟩ := ev_of hL hy
  obtain rfl := rep_int hr1
  obtain rfl := rep_int hr2
  exact st_max h hv hu' hr hd fun a' h' => wpList_nil ⟨rfl, _, h', LRep.int _ _⟩
theorem p_min {x y : Operand} {kd : IntKind} {p q r : Int} {ats : Array TypeId} {d : Nat} {ty : TypeId} {pos : String} {after : Array Edge} (hx : evA L x = some (.one (.int kd p))) (hy : evA L y = some (.one (.int kd q))) (hr : (if q < p then q else p) = r) (hd : Nat.blt d n = true) :
    AP P ops n { dst := some d, op := .call { callee := .builtin .min, args := #[x, y], argTypes := ats }, type := ty, pos := pos, after := after, guard := none } d (.one (.int kd r)) L B := by
  intro K Ob w0 w a Bs L' Fs h hL hB
  obtain ⟨v, hv, hr1⟩ := ev_of hL hx
  obtain ⟨u, hu', hr2⟩ := ev_of hL hy
  obtain rfl := rep_int hr1
  obtain rfl := rep_int hr2
  exact st_min h hv hu' hr hd fun a' h' => wpList_nil ⟨rfl, _, h', LRep.int _ _⟩
/-- part of a shared row -/
theorem row_part {w : World} {O : Nat → Prop} {A : Option Addr} {m c lo hi c' sz0 : Nat} {l l' : List (List LV)} (h : LRep w O (.slice A m c) (.row l)) (h1 : lo ≤ hi) (h2 : hi ≤ l.length) (hc' : c' = c ∨ c' = hi) (hsz : ∀ z ∈ l, z.length = sz0) (hl' : (l.drop lo).take (hi - lo) = l') :
    LRep w O (.slice (if c' = lo then A else A.map (·.add (lo * sz0))) (hi - lo) (c' - lo)) (.row l') := by
  subst hl'
  generalize hv : Value.slice A m c = v at h
  cases h with
  | row A' c0 sz b o l f hc hc63 hm47 hs hA hcell hrep =>
    injection hv with e1 e2 e3
    subst e1 e2 e3
    have hlen : ((l.drop lo).take (hi - lo)).length = hi - lo := by simp; omega
    have hget : ∀ (i : Nat) (cs : List LV), ((l.drop lo).take (hi - lo))[i]? = some cs → l[lo + i]? = some cs := fun i cs hi' => by
      rw [List.getElem?_take] at hi'
      split at hi'
      · rwa [List.getElem?_drop] at hi'
      · cases hi'
    have key := LRep.row (w := w) (O := O) (if c' = lo then A else A.map (·.add (lo * sz0))) (c' - lo) sz b (o + lo * sz) ((l.drop lo).take (hi - lo)) (fun i j => f (lo + i) j) (by rw [hlen]; rcases hc' with rfl | rfl <;> omega) (by rcases hc' with rfl | rfl <;> omega) (by rw [hlen]; omega)
      (fun cs hm => hs cs (List.mem_of_mem_drop (List.mem_of_mem_take hm)))
      (fun h0 => by
        rw [hlen] at h0
        obtain ⟨rfl, h3, h4⟩ := hA (by omega)
        have hx := List.getElem?_eq_getElem (show lo < l.length by omega)
        have e5 : sz0 = sz := by rw [← hsz _ (List.mem_of_getElem? hx), hs _ (List.mem_of_getElem? hx)]
        subst e5
        have : ¬ (c' = lo) := by rcases hc' with rfl | rfl <;> omega
        rw [if_neg this]
        exact ⟨by simp [add_spot], h3, h4⟩)
      (fun i cs hi' j hj => by
        have := hcell (lo + i) cs (hget i cs hi') j hj
        rw [show o + lo * sz + i * sz + j = o + (lo + i) * sz + j from by rw [Nat.add_mul]; omega]
        exact this)
      (fun i cs hi' j x hx => hrep (lo + i) cs (hget i cs hi') j x hx)
    rw [hlen] at key
    exact key
theorem run_bound {P : Program} {kd : IntKind} {i y : Nat} (c : BoundsCode) (h : i ≤ y) (w : World) : (Instr.sliceBound (.int kd (i : Int)) y c).run P w = .ok i w := run_sliceBound c h w
section
variable {d : Nat} {ty : TypeId} {pos : String} {after : Array Edge}
theorem row_slice {w : World} {O : Nat → Prop} {v : Value} {l : List (List LV)} (h : LRep w O v (.row l)) : ∃ A c, v = .slice A l.length c ∧ l.length ≤ c ∧ LRep w O (.slice A l.length c) (.row l) := by
  have h' := h
  cases h with
  | row A c sz b o l f hc hc63 hm47 hs hA hcell hrep => exact ⟨A, c, rfl, hc, h'⟩
theorem p_sliceHi (i : Nat) {T E sz : Nat} {x y : Operand} {kd : IntKind} {p : Int} {l l' : List (List LV)} (hu : ∀ w, (underlying T).run P w = .ok (.slice E) w) (hs : ∀ w, (Go.sizeOf E).run P w = .ok sz w) (hx : evA L x = some (.one (.row l))) (hy : evA L y = some (.one (.int kd p))) (hp : p = (i : Int)) (hi : i ≤ l.length) (hsz : ∀ z ∈ l, z.length = sz) (hl' : l.take i = l') (hd : Nat.blt d n = true) :
    AP P ops n { dst := some d, op := .slice T x none (some y) none, type := ty, pos := pos, after := after, guard := none } d (.one (.row l')) L B := by
  refine p_val hd fun K Ob w0 w a Bs L' Fs h hL hB => ?_
  subst hp
  obtain ⟨v, hv, hr⟩ := ev_of hL hx
  obtain ⟨u, hu', hr2⟩ := ev_of hL hy
  obtain rfl := rep_int hr2
  obtain ⟨A, c, rfl, hc, hr'⟩ := row_slice hr
  have key := row_part (lo := 0) (hi := i) (c' := c) hr' (by omega) hi (.inl rfl) hsz (l' := l') (by rw [List.drop_zero, Nat.sub_zero]; exact hl')
  refine ⟨_, ?_, key⟩
  simp [execOp, h.ev hv, h.ev hu', Instr.sliceAt, Instr.slice, Instr.sliceBounds, hu, hs, run_sliceBound _ (show i ≤ c by omega)]
theorem p_sliceLo (i : Nat) {T E sz : Nat} {x y : Operand} {kd : IntKind} {p : Int} {l l' : List (List LV)} (hu : ∀ w, (underlying T).run P w = .ok (.slice E) w) (hs : ∀ w, (Go.sizeOf E).run P w = .ok sz w) (hx : evA L x = some (.one (.row l))) (hy : evA L y = some (.one (.int kd p))) (hp : p = (i : Int)) (hi : i ≤ l.length) (hsz : ∀ z ∈ l, z.length = sz) (hl' : l.drop i = l') (hd : Nat.blt d n = true) :
    AP P ops n { dst := some d, op := .slice T x (some y) none none, type := ty, pos := pos, after := after, guard := none } d (.one (.row l')) L B := by
  refine p_val hd fun K Ob w0 w a Bs L' Fs h hL hB => ?_
  subst hp
  obtain ⟨v, hv, hr⟩ := ev_of hL hx
  obtain ⟨u, hu', hr2⟩ := ev_of hL hy
  obtain rfl := rep_int hr2
  obtain ⟨A, c, rfl, hc, hr'⟩ := row_slice hr
  have key := row_part (lo := i) (hi := l.length) (c' := c) hr' hi (Nat.le_refl _) (.inl rfl) hsz (l' := l') (by rw [List.take_of_length_le (by simp)]; exact hl')
  refine ⟨_, ?_, key⟩
  simp [execOp, h.ev hv, h.ev hu', Instr.sliceAt, Instr.slice, Instr.sliceBounds, hu, hs, run_sliceBound _ hi]
theorem p_sliceLH (i j : Nat) {T E sz : Nat} {x y z : Operand} {kd kd' : IntKind} {p q : Int} {l l' : List (List LV)} (hu : ∀ w, (underlying T).run P w = .ok (.slice E) w) (hs : ∀ w, (Go.sizeOf E).run P w = .ok sz w) (hx : evA L x = some (.one (.row l))) (hy : evA L y = some (.one (.int kd p))) (hz : evA L z = some (.one (.int kd' q))) (hp : p = (i : Int)) (hq : q = (j : Int)) (hij : i ≤ j) (hj : j ≤ l.length) (hsz : ∀ z ∈ l, z.length = sz) (hl' : (l.drop i).take (j - i) = l') (hd : Nat.blt d n = true) :
    AP P ops n { dst := some d, op := .slice T x (some y) (some z) none, type := ty, pos := pos, after := after, guard := none } d (.one (.row l')) L B := by
  refine p_val hd fun K Ob w0 w a Bs L' Fs h hL hB => ?_
  subst hp hq
  obtain ⟨v, hv, hr⟩ := ev_of hL hx
  obtain ⟨u, hu', hr2⟩ := ev_of hL hy
  obtain ⟨u3, hu3, hr3⟩ := ev_of hL hz
  obtain rfl := rep_int hr2
  obtain rfl := rep_int hr3
  obtain ⟨A, c, rfl, hc, hr'⟩ := row_slice hr
  have key := row_part (lo := i) (hi := j) (c' := c) hr' hij hj (.inl rfl) hsz hl'
  refine ⟨_, ?_, key⟩
  simp [execOp, h.ev hv, h.ev hu', h.ev hu3, Instr.sliceAt, Instr.slice, Instr.sliceBounds, hu, hs, run_sliceBound _ hij, run_sliceBound _ (show j ≤ c by omega)]
/-- a view of an own row -/
theorem p_sliceOHi (i : Nat) {T E sz lo len : Nat} {x y : Operand} {kd : IntKind} {p : Int} {r : Option (Nat × Nat)} (hu : ∀ w, (underlying T).run P w = .ok (.slice E) w) (hs : ∀ w, (Go.sizeOf E).run P w = .ok sz w) (hx : evA L x = some (.one (.orow r sz lo len))) (hy : evA L y = some (.one (.int kd p))) (hp : p = (i : Int)) (hi : i ≤ len) (hd : Nat.blt d n = true) :
    AP P ops n { dst := some d, op := .slice T x none (some y) none, type := ty, pos := pos, after := after, guard := none } d (.one (.orow r sz lo i)) L B := by
  refine p_val hd fun K Ob w0 w a Bs L' Fs h hL hB => ?_
  subst hp
  obtain ⟨v, hv, hr⟩ := ev_of hL hx
  obtain ⟨u, hu', hr2⟩ := ev_of hL hy
  obtain rfl := rep_int hr2
  rcases r with _ | ⟨g, c⟩
  · obtain ⟨rfl, rfl, rfl⟩ := hr
    have h0 : i = 0 := by omega
    subst h0
    refine ⟨.slice none 0 0, ?_, rfl, rfl, rfl⟩
    have := run_sliceBound (P := P) (kd := kd) (i := 0) (y := 0) .sliceAcap (Nat.le_refl _)
    simp at this
    simp [execOp, h.ev hv, h.ev hu', Instr.sliceAt, Instr.slice, Instr.sliceBounds, hu, hs, this]
  · obtain ⟨h8, o, rfl, h9⟩ := hr
    refine ⟨.slice (some ⟨g, o, none⟩) i (c - lo), ?_, by omega, o, rfl, h9⟩
    have hne := run_sliceBound (P := P) (kd := kd) (i := i) (y := c - lo) .sliceAcap (by omega)
    simp [execOp, h.ev hv, h.ev hu', Instr.sliceAt, Instr.slice, Instr.sliceBounds, hu, hs, hne, add_spot]
theorem p_sliceOLo (i : Nat) {T E sz lo len : Nat} {x y : Operand} {kd : IntKind} {p : Int} {r : Option (Nat × Nat)} (hu : ∀ w, (underlying T).run P w = .ok (.slice E) w) (hs : ∀ w, (Go.sizeOf E).run P w = .ok sz w) (hx : evA L x = some (.one (.orow r sz lo len))) (hy : evA L y = some (.one (.int kd p))) (hp : p = (i : Int)) (hi : i ≤ len) (hd : Nat.blt d n = true) :
    AP P ops n { dst := some d, op := .slice T x (some y) none none, type := ty, pos := pos, after := after, guard := none } d (.one (.orow r sz (lo + i) (len - i))) L B := by
  refine p_val hd fun K Ob w0 w a Bs L' Fs h hL hB => ?_
  subst hp
  obtain ⟨v, hv, hr⟩ := ev_of hL hx
  obtain ⟨u, hu', hr2⟩ := ev_of hL hy
  obtain rfl := rep_int hr2
  rcases r with _ | ⟨g, c⟩
  · obtain ⟨rfl, rfl, rfl⟩ := hr
    have h0 : i = 0 := by omega
    subst h0
    refine ⟨.slice none 0 0, ?_, rfl, rfl, rfl⟩
    have := run_sliceBound (P := P) (kd := kd) (i := 0) (y := 0) .sliceB (Nat.le_refl _)
    simp at this
    simp [execOp, h.ev hv, h.ev hu', Instr.sliceAt, Instr.slice, Instr.sliceBounds, hu, hs, this]
  · obtain ⟨h8, o, rfl, h9⟩ := hr
    have hne := run_sliceBound (P := P) (kd := kd) (i := i) (y := len) .sliceB hi
    refine ⟨.slice (if c - lo = i then some ⟨g, o, none⟩ else some ⟨g, o + i * sz, none⟩) (len - i) (c - lo - i), ?_, by omega, ?_⟩
    · by_cases he : c - lo = i <;> simp [execOp, h.ev hv, h.ev hu', Instr.sliceAt, Instr.slice, Instr.sliceBounds, hu, hs, hne, add_spot, he]
    · by_cases he : c - lo = i
      · rw [if_pos he]
        refine ⟨o, by congr 1; omega, fun hh => ?_⟩
        rcases hh with hh | hh
        · have h0 : lo = 0 := by omega
          have h1 : i = 0 := by omega
          subst h0 h1
          have := h9 (.inl rfl)
          simpa using this
        · omega
      · rw [if_neg he]
        refine ⟨o + i * sz, by congr 1; omega, fun hh => ?_⟩
        have := h9 (by rcases hh with hh | hh <;> omega)
        rw [this, Nat.add_mul]
end
end Orr
namespace Orr
theorem allAre1 {L : Sg} {x : AV} {t : Nat} (h : lk L t = some x) : allAre L x [t] := ⟨h, trivial⟩
theorem allAre2 {L : Sg} {x : AV} {t s : Nat} (h : lk L t = some x) (h' : lk L s = some x) : allAre L x [t, s] := ⟨h, h', trivial⟩
end Orr
namespace Orr
open Go
variable {P : Program} {ops : Array Oper} {n : Nat} {rest : List Oper} {N : Sg → List OB → Prop} {L : Sg} {B : List OB}
/-- a block's leaves, told otherwise: what is nil reads as an empty row -/
theorem aw_blk (i : Nat) {g : Nat} {T : TypeId} {xs zs ys : List LV} {B' : List OB} (hi : frontB B i = some (.blk g T xs, B')) (hun : unNilL xs = some zs) (he : zs = ys) (k : AW P ops n rest N L (.blk g T ys :: B')) : AW P ops n rest N L B := by
  intro K Ob w0 w a Q hs hQ
  subst he
  obtain ⟨L', Bo, Bs, h1, h2, ⟨cs, rfl, h3⟩, h4⟩ := hs.front hi
  exact k _ _ _ _ _ _ (SA.of h1 h2 ⟨cs, rfl, unNilL_of hun h3⟩ h4) hQ
end Orr

namespace Orr
open Go Go.Proofs
theorem fv_34_0 (vs : List Value) (v : Value) (hv : if true = true then v = .agg ((vs.drop 0).take 2).toArray else vs[0]? = some v) (hl : 0 + 2 ≤ vs.length) (w : World) : (Instr.field 34 (.agg vs.toArray) 0).run Tryz.prog w = .ok v w := field_run (T := 32) Tryz.runUnderlying34 rfl Tryz.isAgg32 Tryz.sizeOf32 vs v hv hl w
theorem fv_55_0 (vs : List Value) (v : Value) (hv : if false = true then v = .agg ((vs.drop 0).take 1).toArray else vs[0]? = some v) (hl : 0 + 1 ≤ vs.length) (w : World) : (Instr.field 55 (.agg vs.toArray) 0).run Tryz.prog w = .ok v w := field_run (T := 4) Tryz.runUnderlying55 rfl Tryz.isAgg4 Tryz.sizeOf4 vs v hv hl w
theorem fv_74_2 (vs : List Value) (v : Value) (hv : if true = true then v = .agg ((vs.drop 2).take 2).toArray else vs[2]? = some v) (hl : 2 + 2 ≤ vs.length) (w : World) : (Instr.field 74 (.agg vs.toArray) 2).run Tryz.prog w = .ok v w := field_run (T := 55) Tryz.runUnderlying74 rfl Tryz.isAgg55 Tryz.sizeOf55 vs v hv hl w
end Orr

namespace Orr
open Go Go.Proofs
variable (Ob : Nat → Prop) (W : World)
set_option maxHeartbeats 1000000 in
theorem limb_cut_ok (hO : ∀ b, Ob b → b < W.heap.size) (A : Option Addr) (c : Nat) (l : List Nat) (hx0 : Rel.row32.at_ W Ob [.slice A l.length c] l) :
    Calls Tryz.prog 309 #[.slice A l.length c] W fun e w' => ∃ r, e = .returned r ∧ Grow W w' ∧ ∃ A' m c', Cut l m ∧ r = .slice A' m c' ∧ Rel.row32.at_ w' Ob [.slice A' m c'] (l.take m) := by
  obtain ⟨_, hlc, hc47⟩ := row_open hx0
  refine enter (vs := [(.slice A l.length c)]) (Ob := Ob) (K := fun b => b < W.heap.size) (Fs := [(Rel.row32).fact [.slice A l.length c] (l)]) Tryz.func309 rfl Tryz.ntmps309 rfl (fun _ h => h) hO (by simp only [List.mem_cons, List.not_mem_nil, or_false, forall_eq_or_imp, forall_eq, false_imp_iff, implies_true]; exact hx0) fun a h => ?_
  refine seq_ ?_
  refine reg_ ?_
  refine st_assign h rfl rfl fun a h => ?_
  refine wpList_nil ?_
  refine seq_ ?_
  refine reg_ ?_
  refine st_move h rfl rfl fun a h => ?_
  refine st_len h rfl Tryz.runUnderlying53 rfl fun a h => ?_
  refine st_assign h rfl rfl fun a h => ?_
  refine wpList_nil ?_
  refine seq_ ?_
  refine wp_block ?_
  refine loop_ (fun m a w' => m ≤ l.length ∧ (∀ j, m ≤ j → j < l.length → l[j]? = some 0) ∧ St (fun b => b < W.heap.size) Ob W w' a 21 [(0, .slice A l.length c), (3, .int .i64 (m : Int))] [Rel.row32.fact [.slice A l.length c] l] []) (m := l.length) (⟨Nat.le_refl _, fun j h1 h2 => absurd h2 (by omega), h.consL (t := 0) rfl (h.consL (t := 3) rfl h.nilL)⟩) ?_
  clear h
  rintro m a w ⟨hm, hz, h⟩
  by_cases h0 : 0 < m
  · obtain ⟨b, o, rfl, _, _, hc⟩ := row_get (h.fact 0 rfl) (i := m - 1) (by omega)
    have hx1 : l[m - 1]? = some (l[m - 1]'(by omega)) := List.getElem?_eq_getElem (by omega)
    refine seq_ ?_
    refine seq_ ?_
    refine reg_ ?_
    refine st_move h rfl rfl fun a h => ?_
    refine st_cmp h rfl rfl rfl rfl fun a h => ?_
    refine st_move h rfl rfl fun a h => ?_
    refine guard_run h rfl rfl (by simpa using h0) ?_
    refine st_move h rfl rfl fun a h => ?_
    refine guard_run h rfl rfl (by simpa using h0) ?_
    refine st_move h rfl rfl fun a h => ?_
    refine guard_run h rfl rfl (by simpa using h0) ?_
    refine st_subI h rfl rfl (by omega) rfl fun a h => ?_
    refine guard_run h rfl rfl (by simpa using h0) ?_
    refine st_indexI (m - 1) h rfl rfl Tryz.runUnderlying53 Tryz.sizeOf276 (by omega) (by omega) rfl fun a h => ?_
    refine guard_run h rfl rfl (by simpa using h0) ?_
    refine st_load h rfl Tryz.isAgg276 (hc _ _ hx1) rfl fun a h => ?_
    refine guard_run h rfl rfl (by simpa using h0) ?_
    refine st_cmp h rfl rfl rfl rfl fun a h => ?_
    refine st_pickT h rfl (by simpa using h0) rfl rfl fun a h => ?_
    refine wpList_nil ?_
    refine cond_ h rfl (fun hb_if1 => ?_) (fun hb_if1 => ?_)
    · try simp only [decide_eq_true_eq, decide_eq_false_iff_not, Bool.not_eq_true', Bool.not_eq_false'] at hb_if1
      refine wp_skip ?_
      refine wp_block ?_
      refine reg_ ?_
      refine st_move h rfl rfl fun a h => ?_
      refine st_subI h rfl rfl (by omega) rfl fun a h => ?_
      refine st_assign h rfl rfl fun a h => ?_
      refine wpList_nil ?_
      refine ⟨m - 1, by omega, by omega, fun j h1 h2 => ?_, h.consL (t := 0) rfl ((h.consL (t := 3) rfl h.nilL).respell (by congr 1; omega))⟩
      by_cases e : j = m - 1
      · rw [e, hx1]; congr 1; omega
      · exact hz j (by omega) h2
    · try simp only [decide_eq_true_eq, decide_eq_false_iff_not, Bool.not_eq_true', Bool.not_eq_false'] at hb_if1
      have hne : l[m - 1]'(by omega) ≠ 0 := by omega
      refine wp_exit ?_
      repeat refine then_exit ?_
      refine inBlock_exit ?_
      refine seq_ ?_
      refine reg_ ?_
      refine st_move h rfl rfl fun a h => ?_
      refine st_move h rfl rfl fun a h => ?_
      refine st_cutHi (i := m) h rfl rfl Tryz.runUnderlying53 Tryz.sizeOf276 (by omega) rfl fun a h => ?_
      refine st_assign h rfl rfl fun a h => ?_
      refine wpList_nil ?_
      refine wp_ret ?_
      refine ret1 Tryz.results309 h (resv_tmp h rfl) ⟨_, rfl, h.grow0, _, m, c, ⟨hm, hz, fun hp => ?_⟩, rfl, row_take (h.out 0 rfl) m hm⟩
      first | exact ⟨_, hx1, hne⟩ | omega
  · skip
    refine seq_ ?_
    refine seq_ ?_
    refine reg_ ?_
    refine st_move h rfl rfl fun a h => ?_
    refine st_cmp h rfl rfl rfl rfl fun a h => ?_
    refine st_move h rfl rfl fun a h => ?_
    refine guard_skip h rfl rfl (by simpa using h0) rfl fun a h => ?_
    refine guard_skip h rfl rfl (by simpa using h0) rfl fun a h => ?_
    refine guard_skip h rfl rfl (by simpa using h0) rfl fun a h => ?_
    refine guard_skip h rfl rfl (by simpa using h0) rfl fun a h => ?_
    refine guard_skip h rfl rfl (by simpa using h0) rfl fun a h => ?_
    refine guard_skip h rfl rfl (by simpa using h0) rfl fun a h => ?_
    refine st_pickF h rfl (by simpa using h0) rfl rfl fun a h => ?_
    refine wpList_nil ?_
    refine cond_f h rfl (rfl) ?_
    refine wp_exit ?_
    repeat refine then_exit ?_
    refine inBlock_exit ?_
    refine seq_ ?_
    refine reg_ ?_
    refine st_move h rfl rfl fun a h => ?_
    refine st_move h rfl rfl fun a h => ?_
    refine st_cutHi (i := m) h rfl rfl Tryz.runUnderlying53 Tryz.sizeOf276 (by omega) rfl fun a h => ?_
    refine st_assign h rfl rfl fun a h => ?_
    refine wpList_nil ?_
    refine wp_ret ?_
    refine ret1 Tryz.results309 h (resv_tmp h rfl) ⟨_, rfl, h.grow0, _, m, c, ⟨hm, hz, fun hp => ?_⟩, rfl, row_take (h.out 0 rfl) m hm⟩
    first | exact ⟨_, hx1, hne⟩ | omega

theorem limb_cut (hO : ∀ b, Ob b → b < W.heap.size) {A : Option Addr} {n c x : Nat} (hx0 : Rel.natA.at_ W Ob [.slice A n c] x) :
    Calls Tryz.prog 309 #[.slice A n c] W (Ret W Ob (Rel.natN.sliceF x)) := by
  obtain ⟨l, h1, h2, rfl⟩ := hx0
  obtain ⟨rfl, _, _⟩ := row_open h1
  refine (limb_cut_ok Ob W hO A c l h1).mono fun e w' ⟨r, he, hg, A', m, c', hc, hr, hrow⟩ => ?_
  exact ⟨r, he, hg, A', m, c', hr, l.take m, hrow, cut_nrm hc h2, cut_val hc⟩

set_option maxHeartbeats 1000000 in
theorem limb_Norm (hO : ∀ b, Ob b → b < W.heap.size) {A : Option Addr} {n c x : Nat} (hx0 : Rel.natA.at_ W Ob [.slice A n c] x) (hs : sz x ≤ 4294967296) :
    Calls Tryz.prog 267 #[.slice A n c] W (Ret W Ob (Rel.natN.sliceF x)) := by

  refine enter (vs := [(.slice A n c)]) (Ob := Ob) (K := fun b => b < W.heap.size) (Fs := [(Rel.natA).fact [.slice A n c] (x)]) Tryz.func267 rfl Tryz.ntmps267 rfl (fun _ h => h) hO (by simp only [List.mem_cons, List.not_mem_nil, or_false, forall_eq_or_imp, forall_eq, false_imp_iff, implies_true]; exact hx0) fun a h => ?_
  refine seq_ ?_
  refine reg_ ?_
  refine st_assign h rfl rfl fun a h => ?_
  refine wpList_nil ?_
  refine seq_ ?_
  refine reg_ ?_
  refine st_move h rfl rfl fun a h => ?_
  refine st_call h Tryz.func309 rfl rfl rfl (limb_cut _ _ (fun b => h.owns_lt) (h.fact 0 rfl)) rfl fun r w a hg hF h => ?_
  obtain ⟨A1, n2, c3, e5, f4⟩ := hF
  subst e5
  have h := h.add (f := (Rel.natN).fact [(.slice A1 n2 c3)] (x)) f4
  obtain ⟨l, hl1, hl2, hl3⟩ := h.fact 0 rfl
  obtain ⟨en, _, _⟩ := row_open hl1
  have hlen := nrm_len hl2
  have h33 : (2 : Nat) ^ 33 = 8589934592 := by decide
  have h47 : (2 : Nat) ^ 47 = 140737488355328 := by decide
  refine st_append (Bo := []) (zs := [.int .u32 0]) (m := 0) (cs := []) h rfl rfl Tryz.runUnderlying53 Tryz.typeInfo276 rfl rfl Tryz.sizeOf276 Tryz.zeroValue276 rfl rfl ⟨rfl, .inl ⟨rfl, rfl, rfl⟩⟩ (src_row32 hl1) (u32s_one l) (by rw [hl3] at hlen; omega) rfl fun v1 w Bo a ho h => ?_
  obtain ⟨A1, c1, ev, hrow⟩ := ownRow_row32 h ho hl2.1 (by rw [hl3] at hlen; omega)
  subst ev
  replace h := h.tailB
  have h := h.add (f := Rel.natN.fact [.slice A1 l.length c1] x) ⟨l, hrow, hl2, hl3⟩
  refine st_assign h rfl rfl fun a h => ?_
  refine wpList_nil ?_
  refine wp_ret ?_
  exact ret1 Tryz.results267 h (resv_tmp h rfl) ⟨_, rfl, h.grow0, _, _, _, rfl, h.out 0 rfl⟩

set_option maxHeartbeats 1000000 in
theorem limb_Cmp (hO : ∀ b, Ob b → b < W.heap.size) {A : Option Addr} {n c x : Nat} {A' : Option Addr} {n' c' y : Nat} (hx0 : Rel.natA.at_ W Ob [.slice A n c] x) (hx1 : Rel.natA.at_ W Ob [.slice A' n' c'] y) :
    Calls Tryz.prog 318 #[.slice A n c, .slice A' n' c'] W (Ret W Ob (eqF (.int .i64 (cmpN x y)))) := by

  refine enter (vs := [(.slice A n c), (.slice A' n' c')]) (Ob := Ob) (K := fun b => b < W.heap.size) (Fs := [(Rel.natA).fact [.slice A n c] (x), (Rel.natA).fact [(.slice A' n' c')] (y)]) Tryz.func318 rfl Tryz.ntmps318 rfl (fun _ h => h) hO (by simp only [List.mem_cons, List.not_mem_nil, or_false, forall_eq_or_imp, forall_eq, false_imp_iff, implies_true]; exact ⟨hx0, hx1⟩) fun a h => ?_
  refine seq_ ?_
  refine reg_ ?_
  refine st_assign h rfl rfl fun a h => ?_
  refine wpList_nil ?_
  refine seq_ ?_
  refine reg_ ?_
  refine st_move h rfl rfl fun a h => ?_
  refine st_call h Tryz.func309 rfl rfl rfl (limb_cut _ _ (fun b => h.owns_lt) (h.fact 0 rfl)) rfl fun r w a hg hF h => ?_
  obtain ⟨A1, n2, c3, e5, f4⟩ := hF
  subst e5
  have h := h.add (f := (Rel.natN).fact [(.slice A1 n2 c3)] (x)) f4
  refine st_move h rfl rfl fun a h => ?_
  refine st_call h Tryz.func309 rfl rfl rfl (limb_cut _ _ (fun b => h.owns_lt) (h.fact 2 rfl)) rfl fun r w a hg hF h => ?_
  obtain ⟨A6, n7, c8, e10, f9⟩ := hF
  subst e10
  have h := h.add (f := (Rel.natN).fact [(.slice A6 n7 c8)] (y)) f9
  refine st_assign h rfl rfl fun a h => ?_
  refine st_assign h rfl rfl fun a h => ?_
  refine wpList_nil ?_
  refine seq_ ?_
  refine seq_ ?_
  refine reg_ ?_
  refine st_move h rfl rfl fun a h => ?_
  refine st_len h rfl Tryz.runUnderlying53 rfl fun a h => ?_
  refine st_move h rfl rfl fun a h => ?_
  refine st_len h rfl Tryz.runUnderlying53 rfl fun a h => ?_
  obtain ⟨l, hl1, hl2, hl3⟩ := h.fact 1 rfl
  obtain ⟨r, hr1, hr2, hr3⟩ := h.fact 0 rfl
  have h := h.add (f := Rel.row32.fact [(.slice A1 n2 c3)] l) hl1
  obtain ⟨el, _, _⟩ := row_open hl1
  have h := h.add (f := Rel.row32.fact [(.slice A6 n7 c8)] r) hr1
  obtain ⟨er, _, _⟩ := row_open hr1
  refine st_cmp h rfl rfl rfl rfl fun a h => ?_
  refine wpList_nil ?_
  refine cond_ h rfl (fun hb_if1 => ?_) (fun hb_if1 => ?_)
  · try simp only [decide_eq_true_eq, decide_eq_false_iff_not, Bool.not_eq_true', Bool.not_eq_false'] at hb_if1
    refine seq_ ?_
    refine seq_ ?_
    refine reg_ ?_
    refine st_move h rfl rfl fun a h => ?_
    refine st_len h rfl Tryz.runUnderlying53 rfl fun a h => ?_
    refine st_move h rfl rfl fun a h => ?_
    refine st_len h rfl Tryz.runUnderlying53 rfl fun a h => ?_
    refine st_cmp h rfl rfl rfl rfl fun a h => ?_
    refine wpList_nil ?_
    refine cond_ h rfl (fun hb_if2 => ?_) (fun hb_if2 => ?_)
    · try simp only [decide_eq_true_eq, decide_eq_false_iff_not, Bool.not_eq_true', Bool.not_eq_false'] at hb_if2
      refine seq_ ?_
      refine reg_ ?_
      refine st_assign h rfl rfl fun a h => ?_
      refine wpList_nil ?_
      refine wp_ret ?_
      exact ret1 Tryz.results318 h (resv_tmp h rfl) ⟨_, rfl, h.grow0, congrArg _ ((cmpN_lt (hl3 ▸ hr3 ▸ nrm_lt_of_len hl2 hr2 (by omega))).symm)⟩
    · try simp only [decide_eq_true_eq, decide_eq_false_iff_not, Bool.not_eq_true', Bool.not_eq_false'] at hb_if2
      refine wp_skip ?_
      refine seq_ ?_
      refine reg_ ?_
      refine st_assign h rfl rfl fun a h => ?_
      refine wpList_nil ?_
      refine wp_ret ?_
      exact ret1 Tryz.results318 h (resv_tmp h rfl) ⟨_, rfl, h.grow0, congrArg _ ((cmpN_gt (hl3 ▸ hr3 ▸ nrm_lt_of_len hr2 hl2 (by omega))).symm)⟩
  · try simp only [decide_eq_true_eq, decide_eq_false_iff_not, Bool.not_eq_true', Bool.not_eq_false'] at hb_if1
    refine wp_skip ?_
    refine seq_ ?_
    refine seq_ ?_
    refine reg_ ?_
    refine st_move h rfl rfl fun a h => ?_
    refine st_len h rfl Tryz.runUnderlying53 rfl fun a h => ?_
    refine st_subI h rfl rfl (by omega) rfl fun a h => ?_
    refine st_assign h rfl rfl fun a h => ?_
    refine wpList_nil ?_
    refine wp_block ?_
    refine loop_ (fun m a w' => m ≤ l.length ∧ l.drop m = r.drop m ∧ St (fun b => b < W.heap.size) Ob W w' a 45 [(0, (.slice A1 n2 c3)), (1, (.slice A6 n7 c8)), (5, .int .i64 ((m : Int) - 1))] [Rel.row32.fact [(.slice A6 n7 c8)] r, Rel.row32.fact [(.slice A1 n2 c3)] l] []) (m := n2) (⟨by omega, by rw [List.drop_eq_nil_of_le (by omega), List.drop_eq_nil_of_le (by omega)], ((h.consL (t := 0) rfl (h.consL (t := 1) rfl (h.consL (t := 5) rfl h.nilL))).noFacts.add (h.fact 1 rfl)).add (h.fact 0 rfl)⟩) ?_
    clear h
    rintro m a w ⟨hm, hd, h⟩
    by_cases h0 : 0 < m
    · obtain ⟨b1, o1, rfl, _, _, hc1⟩ := row_get (h.fact 1 rfl) (i := m - 1) (by omega)
      obtain ⟨b2, o2, rfl, _, _, hc2⟩ := row_get (h.fact 0 rfl) (i := m - 1) (by omega)
      obtain ⟨x1, hx1⟩ : ∃ x, l[m - 1]? = some x := ⟨_, List.getElem?_eq_getElem (by omega)⟩
      obtain ⟨y1, hy1⟩ : ∃ y, r[m - 1]? = some y := ⟨_, List.getElem?_eq_getElem (by omega)⟩
      rw [show m = (m - 1) + 1 from by omega] at hd
      refine seq_ ?_
      refine seq_ ?_
      refine reg_ ?_
      refine st_move h rfl rfl fun a h => ?_
      refine st_cmp h rfl rfl rfl rfl fun a h => ?_
      refine wpList_nil ?_
      refine cond_t h rfl (by simp; omega) ?_
      refine wp_skip ?_
      refine seq_ ?_
      refine wp_block ?_
      refine seq_ ?_
      refine seq_ ?_
      refine draw0_ mixed_ 8 [some 27, some 28, some 29, some 30, some 31, some 32, some 33, some 34] [[], [], [0, 1], [2], [], [], [4, 5], [6]] [(eqF (.slice (some ⟨b1, o1, none⟩) n2 c3)), (eqF (.int .i64 ((m : Int) - 1))), (eqF (.pointer (some ⟨b1, (o1 + (m - 1) * 1), none⟩))), (eqF (.int .u32 (x1 : Int))), (eqF (.slice (some ⟨b2, o2, none⟩) n7 c8)), (eqF (.int .i64 ((m : Int) - 1))), (eqF (.pointer (some ⟨b2, (o2 + (m - 1) * 1), none⟩))), (eqF (.int .u32 (y1 : Int)))] rfl h rfl ⟨?_, ?_, ?_, ?_, ?_, ?_, ?_, ?_, trivial⟩ ?_
      · intro dp hdp0 hdp dv Fx a w h
        refine st_move h rfl rfl fun a h => ?_
        refine wpList_nil ⟨rfl, ?_⟩
        exact ⟨_, h.drawEnd (F' := []) rfl rfl⟩
      · intro dp hdp0 hdp dv Fx a w h
        refine st_move h rfl rfl fun a h => ?_
        refine wpList_nil ⟨rfl, ?_⟩
        exact ⟨_, h.drawEnd (F' := []) rfl rfl⟩
      · intro dp hdp0 hdp dv Fx a w h
        have e11 : dv 0 = (.slice (some ⟨b1, o1, none⟩) n2 c3) := h.fact 0 rfl
        have e12 : dv 1 = (.int .i64 ((m : Int) - 1)) := h.fact 1 rfl
        replace h := (h.spellE (t := 28) e12 rfl (h.spellE (t := 27) e11 rfl h))
        refine st_indexI (m - 1) h rfl rfl Tryz.runUnderlying53 Tryz.sizeOf276 (by omega) (by omega) rfl fun a h => ?_
        refine wpList_nil ⟨rfl, ?_⟩
        exact ⟨_, h.drawEnd (F' := [_, _]) rfl rfl⟩
      · intro dp hdp0 hdp dv Fx a w h
        have e13 : dv 2 = (.pointer (some ⟨b1, (o1 + (m - 1) * 1), none⟩)) := h.fact 0 rfl
        replace h := (h.spellE (t := 29) e13 rfl h)
        refine st_load h rfl Tryz.isAgg276 (row_cell (h.fact 2 rfl) hx1) rfl fun a h => ?_
        refine wpList_nil ⟨rfl, ?_⟩
        exact ⟨_, h.drawEnd (F' := [_]) rfl rfl⟩
      · intro dp hdp0 hdp dv Fx a w h
        refine st_move h rfl rfl fun a h => ?_
        refine wpList_nil ⟨rfl, ?_⟩
        exact ⟨_, h.drawEnd (F' := []) rfl rfl⟩
      · intro dp hdp0 hdp dv Fx a w h
        refine st_move h rfl rfl fun a h => ?_
        refine wpList_nil ⟨rfl, ?_⟩
        exact ⟨_, h.drawEnd (F' := []) rfl rfl⟩
      · intro dp hdp0 hdp dv Fx a w h
        have e14 : dv 4 = (.slice (some ⟨b2, o2, none⟩) n7 c8) := h.fact 0 rfl
        have e15 : dv 5 = (.int .i64 ((m : Int) - 1)) := h.fact 1 rfl
        replace h := (h.spellE (t := 32) e15 rfl (h.spellE (t := 31) e14 rfl h))
        refine st_indexI (m - 1) h rfl rfl Tryz.runUnderlying53 Tryz.sizeOf276 (by omega) (by omega) rfl fun a h => ?_
        refine wpList_nil ⟨rfl, ?_⟩
        exact ⟨_, h.drawEnd (F' := [_, _]) rfl rfl⟩
      · intro dp hdp0 hdp dv Fx a w h
        have e16 : dv 6 = (.pointer (some ⟨b2, (o2 + (m - 1) * 1), none⟩)) := h.fact 0 rfl
        replace h := (h.spellE (t := 33) e16 rfl h)
        refine st_load h rfl Tryz.isAgg276 (row_cell (h.fact 1 rfl) hy1) rfl fun a h => ?_
        refine wpList_nil ⟨rfl, ?_⟩
        exact ⟨_, h.drawEnd (F' := [_]) rfl rfl⟩
      intro dv a w h
      have e17 : dv 3 = (.int .u32 (x1 : Int)) := h.fact 3 rfl
      have e18 : dv 7 = (.int .u32 (y1 : Int)) := h.fact 7 rfl
      have h2 := (h.spellE (t := 34) e18 rfl (h.spellE (t := 30) e17 rfl (h.consL (t := 24) rfl (h.consL (t := 5) rfl (h.consL (t := 1) rfl (h.consL (t := 0) rfl h.nilL))))))
      have h3 := h2.noFacts
      have h3 := h3.add (h2.fact 9 rfl)
      have h3 := h3.add (h2.fact 8 rfl)
      clear h2
      replace h := h3
      clear h3
      refine st_cmp h rfl rfl rfl rfl fun a h => ?_
      refine wpList_nil ?_
      refine cond_ h rfl (fun hb_if4 => ?_) (fun hb_if4 => ?_)
      · try simp only [decide_eq_true_eq, decide_eq_false_iff_not, Bool.not_eq_true', Bool.not_eq_false'] at hb_if4
        refine seq_ ?_
        refine reg_ ?_
        refine st_assign h rfl rfl fun a h => ?_
        refine wpList_nil ?_
        refine wp_ret ?_
        exact ret1 Tryz.results318 h (resv_tmp h rfl) ⟨_, rfl, h.grow0, congrArg _ ((cmpN_lt (hl3 ▸ hr3 ▸ val_top hl2.1 hd hx1 hy1 (by omega))).symm)⟩
      · try simp only [decide_eq_true_eq, decide_eq_false_iff_not, Bool.not_eq_true', Bool.not_eq_false'] at hb_if4
        refine wp_skip ?_
        refine seq_ ?_
        refine draw0_ mixed_ 8 [some 36, some 37, some 38, some 39, some 40, some 41, some 42, some 43] [[], [], [0, 1], [2], [], [], [4, 5], [6]] [(eqF (.slice (some ⟨b1, o1, none⟩) n2 c3)), (eqF (.int .i64 ((m : Int) - 1))), (eqF (.pointer (some ⟨b1, (o1 + (m - 1) * 1), none⟩))), (eqF (.int .u32 (x1 : Int))), (eqF (.slice (some ⟨b2, o2, none⟩) n7 c8)), (eqF (.int .i64 ((m : Int) - 1))), (eqF (.pointer (some ⟨b2, (o2 + (m - 1) * 1), none⟩))), (eqF (.int .u32 (y1 : Int)))] rfl h rfl ⟨?_, ?_, ?_, ?_, ?_, ?_, ?_, ?_, trivial⟩ ?_
        · intro dp hdp0 hdp dv Fx a w h
          refine st_move h rfl rfl fun a h => ?_
          refine wpList_nil ⟨rfl, ?_⟩
          exact ⟨_, h.drawEnd (F' := []) rfl rfl⟩
        · intro dp hdp0 hdp dv Fx a w h
          refine st_move h rfl rfl fun a h => ?_
          refine wpList_nil ⟨rfl, ?_⟩
          exact ⟨_, h.drawEnd (F' := []) rfl rfl⟩
        · intro dp hdp0 hdp dv Fx a w h
          have e19 : dv 0 = (.slice (some ⟨b1, o1, none⟩) n2 c3) := h.fact 0 rfl
          have e20 : dv 1 = (.int .i64 ((m : Int) - 1)) := h.fact 1 rfl
          replace h := (h.spellE (t := 37) e20 rfl (h.spellE (t := 36) e19 rfl h))
          refine st_indexI (m - 1) h rfl rfl Tryz.runUnderlying53 Tryz.sizeOf276 (by omega) (by omega) rfl fun a h => ?_
          refine wpList_nil ⟨rfl, ?_⟩
          exact ⟨_, h.drawEnd (F' := [_, _]) rfl rfl⟩
        · intro dp hdp0 hdp dv Fx a w h
          have e21 : dv 2 = (.pointer (some ⟨b1, (o1 + (m - 1) * 1), none⟩)) := h.fact 0 rfl
          replace h := (h.spellE (t := 38) e21 rfl h)
          refine st_load h rfl Tryz.isAgg276 (row_cell (h.fact 2 rfl) hx1) rfl fun a h => ?_
          refine wpList_nil ⟨rfl, ?_⟩
          exact ⟨_, h.drawEnd (F' := [_]) rfl rfl⟩
        · intro dp hdp0 hdp dv Fx a w h
          refine st_move h rfl rfl fun a h => ?_
          refine wpList_nil ⟨rfl, ?_⟩
          exact ⟨_, h.drawEnd (F' := []) rfl rfl⟩
        · intro dp hdp0 hdp dv Fx a w h
          refine st_move h rfl rfl fun a h => ?_
          refine wpList_nil ⟨rfl, ?_⟩
          exact ⟨_, h.drawEnd (F' := []) rfl rfl⟩
        · intro dp hdp0 hdp dv Fx a w h
          have e22 : dv 4 = (.slice (some ⟨b2, o2, none⟩) n7 c8) := h.fact 0 rfl
          have e23 : dv 5 = (.int .i64 ((m : Int) - 1)) := h.fact 1 rfl
          replace h := (h.spellE (t := 41) e23 rfl (h.spellE (t := 40) e22 rfl h))
          refine st_indexI (m - 1) h rfl rfl Tryz.runUnderlying53 Tryz.sizeOf276 (by omega) (by omega) rfl fun a h => ?_
          refine wpList_nil ⟨rfl, ?_⟩
          exact ⟨_, h.drawEnd (F' := [_, _]) rfl rfl⟩
        · intro dp hdp0 hdp dv Fx a w h
          have e24 : dv 6 = (.pointer (some ⟨b2, (o2 + (m - 1) * 1), none⟩)) := h.fact 0 rfl
          replace h := (h.spellE (t := 42) e24 rfl h)
          refine st_load h rfl Tryz.isAgg276 (row_cell (h.fact 1 rfl) hy1) rfl fun a h => ?_
          refine wpList_nil ⟨rfl, ?_⟩
          exact ⟨_, h.drawEnd (F' := [_]) rfl rfl⟩
        intro dv a w h
        have e25 : dv 3 = (.int .u32 (x1 : Int)) := h.fact 3 rfl
        have e26 : dv 7 = (.int .u32 (y1 : Int)) := h.fact 7 rfl
        have h2 := (h.spellE (t := 43) e26 rfl (h.spellE (t := 39) e25 rfl (h.consL (t := 35) rfl (h.consL (t := 24) rfl (h.consL (t := 5) rfl (h.consL (t := 1) rfl (h.consL (t := 0) rfl h.nilL)))))))
        have h3 := h2.noFacts
        have h3 := h3.add (h2.fact 9 rfl)
        have h3 := h3.add (h2.fact 8 rfl)
        clear h2
        replace h := h3
        clear h3
        refine st_cmp h rfl rfl rfl rfl fun a h => ?_
        refine wpList_nil ?_
        refine cond_ h rfl (fun hb_if5 => ?_) (fun hb_if5 => ?_)
        · try simp only [decide_eq_true_eq, decide_eq_false_iff_not, Bool.not_eq_true', Bool.not_eq_false'] at hb_if5
          refine seq_ ?_
          refine reg_ ?_
          refine st_assign h rfl rfl fun a h => ?_
          refine wpList_nil ?_
          refine wp_ret ?_
          exact ret1 Tryz.results318 h (resv_tmp h rfl) ⟨_, rfl, h.grow0, congrArg _ ((cmpN_gt (hl3 ▸ hr3 ▸ val_top hr2.1 hd.symm hy1 hx1 (by omega))).symm)⟩
        · try simp only [decide_eq_true_eq, decide_eq_false_iff_not, Bool.not_eq_true', Bool.not_eq_false'] at hb_if5
          refine wp_skip ?_
          refine reg_ ?_
          refine st_move h rfl rfl fun a h => ?_
          refine st_subI h rfl rfl (by omega) rfl fun a h => ?_
          refine st_assign h rfl rfl fun a h => ?_
          refine wpList_nil ?_
          have e : x1 = y1 := by omega
          subst e
          exact ⟨m - 1, by omega, by omega, drop_same hd hx1 hy1, h.consL (t := 0) rfl (h.consL (t := 1) rfl ((h.consL (t := 5) rfl h.nilL).respell (by congr 1; omega)))⟩
    · have hm0 : m = 0 := by omega
      subst hm0
      refine seq_ ?_
      refine seq_ ?_
      refine reg_ ?_
      refine st_move h rfl rfl fun a h => ?_
      refine st_cmp h rfl rfl rfl rfl fun a h => ?_
      refine wpList_nil ?_
      refine cond_f h rfl (by simp) ?_
      refine wp_exit ?_
      repeat refine then_exit ?_
      refine inBlock_exit ?_
      refine seq_ ?_
      refine reg_ ?_
      refine st_assign h rfl rfl fun a h => ?_
      refine wpList_nil ?_
      refine wp_ret ?_
      exact ret1 Tryz.results318 h (resv_tmp h rfl) ⟨_, rfl, h.grow0, congrArg _ ((cmpN_eq (hl3 ▸ hr3 ▸ by simp at hd; rw [hd])).symm)⟩

set_option maxHeartbeats 1000000 in
theorem limb_Add (hO : ∀ b, Ob b → b < W.heap.size) {A : Option Addr} {n c x : Nat} {A' : Option Addr} {n' c' y : Nat} (hx0 : Rel.natA.at_ W Ob [.slice A n c] x) (hx1 : Rel.natA.at_ W Ob [.slice A' n' c'] y) (hsx : sz x ≤ 4294967296) (hsy : sz y ≤ 4294967296) :
    Calls Tryz.prog 320 #[.slice A n c, .slice A' n' c'] W (Ret W Ob (Rel.natN.sliceF (x + y))) := by

  refine enter (vs := [(.slice A n c), (.slice A' n' c')]) (Ob := Ob) (K := fun b => b < W.heap.size) (Fs := [(Rel.natA).fact [.slice A n c] (x), (Rel.natA).fact [(.slice A' n' c')] (y)]) Tryz.func320 rfl Tryz.ntmps320 rfl (fun _ h => h) hO (by simp only [List.mem_cons, List.not_mem_nil, or_false, forall_eq_or_imp, forall_eq, false_imp_iff, implies_true]; exact ⟨hx0, hx1⟩) fun a h => ?_
  refine seq_ ?_
  refine reg_ ?_
  refine st_assign h rfl rfl fun a h => ?_
  refine wpList_nil ?_
  refine seq_ ?_
  refine reg_ ?_
  refine st_move h rfl rfl fun a h => ?_
  refine st_call h Tryz.func309 rfl rfl rfl (limb_cut _ _ (fun b => h.owns_lt) (h.fact 0 rfl)) rfl fun r w a hg hF h => ?_
  obtain ⟨A1, n2, c3, e5, f4⟩ := hF
  subst e5
  have h := h.add (f := (Rel.natN).fact [(.slice A1 n2 c3)] (x)) f4
  refine st_move h rfl rfl fun a h => ?_
  refine st_call h Tryz.func309 rfl rfl rfl (limb_cut _ _ (fun b => h.owns_lt) (h.fact 2 rfl)) rfl fun r w a hg hF h => ?_
  obtain ⟨A6, n7, c8, e10, f9⟩ := hF
  subst e10
  have h := h.add (f := (Rel.natN).fact [(.slice A6 n7 c8)] (y)) f9
  refine st_assign h rfl rfl fun a h => ?_
  refine st_assign h rfl rfl fun a h => ?_
  refine wpList_nil ?_
  refine seq_ ?_
  refine seq_ ?_
  refine reg_ ?_
  refine st_move h rfl rfl fun a h => ?_
  refine st_len h rfl Tryz.runUnderlying53 rfl fun a h => ?_
  refine st_move h rfl rfl fun a h => ?_
  refine st_len h rfl Tryz.runUnderlying53 rfl fun a h => ?_
  obtain ⟨l, hl1, hl2, hl3⟩ := h.fact 1 rfl
  obtain ⟨r, hr1, hr2, hr3⟩ := h.fact 0 rfl
  have h := h.add (f := Rel.row32.fact [(.slice A1 n2 c3)] l) hl1
  obtain ⟨el, _, _⟩ := row_open hl1
  have h := h.add (f := Rel.row32.fact [(.slice A6 n7 c8)] r) hr1
  obtain ⟨er, _, _⟩ := row_open hr1
  have hszl := nrm_len hl2
  have hszr := nrm_len hr2
  rw [hl3] at hszl
  rw [hr3] at hszr
  have h38 : (2 : Nat) ^ 38 = 274877906944 := by decide
  have h47 : (2 : Nat) ^ 47 = 140737488355328 := by decide
  have h63 : (2 : Nat) ^ 63 = 9223372036854775808 := by decide
  refine st_cmp h rfl rfl rfl rfl fun a h => ?_
  refine wpList_nil ?_
  refine cond_ h rfl (fun hb_if1 => ?_) (fun hb_if1 => ?_)
  · try simp only [decide_eq_true_eq, decide_eq_false_iff_not, Bool.not_eq_true', Bool.not_eq_false'] at hb_if1
    refine reg_ ?_
    refine st_move h rfl rfl fun a h => ?_
    refine st_move h rfl rfl fun a h => ?_
    refine st_assign h rfl rfl fun a h => ?_
    refine st_assign h rfl rfl fun a h => ?_
    refine wpList_nil ?_
    refine seq_ ?_
    refine reg_ ?_
    refine st_move h rfl rfl fun a h => ?_
    refine st_len h rfl Tryz.runUnderlying53 rfl fun a h => ?_
    refine st_addI h rfl rfl (by omega) rfl fun a h => ?_
    refine st_make (m := (n7 + 1)) (zs := [(.int .u32 0)]) h (rfl) (rfl) Tryz.runUnderlying53 Tryz.typeInfo276 rfl Tryz.sizeOf276 Tryz.zeroValue276 rfl rfl (by omega) rfl fun g11 w a h => ?_
    replace h := h.respellB (reps_u32s _)
    refine st_assign h rfl rfl fun a h => ?_
    refine wpList_nil ?_
    refine seq_ ?_
    refine reg_ ?_
    refine st_assign h rfl rfl fun a h => ?_
    refine wpList_nil ?_
    refine seq_ ?_
    refine seq_ ?_
    refine reg_ ?_
    refine st_move h rfl rfl fun a h => ?_
    refine st_len h rfl Tryz.runUnderlying53 rfl fun a h => ?_
    refine st_move h rfl rfl fun a h => ?_
    refine wpList_nil ?_
    refine wp_block ?_
    refine loop_ (fun m a w' => ∃ i o cy, i ≤ n7 ∧ m = n7 - i ∧ o.length = n7 + 1 ∧ cy ≤ 1 ∧ (∀ x ∈ o, x < 4294967296) ∧ val (o.take i) + cy * 4294967296 ^ i = val (r.take i) + val (l.take i) ∧ St (fun b => b < W.heap.size) Ob W w' a 63 [(0, (.slice A6 n7 c8)), (1, (.slice A1 n2 c3)), (5, .slice (some ⟨g11, 0, none⟩) (n7 + 1) (n7 + 1)), (6, .int .u64 ((cy : Nat) : Int)), (25, (.slice A6 n7 c8)), (26, .int .i64 (n7 : Int)), (27, .int .i64 (i : Int))] [Rel.row32.fact [(.slice A6 n7 c8)] r, Rel.row32.fact [(.slice A1 n2 c3)] l] [(g11, 276, u32s o)]) (m := _) (⟨0, List.replicate (n7 + 1) 0, 0, by omega, rfl, by simp, by omega, by simp, by simp [val], (((h.consL (t := 0) rfl (h.consL (t := 1) rfl (h.consL (t := 5) rfl (h.consL (t := 6) rfl (h.consL (t := 25) rfl (h.consL (t := 26) rfl (h.consL (t := 27) rfl h.nilL))))))).noFacts.add (h.fact 1 rfl)).add (h.fact 0 rfl))⟩) ?_
    clear h
    rintro m a w ⟨i, o, cy, hi, hm, hol, hcy, ho, heq, h⟩
    by_cases hlt : i < n7
    · obtain ⟨b1, o1, rfl, _, _, _⟩ := row_get (h.fact 0 rfl) (i := i) (by omega)
      obtain ⟨x1, hx1⟩ : ∃ x, r[i]? = some x := ⟨_, List.getElem?_eq_getElem (by omega)⟩
      have hx1b := row_lt (h.fact 0 rfl) _ (List.mem_of_getElem? hx1)
      refine seq_ ?_
      refine reg_ ?_
      refine st_cmp h rfl rfl rfl rfl fun a h => ?_
      refine wpList_nil ?_
      refine seq_ ?_
      refine cond_t h rfl (by simp; omega) ?_
      refine wp_skip ?_
      refine seq_ ?_
      refine wp_block ?_
      refine seq_ ?_
      refine reg_ ?_
      refine st_move h rfl rfl fun a h => ?_
      refine st_indexI (i) h rfl rfl Tryz.runUnderlying53 Tryz.sizeOf276 (rfl) (by omega) rfl fun a h => ?_
      refine st_load h rfl Tryz.isAgg276 (row_cell (h.fact 0 rfl) hx1) rfl fun a h => ?_
      refine st_assign h rfl rfl fun a h => ?_
      refine st_assign h rfl rfl fun a h => ?_
      refine wpList_nil ?_
      refine seq_ ?_
      refine reg_ ?_
      refine st_move h rfl rfl fun a h => ?_
      refine st_to64 (p := x1) h rfl (by omega) Tryz.runUnderlying276 Tryz.runUnderlying317 rfl fun a h => ?_
      refine st_move h rfl rfl fun a h => ?_
      refine st_addN (p := x1) (q := cy) h rfl rfl (by omega) rfl fun a h => ?_
      refine st_assign h rfl rfl fun a h => ?_
      refine wpList_nil ?_
      refine seq_ ?_
      refine seq_ ?_
      refine reg_ ?_
      refine st_move h rfl rfl fun a h => ?_
      refine st_move h rfl rfl fun a h => ?_
      refine st_len h rfl Tryz.runUnderlying53 rfl fun a h => ?_
      refine st_cmp h rfl rfl rfl rfl fun a h => ?_
      refine wpList_nil ?_
      refine cond_ h rfl (fun hb_if3 => ?_) (fun hb_if3 => ?_)
      · try simp only [decide_eq_true_eq, decide_eq_false_iff_not, Bool.not_eq_true', Bool.not_eq_false'] at hb_if3
        obtain ⟨b2, o2, rfl, _, _, _⟩ := row_get (h.fact 1 rfl) (i := i) (by omega)
        obtain ⟨y1, hy1⟩ : ∃ y, l[i]? = some y := ⟨_, List.getElem?_eq_getElem (by omega)⟩
        have hy1b := row_lt (h.fact 1 rfl) _ (List.mem_of_getElem? hy1)
        refine reg_ ?_
        refine st_move h rfl rfl fun a h => ?_
        refine st_move h rfl rfl fun a h => ?_
        refine st_move h rfl rfl fun a h => ?_
        refine st_indexI (i) h rfl rfl Tryz.runUnderlying53 Tryz.sizeOf276 (rfl) (by omega) rfl fun a h => ?_
        refine st_load h rfl Tryz.isAgg276 (row_cell (h.fact 1 rfl) hy1) rfl fun a h => ?_
        refine st_to64 (p := y1) h rfl (by omega) Tryz.runUnderlying276 Tryz.runUnderlying317 rfl fun a h => ?_
        refine st_addN (p := x1 + cy) (q := y1) h rfl rfl (by omega) rfl fun a h => ?_
        refine st_assign h rfl rfl fun a h => ?_
        refine wpList_nil ?_
        refine reg_ ?_
        refine st_move h rfl rfl fun a h => ?_
        refine st_move h rfl rfl fun a h => ?_
        refine st_move h rfl rfl fun a h => ?_
        refine st_to32 (p := (x1 + cy) + y1) h rfl Tryz.runUnderlying317 Tryz.runUnderlying276 rfl fun a h => ?_
        refine st_move h rfl rfl fun a h => ?_
        refine st_shrN (p := (x1 + cy) + y1) (m := 32) h rfl rfl (by omega) rfl fun a h => ?_
        refine st_indexI (i) h rfl rfl Tryz.runUnderlying53 Tryz.sizeOf276 (rfl) (by omega) rfl fun a h => ?_
        refine st_storeU (i := i) h rfl rfl Tryz.sizeOf276 (by omega) fun w h => ?_
        refine st_assign h rfl rfl fun a h => ?_
        refine wpList_nil ?_
        refine reg_ ?_
        refine st_addI h rfl rfl (by omega) rfl fun a h => ?_
        refine st_move h rfl rfl fun a h => ?_
        refine wpList_nil ?_
        have hstep := add_step (o := o) (l := r) (r := l) (i := i) (x := x1) (y := y1) (s := (x1 + cy) + y1) (cy := cy) (by omega) hx1 (.inl hy1) heq (by omega)
        refine ⟨_, by omega, i + 1, o.set i (((x1 + cy) + y1) % 4294967296), ((x1 + cy) + y1) / 4294967296, by omega, rfl, by rw [List.length_set]; omega, by omega, set_lt ho _ _ (by omega), hstep, (h.consL (t := 0) rfl (h.consL (t := 1) rfl (h.consL (t := 5) rfl (h.consL (t := 6) rfl (h.consL (t := 25) rfl (h.consL (t := 26) rfl (h.consL (t := 27) rfl h.nilL)))))))⟩
      · try simp only [decide_eq_true_eq, decide_eq_false_iff_not, Bool.not_eq_true', Bool.not_eq_false'] at hb_if3
        refine wp_skip ?_
        refine reg_ ?_
        refine st_move h rfl rfl fun a h => ?_
        refine st_move h rfl rfl fun a h => ?_
        refine st_move h rfl rfl fun a h => ?_
        refine st_to32 (p := x1 + cy) h rfl Tryz.runUnderlying317 Tryz.runUnderlying276 rfl fun a h => ?_
        refine st_move h rfl rfl fun a h => ?_
        refine st_shrN (p := x1 + cy) (m := 32) h rfl rfl (by omega) rfl fun a h => ?_
        refine st_indexI (i) h rfl rfl Tryz.runUnderlying53 Tryz.sizeOf276 (rfl) (by omega) rfl fun a h => ?_
        refine st_storeU (i := i) h rfl rfl Tryz.sizeOf276 (by omega) fun w h => ?_
        refine st_assign h rfl rfl fun a h => ?_
        refine wpList_nil ?_
        refine reg_ ?_
        refine st_addI h rfl rfl (by omega) rfl fun a h => ?_
        refine st_move h rfl rfl fun a h => ?_
        refine wpList_nil ?_
        have hstep := add_step (o := o) (l := r) (r := l) (i := i) (x := x1) (y := 0) (s := x1 + cy) (cy := cy) (by omega) hx1 (.inr ⟨by omega, rfl⟩) heq (by omega)
        refine ⟨_, by omega, i + 1, o.set i ((x1 + cy) % 4294967296), (x1 + cy) / 4294967296, by omega, rfl, by rw [List.length_set]; omega, by omega, set_lt ho _ _ (by omega), hstep, (h.consL (t := 0) rfl (h.consL (t := 1) rfl (h.consL (t := 5) rfl (h.consL (t := 6) rfl (h.consL (t := 25) rfl (h.consL (t := 26) rfl (h.consL (t := 27) rfl h.nilL)))))))⟩
    · skip
      refine seq_ ?_
      refine reg_ ?_
      refine st_cmp h rfl rfl rfl rfl fun a h => ?_
      refine wpList_nil ?_
      refine seq_ ?_
      refine cond_f h rfl (by simp; omega) ?_
      refine wp_exit ?_
      repeat refine then_exit ?_
      refine inBlock_exit ?_
      refine seq_ ?_
      refine reg_ ?_
      refine st_move h rfl rfl fun a h => ?_
      refine st_move h rfl rfl fun a h => ?_
      refine st_len h rfl Tryz.runUnderlying53 rfl fun a h => ?_
      refine st_move h rfl rfl fun a h => ?_
      refine st_to32 (p := cy) h rfl Tryz.runUnderlying317 Tryz.runUnderlying276 rfl fun a h => ?_
      refine st_indexI (n7) h rfl rfl Tryz.runUnderlying53 Tryz.sizeOf276 (rfl) (by omega) rfl fun a h => ?_
      refine st_storeU (i := n7) h rfl rfl Tryz.sizeOf276 (by omega) fun w h => ?_
      have hfin : val (o.set n7 (cy % 4294967296)) = x + y := by
        have hie : i = n7 := by omega
        subst hie
        have h1 := val_set o i (cy % 4294967296) (by omega)
        rw [show i + 1 = (o.set i (cy % 4294967296)).length from by rw [List.length_set]; omega, List.take_length] at h1
        rw [List.take_of_length_le (l := r) (by omega), List.take_of_length_le (l := l) (by omega)] at heq
        rw [h1, show cy % 4294967296 = cy from by omega, Nat.mul_comm, heq, hr3, hl3]
        exact Nat.add_comm _ _
      have hrow := own_row32 (r := o.set n7 (cy % 4294967296)) (n7 + 1) h (fun _ _ => rfl) (set_lt ho _ _ (by omega)) (by rw [List.length_set, hol]; omega) (by rw [List.length_set, hol]; exact Nat.le_refl _) (by omega)
      rw [List.length_set, hol] at hrow
      replace h := h.publish
      have h := h.add (f := Rel.natA.fact [.slice (some ⟨g11, 0, none⟩) (n7 + 1) (n7 + 1)] (x + y)) ⟨_, hrow, set_lt ho _ _ (by omega), hfin⟩
      refine wpList_nil ?_
      refine seq_ ?_
      refine reg_ ?_
      refine st_move h rfl rfl fun a h => ?_
      refine st_call h Tryz.func309 rfl rfl rfl (limb_cut _ _ (fun b => h.owns_lt) (h.fact 0 rfl)) rfl fun r w a hg hF h => ?_
      obtain ⟨A12, n13, c14, e16, f15⟩ := hF
      subst e16
      have h := h.add (f := (Rel.natN).fact [(.slice A12 n13 c14)] ((x + y))) f15
      refine st_assign h rfl rfl fun a h => ?_
      refine wpList_nil ?_
      refine wp_ret ?_
      exact ret1 Tryz.results320 h (resv_tmp h rfl) ⟨_, rfl, h.grow0, _, _, _, rfl, h.out 0 rfl⟩
  · try simp only [decide_eq_true_eq, decide_eq_false_iff_not, Bool.not_eq_true', Bool.not_eq_false'] at hb_if1
    refine wp_skip ?_
    refine seq_ ?_
    refine reg_ ?_
    refine st_move h rfl rfl fun a h => ?_
    refine st_len h rfl Tryz.runUnderlying53 rfl fun a h => ?_
    refine st_addI h rfl rfl (by omega) rfl fun a h => ?_
    refine st_make (m := (n2 + 1)) (zs := [(.int .u32 0)]) h (rfl) (rfl) Tryz.runUnderlying53 Tryz.typeInfo276 rfl Tryz.sizeOf276 Tryz.zeroValue276 rfl rfl (by omega) rfl fun g17 w a h => ?_
    replace h := h.respellB (reps_u32s _)
    refine st_assign h rfl rfl fun a h => ?_
    refine wpList_nil ?_
    refine seq_ ?_
    refine reg_ ?_
    refine st_assign h rfl rfl fun a h => ?_
    refine wpList_nil ?_
    refine seq_ ?_
    refine seq_ ?_
    refine reg_ ?_
    refine st_move h rfl rfl fun a h => ?_
    refine st_len h rfl Tryz.runUnderlying53 rfl fun a h => ?_
    refine st_move h rfl rfl fun a h => ?_
    refine wpList_nil ?_
    refine wp_block ?_
    refine loop_ (fun m a w' => ∃ i o cy, i ≤ n2 ∧ m = n2 - i ∧ o.length = n2 + 1 ∧ cy ≤ 1 ∧ (∀ x ∈ o, x < 4294967296) ∧ val (o.take i) + cy * 4294967296 ^ i = val (l.take i) + val (r.take i) ∧ St (fun b => b < W.heap.size) Ob W w' a 63 [(0, (.slice A1 n2 c3)), (1, (.slice A6 n7 c8)), (5, .slice (some ⟨g17, 0, none⟩) (n2 + 1) (n2 + 1)), (6, .int .u64 ((cy : Nat) : Int)), (25, (.slice A1 n2 c3)), (26, .int .i64 (n2 : Int)), (27, .int .i64 (i : Int))] [Rel.row32.fact [(.slice A1 n2 c3)] l, Rel.row32.fact [(.slice A6 n7 c8)] r] [(g17, 276, u32s o)]) (m := _) (⟨0, List.replicate (n2 + 1) 0, 0, by omega, rfl, by simp, by omega, by simp, by simp [val], (((h.consL (t := 0) rfl (h.consL (t := 1) rfl (h.consL (t := 5) rfl (h.consL (t := 6) rfl (h.consL (t := 25) rfl (h.consL (t := 26) rfl (h.consL (t := 27) rfl h.nilL))))))).noFacts.add (h.fact 0 rfl)).add (h.fact 1 rfl))⟩) ?_
    clear h
    rintro m a w ⟨i, o, cy, hi, hm, hol, hcy, ho, heq, h⟩
    by_cases hlt : i < n2
    · obtain ⟨b1, o1, rfl, _, _, _⟩ := row_get (h.fact 0 rfl) (i := i) (by omega)
      obtain ⟨x1, hx1⟩ : ∃ x, l[i]? = some x := ⟨_, List.getElem?_eq_getElem (by omega)⟩
      have hx1b := row_lt (h.fact 0 rfl) _ (List.mem_of_getElem? hx1)
      refine seq_ ?_
      refine reg_ ?_
      refine st_cmp h rfl rfl rfl rfl fun a h => ?_
      refine wpList_nil ?_
      refine seq_ ?_
      refine cond_t h rfl (by simp; omega) ?_
      refine wp_skip ?_
      refine seq_ ?_
      refine wp_block ?_
      refine seq_ ?_
      refine reg_ ?_
      refine st_move h rfl rfl fun a h => ?_
      refine st_indexI (i) h rfl rfl Tryz.runUnderlying53 Tryz.sizeOf276 (rfl) (by omega) rfl fun a h => ?_
      refine st_load h rfl Tryz.isAgg276 (row_cell (h.fact 0 rfl) hx1) rfl fun a h => ?_
      refine st_assign h rfl rfl fun a h => ?_
      refine st_assign h rfl rfl fun a h => ?_
      refine wpList_nil ?_
      refine seq_ ?_
      refine reg_ ?_
      refine st_move h rfl rfl fun a h => ?_
      refine st_to64 (p := x1) h rfl (by omega) Tryz.runUnderlying276 Tryz.runUnderlying317 rfl fun a h => ?_
      refine st_move h rfl rfl fun a h => ?_
      refine st_addN (p := x1) (q := cy) h rfl rfl (by omega) rfl fun a h => ?_
      refine st_assign h rfl rfl fun a h => ?_
      refine wpList_nil ?_
      refine seq_ ?_
      refine seq_ ?_
      refine reg_ ?_
      refine st_move h rfl rfl fun a h => ?_
      refine st_move h rfl rfl fun a h => ?_
      refine st_len h rfl Tryz.runUnderlying53 rfl fun a h => ?_
      refine st_cmp h rfl rfl rfl rfl fun a h => ?_
      refine wpList_nil ?_
      refine cond_ h rfl (fun hb_if3 => ?_) (fun hb_if3 => ?_)
      · try simp only [decide_eq_true_eq, decide_eq_false_iff_not, Bool.not_eq_true', Bool.not_eq_false'] at hb_if3
        obtain ⟨b2, o2, rfl, _, _, _⟩ := row_get (h.fact 1 rfl) (i := i) (by omega)
        obtain ⟨y1, hy1⟩ : ∃ y, r[i]? = some y := ⟨_, List.getElem?_eq_getElem (by omega)⟩
        have hy1b := row_lt (h.fact 1 rfl) _ (List.mem_of_getElem? hy1)
        refine reg_ ?_
        refine st_move h rfl rfl fun a h => ?_
        refine st_move h rfl rfl fun a h => ?_
        refine st_move h rfl rfl fun a h => ?_
        refine st_indexI (i) h rfl rfl Tryz.runUnderlying53 Tryz.sizeOf276 (rfl) (by omega) rfl fun a h => ?_
        refine st_load h rfl Tryz.isAgg276 (row_cell (h.fact 1 rfl) hy1) rfl fun a h => ?_
        refine st_to64 (p := y1) h rfl (by omega) Tryz.runUnderlying276 Tryz.runUnderlying317 rfl fun a h => ?_
        refine st_addN (p := x1 + cy) (q := y1) h rfl rfl (by omega) rfl fun a h => ?_
        refine st_assign h rfl rfl fun a h => ?_
        refine wpList_nil ?_
        refine reg_ ?_
        refine st_move h rfl rfl fun a h => ?_
        refine st_move h rfl rfl fun a h => ?_
        refine st_move h rfl rfl fun a h => ?_
        refine st_to32 (p := (x1 + cy) + y1) h rfl Tryz.runUnderlying317 Tryz.runUnderlying276 rfl fun a h => ?_
        refine st_move h rfl rfl fun a h => ?_
        refine st_shrN (p := (x1 + cy) + y1) (m := 32) h rfl rfl (by omega) rfl fun a h => ?_
        refine st_indexI (i) h rfl rfl Tryz.runUnderlying53 Tryz.sizeOf276 (rfl) (by omega) rfl fun a h => ?_
        refine st_storeU (i := i) h rfl rfl Tryz.sizeOf276 (by omega) fun w h => ?_
        refine st_assign h rfl rfl fun a h => ?_
        refine wpList_nil ?_
        refine reg_ ?_
        refine st_addI h rfl rfl (by omega) rfl fun a h => ?_
        refine st_move h rfl rfl fun a h => ?_
        refine wpList_nil ?_
        have hstep := add_step (o := o) (l := l) (r := r) (i := i) (x := x1) (y := y1) (s := (x1 + cy) + y1) (cy := cy) (by omega) hx1 (.inl hy1) heq (by omega)
        refine ⟨_, by omega, i + 1, o.set i (((x1 + cy) + y1) % 4294967296), ((x1 + cy) + y1) / 4294967296, by omega, rfl, by rw [List.length_set]; omega, by omega, set_lt ho _ _ (by omega), hstep, (h.consL (t := 0) rfl (h.consL (t := 1) rfl (h.consL (t := 5) rfl (h.consL (t := 6) rfl (h.consL (t := 25) rfl (h.consL (t := 26) rfl (h.consL (t := 27) rfl h.nilL)))))))⟩
      · try simp only [decide_eq_true_eq, decide_eq_false_iff_not, Bool.not_eq_true', Bool.not_eq_false'] at hb_if3
        refine wp_skip ?_
        refine reg_ ?_
        refine st_move h rfl rfl fun a h => ?_
        refine st_move h rfl rfl fun a h => ?_
        refine st_move h rfl rfl fun a h => ?_
        refine st_to32 (p := x1 + cy) h rfl Tryz.runUnderlying317 Tryz.runUnderlying276 rfl fun a h => ?_
        refine st_move h rfl rfl fun a h => ?_
        refine st_shrN (p := x1 + cy) (m := 32) h rfl rfl (by omega) rfl fun a h => ?_
        refine st_indexI (i) h rfl rfl Tryz.runUnderlying53 Tryz.sizeOf276 (rfl) (by omega) rfl fun a h => ?_
        refine st_storeU (i := i) h rfl rfl Tryz.sizeOf276 (by omega) fun w h => ?_
        refine st_assign h rfl rfl fun a h => ?_
        refine wpList_nil ?_
        refine reg_ ?_
        refine st_addI h rfl rfl (by omega) rfl fun a h => ?_
        refine st_move h rfl rfl fun a h => ?_
        refine wpList_nil ?_
        have hstep := add_step (o := o) (l := l) (r := r) (i := i) (x := x1) (y := 0) (s := x1 + cy) (cy := cy) (by omega) hx1 (.inr ⟨by omega, rfl⟩) heq (by omega)
        refine ⟨_, by omega, i + 1, o.set i ((x1 + cy) % 4294967296), (x1 + cy) / 4294967296, by omega, rfl, by rw [List.length_set]; omega, by omega, set_lt ho _ _ (by omega), hstep, (h.consL (t := 0) rfl (h.consL (t := 1) rfl (h.consL (t := 5) rfl (h.consL (t := 6) rfl (h.consL (t := 25) rfl (h.consL (t := 26) rfl (h.consL (t := 27) rfl h.nilL)))))))⟩
    · skip
      refine seq_ ?_
      refine reg_ ?_
      refine st_cmp h rfl rfl rfl rfl fun a h => ?_
      refine wpList_nil ?_
      refine seq_ ?_
      refine cond_f h rfl (by simp; omega) ?_
      refine wp_exit ?_
      repeat refine then_exit ?_
      refine inBlock_exit ?_
      refine seq_ ?_
      refine reg_ ?_
      refine st_move h rfl rfl fun a h => ?_
      refine st_move h rfl rfl fun a h => ?_
      refine st_len h rfl Tryz.runUnderlying53 rfl fun a h => ?_
      refine st_move h rfl rfl fun a h => ?_
      refine st_to32 (p := cy) h rfl Tryz.runUnderlying317 Tryz.runUnderlying276 rfl fun a h => ?_
      refine st_indexI (n2) h rfl rfl Tryz.runUnderlying53 Tryz.sizeOf276 (rfl) (by omega) rfl fun a h => ?_
      refine st_storeU (i := n2) h rfl rfl Tryz.sizeOf276 (by omega) fun w h => ?_
      have hfin : val (o.set n2 (cy % 4294967296)) = x + y := by
        have hie : i = n2 := by omega
        subst hie
        have h1 := val_set o i (cy % 4294967296) (by omega)
        rw [show i + 1 = (o.set i (cy % 4294967296)).length from by rw [List.length_set]; omega, List.take_length] at h1
        rw [List.take_of_length_le (l := l) (by omega), List.take_of_length_le (l := r) (by omega)] at heq
        rw [h1, show cy % 4294967296 = cy from by omega, Nat.mul_comm, heq, hl3, hr3]
      have hrow := own_row32 (r := o.set n2 (cy % 4294967296)) (n2 + 1) h (fun _ _ => rfl) (set_lt ho _ _ (by omega)) (by rw [List.length_set, hol]; omega) (by rw [List.length_set, hol]; exact Nat.le_refl _) (by omega)
      rw [List.length_set, hol] at hrow
      replace h := h.publish
      have h := h.add (f := Rel.natA.fact [.slice (some ⟨g17, 0, none⟩) (n2 + 1) (n2 + 1)] (x + y)) ⟨_, hrow, set_lt ho _ _ (by omega), hfin⟩
      refine wpList_nil ?_
      refine seq_ ?_
      refine reg_ ?_
      refine st_move h rfl rfl fun a h => ?_
      refine st_call h Tryz.func309 rfl rfl rfl (limb_cut _ _ (fun b => h.owns_lt) (h.fact 0 rfl)) rfl fun r w a hg hF h => ?_
      obtain ⟨A18, n19, c20, e22, f21⟩ := hF
      subst e22
      have h := h.add (f := (Rel.natN).fact [(.slice A18 n19 c20)] ((x + y))) f21
      refine st_assign h rfl rfl fun a h => ?_
      refine wpList_nil ?_
      refine wp_ret ?_
      exact ret1 Tryz.results320 h (resv_tmp h rfl) ⟨_, rfl, h.grow0, _, _, _, rfl, h.out 0 rfl⟩

set_option maxHeartbeats 1000000 in
theorem limb_Sub (hO : ∀ b, Ob b → b < W.heap.size) {A : Option Addr} {n c x : Nat} {A' : Option Addr} {n' c' y : Nat} (hx0 : Rel.natA.at_ W Ob [.slice A n c] x) (hx1 : Rel.natA.at_ W Ob [.slice A' n' c'] y) (hsx : sz x ≤ 4294967296) :
    Calls Tryz.prog 321 #[.slice A n c, .slice A' n' c'] W (Ret W Ob (if y ≤ x then tup2 (Rel.natN.sliceF (x - y)) (eqF (.bool true)) else tup2 (eqF (.slice none 0 0)) (eqF (.bool false)))) := by

  refine enter (vs := [(.slice A n c), (.slice A' n' c')]) (Ob := Ob) (K := fun b => b < W.heap.size) (Fs := [(Rel.natA).fact [.slice A n c] (x), (Rel.natA).fact [(.slice A' n' c')] (y)]) Tryz.func321 rfl Tryz.ntmps321 rfl (fun _ h => h) hO (by simp only [List.mem_cons, List.not_mem_nil, or_false, forall_eq_or_imp, forall_eq, false_imp_iff, implies_true]; exact ⟨hx0, hx1⟩) fun a h => ?_
  refine seq_ ?_
  refine reg_ ?_
  refine st_assign h rfl rfl fun a h => ?_
  refine st_assign h rfl rfl fun a h => ?_
  refine wpList_nil ?_
  refine seq_ ?_
  refine reg_ ?_
  refine st_move h rfl rfl fun a h => ?_
  refine st_call h Tryz.func309 rfl rfl rfl (limb_cut _ _ (fun b => h.owns_lt) (h.fact 0 rfl)) rfl fun r w a hg hF h => ?_
  obtain ⟨A1, n2, c3, e5, f4⟩ := hF
  subst e5
  have h := h.add (f := (Rel.natN).fact [(.slice A1 n2 c3)] (x)) f4
  refine st_move h rfl rfl fun a h => ?_
  refine st_call h Tryz.func309 rfl rfl rfl (limb_cut _ _ (fun b => h.owns_lt) (h.fact 2 rfl)) rfl fun r w a hg hF h => ?_
  obtain ⟨A6, n7, c8, e10, f9⟩ := hF
  subst e10
  have h := h.add (f := (Rel.natN).fact [(.slice A6 n7 c8)] (y)) f9
  refine st_assign h rfl rfl fun a h => ?_
  refine st_assign h rfl rfl fun a h => ?_
  refine wpList_nil ?_
  refine seq_ ?_
  refine seq_ ?_
  refine reg_ ?_
  refine st_move h rfl rfl fun a h => ?_
  refine st_move h rfl rfl fun a h => ?_
  refine st_call h Tryz.func318 rfl rfl rfl (limb_Cmp _ _ (fun b => h.owns_lt) (natA_of_natN (h.fact 1 rfl)) (natA_of_natN (h.fact 0 rfl))) rfl fun r w a hg hF h => ?_
  obtain rfl := hF
  refine st_cmp h rfl rfl rfl rfl fun a h => ?_
  refine wpList_nil ?_
  refine cond_ h rfl (fun hb_if1 => ?_) (fun hb_if1 => ?_)
  · try simp only [decide_eq_true_eq, decide_eq_false_iff_not, Bool.not_eq_true', Bool.not_eq_false'] at hb_if1
    refine seq_ ?_
    refine reg_ ?_
    refine st_assign h rfl rfl fun a h => ?_
    refine st_assign h rfl rfl fun a h => ?_
    refine wpList_nil ?_
    refine wp_ret ?_
    rw [if_neg (by unfold cmpN at hb_if1; split at hb_if1 <;> omega)]
    exact ret2 Tryz.results321 h (resv_tmp h rfl) (resv_tmp h rfl) ⟨_, rfl, h.grow0, _, _, rfl, rfl, rfl⟩
  · try simp only [decide_eq_true_eq, decide_eq_false_iff_not, Bool.not_eq_true', Bool.not_eq_false'] at hb_if1
    refine wp_skip ?_
    refine seq_ ?_
    refine reg_ ?_
    refine st_move h rfl rfl fun a h => ?_
    refine st_len h rfl Tryz.runUnderlying53 rfl fun a h => ?_
    obtain ⟨l, hl1, hl2, hl3⟩ := h.fact 1 rfl
    obtain ⟨r, hr1, hr2, hr3⟩ := h.fact 0 rfl
    have h := h.add (f := Rel.row32.fact [(.slice A1 n2 c3)] l) hl1
    obtain ⟨el, _, _⟩ := row_open hl1
    have h := h.add (f := Rel.row32.fact [(.slice A6 n7 c8)] r) hr1
    obtain ⟨er, _, _⟩ := row_open hr1
    have hszl := nrm_len hl2
    have hszr := nrm_len hr2
    rw [hl3] at hszl
    rw [hr3] at hszr
    have h38 : (2 : Nat) ^ 38 = 274877906944 := by decide
    have h47 : (2 : Nat) ^ 47 = 140737488355328 := by decide
    have h63 : (2 : Nat) ^ 63 = 9223372036854775808 := by decide
    refine st_make (m := n2) (zs := [(.int .u32 0)]) h (rfl) (rfl) Tryz.runUnderlying53 Tryz.typeInfo276 rfl Tryz.sizeOf276 Tryz.zeroValue276 rfl rfl (by omega) rfl fun g11 w a h => ?_
    replace h := h.respellB (reps_u32s _)
    refine st_assign h rfl rfl fun a h => ?_
    refine wpList_nil ?_
    refine seq_ ?_
    refine reg_ ?_
    refine st_assign h rfl rfl fun a h => ?_
    refine wpList_nil ?_
    refine seq_ ?_
    refine seq_ ?_
    refine reg_ ?_
    refine st_move h rfl rfl fun a h => ?_
    refine st_len h rfl Tryz.runUnderlying53 rfl fun a h => ?_
    refine st_move h rfl rfl fun a h => ?_
    refine wpList_nil ?_
    refine wp_block ?_
    refine loop_ (fun m a w' => ∃ i o cy, i ≤ n2 ∧ o.length = n2 ∧ cy ≤ 1 ∧ (∀ x ∈ o, x < 4294967296) ∧ val (o.take i) + val (r.take i) = val (l.take i) + cy * 4294967296 ^ i ∧ m = n2 - i ∧ St (fun b => b < W.heap.size) Ob W w' a 54 [(0, (.slice A1 n2 c3)), (1, (.slice A6 n7 c8)), (6, (.slice (some ⟨g11, 0, none⟩) n2 n2)), (7, (.int .u64 ((cy : Nat) : Int))), (22, (.slice A1 n2 c3)), (23, (.int .i64 (n2 : Int))), (24, (.int .i64 (i : Int)))] [(Rel.row32).fact [(.slice A1 n2 c3)] (l), (Rel.row32).fact [(.slice A6 n7 c8)] (r)] [(g11, 276, u32s o)]) (m := _) (⟨0, List.replicate n2 0, 0, by omega, by simp, by omega, by simp, by simp [val], rfl, (((h.consL (t := 0) rfl (h.consL (t := 1) rfl (h.consL (t := 6) rfl (h.consL (t := 7) rfl (h.consL (t := 22) rfl (h.consL (t := 23) rfl (h.consL (t := 24) rfl h.nilL))))))).noFacts.add (h.fact 0 rfl)).add (h.fact 1 rfl))⟩) ?_
    clear h
    rintro m a w ⟨i, o, cy, hp0, hp1, hp2, hp3, hp4, hm, h⟩
    by_cases hlt : i < n2
    · obtain ⟨b1, o1, rfl, _, _, _⟩ := row_get (h.fact 0 rfl) (i := i) (by omega)
      obtain ⟨x1, hx1⟩ : ∃ x, l[i]? = some x := ⟨_, List.getElem?_eq_getElem (by omega)⟩
      have hx1b := row_lt (h.fact 0 rfl) _ (List.mem_of_getElem? hx1)
      refine seq_ ?_
      refine reg_ ?_
      refine st_cmp h rfl rfl rfl rfl fun a h => ?_
      refine wpList_nil ?_
      refine seq_ ?_
      refine cond_t h rfl (by simp; omega) ?_
      refine wp_skip ?_
      refine seq_ ?_
      refine wp_block ?_
      refine seq_ ?_
      refine reg_ ?_
      refine st_move h rfl rfl fun a h => ?_
      refine st_indexI (i) h rfl rfl Tryz.runUnderlying53 Tryz.sizeOf276 (rfl) (by omega) rfl fun a h => ?_
      refine st_load h rfl Tryz.isAgg276 (row_cell (h.fact 0 rfl) hx1) rfl fun a h => ?_
      refine st_assign h rfl rfl fun a h => ?_
      refine st_assign h rfl rfl fun a h => ?_
      refine wpList_nil ?_
      refine seq_ ?_
      refine reg_ ?_
      refine st_move h rfl rfl fun a h => ?_
      refine st_to64 (p := x1) h rfl (by omega) Tryz.runUnderlying276 Tryz.runUnderlying317 rfl fun a h => ?_
      refine st_move h rfl rfl fun a h => ?_
      refine st_subN (p := x1) (q := cy) h rfl rfl (by omega) rfl fun a h => ?_
      refine st_assign h rfl rfl fun a h => ?_
      refine wpList_nil ?_
      refine seq_ ?_
      refine seq_ ?_
      refine reg_ ?_
      refine st_move h rfl rfl fun a h => ?_
      refine st_move h rfl rfl fun a h => ?_
      refine st_len h rfl Tryz.runUnderlying53 rfl fun a h => ?_
      refine st_cmp h rfl rfl rfl rfl fun a h => ?_
      refine wpList_nil ?_
      refine cond_ h rfl (fun hb_if3 => ?_) (fun hb_if3 => ?_)
      · try simp only [decide_eq_true_eq, decide_eq_false_iff_not, Bool.not_eq_true', Bool.not_eq_false'] at hb_if3
        obtain ⟨b2, o2, rfl, _, _, _⟩ := row_get (h.fact 1 rfl) (i := i) (by omega)
        obtain ⟨y1, hy1⟩ : ∃ y, r[i]? = some y := ⟨_, List.getElem?_eq_getElem (by omega)⟩
        have hy1b := row_lt (h.fact 1 rfl) _ (List.mem_of_getElem? hy1)
        refine reg_ ?_
        refine st_move h rfl rfl fun a h => ?_
        refine st_move h rfl rfl fun a h => ?_
        refine st_move h rfl rfl fun a h => ?_
        refine st_indexI (i) h rfl rfl Tryz.runUnderlying53 Tryz.sizeOf276 (rfl) (by omega) rfl fun a h => ?_
        refine st_load h rfl Tryz.isAgg276 (row_cell (h.fact 1 rfl) hy1) rfl fun a h => ?_
        refine st_to64 (p := y1) h rfl (by omega) Tryz.runUnderlying276 Tryz.runUnderlying317 rfl fun a h => ?_
        refine st_subN (p := (x1 + 18446744073709551616 - (cy)) % 18446744073709551616) (q := y1) h rfl rfl (by omega) rfl fun a h => ?_
        refine st_assign h rfl rfl fun a h => ?_
        refine wpList_nil ?_
        refine reg_ ?_
        refine st_move h rfl rfl fun a h => ?_
        refine st_move h rfl rfl fun a h => ?_
        refine st_move h rfl rfl fun a h => ?_
        refine st_to32 (p := ((x1 + 18446744073709551616 - (cy)) % 18446744073709551616 + 18446744073709551616 - (y1)) % 18446744073709551616) h rfl Tryz.runUnderlying317 Tryz.runUnderlying276 rfl fun a h => ?_
        refine st_move h rfl rfl fun a h => ?_
        refine st_shrN (p := ((x1 + 18446744073709551616 - (cy)) % 18446744073709551616 + 18446744073709551616 - (y1)) % 18446744073709551616) (m := 63) h rfl rfl (by omega) rfl fun a h => ?_
        refine st_indexI (i) h rfl rfl Tryz.runUnderlying53 Tryz.sizeOf276 (rfl) (by omega) rfl fun a h => ?_
        refine st_storeU (i := i) h rfl rfl Tryz.sizeOf276 (by omega) fun w h => ?_
        refine st_assign h rfl rfl fun a h => ?_
        refine wpList_nil ?_
        refine reg_ ?_
        refine st_addI h rfl rfl (by omega) rfl fun a h => ?_
        refine st_move h rfl rfl fun a h => ?_
        refine wpList_nil ?_
        have hstep := sub_step (o := o) (l := l) (r := r) (i := i) (x := x1) (y := y1) (s := ((x1 + 18446744073709551616 - (cy)) % 18446744073709551616 + 18446744073709551616 - (y1)) % 18446744073709551616) (b := cy) (by omega) hx1 (.inl hy1) hx1b (by omega) hp2 hp4 (by omega)
        rw [show (9223372036854775808 : Nat) = 2 ^ 63 from by decide] at hstep
        refine ⟨_, ?_, i + 1, o.set i ((((x1 + 18446744073709551616 - (cy)) % 18446744073709551616 + 18446744073709551616 - (y1)) % 18446744073709551616) % 4294967296), (((x1 + 18446744073709551616 - (cy)) % 18446744073709551616 + 18446744073709551616 - (y1)) % 18446744073709551616) / 2 ^ 63, by omega, by rw [List.length_set]; omega, hstep.2, set_lt hp3 _ _ (by omega), hstep.1, rfl, (((h.consL (t := 0) rfl (h.consL (t := 1) rfl (h.consL (t := 6) rfl (h.consL (t := 7) rfl (h.consL (t := 22) rfl (h.consL (t := 23) rfl (h.consL (t := 24) rfl h.nilL))))))).noFacts.add (h.fact 1 rfl)).add (h.fact 0 rfl))⟩
        omega
      · try simp only [decide_eq_true_eq, decide_eq_false_iff_not, Bool.not_eq_true', Bool.not_eq_false'] at hb_if3
        refine wp_skip ?_
        refine reg_ ?_
        refine st_move h rfl rfl fun a h => ?_
        refine st_move h rfl rfl fun a h => ?_
        refine st_move h rfl rfl fun a h => ?_
        refine st_to32 (p := (x1 + 18446744073709551616 - (cy)) % 18446744073709551616) h rfl Tryz.runUnderlying317 Tryz.runUnderlying276 rfl fun a h => ?_
        refine st_move h rfl rfl fun a h => ?_
        refine st_shrN (p := (x1 + 18446744073709551616 - (cy)) % 18446744073709551616) (m := 63) h rfl rfl (by omega) rfl fun a h => ?_
        refine st_indexI (i) h rfl rfl Tryz.runUnderlying53 Tryz.sizeOf276 (rfl) (by omega) rfl fun a h => ?_
        refine st_storeU (i := i) h rfl rfl Tryz.sizeOf276 (by omega) fun w h => ?_
        refine st_assign h rfl rfl fun a h => ?_
        refine wpList_nil ?_
        refine reg_ ?_
        refine st_addI h rfl rfl (by omega) rfl fun a h => ?_
        refine st_move h rfl rfl fun a h => ?_
        refine wpList_nil ?_
        have hstep := sub_step (o := o) (l := l) (r := r) (i := i) (x := x1) (y := 0) (s := (x1 + 18446744073709551616 - (cy)) % 18446744073709551616) (b := cy) (by omega) hx1 (.inr ⟨by omega, rfl⟩) hx1b (by omega) hp2 hp4 (by omega)
        rw [show (9223372036854775808 : Nat) = 2 ^ 63 from by decide] at hstep
        refine ⟨_, ?_, i + 1, o.set i (((x1 + 18446744073709551616 - (cy)) % 18446744073709551616) % 4294967296), ((x1 + 18446744073709551616 - (cy)) % 18446744073709551616) / 2 ^ 63, by omega, by rw [List.length_set]; omega, hstep.2, set_lt hp3 _ _ (by omega), hstep.1, rfl, (((h.consL (t := 0) rfl (h.consL (t := 1) rfl (h.consL (t := 6) rfl (h.consL (t := 7) rfl (h.consL (t := 22) rfl (h.consL (t := 23) rfl (h.consL (t := 24) rfl h.nilL))))))).noFacts.add (h.fact 1 rfl)).add (h.fact 0 rfl))⟩
        omega
    · skip
      refine seq_ ?_
      refine reg_ ?_
      refine st_cmp h rfl rfl rfl rfl fun a h => ?_
      refine wpList_nil ?_
      refine seq_ ?_
      refine cond_f h rfl (by simp; omega) ?_
      refine wp_exit ?_
      repeat refine then_exit ?_
      refine inBlock_exit ?_
      refine seq_ ?_
      refine reg_ ?_
      refine st_move h rfl rfl fun a h => ?_
      have hie : i = n2 := by omega
      have hlo := val_lt o hp3
      have hlr := val_lt r hr2.1
      have hll := val_lt l hl2.1
      have hle : y ≤ x := by unfold cmpN at hb_if1; split at hb_if1 <;> omega
      have hnl : r.length ≤ l.length := by
        apply Classical.byContradiction; intro hno
        have := nrm_lt_of_len hl2 hr2 (by omega); omega
      have hfin : val o = x - y := by
        rw [List.take_of_length_le (l := o) (by omega), List.take_of_length_le (l := l) (by omega), List.take_of_length_le (l := r) (by omega), hl3, hr3] at hp4
        have hc : cy = 0 := by
          apply Classical.byContradiction; intro hc
          have hc1 : cy = 1 := by omega
          rw [hc1, hie, show n2 = o.length from by omega, Nat.one_mul] at hp4
          omega
        rw [hc, Nat.zero_mul] at hp4; omega
      have hrow := own_row32 (r := o) n2 h (fun _ _ => rfl) hp3 (by omega) (by omega) (by omega)
      rw [hp1] at hrow
      replace h := h.publish
      have h := h.add (f := Rel.natA.fact [.slice (some ⟨g11, 0, none⟩) n2 n2] (x - y)) ⟨_, hrow, hp3, hfin⟩
      refine st_call h Tryz.func309 rfl rfl rfl (limb_cut _ _ (fun b => h.owns_lt) (h.fact 0 rfl)) rfl fun r w a hg hF h => ?_
      obtain ⟨A12, n13, c14, e16, f15⟩ := hF
      subst e16
      have h := h.add (f := (Rel.natN).fact [(.slice A12 n13 c14)] ((x - y))) f15
      refine st_assign h rfl rfl fun a h => ?_
      refine st_assign h rfl rfl fun a h => ?_
      refine wpList_nil ?_
      refine wp_ret ?_
      rw [if_pos hle]
      exact ret2 Tryz.results321 h (resv_tmp h rfl) (resv_tmp h rfl) ⟨_, rfl, h.grow0, _, _, rfl, ⟨_, _, _, rfl, h.out 0 rfl⟩, rfl⟩

set_option maxHeartbeats 1000000 in
theorem limb_Mul (hO : ∀ b, Ob b → b < W.heap.size) {A : Option Addr} {n c x : Nat} {A' : Option Addr} {n' c' y : Nat} (hx0 : Rel.natA.at_ W Ob [.slice A n c] x) (hx1 : Rel.natA.at_ W Ob [.slice A' n' c'] y) (hsx : sz x ≤ 4294967296) (hsy : sz y ≤ 4294967296) :
    Calls Tryz.prog 250 #[.slice A n c, .slice A' n' c'] W (Ret W Ob (Rel.natN.sliceF (x * y))) := by

  refine enter (vs := [(.slice A n c), (.slice A' n' c')]) (Ob := Ob) (K := fun b => b < W.heap.size) (Fs := [(Rel.natA).fact [.slice A n c] (x), (Rel.natA).fact [(.slice A' n' c')] (y)]) Tryz.func250 rfl Tryz.ntmps250 rfl (fun _ h => h) hO (by simp only [List.mem_cons, List.not_mem_nil, or_false, forall_eq_or_imp, forall_eq, false_imp_iff, implies_true]; exact ⟨hx0, hx1⟩) fun a h => ?_
  refine seq_ ?_
  refine reg_ ?_
  refine st_assign h rfl rfl fun a h => ?_
  refine wpList_nil ?_
  refine seq_ ?_
  refine reg_ ?_
  refine st_move h rfl rfl fun a h => ?_
  refine st_call h Tryz.func309 rfl rfl rfl (limb_cut _ _ (fun b => h.owns_lt) (h.fact 0 rfl)) rfl fun r w a hg hF h => ?_
  obtain ⟨A1, n2, c3, e5, f4⟩ := hF
  subst e5
  have h := h.add (f := (Rel.natN).fact [(.slice A1 n2 c3)] (x)) f4
  refine st_move h rfl rfl fun a h => ?_
  refine st_call h Tryz.func309 rfl rfl rfl (limb_cut _ _ (fun b => h.owns_lt) (h.fact 2 rfl)) rfl fun r w a hg hF h => ?_
  obtain ⟨A6, n7, c8, e10, f9⟩ := hF
  subst e10
  have h := h.add (f := (Rel.natN).fact [(.slice A6 n7 c8)] (y)) f9
  refine st_assign h rfl rfl fun a h => ?_
  refine st_assign h rfl rfl fun a h => ?_
  refine wpList_nil ?_
  refine seq_ ?_
  refine reg_ ?_
  refine st_move h rfl rfl fun a h => ?_
  refine st_len h rfl Tryz.runUnderlying53 rfl fun a h => ?_
  refine st_move h rfl rfl fun a h => ?_
  refine st_len h rfl Tryz.runUnderlying53 rfl fun a h => ?_
  obtain ⟨l, hl1, hl2, hl3⟩ := h.fact 1 rfl
  obtain ⟨r, hr1, hr2, hr3⟩ := h.fact 0 rfl
  have h := h.add (f := Rel.row32.fact [(.slice A1 n2 c3)] l) hl1
  obtain ⟨el, _, _⟩ := row_open hl1
  have h := h.add (f := Rel.row32.fact [(.slice A6 n7 c8)] r) hr1
  obtain ⟨er, _, _⟩ := row_open hr1
  have hszl := nrm_len hl2
  have hszr := nrm_len hr2
  rw [hl3] at hszl
  rw [hr3] at hszr
  have h38 : (2 : Nat) ^ 38 = 274877906944 := by decide
  have h47 : (2 : Nat) ^ 47 = 140737488355328 := by decide
  have h63 : (2 : Nat) ^ 63 = 9223372036854775808 := by decide
  refine st_addI h rfl rfl (by omega) rfl fun a h => ?_
  refine st_make (m := (n2 + n7)) (zs := [(.int .u32 0)]) h (rfl) (rfl) Tryz.runUnderlying53 Tryz.typeInfo276 rfl Tryz.sizeOf276 Tryz.zeroValue276 rfl rfl (by omega) rfl fun g11 w a h => ?_
  replace h := h.respellB (reps_u32s _)
  refine st_assign h rfl rfl fun a h => ?_
  refine wpList_nil ?_
  refine seq_ ?_
  refine seq_ ?_
  refine reg_ ?_
  refine st_move h rfl rfl fun a h => ?_
  refine st_len h rfl Tryz.runUnderlying53 rfl fun a h => ?_
  refine st_move h rfl rfl fun a h => ?_
  refine wpList_nil ?_
  refine wp_block ?_
  refine loop_ (fun m a w' => ∃ i o, i ≤ n2 ∧ o.length = (n2 + n7) ∧ (∀ x ∈ o, x < 4294967296) ∧ (∀ j, i + n7 ≤ j → j < (n2 + n7) → o[j]? = some 0) ∧ val o = val (l.take i) * val r ∧ m = n2 - i ∧ St (fun b => b < W.heap.size) Ob W w' a 75 [(0, (.slice A1 n2 c3)), (1, (.slice A6 n7 c8)), (5, (.slice (some ⟨g11, 0, none⟩) (n2 + n7) (n2 + n7))), (22, (.slice A1 n2 c3)), (23, (.int .i64 (n2 : Int))), (24, (.int .i64 (i : Int)))] [(Rel.row32).fact [(.slice A1 n2 c3)] (l), (Rel.row32).fact [(.slice A6 n7 c8)] (r)] [(g11, 276, u32s o)]) (m := _) (⟨0, List.replicate (n2 + n7) 0, by omega, by simp, by simp, fun j h1 h2 => by rw [List.getElem?_replicate, if_pos h2], by simp [val, val_zeros], rfl, (((h.consL (t := 0) rfl (h.consL (t := 1) rfl (h.consL (t := 5) rfl (h.consL (t := 22) rfl (h.consL (t := 23) rfl (h.consL (t := 24) rfl h.nilL)))))).noFacts.add (h.fact 0 rfl)).add (h.fact 1 rfl))⟩) ?_
  clear h
  rintro m a w ⟨i, o, hp0, hp1, hp2, hp3, hp4, hm, h⟩
  by_cases hlt : i < n2
  · obtain ⟨b1, o1, rfl, _, _, _⟩ := row_get (h.fact 0 rfl) (i := i) (by omega)
    obtain ⟨x1, hx1⟩ : ∃ x, l[i]? = some x := ⟨_, List.getElem?_eq_getElem (by omega)⟩
    have hx1b := row_lt (h.fact 0 rfl) _ (List.mem_of_getElem? hx1)
    refine seq_ ?_
    refine reg_ ?_
    refine st_cmp h rfl rfl rfl rfl fun a h => ?_
    refine wpList_nil ?_
    refine seq_ ?_
    refine cond_t h rfl (by simp; omega) ?_
    refine wp_skip ?_
    refine seq_ ?_
    refine wp_block ?_
    refine seq_ ?_
    refine reg_ ?_
    refine st_move h rfl rfl fun a h => ?_
    refine st_indexI (i) h rfl rfl Tryz.runUnderlying53 Tryz.sizeOf276 (rfl) (by omega) rfl fun a h => ?_
    refine st_load h rfl Tryz.isAgg276 (row_cell (h.fact 0 rfl) hx1) rfl fun a h => ?_
    refine st_assign h rfl rfl fun a h => ?_
    refine st_assign h rfl rfl fun a h => ?_
    refine wpList_nil ?_
    refine seq_ ?_
    refine reg_ ?_
    refine st_assign h rfl rfl fun a h => ?_
    refine wpList_nil ?_
    refine seq_ ?_
    refine seq_ ?_
    refine reg_ ?_
    refine st_move h rfl rfl fun a h => ?_
    refine st_len h rfl Tryz.runUnderlying53 rfl fun a h => ?_
    refine st_move h rfl rfl fun a h => ?_
    refine wpList_nil ?_
    refine wp_block ?_
    refine loop_ (fun m a w' => ∃ k o' cy, k ≤ n7 ∧ o'.length = (n2 + n7) ∧ cy < 4294967296 ∧ (∀ x ∈ o', x < 4294967296) ∧ (∀ j, i + n7 ≤ j → j < (n2 + n7) → o'[j]? = some 0) ∧ val o' + cy * 4294967296 ^ (i + k) = val (l.take i) * val r + 4294967296 ^ i * x1 * val (r.take k) ∧ m = n7 - k ∧ St (fun b => b < W.heap.size) Ob W w' a 75 [(0, (.slice (some ⟨b1, o1, none⟩) n2 c3)), (1, (.slice A6 n7 c8)), (5, (.slice (some ⟨g11, 0, none⟩) (n2 + n7) (n2 + n7))), (22, (.slice (some ⟨b1, o1, none⟩) n2 c3)), (23, (.int .i64 (n2 : Int))), (24, (.int .i64 (i : Int))), (6, (.int .i64 (i : Int))), (7, (.int .u32 (x1 : Int))), (8, (.int .u64 ((cy : Nat) : Int))), (29, (.slice A6 n7 c8)), (30, (.int .i64 (n7 : Int))), (31, (.int .i64 (k : Int)))] [(Rel.row32).fact [(.slice (some ⟨b1, o1, none⟩) n2 c3)] (l), (Rel.row32).fact [(.slice A6 n7 c8)] (r)] [(g11, 276, u32s o')]) (m := _) (⟨0, o, 0, by omega, hp1, by omega, hp2, hp3, by simp [hp4, val], rfl, (((h.consL (t := 0) rfl (h.consL (t := 1) rfl (h.consL (t := 5) rfl (h.consL (t := 22) rfl (h.consL (t := 23) rfl (h.consL (t := 24) rfl (h.consL (t := 6) rfl (h.consL (t := 7) rfl (h.consL (t := 8) rfl (h.consL (t := 29) rfl (h.consL (t := 30) rfl (h.consL (t := 31) rfl h.nilL)))))))))))).noFacts.add (h.fact 1 rfl)).add (h.fact 0 rfl))⟩) ?_
    clear h
    rintro m a w ⟨k, o', cy, hq0, hq1, hq2, hq3, hq4, hq5, hm2, h⟩
    by_cases hlt2 : k < n7
    · obtain ⟨b2, o2, rfl, _, _, _⟩ := row_get (h.fact 1 rfl) (i := k) (by omega)
      obtain ⟨y1, hy1⟩ : ∃ y, r[k]? = some y := ⟨_, List.getElem?_eq_getElem (by omega)⟩
      have hy1b := row_lt (h.fact 1 rfl) _ (List.mem_of_getElem? hy1)
      obtain ⟨z1, hz1⟩ : ∃ z, o'[i + k]? = some z := ⟨_, List.getElem?_eq_getElem (by omega)⟩
      have hz1b := hq3 _ (List.mem_of_getElem? hz1)
      have hxy := mul_le_limb hx1b hy1b
      refine seq_ ?_
      refine reg_ ?_
      refine st_cmp h rfl rfl rfl rfl fun a h => ?_
      refine wpList_nil ?_
      refine seq_ ?_
      refine cond_t h rfl (by simp; omega) ?_
      refine wp_skip ?_
      refine seq_ ?_
      refine wp_block ?_
      refine seq_ ?_
      refine reg_ ?_
      refine st_move h rfl rfl fun a h => ?_
      refine st_indexI (k) h rfl rfl Tryz.runUnderlying53 Tryz.sizeOf276 (rfl) (by omega) rfl fun a h => ?_
      refine st_load h rfl Tryz.isAgg276 (row_cell (h.fact 1 rfl) hy1) rfl fun a h => ?_
      refine st_assign h rfl rfl fun a h => ?_
      refine st_assign h rfl rfl fun a h => ?_
      refine wpList_nil ?_
      refine seq_ ?_
      refine reg_ ?_
      refine st_move h rfl rfl fun a h => ?_
      refine st_to64 (p := x1) h rfl (by omega) Tryz.runUnderlying276 Tryz.runUnderlying317 rfl fun a h => ?_
      refine st_move h rfl rfl fun a h => ?_
      refine st_to64 (p := y1) h rfl (by omega) Tryz.runUnderlying276 Tryz.runUnderlying317 rfl fun a h => ?_
      refine st_mulN (p := x1) (q := y1) h rfl rfl (by omega) rfl fun a h => ?_
      refine st_move h rfl rfl fun a h => ?_
      refine st_move h rfl rfl fun a h => ?_
      refine st_move h rfl rfl fun a h => ?_
      refine st_addI h rfl rfl (by omega) rfl fun a h => ?_
      refine st_indexI (i + k) h rfl rfl Tryz.runUnderlying53 Tryz.sizeOf276 (by omega) (by omega) rfl fun a h => ?_
      refine st_load h rfl Tryz.isAgg276 (h.u32s_cell hz1) rfl fun a h => ?_
      refine st_to64 (p := z1) h rfl (by omega) Tryz.runUnderlying276 Tryz.runUnderlying317 rfl fun a h => ?_
      refine st_addN (p := x1 * y1) (q := z1) h rfl rfl (by omega) rfl fun a h => ?_
      refine st_move h rfl rfl fun a h => ?_
      refine st_addN (p := (x1 * y1) + z1) (q := cy) h rfl rfl (by omega) rfl fun a h => ?_
      refine st_assign h rfl rfl fun a h => ?_
      refine wpList_nil ?_
      refine reg_ ?_
      refine st_move h rfl rfl fun a h => ?_
      refine st_move h rfl rfl fun a h => ?_
      refine st_move h rfl rfl fun a h => ?_
      refine st_addI h rfl rfl (by omega) rfl fun a h => ?_
      refine st_move h rfl rfl fun a h => ?_
      refine st_to32 (p := ((x1 * y1) + z1) + cy) h rfl Tryz.runUnderlying317 Tryz.runUnderlying276 rfl fun a h => ?_
      refine st_move h rfl rfl fun a h => ?_
      refine st_shrN (p := ((x1 * y1) + z1) + cy) (m := 32) h rfl rfl (by omega) rfl fun a h => ?_
      refine st_indexI (i + k) h rfl rfl Tryz.runUnderlying53 Tryz.sizeOf276 (by omega) (by omega) rfl fun a h => ?_
      refine st_storeU (i := i + k) h rfl rfl Tryz.sizeOf276 (by omega) fun w h => ?_
      refine st_assign h rfl rfl fun a h => ?_
      refine wpList_nil ?_
      refine reg_ ?_
      refine st_addI h rfl rfl (by omega) rfl fun a h => ?_
      refine st_move h rfl rfl fun a h => ?_
      refine wpList_nil ?_
      have hstep := mul_step (s := ((x1 * y1) + z1) + cy) (r := r) (x := x1) (y := y1) hz1 hy1 hq5 (by omega)
      rw [show (((x1 * y1) + z1) + cy) / 4294967296 = (((x1 * y1) + z1) + cy) / 2 ^ 32 from by rw [show (2 : Nat) ^ 32 = 4294967296 from by decide]] at hstep
      refine ⟨_, ?_, k + 1, o'.set (i + k) ((((x1 * y1) + z1) + cy) % 4294967296), (((x1 * y1) + z1) + cy) / 2 ^ 32, by omega, by rw [List.length_set]; omega, by omega, set_lt hq3 _ _ (by omega), fun j h1 h2 => by rw [List.getElem?_set_ne (by omega)]; exact hq4 j h1 h2, hstep, rfl, (((h.consL (t := 0) rfl (h.consL (t := 1) rfl (h.consL (t := 5) rfl (h.consL (t := 22) rfl (h.consL (t := 23) rfl (h.consL (t := 24) rfl (h.consL (t := 6) rfl (h.consL (t := 7) rfl (h.consL (t := 8) rfl (h.consL (t := 29) rfl (h.consL (t := 30) rfl (h.consL (t := 31) rfl h.nilL)))))))))))).noFacts.add (h.fact 1 rfl)).add (h.fact 0 rfl))⟩
      omega
    · skip
      refine seq_ ?_
      refine reg_ ?_
      refine st_cmp h rfl rfl rfl rfl fun a h => ?_
      refine wpList_nil ?_
      refine seq_ ?_
      refine cond_f h rfl (by simp; omega) ?_
      refine wp_exit ?_
      repeat refine then_exit ?_
      refine inBlock_exit ?_
      refine seq_ ?_
      refine reg_ ?_
      refine st_move h rfl rfl fun a h => ?_
      refine st_len h rfl Tryz.runUnderlying53 rfl fun a h => ?_
      refine st_cmp h rfl rfl rfl rfl fun a h => ?_
      refine wpList_nil ?_
      refine cond_ h rfl (fun hb_if3 => ?_) (fun hb_if3 => ?_)
      · try simp only [decide_eq_true_eq, decide_eq_false_iff_not, Bool.not_eq_true', Bool.not_eq_false'] at hb_if3
        have hkk : k = r.length := by omega
        subst hkk
        refine reg_ ?_
        refine st_move h rfl rfl fun a h => ?_
        refine st_move h rfl rfl fun a h => ?_
        refine st_move h rfl rfl fun a h => ?_
        refine st_len h rfl Tryz.runUnderlying53 rfl fun a h => ?_
        refine st_addI h rfl rfl (by omega) rfl fun a h => ?_
        refine st_move h rfl rfl fun a h => ?_
        refine st_to32 (p := cy) h rfl Tryz.runUnderlying317 Tryz.runUnderlying276 rfl fun a h => ?_
        refine st_indexI (i + n7) h rfl rfl Tryz.runUnderlying53 Tryz.sizeOf276 (by omega) (by omega) rfl fun a h => ?_
        refine st_storeU (i := i + n7) h rfl rfl Tryz.sizeOf276 (by omega) fun w h => ?_
        refine wpList_nil ?_
        refine reg_ ?_
        refine st_addI h rfl rfl (by omega) rfl fun a h => ?_
        refine st_move h rfl rfl fun a h => ?_
        refine wpList_nil ?_
        refine ⟨_, ?_, i + 1, o'.set (i + n7) (cy % 4294967296), by omega, by rw [List.length_set]; omega, set_lt hq3 _ _ (by omega), fun j h1 h2 => by rw [List.getElem?_set_ne (by omega)]; exact hq4 j (by omega) h2, by rw [er]; exact mul_last (by rw [← er]; exact hq4 _ (by omega) (by omega)) hx1 hq2 rfl hq5, rfl, (((h.consL (t := 0) rfl (h.consL (t := 1) rfl (h.consL (t := 5) rfl (h.consL (t := 22) rfl (h.consL (t := 23) rfl (h.consL (t := 24) rfl h.nilL)))))).noFacts.add (h.fact 1 rfl)).add (h.fact 0 rfl))⟩
        omega
      · try simp only [decide_eq_true_eq, decide_eq_false_iff_not, Bool.not_eq_true', Bool.not_eq_false'] at hb_if3
        refine wp_skip ?_
        refine reg_ ?_
        refine st_addI h rfl rfl (by omega) rfl fun a h => ?_
        refine st_move h rfl rfl fun a h => ?_
        refine wpList_nil ?_
        have hr0 : r = [] := List.eq_nil_of_length_eq_zero (by omega)
        refine ⟨_, ?_, i + 1, o', by omega, hq1, hq3, fun j h1 h2 => hq4 j (by omega) h2, by rw [hr0] at hq5 ⊢; simp only [List.take_nil, val, Nat.mul_zero, Nat.zero_add] at hq5 ⊢; omega, rfl, (((h.consL (t := 0) rfl (h.consL (t := 1) rfl (h.consL (t := 5) rfl (h.consL (t := 22) rfl (h.consL (t := 23) rfl (h.consL (t := 24) rfl h.nilL)))))).noFacts.add (h.fact 1 rfl)).add (h.fact 0 rfl))⟩
        omega
  · skip
    refine seq_ ?_
    refine reg_ ?_
    refine st_cmp h rfl rfl rfl rfl fun a h => ?_
    refine wpList_nil ?_
    refine seq_ ?_
    refine cond_f h rfl (by simp; omega) ?_
    refine wp_exit ?_
    repeat refine then_exit ?_
    refine inBlock_exit ?_
    refine seq_ ?_
    refine reg_ ?_
    refine st_move h rfl rfl fun a h => ?_
    have hfin : val o = x * y := by
      rw [List.take_of_length_le (l := l) (by omega), hl3, hr3] at hp4; exact hp4
    have hrow := own_row32 (r := o) (n2 + n7) h (fun _ _ => rfl) hp2 (by omega) (by omega) (by omega)
    rw [hp1] at hrow
    replace h := h.publish
    have h := h.add (f := Rel.natA.fact [.slice (some ⟨g11, 0, none⟩) (n2 + n7) (n2 + n7)] (x * y)) ⟨_, hrow, hp2, hfin⟩
    refine st_call h Tryz.func309 rfl rfl rfl (limb_cut _ _ (fun b => h.owns_lt) (h.fact 0 rfl)) rfl fun r w a hg hF h => ?_
    obtain ⟨A12, n13, c14, e16, f15⟩ := hF
    subst e16
    have h := h.add (f := (Rel.natN).fact [(.slice A12 n13 c14)] ((x * y))) f15
    refine st_assign h rfl rfl fun a h => ?_
    refine wpList_nil ?_
    refine wp_ret ?_
    exact ret1 Tryz.results250 h (resv_tmp h rfl) ⟨_, rfl, h.grow0, _, _, _, rfl, h.out 0 rfl⟩

set_option maxHeartbeats 1000000 in
theorem limb_one (hO : ∀ b, Ob b → b < W.heap.size) {A : Option Addr} {n c x v : Nat} {l : List Nat} (hx0 : Rel.row32.at_ W Ob [.slice A n c] l) (hv : val l = x) (hl : n < 274877906944) (hv0 : 0 < v) (hvb : v < 4294967296) :
    Calls Tryz.prog 332 #[.slice A n c, .int .u32 (v : Int)] W (Ret W Ob (tup2 (Rel.natN.sliceF (x / v)) (eqF (.int .u32 ((x % v : Nat) : Int))))) := by
  obtain ⟨en, _, _⟩ := row_open hx0
  refine enter (vs := [(.slice A n c), (.int .u32 (v : Int))]) (Ob := Ob) (K := fun b => b < W.heap.size) (Fs := [(Rel.row32).fact [.slice A n c] (l)]) Tryz.func332 rfl Tryz.ntmps332 rfl (fun _ h => h) hO (by simp only [List.mem_cons, List.not_mem_nil, or_false, forall_eq_or_imp, forall_eq, false_imp_iff, implies_true]; exact hx0) fun a h => ?_
  refine seq_ ?_
  refine reg_ ?_
  refine st_assign h rfl rfl fun a h => ?_
  refine st_assign h rfl rfl fun a h => ?_
  refine wpList_nil ?_
  refine seq_ ?_
  refine reg_ ?_
  refine st_move h rfl rfl fun a h => ?_
  refine st_len h rfl Tryz.runUnderlying53 rfl fun a h => ?_
  have h38 : (2 : Nat) ^ 38 = 274877906944 := by decide
  have h47 : (2 : Nat) ^ 47 = 140737488355328 := by decide
  have h63 : (2 : Nat) ^ 63 = 9223372036854775808 := by decide
  refine st_make (m := n) (zs := [(.int .u32 0)]) h (rfl) (rfl) Tryz.runUnderlying53 Tryz.typeInfo276 rfl Tryz.sizeOf276 Tryz.zeroValue276 rfl rfl (by omega) rfl fun g1 w a h => ?_
  replace h := h.respellB (reps_u32s _)
  refine st_assign h rfl rfl fun a h => ?_
  refine wpList_nil ?_
  refine seq_ ?_
  refine reg_ ?_
  refine st_assign h rfl rfl fun a h => ?_
  refine wpList_nil ?_
  refine seq_ ?_
  refine seq_ ?_
  refine reg_ ?_
  refine st_move h rfl rfl fun a h => ?_
  refine st_len h rfl Tryz.runUnderlying53 rfl fun a h => ?_
  refine st_subI h rfl rfl (by omega) rfl fun a h => ?_
  refine st_assign h rfl rfl fun a h => ?_
  refine wpList_nil ?_
  refine wp_block ?_
  refine loop_ (fun m a w' => ∃ k o r, k ≤ n ∧ o.length = n ∧ r < v ∧ (∀ x ∈ o, x < 4294967296) ∧ val (l.drop k) = v * val (o.drop k) + r ∧ m = k ∧ St (fun b => b < W.heap.size) Ob W w' a 44 [(0, (.slice A n c)), (1, (.int .u32 (v : Int))), (6, (.slice (some ⟨g1, 0, none⟩) n n)), (7, (.int .u64 ((r : Nat) : Int))), (8, (.int .i64 ((k : Int) - 1)))] [(Rel.row32).fact [.slice A n c] (l)] [(g1, 276, u32s o)]) (m := _) (⟨n, List.replicate n 0, 0, by omega, by simp, by omega, by simp, by rw [List.drop_eq_nil_of_le (by omega), List.drop_eq_nil_of_le (by simp)]; simp [val], rfl, ((h.consL (t := 0) rfl (h.consL (t := 1) rfl (h.consL (t := 6) rfl (h.consL (t := 7) rfl (h.consL (t := 8) rfl h.nilL))))).noFacts.add (h.fact 0 rfl))⟩) ?_
  clear h
  rintro m a w ⟨k, o, r, hp0, hp1, hp2, hp3, hp4, hm, h⟩
  by_cases h0 : 0 < k
  · obtain ⟨k, rfl⟩ : ∃ j, k = j + 1 := ⟨k - 1, by omega⟩
    obtain ⟨b1, o1, rfl, _, _, _⟩ := row_get (h.fact 0 rfl) (i := k) (by omega)
    obtain ⟨x1, hx1⟩ : ∃ x, l[k]? = some x := ⟨_, List.getElem?_eq_getElem (by omega)⟩
    have hx1b := row_lt (h.fact 0 rfl) _ (List.mem_of_getElem? hx1)
    replace h := ((h.consL (t := 0) rfl (h.consL (t := 1) rfl (h.consL (t := 6) rfl (h.consL (t := 7) rfl ((h.consL (t := 8) rfl h.nilL).respell (show Value.int .i64 _ = .int .i64 (k : Int) by congr 1; omega)))))))
    refine seq_ ?_
    refine seq_ ?_
    refine reg_ ?_
    refine st_move h rfl rfl fun a h => ?_
    refine st_cmp h rfl rfl rfl rfl fun a h => ?_
    refine wpList_nil ?_
    refine cond_t h rfl (by simp) ?_
    refine wp_skip ?_
    refine seq_ ?_
    refine wp_block ?_
    refine seq_ ?_
    refine reg_ ?_
    refine st_move h rfl rfl fun a h => ?_
    refine st_shlN (p := r) (m := 32) h rfl rfl (by omega) (by omega) rfl fun a h => ?_
    refine st_move h rfl rfl fun a h => ?_
    refine st_move h rfl rfl fun a h => ?_
    refine st_indexI (k) h rfl rfl Tryz.runUnderlying53 Tryz.sizeOf276 (rfl) (by omega) rfl fun a h => ?_
    refine st_load h rfl Tryz.isAgg276 (row_cell (h.fact 0 rfl) hx1) rfl fun a h => ?_
    refine st_to64 (p := x1) h rfl (by omega) Tryz.runUnderlying276 Tryz.runUnderlying317 rfl fun a h => ?_
    refine st_orN (k' := r) (p := (r) * 2 ^ 32) (q := x1) h rfl rfl (by omega) (by omega) (by omega) rfl fun a h => ?_
    refine st_assign h rfl rfl fun a h => ?_
    refine wpList_nil ?_
    refine draw_ mixed_ 13 [some 28, some 29, some 30, some 31, some 32, some 33, some 34, some 35, some 36, some 37, some 38, some 39, none] [[], [], [], [], [3], [2, 4], [5], [], [], [8], [7, 9], [0, 1], [6, 11]] [(eqF (.slice (some ⟨g1, 0, none⟩) n n)), (eqF (.int .i64 (k : Int))), (eqF (.int .u64 ((((r) * 2 ^ 32) + x1 : Nat) : Int))), (eqF (.int .u32 (v : Int))), (eqF (.int .u64 ((v : Nat) : Int))), (eqF (.int .u64 (((((r) * 2 ^ 32) + x1) / v : Nat) : Int))), (eqF (.int .u32 ((((((r) * 2 ^ 32) + x1) / v) % 4294967296 : Nat) : Int))), (eqF (.int .u64 ((((r) * 2 ^ 32) + x1 : Nat) : Int))), (eqF (.int .u32 (v : Int))), (eqF (.int .u64 ((v : Nat) : Int))), (eqF (.int .u64 (((((r) * 2 ^ 32) + x1) % v : Nat) : Int))), (eqF (.pointer (some ⟨g1, (0 + (k) * 1), none⟩))), noF] (fun p _ => [(g1, 276, u32s (cond (p 12) (o.set k (((r * 2 ^ 32) + x1) / v % 4294967296)) o))]) rfl h (fun _ => rfl) rfl ⟨?_, ?_, ?_, ?_, ?_, ?_, ?_, ?_, ?_, ?_, ?_, ?_, ?_, trivial⟩ ?_
    · intro dp hdp0 hdp dv Fx a w h
      refine st_move h rfl rfl fun a h => ?_
      refine wpList_nil ⟨rfl, ?_⟩
      exact ⟨_, h.drawEnd (F' := []) rfl rfl⟩
    · intro dp hdp0 hdp dv Fx a w h
      refine st_move h rfl rfl fun a h => ?_
      refine wpList_nil ⟨rfl, ?_⟩
      exact ⟨_, h.drawEnd (F' := []) rfl rfl⟩
    · intro dp hdp0 hdp dv Fx a w h
      refine st_move h rfl rfl fun a h => ?_
      refine wpList_nil ⟨rfl, ?_⟩
      exact ⟨_, h.drawEnd (F' := []) rfl rfl⟩
    · intro dp hdp0 hdp dv Fx a w h
      refine st_move h rfl rfl fun a h => ?_
      refine wpList_nil ⟨rfl, ?_⟩
      exact ⟨_, h.drawEnd (F' := []) rfl rfl⟩
    · intro dp hdp0 hdp dv Fx a w h
      have e2 : dv 3 = (.int .u32 (v : Int)) := h.fact 0 rfl
      replace h := (h.spellE (t := 31) e2 rfl h)
      refine st_to64 (p := v) h rfl (by omega) Tryz.runUnderlying276 Tryz.runUnderlying317 rfl fun a h => ?_
      refine wpList_nil ⟨rfl, ?_⟩
      exact ⟨_, h.drawEnd (F' := [_]) rfl rfl⟩
    · intro dp hdp0 hdp dv Fx a w h
      have e3 : dv 2 = (.int .u64 ((((r) * 2 ^ 32) + x1 : Nat) : Int)) := h.fact 0 rfl
      have e4 : dv 4 = (.int .u64 ((v : Nat) : Int)) := h.fact 1 rfl
      replace h := (h.spellE (t := 32) e4 rfl (h.spellE (t := 30) e3 rfl h))
      refine st_quoN (p := ((r) * 2 ^ 32) + x1) (q := v) h rfl rfl (by omega) (by omega) rfl fun a h => ?_
      refine wpList_nil ⟨rfl, ?_⟩
      exact ⟨_, h.drawEnd (F' := [_, _]) rfl rfl⟩
    · intro dp hdp0 hdp dv Fx a w h
      have e5 : dv 5 = (.int .u64 (((((r) * 2 ^ 32) + x1) / v : Nat) : Int)) := h.fact 0 rfl
      replace h := (h.spellE (t := 33) e5 rfl h)
      refine st_to32 (p := (((r) * 2 ^ 32) + x1) / v) h rfl Tryz.runUnderlying317 Tryz.runUnderlying276 rfl fun a h => ?_
      refine wpList_nil ⟨rfl, ?_⟩
      exact ⟨_, h.drawEnd (F' := [_]) rfl rfl⟩
    · intro dp hdp0 hdp dv Fx a w h
      refine st_move h rfl rfl fun a h => ?_
      refine wpList_nil ⟨rfl, ?_⟩
      exact ⟨_, h.drawEnd (F' := []) rfl rfl⟩
    · intro dp hdp0 hdp dv Fx a w h
      refine st_move h rfl rfl fun a h => ?_
      refine wpList_nil ⟨rfl, ?_⟩
      exact ⟨_, h.drawEnd (F' := []) rfl rfl⟩
    · intro dp hdp0 hdp dv Fx a w h
      have e6 : dv 8 = (.int .u32 (v : Int)) := h.fact 0 rfl
      replace h := (h.spellE (t := 36) e6 rfl h)
      refine st_to64 (p := v) h rfl (by omega) Tryz.runUnderlying276 Tryz.runUnderlying317 rfl fun a h => ?_
      refine wpList_nil ⟨rfl, ?_⟩
      exact ⟨_, h.drawEnd (F' := [_]) rfl rfl⟩
    · intro dp hdp0 hdp dv Fx a w h
      have e7 : dv 7 = (.int .u64 ((((r) * 2 ^ 32) + x1 : Nat) : Int)) := h.fact 0 rfl
      have e8 : dv 9 = (.int .u64 ((v : Nat) : Int)) := h.fact 1 rfl
      replace h := (h.spellE (t := 37) e8 rfl (h.spellE (t := 35) e7 rfl h))
      refine st_remN (p := ((r) * 2 ^ 32) + x1) (q := v) h rfl rfl (by omega) rfl fun a h => ?_
      refine wpList_nil ⟨rfl, ?_⟩
      exact ⟨_, h.drawEnd (F' := [_, _]) rfl rfl⟩
    · intro dp hdp0 hdp dv Fx a w h
      have e9 : dv 0 = (.slice (some ⟨g1, 0, none⟩) n n) := h.fact 0 rfl
      have e10 : dv 1 = (.int .i64 (k : Int)) := h.fact 1 rfl
      replace h := (h.spellE (t := 29) e10 rfl (h.spellE (t := 28) e9 rfl h))
      refine st_indexI (k) h rfl rfl Tryz.runUnderlying53 Tryz.sizeOf276 (rfl) (by omega) rfl fun a h => ?_
      refine wpList_nil ⟨rfl, ?_⟩
      exact ⟨_, h.drawEnd (F' := [_, _]) rfl rfl⟩
    · intro dp hdp0 hdp dv Fx a w h
      simp only [hdp0, cond_false] at h
      have e11 : dv 6 = (.int .u32 ((((((r) * 2 ^ 32) + x1) / v) % 4294967296 : Nat) : Int)) := h.fact 0 rfl
      have e12 : dv 11 = (.pointer (some ⟨g1, (0 + (k) * 1), none⟩)) := h.fact 1 rfl
      replace h := (h.spellE (t := 39) e12 rfl (h.spellE (t := 34) e11 rfl h))
      refine st_storeU (i := k) h rfl rfl Tryz.sizeOf276 (by omega) fun w h => ?_
      refine wpList_nil ⟨rfl, ?_⟩
      exact ⟨undef, h.drawEnd0 (F' := [_, _]) trivial⟩
    intro dp hdp dv a w h
    have hdp12 := hdp 12 (by omega)
    try simp only [hdp12, cond_true] at h
    have e13 : dv 10 = (.int .u64 (((((r) * 2 ^ 32) + x1) % v : Nat) : Int)) := h.fact 10 rfl
    have h2 := (h.spellE (t := 38) e13 rfl (h.consL (t := 9) rfl (h.consL (t := 17) rfl (h.consL (t := 8) rfl (h.consL (t := 7) rfl (h.consL (t := 6) rfl (h.consL (t := 1) rfl (h.consL (t := 0) rfl h.nilL))))))))
    have h3 := h2.noFacts
    have h3 := h3.add (h2.fact 13 rfl)
    clear h2
    replace h := h3
    clear h3
    refine st_assign h rfl rfl fun a h => ?_
    refine wpList_nil ?_
    refine reg_ ?_
    refine st_move h rfl rfl fun a h => ?_
    refine st_subI h rfl rfl (by omega) rfl fun a h => ?_
    refine st_assign h rfl rfl fun a h => ?_
    refine wpList_nil ?_
    have hstep := one_step (s := (r * 2 ^ 32) + x1) (o := o) hx1 hx1b (by omega) (by omega) hp2 hp4 (by omega)
    refine ⟨_, ?_, k, o.set k ((((r * 2 ^ 32) + x1) / v) % 4294967296), ((r * 2 ^ 32) + x1) % v, by omega, by rw [List.length_set]; omega, hstep.2.1, set_lt hp3 _ _ (by omega), hstep.2.2, rfl, ((h.consL (t := 0) rfl (h.consL (t := 1) rfl (h.consL (t := 6) rfl (h.consL (t := 7) rfl ((h.consL (t := 8) rfl h.nilL).respell (by congr 1)))))).noFacts.add (h.fact 0 rfl))⟩
    omega
  · skip
    refine seq_ ?_
    refine seq_ ?_
    refine reg_ ?_
    refine st_move h rfl rfl fun a h => ?_
    refine st_cmp h rfl rfl rfl rfl fun a h => ?_
    refine wpList_nil ?_
    refine cond_f h rfl (by simp; omega) ?_
    refine wp_exit ?_
    repeat refine then_exit ?_
    refine inBlock_exit ?_
    refine seq_ ?_
    refine reg_ ?_
    refine st_move h rfl rfl fun a h => ?_
    have hk0 : k = 0 := by omega
    subst hk0
    rw [List.drop_zero, List.drop_zero, hv] at hp4
    have hq : val o = x / v := by rw [hp4, Nat.mul_add_div (by omega), Nat.div_eq_of_lt hp2, Nat.add_zero]
    have hr : r = x % v := by rw [hp4, Nat.mul_add_mod, Nat.mod_eq_of_lt hp2]
    have hrb : ((r % 4294967296 : Nat) : Int) = ((x % v : Nat) : Int) := by rw [Nat.mod_eq_of_lt (by omega), hr]
    have hrow := own_row32 (r := o) n h (fun _ _ => rfl) hp3 (by omega) (by omega) (by omega)
    rw [hp1] at hrow
    replace h := h.publish
    have h := h.add (f := Rel.natA.fact [.slice (some ⟨g1, 0, none⟩) n n] (x / v)) ⟨_, hrow, hp3, hq⟩
    refine st_call h Tryz.func309 rfl rfl rfl (limb_cut _ _ (fun b => h.owns_lt) (h.fact 0 rfl)) rfl fun r w a hg hF h => ?_
    obtain ⟨A14, n15, c16, e18, f17⟩ := hF
    subst e18
    have h := h.add (f := (Rel.natN).fact [(.slice A14 n15 c16)] ((x / v))) f17
    refine st_move h rfl rfl fun a h => ?_
    refine st_to32 (p := r) h rfl Tryz.runUnderlying317 Tryz.runUnderlying276 rfl fun a h => ?_
    refine st_assign h rfl rfl fun a h => ?_
    refine st_assign h rfl rfl fun a h => ?_
    refine wpList_nil ?_
    refine wp_ret ?_
    exact ret2 Tryz.results332 h (resv_tmp h rfl) (resv_tmp h rfl) ⟨_, rfl, h.grow0, _, _, rfl, ⟨_, _, _, rfl, h.out 0 rfl⟩, congrArg (Value.int .u32) hrb⟩

end Orr

namespace Orr
open Go Go.Proofs
variable (Ob : Nat → Prop) (W : World)
set_option maxHeartbeats 1000000 in
theorem bits_Len32 (hO : ∀ b, Ob b → b < W.heap.size) {x : Nat} (hs : x < 4294967296) :
    Calls Tryz.prog 329 #[.int .u32 (x : Int)] W (Ret W Ob (eqF (.int .i64 ((sz x : Nat) : Int)))) := by

  refine enter (vs := [(.int .u32 (x : Int))]) (Ob := Ob) (K := fun b => b < W.heap.size) (Fs := []) Tryz.func329 rfl Tryz.ntmps329 rfl (fun _ h => h) hO (fun f hf => by cases hf) fun a h => ?_
  refine seq_ ?_
  refine reg_ ?_
  refine st_assign h rfl rfl fun a h => ?_
  refine wpList_nil ?_
  refine seq_ ?_
  refine seq_ ?_
  refine reg_ ?_
  refine st_move h rfl rfl fun a h => ?_
  refine st_cmp h rfl rfl rfl rfl fun a h => ?_
  refine wpList_nil ?_
  refine cond_ h rfl (fun hb_if1 => ?_) (fun hb_if1 => ?_)
  · try simp only [decide_eq_true_eq, decide_eq_false_iff_not, Bool.not_eq_true', Bool.not_eq_false'] at hb_if1
    refine seq_ ?_
    refine reg_ ?_
    refine st_move h rfl rfl fun a h => ?_
    refine st_shrU (p := x) (m := 16) h rfl rfl (by decide) rfl fun a h => ?_
    refine st_assign h rfl rfl fun a h => ?_
    refine wpList_nil ?_
    refine reg_ ?_
    refine st_assign h rfl rfl fun a h => ?_
    refine wpList_nil ?_
    refine seq_ ?_
    refine seq_ ?_
    refine reg_ ?_
    refine st_move h rfl rfl fun a h => ?_
    refine st_cmp h rfl rfl rfl rfl fun a h => ?_
    refine wpList_nil ?_
    refine cond_ h rfl (fun hb_if2 => ?_) (fun hb_if2 => ?_)
    · try simp only [decide_eq_true_eq, decide_eq_false_iff_not, Bool.not_eq_true', Bool.not_eq_false'] at hb_if2
      refine seq_ ?_
      refine reg_ ?_
      refine st_move h rfl rfl fun a h => ?_
      refine st_shrU (p := (x) / 2 ^ 16) (m := 8) h rfl rfl (by decide) rfl fun a h => ?_
      refine st_assign h rfl rfl fun a h => ?_
      refine wpList_nil ?_
      refine reg_ ?_
      refine st_move h rfl rfl fun a h => ?_
      refine st_addI h rfl rfl (by omega) rfl fun a h => ?_
      refine st_assign h rfl rfl fun a h => ?_
      refine wpList_nil ?_
      refine seq_ ?_
      refine reg_ ?_
      refine st_move h rfl rfl fun a h => ?_
      refine st_move h rfl rfl fun a h => ?_
      refine st_to8 (p := ((x) / 2 ^ 16) / 2 ^ 8) h rfl (by omega) Tryz.runUnderlying276 Tryz.runUnderlying5 rfl fun a h => ?_
      have hyb : ((x) / 2 ^ 16) / 2 ^ 8 < 256 := by omega
      have hszy : sz (((x) / 2 ^ 16) / 2 ^ 8) ≤ 8 := sz_le.2 (by omega)
      refine st_byte (i := ((x) / 2 ^ 16) / 2 ^ 8) (v := sz (((x) / 2 ^ 16) / 2 ^ 8)) h rfl rfl Tryz.runUnderlying9 (by revert hyb; generalize ((x) / 2 ^ 16) / 2 ^ 8 = i; revert i; set_option maxRecDepth 100000 in decide) rfl fun a h => ?_
      refine st_toInt (p := sz (((x) / 2 ^ 16) / 2 ^ 8)) h rfl (by omega) Tryz.runUnderlying5 Tryz.runUnderlying3 rfl fun a h => ?_
      refine st_addI h rfl rfl (by omega) rfl fun a h => ?_
      refine st_assign h rfl rfl fun a h => ?_
      refine wpList_nil ?_
      refine wp_ret ?_
      have e2 : (2 : Nat) ^ 16 = 65536 := by decide
      have e3 : (2 : Nat) ^ 8 = 256 := by decide
      have q1 := @sz_shift x 16
      have q2 := @sz_shift x 8
      have q3 := @sz_shift (x / 2 ^ 16) 8
      exact ret1 Tryz.results329 h (resv_tmp h rfl) ⟨_, rfl, h.grow0, congrArg _ (by omega)⟩
    · try simp only [decide_eq_true_eq, decide_eq_false_iff_not, Bool.not_eq_true', Bool.not_eq_false'] at hb_if2
      refine wp_skip ?_
      refine seq_ ?_
      refine reg_ ?_
      refine st_move h rfl rfl fun a h => ?_
      refine st_move h rfl rfl fun a h => ?_
      refine st_to8 (p := (x) / 2 ^ 16) h rfl (by omega) Tryz.runUnderlying276 Tryz.runUnderlying5 rfl fun a h => ?_
      have hyb : (x) / 2 ^ 16 < 256 := by omega
      have hszy : sz ((x) / 2 ^ 16) ≤ 8 := sz_le.2 (by omega)
      refine st_byte (i := (x) / 2 ^ 16) (v := sz ((x) / 2 ^ 16)) h rfl rfl Tryz.runUnderlying9 (by revert hyb; generalize (x) / 2 ^ 16 = i; revert i; set_option maxRecDepth 100000 in decide) rfl fun a h => ?_
      refine st_toInt (p := sz ((x) / 2 ^ 16)) h rfl (by omega) Tryz.runUnderlying5 Tryz.runUnderlying3 rfl fun a h => ?_
      refine st_addI h rfl rfl (by omega) rfl fun a h => ?_
      refine st_assign h rfl rfl fun a h => ?_
      refine wpList_nil ?_
      refine wp_ret ?_
      have e2 : (2 : Nat) ^ 16 = 65536 := by decide
      have e3 : (2 : Nat) ^ 8 = 256 := by decide
      have q1 := @sz_shift x 16
      have q2 := @sz_shift x 8
      have q3 := @sz_shift (x / 2 ^ 16) 8
      exact ret1 Tryz.results329 h (resv_tmp h rfl) ⟨_, rfl, h.grow0, congrArg _ (by omega)⟩
  · try simp only [decide_eq_true_eq, decide_eq_false_iff_not, Bool.not_eq_true', Bool.not_eq_false'] at hb_if1
    refine wp_skip ?_
    refine seq_ ?_
    refine seq_ ?_
    refine reg_ ?_
    refine st_move h rfl rfl fun a h => ?_
    refine st_cmp h rfl rfl rfl rfl fun a h => ?_
    refine wpList_nil ?_
    refine cond_ h rfl (fun hb_if2 => ?_) (fun hb_if2 => ?_)
    · try simp only [decide_eq_true_eq, decide_eq_false_iff_not, Bool.not_eq_true', Bool.not_eq_false'] at hb_if2
      refine seq_ ?_
      refine reg_ ?_
      refine st_move h rfl rfl fun a h => ?_
      refine st_shrU (p := x) (m := 8) h rfl rfl (by decide) rfl fun a h => ?_
      refine st_assign h rfl rfl fun a h => ?_
      refine wpList_nil ?_
      refine reg_ ?_
      refine st_move h rfl rfl fun a h => ?_
      refine st_addI h rfl rfl (by omega) rfl fun a h => ?_
      refine st_assign h rfl rfl fun a h => ?_
      refine wpList_nil ?_
      refine seq_ ?_
      refine reg_ ?_
      refine st_move h rfl rfl fun a h => ?_
      refine st_move h rfl rfl fun a h => ?_
      refine st_to8 (p := (x) / 2 ^ 8) h rfl (by omega) Tryz.runUnderlying276 Tryz.runUnderlying5 rfl fun a h => ?_
      have hyb : (x) / 2 ^ 8 < 256 := by omega
      have hszy : sz ((x) / 2 ^ 8) ≤ 8 := sz_le.2 (by omega)
      refine st_byte (i := (x) / 2 ^ 8) (v := sz ((x) / 2 ^ 8)) h rfl rfl Tryz.runUnderlying9 (by revert hyb; generalize (x) / 2 ^ 8 = i; revert i; set_option maxRecDepth 100000 in decide) rfl fun a h => ?_
      refine st_toInt (p := sz ((x) / 2 ^ 8)) h rfl (by omega) Tryz.runUnderlying5 Tryz.runUnderlying3 rfl fun a h => ?_
      refine st_addI h rfl rfl (by omega) rfl fun a h => ?_
      refine st_assign h rfl rfl fun a h => ?_
      refine wpList_nil ?_
      refine wp_ret ?_
      have e2 : (2 : Nat) ^ 16 = 65536 := by decide
      have e3 : (2 : Nat) ^ 8 = 256 := by decide
      have q1 := @sz_shift x 16
      have q2 := @sz_shift x 8
      have q3 := @sz_shift (x / 2 ^ 16) 8
      exact ret1 Tryz.results329 h (resv_tmp h rfl) ⟨_, rfl, h.grow0, congrArg _ (by omega)⟩
    · try simp only [decide_eq_true_eq, decide_eq_false_iff_not, Bool.not_eq_true', Bool.not_eq_false'] at hb_if2
      refine wp_skip ?_
      refine seq_ ?_
      refine reg_ ?_
      refine st_move h rfl rfl fun a h => ?_
      refine st_move h rfl rfl fun a h => ?_
      refine st_to8 (p := x) h rfl (by omega) Tryz.runUnderlying276 Tryz.runUnderlying5 rfl fun a h => ?_
      have hyb : x < 256 := by omega
      have hszy : sz (x) ≤ 8 := sz_le.2 (by omega)
      refine st_byte (i := x) (v := sz (x)) h rfl rfl Tryz.runUnderlying9 (by revert hyb; generalize x = i; revert i; set_option maxRecDepth 100000 in decide) rfl fun a h => ?_
      refine st_toInt (p := sz (x)) h rfl (by omega) Tryz.runUnderlying5 Tryz.runUnderlying3 rfl fun a h => ?_
      refine st_addI h rfl rfl (by omega) rfl fun a h => ?_
      refine st_assign h rfl rfl fun a h => ?_
      refine wpList_nil ?_
      refine wp_ret ?_
      have e2 : (2 : Nat) ^ 16 = 65536 := by decide
      have e3 : (2 : Nat) ^ 8 = 256 := by decide
      have q1 := @sz_shift x 16
      have q2 := @sz_shift x 8
      have q3 := @sz_shift (x / 2 ^ 16) 8
      exact ret1 Tryz.results329 h (resv_tmp h rfl) ⟨_, rfl, h.grow0, congrArg _ (by omega)⟩

set_option maxHeartbeats 1000000 in
theorem limb_Bits (hO : ∀ b, Ob b → b < W.heap.size) {A : Option Addr} {n c x : Nat} (hx0 : Rel.natA.at_ W Ob [.slice A n c] x) (hs : sz x ≤ 4294967296) :
    Calls Tryz.prog 305 #[.slice A n c] W (Ret W Ob (eqF (.int .i64 ((sz x : Nat) : Int)))) := by

  refine enter (vs := [(.slice A n c)]) (Ob := Ob) (K := fun b => b < W.heap.size) (Fs := [(Rel.natA).fact [.slice A n c] (x)]) Tryz.func305 rfl Tryz.ntmps305 rfl (fun _ h => h) hO (by simp only [List.mem_cons, List.not_mem_nil, or_false, forall_eq_or_imp, forall_eq, false_imp_iff, implies_true]; exact hx0) fun a h => ?_
  refine seq_ ?_
  refine reg_ ?_
  refine st_assign h rfl rfl fun a h => ?_
  refine wpList_nil ?_
  refine seq_ ?_
  refine reg_ ?_
  refine st_move h rfl rfl fun a h => ?_
  refine st_call h Tryz.func309 rfl rfl rfl (limb_cut _ _ (fun b => h.owns_lt) (h.fact 0 rfl)) rfl fun r w a hg hF h => ?_
  obtain ⟨A1, n2, c3, e5, f4⟩ := hF
  subst e5
  have h := h.add (f := (Rel.natN).fact [(.slice A1 n2 c3)] (x)) f4
  refine st_assign h rfl rfl fun a h => ?_
  refine wpList_nil ?_
  refine seq_ ?_
  refine seq_ ?_
  refine reg_ ?_
  refine st_move h rfl rfl fun a h => ?_
  refine st_len h rfl Tryz.runUnderlying53 rfl fun a h => ?_
  obtain ⟨l, h1, h2, h3⟩ := h.fact 0 rfl
  have h := h.add (f := Rel.row32.fact [(.slice A1 n2 c3)] l) h1
  obtain ⟨en, _, _⟩ := row_open h1
  have hlen := nrm_len h2
  rw [h3] at hlen
  have h38 : (2 : Nat) ^ 38 = 274877906944 := by decide
  refine st_cmp h rfl rfl rfl rfl fun a h => ?_
  refine wpList_nil ?_
  refine cond_ h rfl (fun hb_if1 => ?_) (fun hb_if1 => ?_)
  · try simp only [decide_eq_true_eq, decide_eq_false_iff_not, Bool.not_eq_true', Bool.not_eq_false'] at hb_if1
    refine seq_ ?_
    refine reg_ ?_
    refine st_assign h rfl rfl fun a h => ?_
    refine wpList_nil ?_
    refine wp_ret ?_
    exact ret1 Tryz.results305 h (resv_tmp h rfl) ⟨_, rfl, h.grow0, congrArg _ (by rw [show x = 0 from h3 ▸ (nrm_zero h2).2 (List.eq_nil_of_length_eq_zero (by omega))]; rfl)⟩
  · try simp only [decide_eq_true_eq, decide_eq_false_iff_not, Bool.not_eq_true', Bool.not_eq_false'] at hb_if1
    refine wp_skip ?_
    refine seq_ ?_
    refine reg_ ?_
    refine st_move h rfl rfl fun a h => ?_
    refine st_len h rfl Tryz.runUnderlying53 rfl fun a h => ?_
    have hn0 : 0 < n2 := by omega
    obtain ⟨b1, o1, rfl, _, _, _⟩ := row_get (h.fact 0 rfl) (i := n2 - 1) (by omega)
    obtain ⟨y, hy⟩ : ∃ y, l[n2 - 1]? = some y := ⟨_, List.getElem?_eq_getElem (by omega)⟩
    have hyb := row_lt (h.fact 0 rfl) _ (List.mem_of_getElem? hy)
    have hsy : sz y ≤ 32 := sz_le.2 (by omega)
    refine st_subI h rfl rfl (by omega) rfl fun a h => ?_
    refine st_mulI h rfl rfl (by omega) rfl fun a h => ?_
    refine st_move h rfl rfl fun a h => ?_
    refine st_move h rfl rfl fun a h => ?_
    refine st_len h rfl Tryz.runUnderlying53 rfl fun a h => ?_
    refine st_subI h rfl rfl (by omega) rfl fun a h => ?_
    refine st_indexI (n2 - 1) h rfl rfl Tryz.runUnderlying53 Tryz.sizeOf276 (by omega) (by omega) rfl fun a h => ?_
    refine st_load h rfl Tryz.isAgg276 (row_cell (h.fact 0 rfl) hy) rfl fun a h => ?_
    refine st_call h Tryz.func329 rfl rfl rfl (bits_Len32 _ _ (fun b => h.owns_lt) (by omega)) rfl fun r w a hg hF h => ?_
    obtain rfl := hF
    refine st_addI h rfl rfl (by omega) rfl fun a h => ?_
    refine st_assign h rfl rfl fun a h => ?_
    refine wpList_nil ?_
    refine wp_ret ?_
    have hz := sz_val h2 (y := y) (by rw [← en]; exact hy)
    rw [h3] at hz
    exact ret1 Tryz.results305 h (resv_tmp h rfl) ⟨_, rfl, h.grow0, congrArg _ (by omega)⟩

end Orr
