/- Package whole: whole numbers. The plain law of a quotient's digit. The plain law of a quotient's digit, whole. The plain law of a quotient by rows. -/
import Derived.Test.YtaffmkgbfgjgeaaGreatPart03
import Derived.Test.YtaffmkgbfgjgeaaGreatPart01
set_option linter.all false

namespace Orr
open Go Go.Proofs
variable (Ob : Nat → Prop) (W : World)
theorem limb_Sub_le (hO : ∀ b, Ob b → b < W.heap.size) {A : Option Addr} {n c x : Nat} {A' : Option Addr} {n' c' y : Nat} (hx0 : Rel.natA.at_ W Ob [.slice A n c] x) (hx1 : Rel.natA.at_ W Ob [.slice A' n' c'] y) (hsx : sz x ≤ 4294967296) (hle : y ≤ x) :
    Calls Tryz.prog 321 #[.slice A n c, .slice A' n' c'] W (Ret W Ob (tup2 (Rel.natN.sliceF (x - y)) (eqF (.bool true)))) := by
  have := limb_Sub Ob W hO hx0 hx1 hsx
  rwa [if_pos hle] at this
theorem limb_Sub_lt (hO : ∀ b, Ob b → b < W.heap.size) {A : Option Addr} {n c x : Nat} {A' : Option Addr} {n' c' y : Nat} (hx0 : Rel.natA.at_ W Ob [.slice A n c] x) (hx1 : Rel.natA.at_ W Ob [.slice A' n' c'] y) (hsx : sz x ≤ 4294967296) (hle : x < y) :
    Calls Tryz.prog 321 #[.slice A n c, .slice A' n' c'] W (Ret W Ob (tup2 (eqF (.slice none 0 0)) (eqF (.bool false)))) := by
  have := limb_Sub Ob W hO hx0 hx1 hsx
  rwa [if_neg (by omega)] at this

set_option maxHeartbeats 1000000 in
theorem whole_made (hO : ∀ b, Ob b → b < W.heap.size) {A : Option Addr} {n c x : Nat} {b : Bool} (hx0 : Rel.natN.at_ W Ob [.slice A n c] x) :
    Calls Tryz.prog 249 #[.slice A n c, .bool b] W (Ret W Ob (Rel.intN.aggF (ofSign b x))) := by
  have hn := (natN_len hx0).1
  refine enter (vs := [(.slice A n c), (.bool b)]) (Ob := Ob) (K := fun b => b < W.heap.size) (Fs := [(Rel.natN).fact [(.slice A n c)] (x)]) Tryz.func249 rfl Tryz.ntmps249 rfl (fun _ h => h) hO (by simp only [List.mem_cons, List.not_mem_nil, or_false, forall_eq_or_imp, forall_eq, false_imp_iff, implies_true]; exact hx0) fun a h => ?_
  rcases b with _ | _
  · skip
    refine seq_ ?_
    refine reg_ ?_
    refine st_alloc h Tryz.zeroValue55 rfl fun g1 w a h => ?_
    refine wpList_nil ?_
    refine seq_ ?_
    refine reg_ ?_
    refine st_move h rfl rfl fun a h => ?_
    refine st_move h rfl rfl fun a h => ?_
    refine guard_skip h rfl rfl (rfl) rfl fun a h => ?_
    refine guard_skip h rfl rfl (rfl) rfl fun a h => ?_
    refine guard_skip h rfl rfl (rfl) rfl fun a h => ?_
    refine st_pickF h rfl (rfl) rfl rfl fun a h => ?_
    refine st_move h rfl rfl fun a h => ?_
    refine st_build h rfl (bd_55 rfl) rfl fun a h => ?_
    refine st_store h 0 rfl rfl rfl Tryz.sizeOf55 rfl rfl rfl rfl fun w h => ?_
    refine wpList_nil ?_
    refine wp_ret ?_
    have h := h.add (f := (Rel.intN).fact [(.bool false), (.slice A n c)] (ofSign false x)) (intN_mk (by rw [ofSign_natAbs]; exact h.fact 0 rfl) (by rw [ofSign_neg]; simp; try omega))
    exact ret1 Tryz.results249 h (resv_agg h 0 rfl rfl Tryz.isAgg55 Tryz.sizeOf55 rfl) ⟨_, rfl, h.grow0, _, rfl, h.out 0 rfl⟩
  · skip
    refine seq_ ?_
    refine reg_ ?_
    refine st_alloc h Tryz.zeroValue55 rfl fun g2 w a h => ?_
    refine wpList_nil ?_
    refine seq_ ?_
    refine reg_ ?_
    refine st_move h rfl rfl fun a h => ?_
    refine st_move h rfl rfl fun a h => ?_
    refine guard_run h rfl rfl (rfl) ?_
    refine st_move h rfl rfl fun a h => ?_
    refine guard_run h rfl rfl (rfl) ?_
    refine st_len h rfl Tryz.runUnderlying53 rfl fun a h => ?_
    refine guard_run h rfl rfl (rfl) ?_
    refine st_cmp h rfl rfl rfl rfl fun a h => ?_
    refine st_pickT h rfl (rfl) rfl rfl fun a h => ?_
    refine st_move h rfl rfl fun a h => ?_
    refine st_build h rfl (bd_55 rfl) rfl fun a h => ?_
    refine st_store h 0 rfl rfl rfl Tryz.sizeOf55 rfl rfl rfl rfl fun w h => ?_
    refine wpList_nil ?_
    refine wp_ret ?_
    have h := h.add (f := (Rel.intN).fact [(.bool (decide (0 < (n : Int)))), (.slice A n c)] (ofSign true x)) (intN_mk (by rw [ofSign_natAbs]; exact h.fact 0 rfl) (by rw [ofSign_neg]; simp; try omega))
    exact ret1 Tryz.results249 h (resv_agg h 0 rfl rfl Tryz.isAgg55 Tryz.sizeOf55 rfl) ⟨_, rfl, h.grow0, _, rfl, h.out 0 rfl⟩

set_option maxHeartbeats 1000000 in
theorem whole_Norm (hO : ∀ b, Ob b → b < W.heap.size) {b0 : Bool} {A0 : Option Addr} {n0 c0 : Nat} {z0 : Int} (hx0 : Rel.intA.at_ W Ob [.bool b0, .slice A0 n0 c0] z0) (hs0 : isz z0 ≤ 4294967295) :
    Calls Tryz.prog 251 #[.agg #[.bool b0, .slice A0 n0 c0]] W (Ret W Ob (Rel.intN.aggF z0)) := by
  obtain ⟨hx1, hz0⟩ := intA_open hx0
  have hs0' : sz z0.natAbs ≤ 4294967295 := hs0
  refine enter (vs := [(.agg #[(.bool b0), (.slice A0 n0 c0)])]) (Ob := Ob) (K := fun b => b < W.heap.size) (Fs := [(Rel.intA).fact [(.bool b0), (.slice A0 n0 c0)] (z0), (Rel.natA).fact [(.slice A0 n0 c0)] (z0.natAbs)]) Tryz.func251 rfl Tryz.ntmps251 rfl (fun _ h => h) hO (by simp only [List.mem_cons, List.not_mem_nil, or_false, forall_eq_or_imp, forall_eq, false_imp_iff, implies_true]; exact ⟨hx0, hx1⟩) fun a h => ?_
  refine seq_ ?_
  refine reg_ ?_
  refine st_box h rfl rfl fun g1 w a h => ?_
  refine st_alloc h Tryz.zeroValue55 rfl fun g2 w a h => ?_
  refine wpList_nil ?_
  refine seq_ ?_
  refine draw0_ mixed_ 5 [some 3, some 4, some 5, some 6, some 7] [[], [0], [1], [], [3]] [(eqF (.pointer (some ⟨g1, 1, none⟩))), (eqF (.slice A0 n0 c0)), (Rel.natN.sliceF (z0.natAbs)), (eqF (.pointer (some ⟨g1, 0, none⟩))), (eqF (.bool b0))] rfl h rfl ⟨?_, ?_, ?_, ?_, ?_, trivial⟩ ?_
  · intro dp hdp0 hdp dv Fx a w h
    refine st_fieldAddr h rfl (fa_55_1) rfl fun a h => ?_
    refine wpList_nil ⟨rfl, ?_⟩
    exact ⟨_, h.drawEnd (F' := []) rfl rfl⟩
  · intro dp hdp0 hdp dv Fx a w h
    have e8 : dv 0 = (.pointer (some ⟨g1, 1, none⟩)) := h.fact 0 rfl
    replace h := (h.spellE (t := 3) e8 rfl h)
    refine st_loadO h 1 rfl rfl Tryz.isAgg53 rfl rfl fun a h => ?_
    refine wpList_nil ⟨rfl, ?_⟩
    exact ⟨_, h.drawEnd (F' := [_]) rfl rfl⟩
  · intro dp hdp0 hdp dv Fx a w h
    have e9 : dv 1 = (.slice A0 n0 c0) := h.fact 0 rfl
    replace h := (h.spellE (t := 4) e9 rfl h)
    refine st_call h Tryz.func267 rfl rfl rfl (limb_Norm _ _ (fun b => h.owns_lt) (h.fact 2 rfl) (by omega)) rfl fun r w a hg hF h => ?_
    obtain ⟨A10, n11, c12, e14, f13⟩ := hF
    subst e14
    have h := h.add (f := (Rel.natN).fact [(.slice A10 n11 c12)] (z0.natAbs)) f13
    refine wpList_nil ⟨rfl, ?_⟩
    exact ⟨_, h.drawEnd (F' := [_, _]) rfl ⟨_, _, _, rfl, h.fact 0 rfl⟩⟩
  · intro dp hdp0 hdp dv Fx a w h
    refine st_fieldAddr h rfl (fa_55_0) rfl fun a h => ?_
    refine wpList_nil ⟨rfl, ?_⟩
    exact ⟨_, h.drawEnd (F' := []) rfl rfl⟩
  · intro dp hdp0 hdp dv Fx a w h
    have e15 : dv 3 = (.pointer (some ⟨g1, 0, none⟩)) := h.fact 0 rfl
    replace h := (h.spellE (t := 6) e15 rfl h)
    refine st_loadO h 1 rfl rfl Tryz.isAgg4 rfl rfl fun a h => ?_
    refine wpList_nil ⟨rfl, ?_⟩
    exact ⟨_, h.drawEnd (F' := [_]) rfl rfl⟩
  intro dv a w h
  obtain ⟨A16, n17, c18, e20, f19⟩ := (h.fact 2 rfl)
  have e21 : dv 4 = (.bool b0) := h.fact 4 rfl
  have h2 := (h.spellE (t := 7) e21 rfl (h.spellE (t := 5) e20 rfl (h.consL (t := 2) rfl (h.consL (t := 1) rfl (h.consL (t := 0) rfl h.nilL)))))
  have h3 := h2.noFacts
  have h3 := h3.add (h2.fact 6 rfl)
  have h3 := h3.add (h2.fact 5 rfl)
  clear h2
  replace h := h3
  clear h3
  have h := h.add (f := (Rel.natN).fact [(.slice A16 n17 c18)] (z0.natAbs)) f19
  refine st_call h Tryz.func249 rfl rfl rfl (whole_made _ _ (fun b => h.owns_lt) (h.fact 0 rfl)) rfl fun r w a hg hF h => ?_
  obtain ⟨cs22, e24, f23⟩ := hF
  obtain ⟨b25, A26, n27, c28, rfl⟩ := intN_shape f23
  subst e24
  have h := h.add (f := (Rel.intN).fact [(.bool b25), (.slice A26 n27 c28)] (ofSign b0 (z0.natAbs))) f23
  refine st_store h 0 rfl rfl rfl Tryz.sizeOf55 rfl rfl rfl rfl fun w h => ?_
  refine wpList_nil ?_
  refine wp_ret ?_
  exact ret1 Tryz.results251 h (resv_agg h 0 rfl rfl Tryz.isAgg55 Tryz.sizeOf55 rfl) ⟨_, rfl, h.grow0, _, rfl, (by rw [show z0 = ofSign b0 (z0.natAbs) from hz0]; exact h.out 0 rfl)⟩

set_option maxHeartbeats 1000000 in
theorem whole_Neg (hO : ∀ b, Ob b → b < W.heap.size) {b0 : Bool} {A0 : Option Addr} {n0 c0 : Nat} {z0 : Int} (hx0 : Rel.intA.at_ W Ob [.bool b0, .slice A0 n0 c0] z0) (hs0 : isz z0 ≤ 4294967295) :
    Calls Tryz.prog 194 #[.agg #[.bool b0, .slice A0 n0 c0]] W (Ret W Ob (Rel.intN.aggF (-z0))) := by
  obtain ⟨hx1, hz0⟩ := intA_open hx0
  have hs0' : sz z0.natAbs ≤ 4294967295 := hs0
  refine enter (vs := [(.agg #[(.bool b0), (.slice A0 n0 c0)])]) (Ob := Ob) (K := fun b => b < W.heap.size) (Fs := [(Rel.intA).fact [(.bool b0), (.slice A0 n0 c0)] (z0), (Rel.natA).fact [(.slice A0 n0 c0)] (z0.natAbs)]) Tryz.func194 rfl Tryz.ntmps194 rfl (fun _ h => h) hO (by simp only [List.mem_cons, List.not_mem_nil, or_false, forall_eq_or_imp, forall_eq, false_imp_iff, implies_true]; exact ⟨hx0, hx1⟩) fun a h => ?_
  refine seq_ ?_
  refine reg_ ?_
  refine st_box h rfl rfl fun g1 w a h => ?_
  refine st_alloc h Tryz.zeroValue55 rfl fun g2 w a h => ?_
  refine wpList_nil ?_
  refine seq_ ?_
  refine draw0_ mixed_ 6 [some 3, some 4, some 5, some 6, some 7, some 8] [[], [0], [1], [], [3], [4]] [(eqF (.pointer (some ⟨g1, 1, none⟩))), (eqF (.slice A0 n0 c0)), (Rel.natN.sliceF (z0.natAbs)), (eqF (.pointer (some ⟨g1, 0, none⟩))), (eqF (.bool b0)), (eqF (.bool (!b0)))] rfl h rfl ⟨?_, ?_, ?_, ?_, ?_, ?_, trivial⟩ ?_
  · intro dp hdp0 hdp dv Fx a w h
    refine st_fieldAddr h rfl (fa_55_1) rfl fun a h => ?_
    refine wpList_nil ⟨rfl, ?_⟩
    exact ⟨_, h.drawEnd (F' := []) rfl rfl⟩
  · intro dp hdp0 hdp dv Fx a w h
    have e8 : dv 0 = (.pointer (some ⟨g1, 1, none⟩)) := h.fact 0 rfl
    replace h := (h.spellE (t := 3) e8 rfl h)
    refine st_loadO h 1 rfl rfl Tryz.isAgg53 rfl rfl fun a h => ?_
    refine wpList_nil ⟨rfl, ?_⟩
    exact ⟨_, h.drawEnd (F' := [_]) rfl rfl⟩
  · intro dp hdp0 hdp dv Fx a w h
    have e9 : dv 1 = (.slice A0 n0 c0) := h.fact 0 rfl
    replace h := (h.spellE (t := 4) e9 rfl h)
    refine st_call h Tryz.func267 rfl rfl rfl (limb_Norm _ _ (fun b => h.owns_lt) (h.fact 2 rfl) (by omega)) rfl fun r w a hg hF h => ?_
    obtain ⟨A10, n11, c12, e14, f13⟩ := hF
    subst e14
    have h := h.add (f := (Rel.natN).fact [(.slice A10 n11 c12)] (z0.natAbs)) f13
    refine wpList_nil ⟨rfl, ?_⟩
    exact ⟨_, h.drawEnd (F' := [_, _]) rfl ⟨_, _, _, rfl, h.fact 0 rfl⟩⟩
  · intro dp hdp0 hdp dv Fx a w h
    refine st_fieldAddr h rfl (fa_55_0) rfl fun a h => ?_
    refine wpList_nil ⟨rfl, ?_⟩
    exact ⟨_, h.drawEnd (F' := []) rfl rfl⟩
  · intro dp hdp0 hdp dv Fx a w h
    have e15 : dv 3 = (.pointer (some ⟨g1, 0, none⟩)) := h.fact 0 rfl
    replace h := (h.spellE (t := 6) e15 rfl h)
    refine st_loadO h 1 rfl rfl Tryz.isAgg4 rfl rfl fun a h => ?_
    refine wpList_nil ⟨rfl, ?_⟩
    exact ⟨_, h.drawEnd (F' := [_]) rfl rfl⟩
  · intro dp hdp0 hdp dv Fx a w h
    have e16 : dv 4 = (.bool b0) := h.fact 0 rfl
    replace h := (h.spellE (t := 7) e16 rfl h)
    refine st_not h rfl rfl fun a h => ?_
    refine wpList_nil ⟨rfl, ?_⟩
    exact ⟨_, h.drawEnd (F' := [_]) rfl rfl⟩
  intro dv a w h
  obtain ⟨A17, n18, c19, e21, f20⟩ := (h.fact 2 rfl)
  have e22 : dv 5 = (.bool (!b0)) := h.fact 5 rfl
  have h2 := (h.spellE (t := 8) e22 rfl (h.spellE (t := 5) e21 rfl (h.consL (t := 2) rfl (h.consL (t := 1) rfl (h.consL (t := 0) rfl h.nilL)))))
  have h3 := h2.noFacts
  have h3 := h3.add (h2.fact 7 rfl)
  have h3 := h3.add (h2.fact 6 rfl)
  clear h2
  replace h := h3
  clear h3
  have h := h.add (f := (Rel.natN).fact [(.slice A17 n18 c19)] (z0.natAbs)) f20
  refine st_call h Tryz.func249 rfl rfl rfl (whole_made _ _ (fun b => h.owns_lt) (h.fact 0 rfl)) rfl fun r w a hg hF h => ?_
  obtain ⟨cs23, e25, f24⟩ := hF
  obtain ⟨b26, A27, n28, c29, rfl⟩ := intN_shape f24
  subst e25
  have h := h.add (f := (Rel.intN).fact [(.bool b26), (.slice A27 n28 c29)] (ofSign (!b0) (z0.natAbs))) f24
  refine st_store h 0 rfl rfl rfl Tryz.sizeOf55 rfl rfl rfl rfl fun w h => ?_
  refine wpList_nil ?_
  refine wp_ret ?_
  exact ret1 Tryz.results194 h (resv_agg h 0 rfl rfl Tryz.isAgg55 Tryz.sizeOf55 rfl) ⟨_, rfl, h.grow0, _, rfl, (by rw [show -z0 = ofSign (!b0) (z0.natAbs) from by unfold ofSign; cases b0 <;> simp at hz0 ⊢ <;> omega]; exact h.out 0 rfl)⟩

set_option maxHeartbeats 1000000 in
theorem whole_Mul (hO : ∀ b, Ob b → b < W.heap.size) {b0 : Bool} {A0 : Option Addr} {n0 c0 : Nat} {z0 : Int} {b1 : Bool} {A1 : Option Addr} {n1 c1 : Nat} {z1 : Int} (hx0 : Rel.intA.at_ W Ob [.bool b0, .slice A0 n0 c0] z0) (hx1 : Rel.intA.at_ W Ob [.bool b1, .slice A1 n1 c1] z1) (hs0 : isz z0 ≤ 4294967295) (hs1 : isz z1 ≤ 4294967295) :
    Calls Tryz.prog 169 #[.agg #[.bool b0, .slice A0 n0 c0], .agg #[.bool b1, .slice A1 n1 c1]] W (Ret W Ob (Rel.intN.aggF (z0 * z1))) := by
  obtain ⟨hx2, hz0⟩ := intA_open hx0
  obtain ⟨hx3, hz1⟩ := intA_open hx1
  have hs0' : sz z0.natAbs ≤ 4294967295 := hs0
  have hs1' : sz z1.natAbs ≤ 4294967295 := hs1
  refine enter (vs := [(.agg #[(.bool b0), (.slice A0 n0 c0)]), (.agg #[(.bool b1), (.slice A1 n1 c1)])]) (Ob := Ob) (K := fun b => b < W.heap.size) (Fs := [(Rel.intA).fact [(.bool b0), (.slice A0 n0 c0)] (z0), (Rel.intA).fact [(.bool b1), (.slice A1 n1 c1)] (z1), (Rel.natA).fact [(.slice A0 n0 c0)] (z0.natAbs), (Rel.natA).fact [(.slice A1 n1 c1)] (z1.natAbs)]) Tryz.func169 rfl Tryz.ntmps169 rfl (fun _ h => h) hO (by simp only [List.mem_cons, List.not_mem_nil, or_false, forall_eq_or_imp, forall_eq, false_imp_iff, implies_true]; exact ⟨hx0, hx1, hx2, hx3⟩) fun a h => ?_
  refine seq_ ?_
  refine reg_ ?_
  refine st_box h rfl rfl fun g1 w a h => ?_
  refine st_box h rfl rfl fun g2 w a h => ?_
  refine st_alloc h Tryz.zeroValue55 rfl fun g3 w a h => ?_
  refine wpList_nil ?_
  refine seq_ ?_
  refine draw0_ mixed_ 10 [some 5, some 6, some 7, some 8, some 9, some 10, some 11, some 12, some 13, some 14] [[], [0], [], [2], [1, 3], [], [5], [], [7], [6, 8]] [(eqF (.pointer (some ⟨g1, 1, none⟩))), (eqF (.slice A0 n0 c0)), (eqF (.pointer (some ⟨g2, 1, none⟩))), (eqF (.slice A1 n1 c1)), (Rel.natN.sliceF ((z0.natAbs) * (z1.natAbs))), (eqF (.pointer (some ⟨g1, 0, none⟩))), (eqF (.bool b0)), (eqF (.pointer (some ⟨g2, 0, none⟩))), (eqF (.bool b1)), (eqF (.bool (!(b0 == b1))))] rfl h rfl ⟨?_, ?_, ?_, ?_, ?_, ?_, ?_, ?_, ?_, ?_, trivial⟩ ?_
  · intro dp hdp0 hdp dv Fx a w h
    refine st_fieldAddr h rfl (fa_55_1) rfl fun a h => ?_
    refine wpList_nil ⟨rfl, ?_⟩
    exact ⟨_, h.drawEnd (F' := []) rfl rfl⟩
  · intro dp hdp0 hdp dv Fx a w h
    have e9 : dv 0 = (.pointer (some ⟨g1, 1, none⟩)) := h.fact 0 rfl
    replace h := (h.spellE (t := 5) e9 rfl h)
    refine st_loadO h 2 rfl rfl Tryz.isAgg53 rfl rfl fun a h => ?_
    refine wpList_nil ⟨rfl, ?_⟩
    exact ⟨_, h.drawEnd (F' := [_]) rfl rfl⟩
  · intro dp hdp0 hdp dv Fx a w h
    refine st_fieldAddr h rfl (fa_55_1) rfl fun a h => ?_
    refine wpList_nil ⟨rfl, ?_⟩
    exact ⟨_, h.drawEnd (F' := []) rfl rfl⟩
  · intro dp hdp0 hdp dv Fx a w h
    have e10 : dv 2 = (.pointer (some ⟨g2, 1, none⟩)) := h.fact 0 rfl
    replace h := (h.spellE (t := 7) e10 rfl h)
    refine st_loadO h 1 rfl rfl Tryz.isAgg53 rfl rfl fun a h => ?_
    refine wpList_nil ⟨rfl, ?_⟩
    exact ⟨_, h.drawEnd (F' := [_]) rfl rfl⟩
  · intro dp hdp0 hdp dv Fx a w h
    have e11 : dv 1 = (.slice A0 n0 c0) := h.fact 0 rfl
    have e12 : dv 3 = (.slice A1 n1 c1) := h.fact 1 rfl
    replace h := (h.spellE (t := 8) e12 rfl (h.spellE (t := 6) e11 rfl h))
    refine st_call h Tryz.func250 rfl rfl rfl (limb_Mul _ _ (fun b => h.owns_lt) (h.fact 4 rfl) (h.fact 5 rfl) (by omega) (by omega)) rfl fun r w a hg hF h => ?_
    obtain ⟨A13, n14, c15, e17, f16⟩ := hF
    subst e17
    have h := h.add (f := (Rel.natN).fact [(.slice A13 n14 c15)] ((z0.natAbs) * (z1.natAbs))) f16
    refine wpList_nil ⟨rfl, ?_⟩
    exact ⟨_, h.drawEnd (F' := [_, _, _]) rfl ⟨_, _, _, rfl, h.fact 0 rfl⟩⟩
  · intro dp hdp0 hdp dv Fx a w h
    refine st_fieldAddr h rfl (fa_55_0) rfl fun a h => ?_
    refine wpList_nil ⟨rfl, ?_⟩
    exact ⟨_, h.drawEnd (F' := []) rfl rfl⟩
  · intro dp hdp0 hdp dv Fx a w h
    have e18 : dv 5 = (.pointer (some ⟨g1, 0, none⟩)) := h.fact 0 rfl
    replace h := (h.spellE (t := 10) e18 rfl h)
    refine st_loadO h 2 rfl rfl Tryz.isAgg4 rfl rfl fun a h => ?_
    refine wpList_nil ⟨rfl, ?_⟩
    exact ⟨_, h.drawEnd (F' := [_]) rfl rfl⟩
  · intro dp hdp0 hdp dv Fx a w h
    refine st_fieldAddr h rfl (fa_55_0) rfl fun a h => ?_
    refine wpList_nil ⟨rfl, ?_⟩
    exact ⟨_, h.drawEnd (F' := []) rfl rfl⟩
  · intro dp hdp0 hdp dv Fx a w h
    have e19 : dv 7 = (.pointer (some ⟨g2, 0, none⟩)) := h.fact 0 rfl
    replace h := (h.spellE (t := 12) e19 rfl h)
    refine st_loadO h 1 rfl rfl Tryz.isAgg4 rfl rfl fun a h => ?_
    refine wpList_nil ⟨rfl, ?_⟩
    exact ⟨_, h.drawEnd (F' := [_]) rfl rfl⟩
  · intro dp hdp0 hdp dv Fx a w h
    have e20 : dv 6 = (.bool b0) := h.fact 0 rfl
    have e21 : dv 8 = (.bool b1) := h.fact 1 rfl
    replace h := (h.spellE (t := 13) e21 rfl (h.spellE (t := 11) e20 rfl h))
    refine st_neb h rfl rfl Tryz.underlying4 rfl fun a h => ?_
    refine wpList_nil ⟨rfl, ?_⟩
    exact ⟨_, h.drawEnd (F' := [_, _]) rfl rfl⟩
  intro dv a w h
  obtain ⟨A22, n23, c24, e26, f25⟩ := (h.fact 4 rfl)
  have e27 : dv 9 = (.bool (!(b0 == b1))) := h.fact 9 rfl
  have h2 := (h.spellE (t := 14) e27 rfl (h.spellE (t := 9) e26 rfl (h.consL (t := 4) rfl (h.consL (t := 3) rfl (h.consL (t := 2) rfl (h.consL (t := 1) rfl (h.consL (t := 0) rfl h.nilL)))))))
  have h3 := h2.noFacts
  have h3 := h3.add (h2.fact 13 rfl)
  have h3 := h3.add (h2.fact 12 rfl)
  have h3 := h3.add (h2.fact 11 rfl)
  have h3 := h3.add (h2.fact 10 rfl)
  clear h2
  replace h := h3
  clear h3
  have h := h.add (f := (Rel.natN).fact [(.slice A22 n23 c24)] ((z0.natAbs) * (z1.natAbs))) f25
  refine st_call h Tryz.func249 rfl rfl rfl (whole_made _ _ (fun b => h.owns_lt) (h.fact 0 rfl)) rfl fun r w a hg hF h => ?_
  obtain ⟨cs28, e30, f29⟩ := hF
  obtain ⟨b31, A32, n33, c34, rfl⟩ := intN_shape f29
  subst e30
  have h := h.add (f := (Rel.intN).fact [(.bool b31), (.slice A32 n33 c34)] (ofSign (!(b0 == b1)) ((z0.natAbs) * (z1.natAbs)))) f29
  refine st_store h 0 rfl rfl rfl Tryz.sizeOf55 rfl rfl rfl rfl fun w h => ?_
  refine wpList_nil ?_
  refine wp_ret ?_
  exact ret1 Tryz.results169 h (resv_agg h 0 rfl rfl Tryz.isAgg55 Tryz.sizeOf55 rfl) ⟨_, rfl, h.grow0, _, rfl, (by rw [show z0 * z1 = ofSign (!(b0 == b1)) ((z0.natAbs) * (z1.natAbs)) from mul_ofSign hz0 hz1]; exact h.out 0 rfl)⟩

set_option maxHeartbeats 1000000 in
theorem whole_Add (hO : ∀ b, Ob b → b < W.heap.size) {b0 : Bool} {A0 : Option Addr} {n0 c0 : Nat} {z0 : Int} {b1 : Bool} {A1 : Option Addr} {n1 c1 : Nat} {z1 : Int} (hx0 : Rel.intA.at_ W Ob [.bool b0, .slice A0 n0 c0] z0) (hx1 : Rel.intA.at_ W Ob [.bool b1, .slice A1 n1 c1] z1) (hs0 : isz z0 ≤ 4294967295) (hs1 : isz z1 ≤ 4294967295) :
    Calls Tryz.prog 295 #[.agg #[.bool b0, .slice A0 n0 c0], .agg #[.bool b1, .slice A1 n1 c1]] W (Ret W Ob (Rel.intN.aggF (z0 + z1))) := by
  obtain ⟨hx2, hz0⟩ := intA_open hx0
  obtain ⟨hx3, hz1⟩ := intA_open hx1
  have hs0' : sz z0.natAbs ≤ 4294967295 := hs0
  have hs1' : sz z1.natAbs ≤ 4294967295 := hs1
  refine enter (vs := [(.agg #[(.bool b0), (.slice A0 n0 c0)]), (.agg #[(.bool b1), (.slice A1 n1 c1)])]) (Ob := Ob) (K := fun b => b < W.heap.size) (Fs := [(Rel.intA).fact [(.bool b0), (.slice A0 n0 c0)] (z0), (Rel.intA).fact [(.bool b1), (.slice A1 n1 c1)] (z1), (Rel.natA).fact [(.slice A0 n0 c0)] (z0.natAbs), (Rel.natA).fact [(.slice A1 n1 c1)] (z1.natAbs)]) Tryz.func295 rfl Tryz.ntmps295 rfl (fun _ h => h) hO (by simp only [List.mem_cons, List.not_mem_nil, or_false, forall_eq_or_imp, forall_eq, false_imp_iff, implies_true]; exact ⟨hx0, hx1, hx2, hx3⟩) fun a h => ?_
  rcases Nat.lt_or_ge z0.natAbs z1.natAbs with hlt | hle
  · skip
    refine seq_ ?_
    refine reg_ ?_
    refine st_box h rfl rfl fun g1 w a h => ?_
    refine st_box h rfl rfl fun g2 w a h => ?_
    refine st_alloc h Tryz.zeroValue55 rfl fun g3 w a h => ?_
    refine wpList_nil ?_
    refine seq_ ?_
    refine seq_ ?_
    refine reg_ ?_
    refine st_fieldAddr h rfl (fa_55_0) rfl fun a h => ?_
    refine st_loadO h 2 rfl rfl Tryz.isAgg4 rfl rfl fun a h => ?_
    refine st_fieldAddr h rfl (fa_55_0) rfl fun a h => ?_
    refine st_loadO h 1 rfl rfl Tryz.isAgg4 rfl rfl fun a h => ?_
    refine st_eqb h rfl rfl Tryz.underlying4 rfl fun a h => ?_
    refine wpList_nil ?_
    refine cond_ h rfl (fun hb_if1 => ?_) (fun hb_if1 => ?_)
    · try simp only [decide_eq_true_eq, decide_eq_false_iff_not, Bool.not_eq_true', Bool.not_eq_false'] at hb_if1
      refine seq_ ?_
      refine draw0_ mixed_ 7 [some 14, some 15, some 16, some 17, some 18, some 19, some 20] [[], [0], [], [2], [1, 3], [], [5]] [(eqF (.pointer (some ⟨g1, 1, none⟩))), (eqF (.slice A0 n0 c0)), (eqF (.pointer (some ⟨g2, 1, none⟩))), (eqF (.slice A1 n1 c1)), (Rel.natN.sliceF ((z0.natAbs) + (z1.natAbs))), (eqF (.pointer (some ⟨g1, 0, none⟩))), (eqF (.bool b0))] rfl h rfl ⟨?_, ?_, ?_, ?_, ?_, ?_, ?_, trivial⟩ ?_
      · intro dp hdp0 hdp dv Fx a w h
        refine st_fieldAddr h rfl (fa_55_1) rfl fun a h => ?_
        refine wpList_nil ⟨rfl, ?_⟩
        exact ⟨_, h.drawEnd (F' := []) rfl rfl⟩
      · intro dp hdp0 hdp dv Fx a w h
        have e9 : dv 0 = (.pointer (some ⟨g1, 1, none⟩)) := h.fact 0 rfl
        replace h := (h.spellE (t := 14) e9 rfl h)
        refine st_loadO h 2 rfl rfl Tryz.isAgg53 rfl rfl fun a h => ?_
        refine wpList_nil ⟨rfl, ?_⟩
        exact ⟨_, h.drawEnd (F' := [_]) rfl rfl⟩
      · intro dp hdp0 hdp dv Fx a w h
        refine st_fieldAddr h rfl (fa_55_1) rfl fun a h => ?_
        refine wpList_nil ⟨rfl, ?_⟩
        exact ⟨_, h.drawEnd (F' := []) rfl rfl⟩
      · intro dp hdp0 hdp dv Fx a w h
        have e10 : dv 2 = (.pointer (some ⟨g2, 1, none⟩)) := h.fact 0 rfl
        replace h := (h.spellE (t := 16) e10 rfl h)
        refine st_loadO h 1 rfl rfl Tryz.isAgg53 rfl rfl fun a h => ?_
        refine wpList_nil ⟨rfl, ?_⟩
        exact ⟨_, h.drawEnd (F' := [_]) rfl rfl⟩
      · intro dp hdp0 hdp dv Fx a w h
        have e11 : dv 1 = (.slice A0 n0 c0) := h.fact 0 rfl
        have e12 : dv 3 = (.slice A1 n1 c1) := h.fact 1 rfl
        replace h := (h.spellE (t := 17) e12 rfl (h.spellE (t := 15) e11 rfl h))
        refine st_call h Tryz.func320 rfl rfl rfl (limb_Add _ _ (fun b => h.owns_lt) (h.fact 4 rfl) (h.fact 5 rfl) (by omega) (by omega)) rfl fun r w a hg hF h => ?_
        obtain ⟨A13, n14, c15, e17, f16⟩ := hF
        subst e17
        have h := h.add (f := (Rel.natN).fact [(.slice A13 n14 c15)] ((z0.natAbs) + (z1.natAbs))) f16
        refine wpList_nil ⟨rfl, ?_⟩
        exact ⟨_, h.drawEnd (F' := [_, _, _]) rfl ⟨_, _, _, rfl, h.fact 0 rfl⟩⟩
      · intro dp hdp0 hdp dv Fx a w h
        refine st_fieldAddr h rfl (fa_55_0) rfl fun a h => ?_
        refine wpList_nil ⟨rfl, ?_⟩
        exact ⟨_, h.drawEnd (F' := []) rfl rfl⟩
      · intro dp hdp0 hdp dv Fx a w h
        have e18 : dv 5 = (.pointer (some ⟨g1, 0, none⟩)) := h.fact 0 rfl
        replace h := (h.spellE (t := 19) e18 rfl h)
        refine st_loadO h 2 rfl rfl Tryz.isAgg4 rfl rfl fun a h => ?_
        refine wpList_nil ⟨rfl, ?_⟩
        exact ⟨_, h.drawEnd (F' := [_]) rfl rfl⟩
      intro dv a w h
      obtain ⟨A19, n20, c21, e23, f22⟩ := (h.fact 4 rfl)
      have e24 : dv 6 = (.bool b0) := h.fact 6 rfl
      have h2 := (h.spellE (t := 20) e24 rfl (h.spellE (t := 18) e23 rfl (h.consL (t := 13) rfl (h.consL (t := 4) rfl (h.consL (t := 3) rfl (h.consL (t := 2) rfl (h.consL (t := 1) rfl (h.consL (t := 0) rfl h.nilL))))))))
      have h3 := h2.noFacts
      have h3 := h3.add (h2.fact 10 rfl)
      have h3 := h3.add (h2.fact 9 rfl)
      have h3 := h3.add (h2.fact 8 rfl)
      have h3 := h3.add (h2.fact 7 rfl)
      clear h2
      replace h := h3
      clear h3
      have h := h.add (f := (Rel.natN).fact [(.slice A19 n20 c21)] ((z0.natAbs) + (z1.natAbs))) f22
      refine st_call h Tryz.func249 rfl rfl rfl (whole_made _ _ (fun b => h.owns_lt) (h.fact 0 rfl)) rfl fun r w a hg hF h => ?_
      obtain ⟨cs25, e27, f26⟩ := hF
      obtain ⟨b28, A29, n30, c31, rfl⟩ := intN_shape f26
      subst e27
      have h := h.add (f := (Rel.intN).fact [(.bool b28), (.slice A29 n30 c31)] (ofSign b0 ((z0.natAbs) + (z1.natAbs)))) f26
      refine st_store h 0 rfl rfl rfl Tryz.sizeOf55 rfl rfl rfl rfl fun w h => ?_
      refine wpList_nil ?_
      refine wp_ret ?_
      exact ret1 Tryz.results295 h (resv_agg h 0 rfl rfl Tryz.isAgg55 Tryz.sizeOf55 rfl) ⟨_, rfl, h.grow0, _, rfl, (by rw [show z0 + z1 = ofSign b0 ((z0.natAbs) + (z1.natAbs)) from by first | exact add_ofSign hz0 hz1 hb_if1 | exact sub_ofSign hz0 hz1 hb_if1 hle | exact sub_ofSign' hz0 hz1 hb_if1 hlt]; exact h.out 0 rfl)⟩
    · try simp only [decide_eq_true_eq, decide_eq_false_iff_not, Bool.not_eq_true', Bool.not_eq_false'] at hb_if1
      refine wp_skip ?_
      refine seq_ ?_
      refine seq_ ?_
      refine reg_ ?_
      refine st_fieldAddr h rfl (fa_55_1) rfl fun a h => ?_
      refine st_loadO h 2 rfl rfl Tryz.isAgg53 rfl rfl fun a h => ?_
      refine st_fieldAddr h rfl (fa_55_1) rfl fun a h => ?_
      refine st_loadO h 1 rfl rfl Tryz.isAgg53 rfl rfl fun a h => ?_
      refine st_call h Tryz.func321 rfl rfl rfl (limb_Sub_lt _ _ (fun b => h.owns_lt) (h.fact 2 rfl) (h.fact 3 rfl) (by omega) (by omega)) rfl fun r w a hg hF h => ?_
      obtain ⟨y32, y33, e34, t35, t36⟩ := hF
      obtain rfl := t35
      obtain rfl := t36
      subst e34
      refine st_move h rfl rfl fun a h => ?_
      refine st_extract (vs := [(.slice none 0 0), (.bool false)]) h rfl rfl rfl fun a h => ?_
      refine st_extract (vs := [(.slice none 0 0), (.bool false)]) h rfl rfl rfl fun a h => ?_
      refine st_assign h rfl rfl fun a h => ?_
      refine st_assign h rfl rfl fun a h => ?_
      refine wpList_nil ?_
      refine seq_ ?_
      refine reg_ ?_
      refine st_move h rfl rfl fun a h => ?_
      refine wpList_nil ?_
      refine cond_f h rfl (rfl) ?_
      refine wp_skip ?_
      refine seq_ ?_
      refine reg_ ?_
      refine st_fieldAddr h rfl (fa_55_1) rfl fun a h => ?_
      refine st_loadO h 1 rfl rfl Tryz.isAgg53 rfl rfl fun a h => ?_
      refine st_fieldAddr h rfl (fa_55_1) rfl fun a h => ?_
      refine st_loadO h 2 rfl rfl Tryz.isAgg53 rfl rfl fun a h => ?_
      refine st_call h Tryz.func321 rfl rfl rfl (limb_Sub_le _ _ (fun b => h.owns_lt) (h.fact 3 rfl) (h.fact 2 rfl) (by omega) (by omega)) rfl fun r w a hg hF h => ?_
      obtain ⟨y37, y38, e39, t40, t41⟩ := hF
      obtain ⟨A42, n43, c44, e46, f45⟩ := t40
      subst e46
      obtain rfl := t41
      subst e39
      have h := h.add (f := (Rel.natN).fact [(.slice A42 n43 c44)] ((z1.natAbs) - (z0.natAbs))) f45
      refine st_move h rfl rfl fun a h => ?_
      refine st_extract (vs := [(.slice A42 n43 c44), (.bool true)]) h rfl rfl rfl fun a h => ?_
      refine st_extract (vs := [(.slice A42 n43 c44), (.bool true)]) h rfl rfl rfl fun a h => ?_
      refine st_assign h rfl rfl fun a h => ?_
      refine st_assign h rfl rfl fun a h => ?_
      refine wpList_nil ?_
      refine seq_ ?_
      refine reg_ ?_
      refine st_move h rfl rfl fun a h => ?_
      refine st_fieldAddr h rfl (fa_55_0) rfl fun a h => ?_
      refine st_loadO h 1 rfl rfl Tryz.isAgg4 rfl rfl fun a h => ?_
      refine st_call h Tryz.func249 rfl rfl rfl (whole_made _ _ (fun b => h.owns_lt) (h.fact 0 rfl)) rfl fun r w a hg hF h => ?_
      obtain ⟨cs47, e49, f48⟩ := hF
      obtain ⟨b50, A51, n52, c53, rfl⟩ := intN_shape f48
      subst e49
      have h := h.add (f := (Rel.intN).fact [(.bool b50), (.slice A51 n52 c53)] (ofSign b1 ((z1.natAbs) - (z0.natAbs)))) f48
      refine st_store h 0 rfl rfl rfl Tryz.sizeOf55 rfl rfl rfl rfl fun w h => ?_
      refine wpList_nil ?_
      refine wp_ret ?_
      exact ret1 Tryz.results295 h (resv_agg h 0 rfl rfl Tryz.isAgg55 Tryz.sizeOf55 rfl) ⟨_, rfl, h.grow0, _, rfl, (by rw [show z0 + z1 = ofSign b1 ((z1.natAbs) - (z0.natAbs)) from by first | exact add_ofSign hz0 hz1 hb_if1 | exact sub_ofSign hz0 hz1 hb_if1 hle | exact sub_ofSign' hz0 hz1 hb_if1 hlt]; exact h.out 0 rfl)⟩
  · skip
    refine seq_ ?_
    refine reg_ ?_
    refine st_box h rfl rfl fun g54 w a h => ?_
    refine st_box h rfl rfl fun g55 w a h => ?_
    refine st_alloc h Tryz.zeroValue55 rfl fun g56 w a h => ?_
    refine wpList_nil ?_
    refine seq_ ?_
    refine seq_ ?_
    refine reg_ ?_
    refine st_fieldAddr h rfl (fa_55_0) rfl fun a h => ?_
    refine st_loadO h 2 rfl rfl Tryz.isAgg4 rfl rfl fun a h => ?_
    refine st_fieldAddr h rfl (fa_55_0) rfl fun a h => ?_
    refine st_loadO h 1 rfl rfl Tryz.isAgg4 rfl rfl fun a h => ?_
    refine st_eqb h rfl rfl Tryz.underlying4 rfl fun a h => ?_
    refine wpList_nil ?_
    refine cond_ h rfl (fun hb_if1 => ?_) (fun hb_if1 => ?_)
    · try simp only [decide_eq_true_eq, decide_eq_false_iff_not, Bool.not_eq_true', Bool.not_eq_false'] at hb_if1
      refine seq_ ?_
      refine draw0_ mixed_ 7 [some 14, some 15, some 16, some 17, some 18, some 19, some 20] [[], [0], [], [2], [1, 3], [], [5]] [(eqF (.pointer (some ⟨g54, 1, none⟩))), (eqF (.slice A0 n0 c0)), (eqF (.pointer (some ⟨g55, 1, none⟩))), (eqF (.slice A1 n1 c1)), (Rel.natN.sliceF ((z0.natAbs) + (z1.natAbs))), (eqF (.pointer (some ⟨g54, 0, none⟩))), (eqF (.bool b0))] rfl h rfl ⟨?_, ?_, ?_, ?_, ?_, ?_, ?_, trivial⟩ ?_
      · intro dp hdp0 hdp dv Fx a w h
        refine st_fieldAddr h rfl (fa_55_1) rfl fun a h => ?_
        refine wpList_nil ⟨rfl, ?_⟩
        exact ⟨_, h.drawEnd (F' := []) rfl rfl⟩
      · intro dp hdp0 hdp dv Fx a w h
        have e62 : dv 0 = (.pointer (some ⟨g54, 1, none⟩)) := h.fact 0 rfl
        replace h := (h.spellE (t := 14) e62 rfl h)
        refine st_loadO h 2 rfl rfl Tryz.isAgg53 rfl rfl fun a h => ?_
        refine wpList_nil ⟨rfl, ?_⟩
        exact ⟨_, h.drawEnd (F' := [_]) rfl rfl⟩
      · intro dp hdp0 hdp dv Fx a w h
        refine st_fieldAddr h rfl (fa_55_1) rfl fun a h => ?_
        refine wpList_nil ⟨rfl, ?_⟩
        exact ⟨_, h.drawEnd (F' := []) rfl rfl⟩
      · intro dp hdp0 hdp dv Fx a w h
        have e63 : dv 2 = (.pointer (some ⟨g55, 1, none⟩)) := h.fact 0 rfl
        replace h := (h.spellE (t := 16) e63 rfl h)
        refine st_loadO h 1 rfl rfl Tryz.isAgg53 rfl rfl fun a h => ?_
        refine wpList_nil ⟨rfl, ?_⟩
        exact ⟨_, h.drawEnd (F' := [_]) rfl rfl⟩
      · intro dp hdp0 hdp dv Fx a w h
        have e64 : dv 1 = (.slice A0 n0 c0) := h.fact 0 rfl
        have e65 : dv 3 = (.slice A1 n1 c1) := h.fact 1 rfl
        replace h := (h.spellE (t := 17) e65 rfl (h.spellE (t := 15) e64 rfl h))
        refine st_call h Tryz.func320 rfl rfl rfl (limb_Add _ _ (fun b => h.owns_lt) (h.fact 4 rfl) (h.fact 5 rfl) (by omega) (by omega)) rfl fun r w a hg hF h => ?_
        obtain ⟨A66, n67, c68, e70, f69⟩ := hF
        subst e70
        have h := h.add (f := (Rel.natN).fact [(.slice A66 n67 c68)] ((z0.natAbs) + (z1.natAbs))) f69
        refine wpList_nil ⟨rfl, ?_⟩
        exact ⟨_, h.drawEnd (F' := [_, _, _]) rfl ⟨_, _, _, rfl, h.fact 0 rfl⟩⟩
      · intro dp hdp0 hdp dv Fx a w h
        refine st_fieldAddr h rfl (fa_55_0) rfl fun a h => ?_
        refine wpList_nil ⟨rfl, ?_⟩
        exact ⟨_, h.drawEnd (F' := []) rfl rfl⟩
      · intro dp hdp0 hdp dv Fx a w h
        have e71 : dv 5 = (.pointer (some ⟨g54, 0, none⟩)) := h.fact 0 rfl
        replace h := (h.spellE (t := 19) e71 rfl h)
        refine st_loadO h 2 rfl rfl Tryz.isAgg4 rfl rfl fun a h => ?_
        refine wpList_nil ⟨rfl, ?_⟩
        exact ⟨_, h.drawEnd (F' := [_]) rfl rfl⟩
      intro dv a w h
      obtain ⟨A72, n73, c74, e76, f75⟩ := (h.fact 4 rfl)
      have e77 : dv 6 = (.bool b0) := h.fact 6 rfl
      have h2 := (h.spellE (t := 20) e77 rfl (h.spellE (t := 18) e76 rfl (h.consL (t := 13) rfl (h.consL (t := 4) rfl (h.consL (t := 3) rfl (h.consL (t := 2) rfl (h.consL (t := 1) rfl (h.consL (t := 0) rfl h.nilL))))))))
      have h3 := h2.noFacts
      have h3 := h3.add (h2.fact 10 rfl)
      have h3 := h3.add (h2.fact 9 rfl)
      have h3 := h3.add (h2.fact 8 rfl)
      have h3 := h3.add (h2.fact 7 rfl)
      clear h2
      replace h := h3
      clear h3
      have h := h.add (f := (Rel.natN).fact [(.slice A72 n73 c74)] ((z0.natAbs) + (z1.natAbs))) f75
      refine st_call h Tryz.func249 rfl rfl rfl (whole_made _ _ (fun b => h.owns_lt) (h.fact 0 rfl)) rfl fun r w a hg hF h => ?_
      obtain ⟨cs78, e80, f79⟩ := hF
      obtain ⟨b81, A82, n83, c84, rfl⟩ := intN_shape f79
      subst e80
      have h := h.add (f := (Rel.intN).fact [(.bool b81), (.slice A82 n83 c84)] (ofSign b0 ((z0.natAbs) + (z1.natAbs)))) f79
      refine st_store h 0 rfl rfl rfl Tryz.sizeOf55 rfl rfl rfl rfl fun w h => ?_
      refine wpList_nil ?_
      refine wp_ret ?_
      exact ret1 Tryz.results295 h (resv_agg h 0 rfl rfl Tryz.isAgg55 Tryz.sizeOf55 rfl) ⟨_, rfl, h.grow0, _, rfl, (by rw [show z0 + z1 = ofSign b0 ((z0.natAbs) + (z1.natAbs)) from by first | exact add_ofSign hz0 hz1 hb_if1 | exact sub_ofSign hz0 hz1 hb_if1 hle | exact sub_ofSign' hz0 hz1 hb_if1 hlt]; exact h.out 0 rfl)⟩
    · try simp only [decide_eq_true_eq, decide_eq_false_iff_not, Bool.not_eq_true', Bool.not_eq_false'] at hb_if1
      refine wp_skip ?_
      refine seq_ ?_
      refine seq_ ?_
      refine reg_ ?_
      refine st_fieldAddr h rfl (fa_55_1) rfl fun a h => ?_
      refine st_loadO h 2 rfl rfl Tryz.isAgg53 rfl rfl fun a h => ?_
      refine st_fieldAddr h rfl (fa_55_1) rfl fun a h => ?_
      refine st_loadO h 1 rfl rfl Tryz.isAgg53 rfl rfl fun a h => ?_
      refine st_call h Tryz.func321 rfl rfl rfl (limb_Sub_le _ _ (fun b => h.owns_lt) (h.fact 2 rfl) (h.fact 3 rfl) (by omega) (by omega)) rfl fun r w a hg hF h => ?_
      obtain ⟨y85, y86, e87, t88, t89⟩ := hF
      obtain ⟨A90, n91, c92, e94, f93⟩ := t88
      subst e94
      obtain rfl := t89
      subst e87
      have h := h.add (f := (Rel.natN).fact [(.slice A90 n91 c92)] ((z0.natAbs) - (z1.natAbs))) f93
      refine st_move h rfl rfl fun a h => ?_
      refine st_extract (vs := [(.slice A90 n91 c92), (.bool true)]) h rfl rfl rfl fun a h => ?_
      refine st_extract (vs := [(.slice A90 n91 c92), (.bool true)]) h rfl rfl rfl fun a h => ?_
      refine st_assign h rfl rfl fun a h => ?_
      refine st_assign h rfl rfl fun a h => ?_
      refine wpList_nil ?_
      refine seq_ ?_
      refine reg_ ?_
      refine st_move h rfl rfl fun a h => ?_
      refine wpList_nil ?_
      refine cond_t h rfl (rfl) ?_
      refine seq_ ?_
      refine reg_ ?_
      refine st_move h rfl rfl fun a h => ?_
      refine st_fieldAddr h rfl (fa_55_0) rfl fun a h => ?_
      refine st_loadO h 2 rfl rfl Tryz.isAgg4 rfl rfl fun a h => ?_
      refine st_call h Tryz.func249 rfl rfl rfl (whole_made _ _ (fun b => h.owns_lt) (h.fact 0 rfl)) rfl fun r w a hg hF h => ?_
      obtain ⟨cs95, e97, f96⟩ := hF
      obtain ⟨b98, A99, n100, c101, rfl⟩ := intN_shape f96
      subst e97
      have h := h.add (f := (Rel.intN).fact [(.bool b98), (.slice A99 n100 c101)] (ofSign b0 ((z0.natAbs) - (z1.natAbs)))) f96
      refine st_store h 0 rfl rfl rfl Tryz.sizeOf55 rfl rfl rfl rfl fun w h => ?_
      refine wpList_nil ?_
      refine wp_ret ?_
      exact ret1 Tryz.results295 h (resv_agg h 0 rfl rfl Tryz.isAgg55 Tryz.sizeOf55 rfl) ⟨_, rfl, h.grow0, _, rfl, (by rw [show z0 + z1 = ofSign b0 ((z0.natAbs) - (z1.natAbs)) from by first | exact add_ofSign hz0 hz1 hb_if1 | exact sub_ofSign hz0 hz1 hb_if1 hle | exact sub_ofSign' hz0 hz1 hb_if1 hlt]; exact h.out 0 rfl)⟩

set_option maxHeartbeats 1000000 in
theorem whole_Sub (hO : ∀ b, Ob b → b < W.heap.size) {b0 : Bool} {A0 : Option Addr} {n0 c0 : Nat} {z0 : Int} {b1 : Bool} {A1 : Option Addr} {n1 c1 : Nat} {z1 : Int} (hx0 : Rel.intA.at_ W Ob [.bool b0, .slice A0 n0 c0] z0) (hx1 : Rel.intA.at_ W Ob [.bool b1, .slice A1 n1 c1] z1) (hs0 : isz z0 ≤ 4294967295) (hs1 : isz z1 ≤ 4294967295) :
    Calls Tryz.prog 256 #[.agg #[.bool b0, .slice A0 n0 c0], .agg #[.bool b1, .slice A1 n1 c1]] W (Ret W Ob (Rel.intN.aggF (z0 - z1))) := by
  obtain ⟨hx2, hz0⟩ := intA_open hx0
  obtain ⟨hx3, hz1⟩ := intA_open hx1
  have hs0' : sz z0.natAbs ≤ 4294967295 := hs0
  have hs1' : sz z1.natAbs ≤ 4294967295 := hs1
  refine enter (vs := [(.agg #[(.bool b0), (.slice A0 n0 c0)]), (.agg #[(.bool b1), (.slice A1 n1 c1)])]) (Ob := Ob) (K := fun b => b < W.heap.size) (Fs := [(Rel.intA).fact [(.bool b0), (.slice A0 n0 c0)] (z0), (Rel.intA).fact [(.bool b1), (.slice A1 n1 c1)] (z1), (Rel.natA).fact [(.slice A0 n0 c0)] (z0.natAbs), (Rel.natA).fact [(.slice A1 n1 c1)] (z1.natAbs)]) Tryz.func256 rfl Tryz.ntmps256 rfl (fun _ h => h) hO (by simp only [List.mem_cons, List.not_mem_nil, or_false, forall_eq_or_imp, forall_eq, false_imp_iff, implies_true]; exact ⟨hx0, hx1, hx2, hx3⟩) fun a h => ?_
  refine seq_ ?_
  refine reg_ ?_
  refine st_box h rfl rfl fun g1 w a h => ?_
  refine st_box h rfl rfl fun g2 w a h => ?_
  refine st_alloc h Tryz.zeroValue55 rfl fun g3 w a h => ?_
  refine wpList_nil ?_
  refine seq_ ?_
  refine reg_ ?_
  refine st_fieldAddr h rfl (fa_55_0) rfl fun a h => ?_
  refine st_loadO h 1 rfl rfl Tryz.isAgg4 rfl rfl fun a h => ?_
  refine st_not h rfl rfl fun a h => ?_
  refine st_fieldAddr h rfl (fa_55_0) rfl fun a h => ?_
  refine st_store h 1 rfl rfl rfl Tryz.sizeOf4 rfl rfl rfl rfl fun w h => ?_
  refine wpList_nil ?_
  refine seq_ ?_
  refine reg_ ?_
  refine st_loadOS h 2 rfl rfl Tryz.isAgg55 Tryz.sizeOf55 rfl rfl fun a h => ?_
  refine st_loadOS h 1 rfl rfl Tryz.isAgg55 Tryz.sizeOf55 rfl rfl fun a h => ?_
  have h := h.add (f := (Rel.intA).fact [(.bool (!b1)), (.slice A1 n1 c1)] (-z1)) (intA_mk (h.fact 3 rfl) (flip_ofSign hz1))
  have hs2 : isz (-z1) ≤ 4294967295 := by rw [isz_neg]; exact hs1
  refine st_call h Tryz.func295 rfl rfl rfl (whole_Add _ _ (fun b => h.owns_lt) (h.fact 1 rfl) (h.fact 0 rfl) (by omega) (by omega)) rfl fun r w a hg hF h => ?_
  obtain ⟨cs4, e6, f5⟩ := hF
  obtain ⟨b7, A8, n9, c10, rfl⟩ := intN_shape f5
  subst e6
  have h := h.add (f := (Rel.intN).fact [(.bool b7), (.slice A8 n9 c10)] ((z0) + (-z1))) f5
  refine st_store h 0 rfl rfl rfl Tryz.sizeOf55 rfl rfl rfl rfl fun w h => ?_
  refine wpList_nil ?_
  refine wp_ret ?_
  exact ret1 Tryz.results256 h (resv_agg h 0 rfl rfl Tryz.isAgg55 Tryz.sizeOf55 rfl) ⟨_, rfl, h.grow0, _, rfl, (by rw [show z0 - z1 = (z0) + (-z1) from Int.sub_eq_add_neg]; exact h.out 0 rfl)⟩

set_option maxHeartbeats 1000000 in
theorem whole_Of (hO : ∀ b, Ob b → b < W.heap.size) {z : Int} (h1 : -9223372036854775808 ≤ z) (h2 : z ≤ 9223372036854775807) :
    Calls Tryz.prog 191 #[.int .i64 z] W (Ret W Ob (Rel.intN.aggF z)) := by
  have e32 : (2 : Nat) ^ 32 = 4294967296 := by decide
  refine enter (vs := [(.int .i64 z)]) (Ob := Ob) (K := fun b => b < W.heap.size) (Fs := []) Tryz.func191 rfl Tryz.ntmps191 rfl (fun _ h => h) hO (fun f hf => by cases hf) fun a h => ?_
  rcases Int.lt_or_le z 0 with hneg | hpos
  · obtain ⟨m, rfl⟩ : ∃ m : Nat, z = -(m : Int) := ⟨z.natAbs, by omega⟩
    refine seq_ ?_
    refine reg_ ?_
    refine st_alloc h Tryz.zeroValue55 rfl fun g1 w a h => ?_
    refine wpList_nil ?_
    refine seq_ ?_
    refine reg_ ?_
    refine st_move h rfl rfl fun a h => ?_
    refine st_convert h rfl Tryz.runUnderlying3 Tryz.runUnderlying317 rfl fun a h => ?_
    replace h := h.respell (u := .int .u64 (((18446744073709551616 - m : Nat)) : Int)) (by congr 1; simp only [wrapu64_is]; omega)
    refine st_assign h rfl rfl fun a h => ?_
    refine wpList_nil ?_
    refine seq_ ?_
    refine seq_ ?_
    refine reg_ ?_
    refine st_move h rfl rfl fun a h => ?_
    refine st_cmp h rfl rfl rfl rfl fun a h => ?_
    refine wpList_nil ?_
    refine cond_t h rfl (by first | (simp; done) | (simp; omega)) ?_
    refine reg_ ?_
    refine st_move h rfl rfl fun a h => ?_
    refine st_neg h rfl rfl fun a h => ?_
    replace h := h.respell (u := .int .u64 ((m : Nat) : Int)) (by congr 1; simp only [wrapu64_is]; omega)
    refine st_assign h rfl rfl fun a h => ?_
    refine wpList_nil ?_
    refine seq_ ?_
    refine reg_ ?_
    refine st_move h rfl rfl fun a h => ?_
    refine st_to32 (p := m) h rfl Tryz.runUnderlying317 Tryz.runUnderlying276 rfl fun a h => ?_
    refine st_move h rfl rfl fun a h => ?_
    refine st_shrN (p := m) (m := 32) h rfl rfl (by omega) rfl fun a h => ?_
    refine st_to32 (p := (m) / 2 ^ 32) h rfl Tryz.runUnderlying317 Tryz.runUnderlying276 rfl fun a h => ?_
    refine st_buildSlice h rfl (buildSlice_run (zs := [(.int .u32 0)]) Tryz.runUnderlying53 Tryz.sizeOf276 Tryz.zeroValue276 rfl rfl (by decide) (by decide) (by decide) rfl) rfl fun g2 w a h => ?_
    have hl : ∀ x ∈ [m % 4294967296, m / 2 ^ 32 % 4294967296], x < 4294967296 := by intro x hx; simp at hx; omega
    have hrow := own_row32 (r := [m % 4294967296, m / 2 ^ 32 % 4294967296]) 2 h (fun i hi => by rcases i with _ | _ | i <;> first | rfl | (simp at hi; omega)) hl (show 2 < 2 ^ 47 by decide) (Nat.le_refl _) (by decide)
    replace h := h.publish
    have h := h.add (f := (Rel.natA).fact [.slice (some ⟨g2, 0, none⟩) 2 2] (m)) (⟨_, hrow, hl, by simp only [val]; omega⟩)
    have hsm : sz m ≤ 64 := sz_le.2 (by omega)
    refine st_call h Tryz.func267 rfl rfl rfl (limb_Norm _ _ (fun b => h.owns_lt) (h.fact 0 rfl) (by omega)) rfl fun r w a hg hF h => ?_
    obtain ⟨A3, n4, c5, e7, f6⟩ := hF
    subst e7
    have h := h.add (f := (Rel.natN).fact [(.slice A3 n4 c5)] (m)) f6
    refine st_move h rfl rfl fun a h => ?_
    refine st_cmp h rfl rfl rfl rfl fun a h => ?_
    replace h := h.respell (u := .bool true) (congrArg _ (by first | (simp; done) | (simp; omega)))
    refine st_call h Tryz.func249 rfl rfl rfl (whole_made _ _ (fun b => h.owns_lt) (h.fact 0 rfl)) rfl fun r w a hg hF h => ?_
    obtain ⟨cs8, e10, f9⟩ := hF
    obtain ⟨b11, A12, n13, c14, rfl⟩ := intN_shape f9
    subst e10
    have h := h.add (f := (Rel.intN).fact [(.bool b11), (.slice A12 n13 c14)] (ofSign true (m))) f9
    refine st_store h 0 rfl rfl rfl Tryz.sizeOf55 rfl rfl rfl rfl fun w h => ?_
    refine wpList_nil ?_
    refine wp_ret ?_
    exact ret1 Tryz.results191 h (resv_agg h 0 rfl rfl Tryz.isAgg55 Tryz.sizeOf55 rfl) ⟨_, rfl, h.grow0, _, rfl, (by rw [show (-(m : Int)) = ofSign true (m) from (by first | (simp [ofSign]; done) | (simp [ofSign]; omega))]; exact h.out 0 rfl)⟩
  · obtain ⟨m, rfl⟩ : ∃ m : Nat, z = (m : Int) := ⟨z.natAbs, by omega⟩
    refine seq_ ?_
    refine reg_ ?_
    refine st_alloc h Tryz.zeroValue55 rfl fun g15 w a h => ?_
    refine wpList_nil ?_
    refine seq_ ?_
    refine reg_ ?_
    refine st_move h rfl rfl fun a h => ?_
    refine st_to64 (p := m) h rfl (by omega) Tryz.runUnderlying3 Tryz.runUnderlying317 rfl fun a h => ?_
    refine st_assign h rfl rfl fun a h => ?_
    refine wpList_nil ?_
    refine seq_ ?_
    refine seq_ ?_
    refine reg_ ?_
    refine st_move h rfl rfl fun a h => ?_
    refine st_cmp h rfl rfl rfl rfl fun a h => ?_
    refine wpList_nil ?_
    refine cond_f h rfl (by first | (simp; done) | (simp; omega)) ?_
    refine wp_skip ?_
    refine seq_ ?_
    refine reg_ ?_
    refine st_move h rfl rfl fun a h => ?_
    refine st_to32 (p := m) h rfl Tryz.runUnderlying317 Tryz.runUnderlying276 rfl fun a h => ?_
    refine st_move h rfl rfl fun a h => ?_
    refine st_shrN (p := m) (m := 32) h rfl rfl (by omega) rfl fun a h => ?_
    refine st_to32 (p := (m) / 2 ^ 32) h rfl Tryz.runUnderlying317 Tryz.runUnderlying276 rfl fun a h => ?_
    refine st_buildSlice h rfl (buildSlice_run (zs := [(.int .u32 0)]) Tryz.runUnderlying53 Tryz.sizeOf276 Tryz.zeroValue276 rfl rfl (by decide) (by decide) (by decide) rfl) rfl fun g16 w a h => ?_
    have hl : ∀ x ∈ [m % 4294967296, m / 2 ^ 32 % 4294967296], x < 4294967296 := by intro x hx; simp at hx; omega
    have hrow := own_row32 (r := [m % 4294967296, m / 2 ^ 32 % 4294967296]) 2 h (fun i hi => by rcases i with _ | _ | i <;> first | rfl | (simp at hi; omega)) hl (show 2 < 2 ^ 47 by decide) (Nat.le_refl _) (by decide)
    replace h := h.publish
    have h := h.add (f := (Rel.natA).fact [.slice (some ⟨g16, 0, none⟩) 2 2] (m)) (⟨_, hrow, hl, by simp only [val]; omega⟩)
    have hsm : sz m ≤ 64 := sz_le.2 (by omega)
    refine st_call h Tryz.func267 rfl rfl rfl (limb_Norm _ _ (fun b => h.owns_lt) (h.fact 0 rfl) (by omega)) rfl fun r w a hg hF h => ?_
    obtain ⟨A17, n18, c19, e21, f20⟩ := hF
    subst e21
    have h := h.add (f := (Rel.natN).fact [(.slice A17 n18 c19)] (m)) f20
    refine st_move h rfl rfl fun a h => ?_
    refine st_cmp h rfl rfl rfl rfl fun a h => ?_
    replace h := h.respell (u := .bool false) (congrArg _ (by first | (simp; done) | (simp; omega)))
    refine st_call h Tryz.func249 rfl rfl rfl (whole_made _ _ (fun b => h.owns_lt) (h.fact 0 rfl)) rfl fun r w a hg hF h => ?_
    obtain ⟨cs22, e24, f23⟩ := hF
    obtain ⟨b25, A26, n27, c28, rfl⟩ := intN_shape f23
    subst e24
    have h := h.add (f := (Rel.intN).fact [(.bool b25), (.slice A26 n27 c28)] (ofSign false (m))) f23
    refine st_store h 0 rfl rfl rfl Tryz.sizeOf55 rfl rfl rfl rfl fun w h => ?_
    refine wpList_nil ?_
    refine wp_ret ?_
    exact ret1 Tryz.results191 h (resv_agg h 0 rfl rfl Tryz.isAgg55 Tryz.sizeOf55 rfl) ⟨_, rfl, h.grow0, _, rfl, (by rw [show (m : Int) = ofSign false (m) from (by first | (simp [ofSign]; done) | (simp [ofSign]; omega))]; exact h.out 0 rfl)⟩

set_option maxHeartbeats 1000000 in
theorem whole_sign (hO : ∀ b, Ob b → b < W.heap.size) {b0 : Bool} {A0 : Option Addr} {n0 c0 : Nat} {z0 : Int} (hx0 : Rel.intA.at_ W Ob [.bool b0, .slice A0 n0 c0] z0) (hs0 : isz z0 ≤ 4294967295) :
    Calls Tryz.prog 317 #[.agg #[.bool b0, .slice A0 n0 c0]] W (Ret W Ob (eqF (.int .i64 (Int.sign z0)))) := by
  obtain ⟨hx1, hz0⟩ := intA_open hx0
  have hs0' : sz z0.natAbs ≤ 4294967295 := hs0
  have hsg := sign_sz z0
  have hsz := @sz_eq_zero z0.natAbs
  refine enter (vs := [(.agg #[(.bool b0), (.slice A0 n0 c0)])]) (Ob := Ob) (K := fun b => b < W.heap.size) (Fs := [(Rel.intA).fact [(.bool b0), (.slice A0 n0 c0)] (z0), (Rel.natA).fact [(.slice A0 n0 c0)] (z0.natAbs)]) Tryz.func317 rfl Tryz.ntmps317 rfl (fun _ h => h) hO (by simp only [List.mem_cons, List.not_mem_nil, or_false, forall_eq_or_imp, forall_eq, false_imp_iff, implies_true]; exact ⟨hx0, hx1⟩) fun a h => ?_
  refine seq_ ?_
  refine reg_ ?_
  refine st_box h rfl rfl fun g1 w a h => ?_
  refine st_assign h rfl rfl fun a h => ?_
  refine wpList_nil ?_
  refine seq_ ?_
  refine wp_block ?_
  refine seq_ ?_
  refine reg_ ?_
  refine st_fieldAddr h rfl (fa_55_1) rfl fun a h => ?_
  refine st_loadO h 0 rfl rfl Tryz.isAgg53 rfl rfl fun a h => ?_
  refine st_call h Tryz.func305 rfl rfl rfl (limb_Bits _ _ (fun b => h.owns_lt) (h.fact 1 rfl) (by omega)) rfl fun r w a hg hF h => ?_
  obtain rfl := hF
  refine st_cmp h rfl rfl rfl rfl fun a h => ?_
  refine st_assign h rfl rfl fun a h => ?_
  refine wpList_nil ?_
  refine cond_ h rfl (fun hb_if1 => ?_) (fun hb_if1 => ?_)
  · try simp only [decide_eq_true_eq, decide_eq_false_iff_not, Bool.not_eq_true', Bool.not_eq_false'] at hb_if1
    refine seq_ ?_
    refine reg_ ?_
    refine st_assign h rfl rfl fun a h => ?_
    refine wpList_nil ?_
    refine wp_ret ?_
    exact ret1 Tryz.results317 h (resv_tmp h rfl) ⟨_, rfl, h.grow0, congrArg _ (by rw [hsg]; (try rw [hb_if2] at hz0); (try simp only [if_true, if_false, Bool.false_eq_true] at hz0); split <;> (try split) <;> omega)⟩
  · try simp only [decide_eq_true_eq, decide_eq_false_iff_not, Bool.not_eq_true', Bool.not_eq_false'] at hb_if1
    refine seq_ ?_
    refine reg_ ?_
    refine st_fieldAddr h rfl (fa_55_0) rfl fun a h => ?_
    refine st_loadO h 0 rfl rfl Tryz.isAgg4 rfl rfl fun a h => ?_
    refine st_assign h rfl rfl fun a h => ?_
    refine wpList_nil ?_
    refine cond_ h rfl (fun hb_if2 => ?_) (fun hb_if2 => ?_)
    · try simp only [decide_eq_true_eq, decide_eq_false_iff_not, Bool.not_eq_true', Bool.not_eq_false'] at hb_if2
      refine seq_ ?_
      refine reg_ ?_
      refine st_assign h rfl rfl fun a h => ?_
      refine wpList_nil ?_
      refine wp_ret ?_
      exact ret1 Tryz.results317 h (resv_tmp h rfl) ⟨_, rfl, h.grow0, congrArg _ (by rw [hsg]; (try rw [hb_if2] at hz0); (try simp only [if_true, if_false, Bool.false_eq_true] at hz0); split <;> (try split) <;> omega)⟩
    · try simp only [decide_eq_true_eq, decide_eq_false_iff_not, Bool.not_eq_true', Bool.not_eq_false'] at hb_if2
      refine wp_skip ?_
      refine seq_ ?_
      refine reg_ ?_
      refine st_assign h rfl rfl fun a h => ?_
      refine wpList_nil ?_
      refine wp_ret ?_
      exact ret1 Tryz.results317 h (resv_tmp h rfl) ⟨_, rfl, h.grow0, congrArg _ (by rw [hsg]; (try rw [hb_if2] at hz0); (try simp only [if_true, if_false, Bool.false_eq_true] at hz0); split <;> (try split) <;> omega)⟩

set_option maxHeartbeats 1000000 in
theorem whole_Cmp (hO : ∀ b, Ob b → b < W.heap.size) {b0 : Bool} {A0 : Option Addr} {n0 c0 : Nat} {z0 : Int} {b1 : Bool} {A1 : Option Addr} {n1 c1 : Nat} {z1 : Int} (hx0 : Rel.intA.at_ W Ob [.bool b0, .slice A0 n0 c0] z0) (hx1 : Rel.intA.at_ W Ob [.bool b1, .slice A1 n1 c1] z1) (hs0 : isz z0 ≤ 4294967295) (hs1 : isz z1 ≤ 4294967295) :
    Calls Tryz.prog 291 #[.agg #[.bool b0, .slice A0 n0 c0], .agg #[.bool b1, .slice A1 n1 c1]] W (Ret W Ob (eqF (.int .i64 (cmpZ z0 z1)))) := by
  obtain ⟨hx2, hz0⟩ := intA_open hx0
  obtain ⟨hx3, hz1⟩ := intA_open hx1
  have hs0' : sz z0.natAbs ≤ 4294967295 := hs0
  have hs1' : sz z1.natAbs ≤ 4294967295 := hs1
  have hg0 := sign_cases z0
  have hg1 := sign_cases z1
  refine enter (vs := [(.agg #[(.bool b0), (.slice A0 n0 c0)]), (.agg #[(.bool b1), (.slice A1 n1 c1)])]) (Ob := Ob) (K := fun b => b < W.heap.size) (Fs := [(Rel.intA).fact [(.bool b0), (.slice A0 n0 c0)] (z0), (Rel.intA).fact [(.bool b1), (.slice A1 n1 c1)] (z1), (Rel.natA).fact [(.slice A0 n0 c0)] (z0.natAbs), (Rel.natA).fact [(.slice A1 n1 c1)] (z1.natAbs)]) Tryz.func291 rfl Tryz.ntmps291 rfl (fun _ h => h) hO (by simp only [List.mem_cons, List.not_mem_nil, or_false, forall_eq_or_imp, forall_eq, false_imp_iff, implies_true]; exact ⟨hx0, hx1, hx2, hx3⟩) fun a h => ?_
  refine seq_ ?_
  refine reg_ ?_
  refine st_box h rfl rfl fun g1 w a h => ?_
  refine st_box h rfl rfl fun g2 w a h => ?_
  refine st_assign h rfl rfl fun a h => ?_
  refine wpList_nil ?_
  refine seq_ ?_
  refine draw0_ mixed_ 3 [some 7, some 8, some 9] [[], [0], []] [(eqF (.agg #[(.bool b0), (.slice A0 n0 c0)])), (eqF (.int .i64 (Int.sign (z0)))), (eqF (.agg #[(.bool b1), (.slice A1 n1 c1)]))] rfl h rfl ⟨?_, ?_, ?_, trivial⟩ ?_
  · intro dp hdp0 hdp dv Fx a w h
    refine st_loadOS h 1 rfl rfl Tryz.isAgg55 Tryz.sizeOf55 rfl rfl fun a h => ?_
    refine wpList_nil ⟨rfl, ?_⟩
    exact ⟨_, h.drawEnd (F' := []) rfl rfl⟩
  · intro dp hdp0 hdp dv Fx a w h
    have e3 : dv 0 = (.agg #[(.bool b0), (.slice A0 n0 c0)]) := h.fact 0 rfl
    replace h := (h.spellE (t := 7) e3 rfl h)
    refine st_call h Tryz.func317 rfl rfl rfl (whole_sign _ _ (fun b => h.owns_lt) (h.fact 1 rfl) (by omega)) rfl fun r w a hg hF h => ?_
    obtain rfl := hF
    refine wpList_nil ⟨rfl, ?_⟩
    exact ⟨_, h.drawEnd (F' := [_]) rfl rfl⟩
  · intro dp hdp0 hdp dv Fx a w h
    refine st_loadOS h 0 rfl rfl Tryz.isAgg55 Tryz.sizeOf55 rfl rfl fun a h => ?_
    refine wpList_nil ⟨rfl, ?_⟩
    exact ⟨_, h.drawEnd (F' := []) rfl rfl⟩
  intro dv a w h
  have e4 : dv 1 = (.int .i64 (Int.sign (z0))) := h.fact 1 rfl
  have e5 : dv 2 = (.agg #[(.bool b1), (.slice A1 n1 c1)]) := h.fact 2 rfl
  have h2 := (h.spellE (t := 9) e5 rfl (h.spellE (t := 8) e4 rfl (h.consL (t := 4) rfl (h.consL (t := 3) rfl (h.consL (t := 2) rfl (h.consL (t := 1) rfl (h.consL (t := 0) rfl h.nilL)))))))
  have h3 := h2.noFacts
  have h3 := h3.add (h2.fact 6 rfl)
  have h3 := h3.add (h2.fact 5 rfl)
  have h3 := h3.add (h2.fact 4 rfl)
  have h3 := h3.add (h2.fact 3 rfl)
  clear h2
  replace h := h3
  clear h3
  refine st_call h Tryz.func317 rfl rfl rfl (whole_sign _ _ (fun b => h.owns_lt) (h.fact 1 rfl) (by omega)) rfl fun r w a hg hF h => ?_
  obtain rfl := hF
  refine st_assign h rfl rfl fun a h => ?_
  refine st_assign h rfl rfl fun a h => ?_
  refine wpList_nil ?_
  refine seq_ ?_
  refine wp_block ?_
  refine seq_ ?_
  refine reg_ ?_
  refine st_move h rfl rfl fun a h => ?_
  refine st_move h rfl rfl fun a h => ?_
  refine st_cmp h rfl rfl rfl rfl fun a h => ?_
  refine st_assign h rfl rfl fun a h => ?_
  refine wpList_nil ?_
  refine cond_ h rfl (fun hb_if1 => ?_) (fun hb_if1 => ?_)
  · try simp only [decide_eq_true_eq, decide_eq_false_iff_not, Bool.not_eq_true', Bool.not_eq_false'] at hb_if1
    refine seq_ ?_
    refine reg_ ?_
    refine st_assign h rfl rfl fun a h => ?_
    refine wpList_nil ?_
    refine wp_ret ?_
    exact ret1 Tryz.results291 h (resv_tmp h rfl) ⟨_, rfl, h.grow0, congrArg _ (by unfold cmpZ; (try unfold cmpN); split <;> (try split) <;> (try split) <;> (try split) <;> omega)⟩
  · try simp only [decide_eq_true_eq, decide_eq_false_iff_not, Bool.not_eq_true', Bool.not_eq_false'] at hb_if1
    refine seq_ ?_
    refine reg_ ?_
    refine st_move h rfl rfl fun a h => ?_
    refine st_move h rfl rfl fun a h => ?_
    refine st_cmp h rfl rfl rfl rfl fun a h => ?_
    refine st_assign h rfl rfl fun a h => ?_
    refine wpList_nil ?_
    refine cond_ h rfl (fun hb_if2 => ?_) (fun hb_if2 => ?_)
    · try simp only [decide_eq_true_eq, decide_eq_false_iff_not, Bool.not_eq_true', Bool.not_eq_false'] at hb_if2
      refine seq_ ?_
      refine reg_ ?_
      refine st_assign h rfl rfl fun a h => ?_
      refine wpList_nil ?_
      refine wp_ret ?_
      exact ret1 Tryz.results291 h (resv_tmp h rfl) ⟨_, rfl, h.grow0, congrArg _ (by unfold cmpZ; (try unfold cmpN); split <;> (try split) <;> (try split) <;> (try split) <;> omega)⟩
    · try simp only [decide_eq_true_eq, decide_eq_false_iff_not, Bool.not_eq_true', Bool.not_eq_false'] at hb_if2
      refine seq_ ?_
      refine reg_ ?_
      refine st_move h rfl rfl fun a h => ?_
      refine st_cmp h rfl rfl rfl rfl fun a h => ?_
      refine st_assign h rfl rfl fun a h => ?_
      refine wpList_nil ?_
      refine cond_ h rfl (fun hb_if3 => ?_) (fun hb_if3 => ?_)
      · try simp only [decide_eq_true_eq, decide_eq_false_iff_not, Bool.not_eq_true', Bool.not_eq_false'] at hb_if3
        refine seq_ ?_
        refine reg_ ?_
        refine st_fieldAddr h rfl (fa_55_1) rfl fun a h => ?_
        refine st_loadO h 0 rfl rfl Tryz.isAgg53 rfl rfl fun a h => ?_
        refine st_fieldAddr h rfl (fa_55_1) rfl fun a h => ?_
        refine st_loadO h 1 rfl rfl Tryz.isAgg53 rfl rfl fun a h => ?_
        refine st_call h Tryz.func318 rfl rfl rfl (limb_Cmp _ _ (fun b => h.owns_lt) (h.fact 3 rfl) (h.fact 2 rfl)) rfl fun r w a hg hF h => ?_
        obtain rfl := hF
        refine st_assign h rfl rfl fun a h => ?_
        refine wpList_nil ?_
        refine wp_ret ?_
        exact ret1 Tryz.results291 h (resv_tmp h rfl) ⟨_, rfl, h.grow0, congrArg _ (by unfold cmpZ; (try unfold cmpN); split <;> (try split) <;> (try split) <;> (try split) <;> omega)⟩
      · try simp only [decide_eq_true_eq, decide_eq_false_iff_not, Bool.not_eq_true', Bool.not_eq_false'] at hb_if3
        refine wp_skip ?_
        refine seq_ ?_
        refine reg_ ?_
        refine st_fieldAddr h rfl (fa_55_1) rfl fun a h => ?_
        refine st_loadO h 1 rfl rfl Tryz.isAgg53 rfl rfl fun a h => ?_
        refine st_fieldAddr h rfl (fa_55_1) rfl fun a h => ?_
        refine st_loadO h 0 rfl rfl Tryz.isAgg53 rfl rfl fun a h => ?_
        refine st_call h Tryz.func318 rfl rfl rfl (limb_Cmp _ _ (fun b => h.owns_lt) (h.fact 2 rfl) (h.fact 3 rfl)) rfl fun r w a hg hF h => ?_
        obtain rfl := hF
        refine st_assign h rfl rfl fun a h => ?_
        refine wpList_nil ?_
        refine wp_ret ?_
        exact ret1 Tryz.results291 h (resv_tmp h rfl) ⟨_, rfl, h.grow0, congrArg _ (by unfold cmpZ; (try unfold cmpN); split <;> (try split) <;> (try split) <;> (try split) <;> omega)⟩

end Orr

namespace Orr
/-- B is the base, top the highest limb, nx the next one -/
theorem est_start {B X Y q top nx Yr h3 Xr p : Nat} (hY : Y = (top * B + nx) * p + Yr) (hX : X = h3 * p + Xr) (hXr : Xr < p) (hq : q * Y ≤ X) {head x2 : Nat} (h3e : h3 = head * B + x2) (hx2 : x2 < B) (ht : 0 < top) :
    q ≤ head / top := by
  rw [Nat.le_div_iff_mul_le ht]
  rcases Nat.lt_or_ge head (q * top) with h | h
  · exfalso
    have h1 : (head + 1) * B * p ≤ q * top * B * p := Nat.mul_le_mul_right _ (Nat.mul_le_mul_right _ h)
    have h2 : q * top * B * p ≤ q * Y := by
      rw [hY, Nat.mul_add]
      have : q * ((top * B + nx) * p) = q * top * B * p + q * nx * p := by grind
      omega
    have h4 : h3 * p + p ≤ (head + 1) * B * p := by
      have : (h3 + 1) * p ≤ (head + 1) * B * p := Nat.mul_le_mul_right _ (by rw [h3e, Nat.succ_mul]; omega)
      have e : (h3 + 1) * p = h3 * p + p := by grind
      omega
    omega
  · exact h
/-- too great: the next lower one will do -/
theorem est_down {B X Y q top nx Yr h3 Xr p g r head x2 : Nat} (hY : Y = (top * B + nx) * p + Yr) (hX : X = h3 * p + Xr) (hXr : Xr < p) (hq : q * Y ≤ X) (h3e : h3 = head * B + x2) (hg : g * top + r = head)
    (hc : g * nx > r * B + x2) (hle : q ≤ g) : q ≤ g - 1 := by
  rcases Nat.eq_or_lt_of_le hle with h | h
  · exfalso
    subst h
    have h1 : h3 + 1 ≤ q * (top * B + nx) := by
      have e : q * (top * B + nx) = q * top * B + q * nx := by grind
      have e2 : head * B = q * top * B + r * B := by rw [← hg]; grind
      rw [h3e, e, e2]; omega
    have h2 : (h3 + 1) * p ≤ q * (top * B + nx) * p := Nat.mul_le_mul_right _ h1
    have h4 : q * (top * B + nx) * p ≤ q * Y := by
      have : q * ((top * B + nx) * p) = q * (top * B + nx) * p := by grind
      rw [hY, Nat.mul_add q ((top * B + nx) * p) Yr, this]; exact Nat.le_add_right _ _
    have e : (h3 + 1) * p = h3 * p + p := by grind
    omega
  · omega
/-- small enough: one less will surely do -/
theorem est_end {B X Y top nx Yr h3 Xr p g r head x2 : Nat} (hY : Y = (top * B + nx) * p + Yr) (hYr : Yr < p) (hX : X = h3 * p + Xr) (h3e : h3 = head * B + x2) (hg : g * top + r = head) (ht : 0 < top)
    (hc : g * nx ≤ r * B + x2) (hgB : g ≤ B) : (g - 1) * Y ≤ X := by
  rcases Nat.eq_zero_or_pos g with h0 | h0
  · subst h0; simp
  · obtain ⟨k, rfl⟩ : ∃ k, g = k + 1 := ⟨g - 1, by omega⟩
    simp only [Nat.add_sub_cancel]
    have h1 : (k + 1) * (top * B + nx) ≤ h3 := by
      have e : (k + 1) * (top * B + nx) = (k + 1) * top * B + (k + 1) * nx := by grind
      have e2 : head * B = (k + 1) * top * B + r * B := by rw [← hg]; grind
      rw [h3e, e, e2]; omega
    have h2 : (k + 1) * (top * B + nx) * p ≤ h3 * p := Nat.mul_le_mul_right _ h1
    have h3' : k * Yr ≤ k * p := Nat.mul_le_mul_left _ (by omega)
    have h5 : B ≤ top * B := Nat.le_mul_of_pos_left _ ht
    have h4 : k * p ≤ (top * B + nx) * p := Nat.mul_le_mul_right _ (by omega)
    have e1 : k * Y = k * (top * B + nx) * p + k * Yr := by rw [hY]; grind
    have e2 : (k + 1) * (top * B + nx) * p = k * (top * B + nx) * p + (top * B + nx) * p := by grind
    omega
/-- one limb less g times one limb -/
theorem mulsub_step {o x y : List Nat} {i u w g c b p s : Nat} (ho : i < o.length) (hu : x[i]? = some u) (hw : y[i]? = some w) (hub : u < 4294967296) (hb : b ≤ 1)
    (h : val (o.take i) + g * val (y.take i) = val (x.take i) + (c + b) * 4294967296 ^ i) (hp : p = g * w + c)
    (hs : s = ((u + 18446744073709551616 - p % 4294967296) % 18446744073709551616 + 18446744073709551616 - b) % 18446744073709551616) :
    val ((o.set i (s % 4294967296)).take (i + 1)) + g * val (y.take (i + 1)) = val (x.take (i + 1)) + (p / 4294967296 + s / 9223372036854775808) * 4294967296 ^ (i + 1) ∧ s / 9223372036854775808 ≤ 1 := by
  rw [val_set o i _ ho, val_take_succ x i u hu, val_take_succ y i w hw, Nat.pow_succ]
  have ep : p = 4294967296 * (p / 4294967296) + p % 4294967296 := (Nat.div_add_mod p 4294967296).symm
  have hpl : p % 4294967296 < 4294967296 := Nat.mod_lt _ (by decide)
  generalize p / 4294967296 = ph at *
  generalize p % 4294967296 = pl at *
  have key : s % 4294967296 + pl + b = u + (s / 9223372036854775808) * 4294967296 ∧ s / 9223372036854775808 ≤ 1 := by omega
  refine ⟨?_, key.2⟩
  have k1 := key.1
  generalize s % 4294967296 = m at *
  generalize s / 9223372036854775808 = b' at *
  generalize (4294967296 : Nat) ^ i = P at *
  clear hs hub hu hw ho hpl key
  have e1 : g * (val (y.take i) + P * w) = g * val (y.take i) + P * (g * w) := by grind
  have e2 : g * w + c = 4294967296 * ph + pl := by omega
  have e3 : P * (g * w) + P * c = P * (4294967296 * ph) + P * pl := by rw [← Nat.mul_add, ← Nat.mul_add, e2]
  have e4 : P * m + P * pl + P * b = P * u + P * (b' * 4294967296) := by rw [← Nat.mul_add, ← Nat.mul_add, ← Nat.mul_add, k1]
  grind
end Orr

namespace Orr
theorem mulsub_step' {o x y : List Nat} {i u w g c b : Nat} (ho : i < o.length) (hu : x[i]? = some u) (hw : y[i]? = some w) (hub : u < 4294967296) (hb : b ≤ 1)
    (h : val (o.take i) + g * val (y.take i) = val (x.take i) + (c + b) * 4294967296 ^ i) {p s : Nat} (hp : p = g * w + c)
    (hs : s = ((u + 18446744073709551616 - p % 4294967296) % 18446744073709551616 + 18446744073709551616 - b) % 18446744073709551616) :
    val ((o.set i (s % 4294967296)).take (i + 1)) + g * val (y.take (i + 1)) = val (x.take (i + 1)) + (p / 2 ^ 32 + s / 2 ^ 63) * 4294967296 ^ (i + 1) ∧ s / 2 ^ 63 ≤ 1 :=
  mulsub_step ho hu hw hub hb h hp hs
theorem val_top1 {l : List Nat} {k c : Nat} (hl : l.length = k + 1) (hc : l[k]? = some c) : val l = val (l.take k) + 4294967296 ^ k * c := by
  rw [← val_take_succ l k c hc, List.take_of_length_le (by omega)]
theorem val_take_lt {l : List Nat} (hb : ∀ u ∈ l, u < 4294967296) {k : Nat} (hk : k ≤ l.length) : val (l.take k) < 4294967296 ^ k := by
  have := val_lt (l.take k) (fun u hu => hb u (List.mem_of_mem_take hu))
  rwa [List.length_take, Nat.min_eq_left hk] at this
theorem drop_get {o x : List Nat} {i : Nat} (h : o.drop i = x.drop i) : o[i]? = x[i]? := by
  have := congrArg (·[0]?) h
  simpa using this
theorem drop_next {o x : List Nat} {i v : Nat} (h : o.drop i = x.drop i) : (o.set i v).drop (i + 1) = x.drop (i + 1) := by
  rw [drop_set o i v (i + 1) (by omega)]
  have := congrArg (List.drop 1) h
  simpa [List.drop_drop] using this
/-- what a digit begins with -/
structure Dig (x l : List Nat) (n top nx xn x1 x2 : Nat) : Prop where
  hn : 2 ≤ n
  hl : l.length = n
  hx : x.length = n + 1
  lb : ∀ u ∈ l, u < 4294967296
  xb : ∀ u ∈ x, u < 4294967296
  ltop : l[n - 1]? = some top
  lnx : l[n - 2]? = some nx
  xn : x[n]? = some xn
  x1 : x[n - 1]? = some x1
  x2 : x[n - 2]? = some x2
  top0 : 0 < top
  lt : val x < val l * 4294967296
section
variable {x l : List Nat} {n top nx xn x1 x2 : Nat} (D : Dig x l n top nx xn x1 x2)
include D
theorem Dig.parts : ∃ p Yr Xr, val l = (top * 4294967296 + nx) * p + Yr ∧ Yr < p ∧ val x = ((xn * 2 ^ 32 + x1) * 4294967296 + x2) * p + Xr ∧ Xr < p := by
  obtain ⟨hn, hl, hx, lb, xb, ltop, lnx, exn, ex1, ex2, _, _⟩ := D
  obtain ⟨k, rfl⟩ : ∃ k, n = k + 2 := ⟨n - 2, by omega⟩
  simp only [show k + 2 - 1 = k + 1 from by omega, Nat.add_sub_cancel] at *
  refine ⟨4294967296 ^ k, val (l.take k), val (x.take k), ?_, val_take_lt lb (by omega), ?_, val_take_lt xb (by omega)⟩
  · rw [val_top1 hl ltop, val_take_succ l k nx lnx, Nat.pow_succ]
    generalize (4294967296 : Nat) ^ k = p
    grind
  · have e32 : (2 : Nat) ^ 32 = 4294967296 := by decide
    have q1 : (4294967296 : Nat) ^ (k + 1) = 4294967296 ^ k * 4294967296 := Nat.pow_succ _ _
    have q2 : (4294967296 : Nat) ^ (k + 2) = 4294967296 ^ k * 4294967296 * 4294967296 := by rw [← q1]; exact Nat.pow_succ _ _
    rw [val_top1 hx exn, val_take_succ x (k + 1) x1 ex1, val_take_succ x k x2 ex2, q1, q2, e32]
    clear q1 q2
    generalize (4294967296 : Nat) ^ k = p
    grind
theorem Dig.Ypos : 0 < val l := by
  obtain ⟨p, Yr, Xr, hY, hYr, _, _⟩ := D.parts
  have h1 : 0 < top * 4294967296 + nx := by have := D.top0; omega
  have := Nat.mul_pos h1 (show 0 < p by omega)
  omega
theorem Dig.qlt : val x / val l < 4294967296 := Nat.div_lt_of_lt_mul D.lt
theorem Dig.qle : val x / val l * val l ≤ val x := Nat.div_mul_le_self _ _
theorem Dig.bnd : top < 4294967296 ∧ nx < 4294967296 ∧ xn < 4294967296 ∧ x1 < 4294967296 ∧ x2 < 4294967296 :=
  ⟨D.lb _ (List.mem_of_getElem? D.ltop), D.lb _ (List.mem_of_getElem? D.lnx), D.xb _ (List.mem_of_getElem? D.xn), D.xb _ (List.mem_of_getElem? D.x1), D.xb _ (List.mem_of_getElem? D.x2)⟩
theorem Dig.head_le : xn * 2 ^ 32 + x1 < top * 4294967296 + 4294967296 := by
  obtain ⟨p, Yr, Xr, hY, hYr, hX, hXr⟩ := D.parts
  have hlt := D.lt
  have hb := D.bnd
  have e32 : (2 : Nat) ^ 32 = 4294967296 := by decide
  rw [e32] at hX ⊢
  rcases Nat.lt_or_ge xn (top + 1) with h | h
  · omega
  · exfalso
    have h1 : val l < (top + 1) * 4294967296 * p := by
      have h2 : (top * 4294967296 + nx + 1) * p ≤ (top + 1) * 4294967296 * p := Nat.mul_le_mul_right _ (by omega)
      have e : (top * 4294967296 + nx + 1) * p = (top * 4294967296 + nx) * p + p := by grind
      omega
    have h3 : (top + 1) * 4294967296 * 4294967296 * p ≤ ((xn * 4294967296 + x1) * 4294967296 + x2) * p := Nat.mul_le_mul_right _ (by omega)
    have h4 : val l * 4294967296 < (top + 1) * 4294967296 * p * 4294967296 := Nat.mul_lt_mul_of_pos_right h1 (by decide)
    have e2 : (top + 1) * 4294967296 * p * 4294967296 = (top + 1) * 4294967296 * 4294967296 * p := by
      generalize (4294967296 : Nat) = B; grind
    omega
theorem Dig.start : val x / val l ≤ (xn * 2 ^ 32 + x1) / top := by
  obtain ⟨p, Yr, Xr, hY, hYr, hX, hXr⟩ := D.parts
  exact est_start hY hX hXr D.qle rfl D.bnd.2.2.2.2 D.top0
theorem Dig.fin {g r : Nat} (hg : g * top + r = xn * 2 ^ 32 + x1) (hc : g * nx ≤ r * 2 ^ 32 + x2) (hB : g ≤ 4294967296) : (g - 1) * val l ≤ val x := by
  obtain ⟨p, Yr, Xr, hY, hYr, hX, hXr⟩ := D.parts
  have e32 : (2 : Nat) ^ 32 = 4294967296 := by decide
  rw [e32] at hc
  exact est_end hY hYr hX rfl hg D.top0 hc hB
theorem Dig.round {g r : Nat} (hg : g * top + r = xn * 2 ^ 32 + x1) (hq : val x / val l ≤ g) (hc : 4294967296 ≤ g ∨ r * 2 ^ 32 + x2 < g * nx) :
    1 ≤ g ∧ val x / val l ≤ g - 1 ∧ (g - 1) * top + (r + top) = xn * 2 ^ 32 + x1 ∧ (4294967296 ≤ r + top → (g - 1 - 1) * val l ≤ val x ∧ g - 1 ≤ 4294967296) := by
  have e32 : (2 : Nat) ^ 32 = 4294967296 := by decide
  have hb := D.bnd
  have h1 : 1 ≤ g := by
    rcases hc with h | h
    · omega
    · rcases Nat.eq_zero_or_pos g with h0 | h0
      · subst h0; simp at h
      · exact h0
  have h2 : val x / val l ≤ g - 1 := by
    rcases hc with h | h
    · have := D.qlt; omega
    · obtain ⟨p, Yr, Xr, hY, hYr, hX, hXr⟩ := D.parts
      rw [e32] at h
      exact est_down hY hX hXr D.qle rfl hg h hq
  obtain ⟨k, rfl⟩ : ∃ k, g = k + 1 := ⟨g - 1, by omega⟩
  simp only [Nat.add_sub_cancel] at h2 ⊢
  have h3 : k * top + (r + top) = xn * 2 ^ 32 + x1 := by rw [← hg, Nat.succ_mul]; omega
  refine ⟨h1, h2, h3, fun hr => ?_⟩
  have hk : k < 4294967296 := by
    have hh := D.head_le
    rcases Nat.lt_or_ge k 4294967296 with h | h
    · exact h
    · have := Nat.mul_le_mul_right top h
      omega
  refine ⟨D.fin h3 ?_ (by omega), by omega⟩
  have h4 := mul_le_limb hk hb.2.1
  rw [e32]
  have h5 : 4294967296 * 4294967296 ≤ (r + top) * 4294967296 := Nat.mul_le_mul_right _ hr
  omega
/-- nothing borrowed at the top: g was right -/
theorem Dig.fin0 {o : List Nat} {g c b s : Nat} (ho : o.length = n + 1) (hc : c < 4294967296) (hb : b ≤ 1) (hq : val x / val l ≤ g)
    (h : val (o.take n) + g * val l = val (x.take n) + (c + b) * 4294967296 ^ n)
    (hs : s = ((xn + 18446744073709551616 - c) % 18446744073709551616 + 18446744073709551616 - b) % 18446744073709551616) (hs0 : s / 2 ^ 63 = 0) :
    g % 4294967296 = val x / val l ∧ val (o.set n (s % 4294967296)) = val x % val l := by
  have hbd := D.bnd
  have e63 : (2 : Nat) ^ 63 = 9223372036854775808 := by decide
  rw [e63] at hs0
  have hs1 : s = xn - c - b ∧ c + b ≤ xn := by omega
  have hsB : s % 4294967296 = xn - c - b := by omega
  have hset : (o.set n (s % 4294967296))[n]? = some (s % 4294967296) := by rw [List.getElem?_set_self (by omega)]
  have ev : val (o.set n (s % 4294967296)) = val (o.take n) + 4294967296 ^ n * (xn - c - b) := by
    rw [val_top1 (by rw [List.length_set]; exact ho) hset, take_set_same, hsB]
  have eX := val_top1 D.hx D.xn
  have key : val (o.set n (s % 4294967296)) + g * val l = val x := by
    rw [ev, eX]
    obtain ⟨m, rfl⟩ : ∃ m, xn = m + (c + b) := ⟨xn - (c + b), by omega⟩
    rw [show m + (c + b) - c - b = m from by omega]
    generalize (4294967296 : Nat) ^ n = p at *
    have : p * (m + (c + b)) = p * m + (c + b) * p := by grind
    omega
  have hg : g ≤ val x / val l := by
    rw [Nat.le_div_iff_mul_le D.Ypos]; omega
  have hgq : g = val x / val l := by omega
  have hgB := D.qlt
  have hdm := Nat.div_add_mod (val x) (val l)
  rw [← hgq] at hdm hgB ⊢
  refine ⟨Nat.mod_eq_of_lt hgB, ?_⟩
  rw [Nat.mul_comm] at hdm
  omega
/-- one too many -/
theorem Dig.fin1 {o : List Nat} {g c b s : Nat} (ho : o.length = n + 1) (hob : ∀ u ∈ o, u < 4294967296) (hc : c < 4294967296) (hb : b ≤ 1) (hg1 : (g - 1) * val l ≤ val x)
    (h : val (o.take n) + g * val l = val (x.take n) + (c + b) * 4294967296 ^ n)
    (hs : s = ((xn + 18446744073709551616 - c) % 18446744073709551616 + 18446744073709551616 - b) % 18446744073709551616) (hs0 : ¬ s / 2 ^ 63 = 0) :
    g = val x / val l + 1 ∧ val (o.set n (s % 4294967296)) + val l = val x % val l + 4294967296 ^ n * 4294967296 := by
  have hbd := D.bnd
  have e63 : (2 : Nat) ^ 63 = 9223372036854775808 := by decide
  rw [e63] at hs0
  have hsB : s % 4294967296 + (c + b) = xn + 4294967296 := by omega
  have hset : (o.set n (s % 4294967296))[n]? = some (s % 4294967296) := by rw [List.getElem?_set_self (by omega)]
  have hm : s % 4294967296 < 4294967296 := Nat.mod_lt _ (by decide)
  have ev : val (o.set n (s % 4294967296)) = val (o.take n) + 4294967296 ^ n * (s % 4294967296) := by
    rw [val_top1 (by rw [List.length_set]; exact ho) hset, take_set_same]
  have eX := val_top1 D.hx D.xn
  have hlt : val (o.take n) < 4294967296 ^ n := val_take_lt hob (by omega)
  have key : val (o.set n (s % 4294967296)) + g * val l = val x + 4294967296 ^ n * 4294967296 := by
    rw [ev, eX]
    generalize (4294967296 : Nat) ^ n = p at *
    have e1 : p * (s % 4294967296 + (c + b)) = p * (xn + 4294967296) := by rw [hsB]
    rw [Nat.mul_add p (s % 4294967296) (c + b), Nat.mul_add p xn, Nat.mul_comm p (c + b)] at e1
    omega
  have hvlt : val (o.set n (s % 4294967296)) < 4294967296 ^ n * 4294967296 := by
    have := val_lt (o.set n (s % 4294967296)) (set_lt hob _ _ hm)
    rwa [List.length_set, ho, Nat.pow_succ] at this
  have hq1 : g - 1 ≤ val x / val l := (Nat.le_div_iff_mul_le D.Ypos).2 hg1
  have hq2 : val x / val l < g := by
    rw [Nat.div_lt_iff_lt_mul D.Ypos]; omega
  have hgq : g = val x / val l + 1 := by omega
  refine ⟨hgq, ?_⟩
  have hdm := Nat.div_add_mod (val x) (val l)
  rw [hgq, Nat.succ_mul] at key
  rw [Nat.mul_comm] at hdm
  omega
/-- added back -/
theorem Dig.fin2 {o1 o2 : List Nat} {v bk : Nat} (h1 : o1.length = n + 1) (h1b : ∀ u ∈ o1, u < 4294967296) (h2 : o2.length = n + 1) (h2b : ∀ u ∈ o2, u < 4294967296) (hv : o1[n]? = some v) (hbk : bk ≤ 1)
    (hk : val o1 + val l = val x % val l + 4294967296 ^ n * 4294967296) (h : val (o2.take n) + bk * 4294967296 ^ n = val (o1.take n) + val l) :
    val (o2.set n ((v + bk) % 4294967296)) = val x % val l := by
  have hset : (o2.set n ((v + bk) % 4294967296))[n]? = some ((v + bk) % 4294967296) := by rw [List.getElem?_set_self (by omega)]
  rw [val_top1 (by rw [List.length_set]; exact h2) hset, take_set_same]
  rw [val_top1 h1 hv] at hk
  have hvb := h1b _ (List.mem_of_getElem? hv)
  have hlt : val (o2.take n) < 4294967296 ^ n := val_take_lt h2b (by omega)
  have hY : val l < 4294967296 ^ n := by have := val_lt l D.lb; rwa [D.hl] at this
  have hR : val x % val l < val l := Nat.mod_lt _ D.Ypos
  generalize (4294967296 : Nat) ^ n = p at *
  have e : val (o2.take n) + p * (v + bk) = val x % val l + p * 4294967296 := by
    rw [Nat.mul_add, Nat.mul_comm p bk]; omega
  have hvk : v + bk = 4294967296 := by
    rcases Nat.lt_trichotomy (v + bk) 4294967296 with h' | h' | h'
    · have := Nat.mul_le_mul_left p h'
      rw [Nat.mul_succ] at this
      omega
    · exact h'
    · omega
  rw [hvk] at e ⊢
  simp
  omega
end
end Orr
namespace Orr
open Go
theorem dec64 {g : Nat} (h1 : 1 ≤ g) (h2 : g < 18446744073709551616) : (g + 18446744073709551616 - 1) % 18446744073709551616 = g - 1 := by omega
theorem sub32 {g q : Nat} (h : g = q + 1) (hq : q < 4294967296) : IntKind.u32.wrap (((g % 4294967296 : Nat) : Int) - 1) = (q : Int) := by
  subst h
  simp [IntKind.wrap, IntKind.bits, IntKind.signed]
  omega
end Orr

namespace Orr
/-- the window of a round -/
def win (o : List Nat) (i n : Nat) : List Nat := (o.drop i).take (n + 1)
theorem win_split (o : List Nat) (i n : Nat) : o.take i ++ win o i n ++ o.drop (i + n + 1) = o := by
  unfold win
  rw [List.append_assoc, show o.drop (i + n + 1) = (o.drop i).drop (n + 1) from by rw [List.drop_drop]; congr 1]
  rw [List.take_append_drop, List.take_append_drop]
theorem win_len {o : List Nat} {i n : Nat} (h : i + n < o.length) : (win o i n).length = n + 1 := by
  unfold win
  rw [List.length_take, List.length_drop]; omega
theorem win_mem {o : List Nat} {i n x : Nat} (h : x ∈ win o i n) : x ∈ o := List.mem_of_mem_drop (List.mem_of_mem_take h)
theorem val_three (p w q : List Nat) : val (p ++ w ++ q) = val p + 4294967296 ^ p.length * (val w + 4294967296 ^ w.length * val q) := by
  rw [List.append_assoc, val_append, val_append]
/-- limbs, and how great they are -/
structure Rest (o l : List Nat) (la n m : Nat) : Prop where
  ol : o.length = la + 1
  ob : ∀ u ∈ o, u < 4294967296
  ll : l.length = n
  lb : ∀ u ∈ l, u < 4294967296
  n2 : 2 ≤ n
  top : 4294967296 ^ (n - 1) ≤ val l
  hm : m + n ≤ la + 1
  lt : val o < val l * 4294967296 ^ m
section
variable {o l : List Nat} {la n m : Nat}
theorem Rest.zero (R : Rest o l la n (m + 1)) : val (o.drop (m + n + 1)) = 0 := by
  have hlen := win_len (o := o) (i := m) (n := n) (by have := R.ol; have := R.hm; omega)
  have h1 := val_three (o.take m) (win o m n) (o.drop (m + n + 1))
  rw [win_split, hlen, List.length_take, Nat.min_eq_left (by have := R.ol; have := R.hm; omega)] at h1
  have hY : val l < 4294967296 ^ n := by have := val_lt l R.lb; rwa [R.ll] at this
  have hlt := R.lt
  rcases Nat.eq_zero_or_pos (val (o.drop (m + n + 1))) with h | h
  · exact h
  · exfalso
    have h2 : 4294967296 ^ m * (4294967296 ^ (n + 1) * 1) ≤ 4294967296 ^ m * (val (win o m n) + 4294967296 ^ (n + 1) * val (o.drop (m + n + 1))) :=
      Nat.mul_le_mul_left _ (Nat.le_trans (Nat.mul_le_mul_left _ h) (Nat.le_add_left _ _))
    have h3 : val l * 4294967296 ^ (m + 1) < 4294967296 ^ n * 4294967296 ^ (m + 1) := Nat.mul_lt_mul_of_pos_right hY (Nat.pow_pos (by decide))
    have e : (4294967296 : Nat) ^ n * 4294967296 ^ (m + 1) = 4294967296 ^ m * (4294967296 ^ (n + 1) * 1) := by
      rw [Nat.mul_one, ← Nat.pow_add, ← Nat.pow_add]; congr 1; omega
    omega
theorem Rest.dig (R : Rest o l la n (m + 1)) : ∃ top nx xn x1 x2, Dig (win o m n) l n top nx xn x1 x2 := by
  have hwl := win_len (o := o) (i := m) (n := n) (by have := R.ol; have := R.hm; omega)
  have hz := R.zero
  obtain ⟨ol, ob, ll, lb, n2, htop, hm, hlt⟩ := R
  have g1 : ∀ k, k < n + 1 → ∃ u, (win o m n)[k]? = some u := fun k hk => ⟨_, List.getElem?_eq_getElem (by omega)⟩
  have g2 : ∀ k, k < n → ∃ u, l[k]? = some u := fun k hk => ⟨_, List.getElem?_eq_getElem (by omega)⟩
  obtain ⟨top, ht⟩ := g2 (n - 1) (by omega)
  obtain ⟨nx, hnx⟩ := g2 (n - 2) (by omega)
  obtain ⟨xn, hxn⟩ := g1 n (by omega)
  obtain ⟨x1, hx1⟩ := g1 (n - 1) (by omega)
  obtain ⟨x2, hx2⟩ := g1 (n - 2) (by omega)
  have h1 := val_three (o.take m) (win o m n) (o.drop (m + n + 1))
  rw [win_split, hz, List.length_take, Nat.min_eq_left (by omega)] at h1
  refine ⟨top, nx, xn, x1, x2, n2, ll, hwl, lb, fun u hu => ob u (win_mem hu), ht, hnx, hxn, hx1, hx2, ?_, ?_⟩
  · rcases Nat.eq_zero_or_pos top with h0 | h0
    · exfalso
      subst h0
      have e := val_top1 (l := l) (k := n - 1) (by omega) ht
      have := val_take_lt lb (k := n - 1) (by omega)
      omega
    · exact h0
  · rcases Nat.lt_or_ge (val (win o m n)) (val l * 4294967296) with h | h
    · exact h
    · exfalso
      have h2 : 4294967296 ^ m * (val l * 4294967296) ≤ 4294967296 ^ m * (val (win o m n)) := Nat.mul_le_mul_left _ h
      have e : val l * (4294967296 : Nat) ^ (m + 1) = 4294967296 ^ m * (val l * 4294967296) := by
        rw [Nat.pow_succ]; generalize (4294967296 : Nat) ^ m = p; grind
      simp only [Nat.mul_zero, Nat.add_zero] at h1
      omega
/-- one limb of the quotient -/
theorem Rest.next (R : Rest o l la n (m + 1)) {w' : List Nat} (hw : w'.length = (win o m n).length) (hb : ∀ u ∈ w', u < 4294967296) (hv : val w' = val (win o m n) % val l) {X0 : Nat} {q : List Nat} (hq : m < q.length)
    (hX : val (q.drop (m + 1)) * 4294967296 ^ (m + 1) * val l + val o = X0) :
    Rest (o.take m ++ w' ++ o.drop (m + n + 1)) l la n m ∧ val ((q.set m (val (win o m n) / val l)).drop m) * 4294967296 ^ m * val l + val (o.take m ++ w' ++ o.drop (m + n + 1)) = X0 := by
  have hwl := win_len (o := o) (i := m) (n := n) (by have := R.ol; have := R.hm; omega)
  have hz := R.zero
  obtain ⟨ol, ob, ll, lb, n2, htop, hm, hlt⟩ := R
  have hY : 0 < val l := Nat.lt_of_lt_of_le (Nat.pow_pos (by decide)) htop
  have h1 := val_three (o.take m) (win o m n) (o.drop (m + n + 1))
  have h2 := val_three (o.take m) w' (o.drop (m + n + 1))
  rw [win_split, hz, List.length_take, Nat.min_eq_left (by omega)] at h1
  rw [hz, List.length_take, Nat.min_eq_left (by omega)] at h2
  simp only [Nat.mul_zero, Nat.add_zero] at h1 h2
  have hp := val_take_lt ob (k := m) (by omega)
  have hr : val w' < val l := by rw [hv]; exact Nat.mod_lt _ hY
  have hdm := Nat.div_add_mod (val (win o m n)) (val l)
  rw [← hv] at hdm
  refine ⟨⟨?_, ?_, ll, lb, n2, htop, by omega, ?_⟩, ?_⟩
  · simp only [List.length_append, List.length_take, List.length_drop, hw, hwl]; omega
  · intro u hu
    rcases List.mem_append.1 hu with hu | hu
    · rcases List.mem_append.1 hu with hu | hu
      · exact ob u (List.mem_of_mem_take hu)
      · exact hb u hu
    · exact ob u (List.mem_of_mem_drop hu)
  · rw [h2]
    have : 4294967296 ^ m * (val w' + 1) ≤ 4294967296 ^ m * val l := Nat.mul_le_mul_left _ hr
    rw [Nat.mul_comm (val l)]
    rw [Nat.mul_add] at this
    omega
  · have hset : (q.set m (val (win o m n) / val l))[m]? = some (val (win o m n) / val l) := by rw [List.getElem?_set_self hq]
    rw [val_drop _ m _ hset, drop_set q m _ (m + 1) (by omega), h2, ← hX, h1, Nat.pow_succ]
    generalize val (win o m n) / val l = d at *
    generalize (4294967296 : Nat) ^ m = p at *
    generalize val (q.drop (m + 1)) = Q at *
    have e : p * val (win o m n) = p * (val l * d) + p * val w' := by rw [← hdm, Nat.mul_add]
    rw [e]
    clear h1 h2 hX hset hp hdm hv hz hwl hlt
    generalize val (o.take m) = A
    generalize (4294967296 : Nat) = B
    grind
end
/-- how a quotient begins -/
theorem rest_start {x y : Nat} {X Y : List Nat} {la n s : Nat} (hX : val X = x * 2 ^ s) (hY : val Y = y * 2 ^ s) (hXl : X.length = la + 1) (hXb : ∀ u ∈ X, u < 4294967296) (hYl : Y.length = n) (hYb : ∀ u ∈ Y, u < 4294967296) (hn : 2 ≤ n)
    (hx : x < 4294967296 ^ la) (hy : 4294967296 ^ (n - 1) ≤ y) (hle : n ≤ la) : Rest X Y la n (la - n + 1) := by
  have hs : 0 < 2 ^ s := Nat.pow_pos (by decide)
  refine ⟨hXl, hXb, hYl, hYb, hn, ?_, by omega, ?_⟩
  · rw [hY]
    have := Nat.mul_le_mul hy hs
    omega
  · rw [hX, hY]
    have h1 : x * 2 ^ s < 4294967296 ^ la * 2 ^ s := Nat.mul_lt_mul_of_pos_right hx hs
    have h2 : 4294967296 ^ (n - 1) * 2 ^ s * 4294967296 ^ (la - n + 1) ≤ y * 2 ^ s * 4294967296 ^ (la - n + 1) := Nat.mul_le_mul_right _ (Nat.mul_le_mul_right _ hy)
    have e : 4294967296 ^ (n - 1) * 2 ^ s * 4294967296 ^ (la - n + 1) = 4294967296 ^ la * 2 ^ s := by
      rw [Nat.mul_right_comm, ← Nat.pow_add]; congr 2; omega
    omega
/-- how it ends -/
theorem rest_end {x y s r : Nat} {q : List Nat} (hy : 0 < y) (h : val q * (y * 2 ^ s) + r = x * 2 ^ s) (hr : r < y * 2 ^ s) : val q = x / y ∧ r = x % y * 2 ^ s := by
  have hs : 0 < 2 ^ s := Nat.pow_pos (by decide)
  have e1 : x * 2 ^ s / (y * 2 ^ s) = val q := by
    rw [← h, Nat.mul_comm, Nat.mul_add_div (Nat.mul_pos hy hs), Nat.div_eq_of_lt hr, Nat.add_zero]
  have e2 : x * 2 ^ s % (y * 2 ^ s) = r := by
    rw [← h, Nat.mul_comm (val q), Nat.mul_add_mod, Nat.mod_eq_of_lt hr]
  rw [Nat.mul_div_mul_right _ _ hs] at e1
  rw [Nat.mul_mod_mul_right] at e2
  exact ⟨e1.symm, e2.symm⟩
end Orr
namespace Orr
theorem take_small {o : List Nat} {n : Nat} (hn : n ≤ o.length) (h : val o < 4294967296 ^ n) : val (o.take n) = val o := by
  have h1 : val o = val (o.take n) + 4294967296 ^ (o.take n).length * val (o.drop n) := by rw [← val_append, List.take_append_drop]
  rw [List.length_take, Nat.min_eq_left hn] at h1
  rcases Nat.eq_zero_or_pos (val (o.drop n)) with h0 | h0
  · rw [h0] at h1; omega
  · have := Nat.mul_le_mul_left (4294967296 ^ n) h0
    omega
theorem u32s_take_at (o : List Nat) (n : Nat) : ∀ i, i < (o.take n).length → (u32s o)[i]? = (u32s (o.take n))[i]? := by
  intro i hi
  rw [getElem?_u32s, getElem?_u32s, List.getElem?_take, if_pos (by rw [List.length_take] at hi; omega)]
end Orr
