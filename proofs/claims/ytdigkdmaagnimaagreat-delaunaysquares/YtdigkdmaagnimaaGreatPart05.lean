/- Whole2 Does PolyL APoly RatL CrvL CrowdL PredL -/
import Derived.Test.YtdigkdmaagnimaaGreatPart03
import Derived.Test.YtdigkdmaagnimaaGreatPart04
import Derived.Test.YtdigkdmaagnimaaGreatPart01
import Derived.Test.YtdigkdmaagnimaaGreatPart02
set_option linter.all false

namespace Orr
open Go Go.Proofs
variable (Ob : Nat → Prop) (W : World)
set_option maxHeartbeats 1000000 in
theorem whole_DivMod (hO : ∀ b, Ob b → b < W.heap.size) {b0 : Bool} {A0 : Option Addr} {n0 c0 : Nat} {z0 : Int} {b1 : Bool} {A1 : Option Addr} {n1 c1 : Nat} {z1 : Int} (hx0 : Rel.intA.at_ W Ob [.bool b0, .slice A0 n0 c0] z0) (hx1 : Rel.intA.at_ W Ob [.bool b1, .slice A1 n1 c1] z1) (hs0 : isz z0 ≤ 4294967295) (hs1 : isz z1 ≤ 4294967295) (hz : z1 ≠ 0) :
  Calls Tryz.prog 66 #[.agg #[.bool b0, .slice A0 n0 c0], .agg #[.bool b1, .slice A1 n1 c1]] W (Ret W Ob (tup3 (Rel.intN.aggF (z0 / z1)) (Rel.intN.aggF (z0 % z1)) (eqF (.int .i64 0)))) := by
 obtain ⟨hx2, hz0⟩ := intA_open hx0
 obtain ⟨hx3, hz1⟩ := intA_open hx1
 have hs0' : sz z0.natAbs ≤ 4294967295 := hs0
 have hs1' : sz z1.natAbs ≤ 4294967295 := hs1
 have hz1p : 0 < z1.natAbs := by omega
 have hszq : sz (z0.natAbs / z1.natAbs) ≤ sz z0.natAbs := sz_mono (Nat.div_le_self _ _)
 have hszm := sz_mono (Nat.le_of_lt (Nat.mod_lt z0.natAbs hz1p))
 have hmlt := Nat.mod_lt z0.natAbs hz1p
 have hs1v : sz 1 = 1 := by decide
 refine enter (vs := [(.agg #[(.bool b0), (.slice A0 n0 c0)]), (.agg #[(.bool b1), (.slice A1 n1 c1)])]) (Ob := Ob) (K := fun b => b < W.heap.size) (Fs := [(Rel.intA).fact [(.bool b0), (.slice A0 n0 c0)] (z0), (Rel.intA).fact [(.bool b1), (.slice A1 n1 c1)] (z1), (Rel.natA).fact [(.slice A0 n0 c0)] (z0.natAbs), (Rel.natA).fact [(.slice A1 n1 c1)] (z1.natAbs)]) Tryz.func66 rfl Tryz.ntmps66 rfl (fun _ h => h) hO (by simp only [List.mem_cons, List.not_mem_nil, or_false, forall_eq_or_imp, forall_eq, false_imp_iff, implies_true]; exact ⟨hx0, hx1, hx2, hx3⟩) fun a h => ?_
 rcases b0 with _ | _
 ·have hdv := div_pos_ofSign hz1 hz1p hz0
  refine seq_ (reg_ ?_)
  refine st_box h rfl rfl fun g1 w a h => ?_
  refine st_box h rfl rfl fun g2 w a h => ?_
  refine st_alloc h Tryz.zeroValue30 rfl fun g3 w a h => ?_
  refine st_alloc h Tryz.zeroValue30 rfl fun g4 w a h => ?_
  refine st_assign h rfl rfl fun a h => ?_
  refine wpList_nil ?_
  refine seq_ (reg_ ?_)
  refine st_fieldAddr h rfl (fa_30_1) rfl fun a h => ?_
  refine st_loadO h 3 rfl rfl Tryz.isAgg28 rfl rfl fun a h => ?_
  refine st_fieldAddr h rfl (fa_30_1) rfl fun a h => ?_
  refine st_loadO h 2 rfl rfl Tryz.isAgg28 rfl rfl fun a h => ?_
  refine st_call h Tryz.func65 rfl rfl rfl (limb_DivMod _ _ (fun b => h.owns_lt) (h.fact 2 rfl) (h.fact 3 rfl) (by omega) (by omega) (by omega)) rfl fun r w a hg hF h => ?_
  obtain ⟨y5, y6, y7, e8, t9, t10, t11⟩ := hF
  obtain ⟨A12, n13, c14, e16, f15⟩ := t9
  subst e16
  obtain ⟨A17, n18, c19, e21, f20⟩ := t10
  subst e21
  obtain rfl := t11
  subst e8
  have h := h.add (f := (Rel.natN).fact [(.slice A12 n13 c14)] ((z0.natAbs) / (z1.natAbs))) f15
  have h := h.add (f := (Rel.natN).fact [(.slice A17 n18 c19)] ((z0.natAbs) % (z1.natAbs))) f20
  refine st_move h rfl rfl fun a h => ?_
  refine st_extract (vs := [(.slice A12 n13 c14), (.slice A17 n18 c19), (.int .i64 0)]) h rfl rfl rfl fun a h => ?_
  refine st_extract (vs := [(.slice A12 n13 c14), (.slice A17 n18 c19), (.int .i64 0)]) h rfl rfl rfl fun a h => ?_
  refine st_extract (vs := [(.slice A12 n13 c14), (.slice A17 n18 c19), (.int .i64 0)]) h rfl rfl rfl fun a h => ?_
  refine st_assign h rfl rfl fun a h => ?_
  refine st_assign h rfl rfl fun a h => ?_
  refine st_assign h rfl rfl fun a h => ?_
  refine wpList_nil ?_
  refine seq_ (seq_ (reg_ ?_))
  refine st_move h rfl rfl fun a h => ?_
  refine st_cmp h rfl rfl rfl rfl fun a h => ?_
  refine wpList_nil ?_
  refine cond_f h rfl (rfl) ?_
  refine wp_skip ?_
  refine seq_ (reg_ ?_)
  refine st_move h rfl rfl fun a h => ?_
  refine st_fieldAddr h rfl (fa_30_0) rfl fun a h => ?_
  refine st_loadO h 3 rfl rfl Tryz.isAgg4 rfl rfl fun a h => ?_
  refine st_fieldAddr h rfl (fa_30_0) rfl fun a h => ?_
  refine st_loadO h 2 rfl rfl Tryz.isAgg4 rfl rfl fun a h => ?_
  refine st_neb h rfl rfl Tryz.underlying4 rfl fun a h => ?_
  refine st_call h Tryz.func39 rfl rfl rfl (whole_made _ _ (fun b => h.owns_lt) (h.fact 1 rfl)) rfl fun r w a hg hF h => ?_
  obtain ⟨cs22, e24, f23⟩ := hF
  obtain ⟨b25, A26, n27, c28, rfl⟩ := intN_shape f23
  subst e24
  have h := h.add (f := (Rel.intN).fact [(.bool b25), (.slice A26 n27 c28)] (ofSign (!(false == b1)) ((z0.natAbs) / (z1.natAbs)))) f23
  refine st_move h rfl rfl fun a h => ?_
  refine st_call h Tryz.func39 rfl rfl rfl (whole_made _ _ (fun b => h.owns_lt) (h.fact 1 rfl)) rfl fun r w a hg hF h => ?_
  obtain ⟨cs29, e31, f30⟩ := hF
  obtain ⟨b32, A33, n34, c35, rfl⟩ := intN_shape f30
  subst e31
  have h := h.add (f := (Rel.intN).fact [(.bool b32), (.slice A33 n34 c35)] (ofSign false ((z0.natAbs) % (z1.natAbs)))) f30
  refine st_store h 1 rfl rfl rfl Tryz.sizeOf30 rfl rfl rfl rfl fun w h => ?_
  refine st_store h 0 rfl rfl rfl Tryz.sizeOf30 rfl rfl rfl rfl fun w h => ?_
  refine wpList_nil ?_
  refine seq_ (seq_ (reg_ ?_))
  refine st_fieldAddr h rfl (fa_30_0) rfl fun a h => ?_
  refine st_loadO h 3 rfl rfl Tryz.isAgg4 rfl rfl fun a h => ?_
  refine st_move h rfl rfl fun a h => ?_
  refine guard_skip h rfl rfl (rfl) rfl fun a h => ?_
  refine guard_skip h rfl rfl (rfl) rfl fun a h => ?_
  refine guard_skip h rfl rfl (rfl) rfl fun a h => ?_
  refine st_pickF h rfl (rfl) rfl rfl fun a h => ?_
  refine wpList_nil ?_
  refine cond_f h rfl (rfl) ?_
  refine wp_skip ?_
  refine seq_ ?_
  refine draw_ mixed_ 3 [some 58, some 59, none] [[], [], [0]] [(eqF (.agg #[(.bool b25), (.slice A26 n27 c28)])), (eqF (.agg #[(.bool b32), (.slice A33 n34 c35)])), noF] (fun _ _ => [(g4, 30, [(.bool b32), (.slice A33 n34 c35)]), (g3, 30, [(.bool b25), (.slice A26 n27 c28)]), (g2, 30, [(.bool b1), (.slice A1 n1 c1)]), (g1, 30, [(.bool false), (.slice A0 n0 c0)])]) rfl h (fun _ => rfl) rfl ⟨?_, ?_, ?_, trivial⟩ ?_
  ·intro dp hdp0 hdp dv Fx a w h
   refine st_loadOS h 1 rfl rfl Tryz.isAgg30 Tryz.sizeOf30 rfl rfl fun a h => ?_
   refine wpList_nil ⟨rfl, ?_⟩
   exact ⟨_, h.drawEnd (F' := []) rfl rfl⟩
  ·intro dp hdp0 hdp dv Fx a w h
   refine st_loadOS h 0 rfl rfl Tryz.isAgg30 Tryz.sizeOf30 rfl rfl fun a h => ?_
   refine wpList_nil ⟨rfl, ?_⟩
   exact ⟨_, h.drawEnd (F' := []) rfl rfl⟩
  ·intro dp hdp0 hdp dv Fx a w h
   skip
   have e36 : dv 0 = (.agg #[(.bool b25), (.slice A26 n27 c28)]) := h.fact 0 rfl
   replace h := (h.spellE (t := 58) e36 rfl h)
   refine st_store h 1 rfl rfl rfl Tryz.sizeOf30 rfl rfl rfl rfl fun w h => ?_
   refine wpList_nil ⟨rfl, ?_⟩
   exact ⟨undef, h.drawEnd0 (F' := [_]) trivial⟩
  intro dp hdp dv a w h
  have hdp2 := hdp 2 (by omega)
  try simp only [hdp2, cond_true] at h
  have e37 : dv 1 = (.agg #[(.bool b32), (.slice A33 n34 c35)]) := h.fact 1 rfl
  have h2 := (h.spellE (t := 59) e37 rfl (h.consL (t := 38) rfl (h.consL (t := 19) rfl (h.consL (t := 8) rfl (h.consL (t := 7) rfl (h.consL (t := 6) rfl (h.consL (t := 5) rfl (h.consL (t := 4) rfl (h.consL (t := 3) rfl (h.consL (t := 2) rfl (h.consL (t := 1) rfl (h.consL (t := 0) rfl h.nilL))))))))))))
  have h3 := h2.noFacts
  have h3 := h3.add (h2.fact 10 rfl)
  have h3 := h3.add (h2.fact 9 rfl)
  have h3 := h3.add (h2.fact 8 rfl)
  have h3 := h3.add (h2.fact 7 rfl)
  have h3 := h3.add (h2.fact 6 rfl)
  have h3 := h3.add (h2.fact 5 rfl)
  have h3 := h3.add (h2.fact 4 rfl)
  have h3 := h3.add (h2.fact 3 rfl)
  clear h2
  replace h := h3
  clear h3
  refine st_store h 0 rfl rfl rfl Tryz.sizeOf30 rfl rfl rfl rfl fun w h => ?_
  refine st_assign h rfl rfl fun a h => ?_
  refine wpList_nil ?_
  refine wp_ret ?_
  repeat refine then_ret ?_
  refine ret3 Tryz.results66 h (resv_agg h 1 rfl rfl Tryz.isAgg30 Tryz.sizeOf30 rfl) (resv_agg h 0 rfl rfl Tryz.isAgg30 Tryz.sizeOf30 rfl) (resv_tmp h rfl) ?_
  exact ⟨_, rfl, h.grow0, _, _, _, rfl, ⟨_, rfl, (by rw [show z0 / z1 = ofSign (!(false == b1)) ((z0.natAbs) / (z1.natAbs)) from hdv.1]; exact h.out 1 rfl)⟩, ⟨_, rfl, (by rw [show z0 % z1 = ofSign false ((z0.natAbs) % (z1.natAbs)) from hdv.2]; exact h.out 0 rfl)⟩, rfl⟩
 rcases Nat.eq_zero_or_pos (z0.natAbs % z1.natAbs) with hm0 | hm0
 ·have hdv := div_zero_ofSign hz1 hz1p hz0 hm0
  refine seq_ (reg_ ?_)
  refine st_box h rfl rfl fun g38 w a h => ?_
  refine st_box h rfl rfl fun g39 w a h => ?_
  refine st_alloc h Tryz.zeroValue30 rfl fun g40 w a h => ?_
  refine st_alloc h Tryz.zeroValue30 rfl fun g41 w a h => ?_
  refine st_assign h rfl rfl fun a h => ?_
  refine wpList_nil ?_
  refine seq_ (reg_ ?_)
  refine st_fieldAddr h rfl (fa_30_1) rfl fun a h => ?_
  refine st_loadO h 3 rfl rfl Tryz.isAgg28 rfl rfl fun a h => ?_
  refine st_fieldAddr h rfl (fa_30_1) rfl fun a h => ?_
  refine st_loadO h 2 rfl rfl Tryz.isAgg28 rfl rfl fun a h => ?_
  refine st_call h Tryz.func65 rfl rfl rfl (limb_DivMod _ _ (fun b => h.owns_lt) (h.fact 2 rfl) (h.fact 3 rfl) (by omega) (by omega) (by omega)) rfl fun r w a hg hF h => ?_
  obtain ⟨y42, y43, y44, e45, t46, t47, t48⟩ := hF
  obtain ⟨A49, n50, c51, e53, f52⟩ := t46
  subst e53
  obtain ⟨A54, n55, c56, e58, f57⟩ := t47
  subst e58
  obtain rfl := t48
  subst e45
  have h := h.add (f := (Rel.natN).fact [(.slice A49 n50 c51)] ((z0.natAbs) / (z1.natAbs))) f52
  have h := h.add (f := (Rel.natN).fact [(.slice A54 n55 c56)] ((z0.natAbs) % (z1.natAbs))) f57
  refine st_move h rfl rfl fun a h => ?_
  refine st_extract (vs := [(.slice A49 n50 c51), (.slice A54 n55 c56), (.int .i64 0)]) h rfl rfl rfl fun a h => ?_
  refine st_extract (vs := [(.slice A49 n50 c51), (.slice A54 n55 c56), (.int .i64 0)]) h rfl rfl rfl fun a h => ?_
  refine st_extract (vs := [(.slice A49 n50 c51), (.slice A54 n55 c56), (.int .i64 0)]) h rfl rfl rfl fun a h => ?_
  refine st_assign h rfl rfl fun a h => ?_
  refine st_assign h rfl rfl fun a h => ?_
  refine st_assign h rfl rfl fun a h => ?_
  refine wpList_nil ?_
  refine seq_ (seq_ (reg_ ?_))
  refine st_move h rfl rfl fun a h => ?_
  refine st_cmp h rfl rfl rfl rfl fun a h => ?_
  refine wpList_nil ?_
  refine cond_f h rfl (rfl) ?_
  refine wp_skip ?_
  refine seq_ (reg_ ?_)
  refine st_move h rfl rfl fun a h => ?_
  refine st_fieldAddr h rfl (fa_30_0) rfl fun a h => ?_
  refine st_loadO h 3 rfl rfl Tryz.isAgg4 rfl rfl fun a h => ?_
  refine st_fieldAddr h rfl (fa_30_0) rfl fun a h => ?_
  refine st_loadO h 2 rfl rfl Tryz.isAgg4 rfl rfl fun a h => ?_
  refine st_neb h rfl rfl Tryz.underlying4 rfl fun a h => ?_
  refine st_call h Tryz.func39 rfl rfl rfl (whole_made _ _ (fun b => h.owns_lt) (h.fact 1 rfl)) rfl fun r w a hg hF h => ?_
  obtain ⟨cs59, e61, f60⟩ := hF
  obtain ⟨b62, A63, n64, c65, rfl⟩ := intN_shape f60
  subst e61
  have h := h.add (f := (Rel.intN).fact [(.bool b62), (.slice A63 n64 c65)] (ofSign (!(true == b1)) ((z0.natAbs) / (z1.natAbs)))) f60
  refine st_move h rfl rfl fun a h => ?_
  refine st_call h Tryz.func39 rfl rfl rfl (whole_made _ _ (fun b => h.owns_lt) (h.fact 1 rfl)) rfl fun r w a hg hF h => ?_
  obtain ⟨cs66, e68, f67⟩ := hF
  obtain ⟨b69, A70, n71, c72, rfl⟩ := intN_shape f67
  subst e68
  have h := h.add (f := (Rel.intN).fact [(.bool b69), (.slice A70 n71 c72)] (ofSign false ((z0.natAbs) % (z1.natAbs)))) f67
  refine st_store h 1 rfl rfl rfl Tryz.sizeOf30 rfl rfl rfl rfl fun w h => ?_
  refine st_store h 0 rfl rfl rfl Tryz.sizeOf30 rfl rfl rfl rfl fun w h => ?_
  refine wpList_nil ?_
  refine seq_ (seq_ (reg_ ?_))
  refine st_fieldAddr h rfl (fa_30_0) rfl fun a h => ?_
  refine st_loadO h 3 rfl rfl Tryz.isAgg4 rfl rfl fun a h => ?_
  refine st_move h rfl rfl fun a h => ?_
  refine guard_run h rfl rfl (rfl) ?_
  refine st_move h rfl rfl fun a h => ?_
  refine guard_run h rfl rfl (rfl) ?_
  refine st_len h rfl Tryz.runUnderlying28 rfl fun a h => ?_
  refine guard_run h rfl rfl (rfl) ?_
  have hrl := (natN_len (h.fact 2 rfl)).1
  refine st_cmp h rfl rfl rfl rfl fun a h => ?_
  refine st_pickT h rfl (rfl) rfl rfl fun a h => ?_
  refine wpList_nil ?_
  refine cond_f h rfl (by simp; omega) ?_
  refine wp_skip ?_
  refine seq_ ?_
  refine draw_ mixed_ 3 [some 58, some 59, none] [[], [], [0]] [(eqF (.agg #[(.bool b62), (.slice A63 n64 c65)])), (eqF (.agg #[(.bool b69), (.slice A70 n71 c72)])), noF] (fun _ _ => [(g41, 30, [(.bool b69), (.slice A70 n71 c72)]), (g40, 30, [(.bool b62), (.slice A63 n64 c65)]), (g39, 30, [(.bool b1), (.slice A1 n1 c1)]), (g38, 30, [(.bool true), (.slice A0 n0 c0)])]) rfl h (fun _ => rfl) rfl ⟨?_, ?_, ?_, trivial⟩ ?_
  ·intro dp hdp0 hdp dv Fx a w h
   refine st_loadOS h 1 rfl rfl Tryz.isAgg30 Tryz.sizeOf30 rfl rfl fun a h => ?_
   refine wpList_nil ⟨rfl, ?_⟩
   exact ⟨_, h.drawEnd (F' := []) rfl rfl⟩
  ·intro dp hdp0 hdp dv Fx a w h
   refine st_loadOS h 0 rfl rfl Tryz.isAgg30 Tryz.sizeOf30 rfl rfl fun a h => ?_
   refine wpList_nil ⟨rfl, ?_⟩
   exact ⟨_, h.drawEnd (F' := []) rfl rfl⟩
  ·intro dp hdp0 hdp dv Fx a w h
   skip
   have e73 : dv 0 = (.agg #[(.bool b62), (.slice A63 n64 c65)]) := h.fact 0 rfl
   replace h := (h.spellE (t := 58) e73 rfl h)
   refine st_store h 1 rfl rfl rfl Tryz.sizeOf30 rfl rfl rfl rfl fun w h => ?_
   refine wpList_nil ⟨rfl, ?_⟩
   exact ⟨undef, h.drawEnd0 (F' := [_]) trivial⟩
  intro dp hdp dv a w h
  have hdp2 := hdp 2 (by omega)
  try simp only [hdp2, cond_true] at h
  have e74 : dv 1 = (.agg #[(.bool b69), (.slice A70 n71 c72)]) := h.fact 1 rfl
  have h2 := (h.spellE (t := 59) e74 rfl (h.consL (t := 38) rfl (h.consL (t := 19) rfl (h.consL (t := 8) rfl (h.consL (t := 7) rfl (h.consL (t := 6) rfl (h.consL (t := 5) rfl (h.consL (t := 4) rfl (h.consL (t := 3) rfl (h.consL (t := 2) rfl (h.consL (t := 1) rfl (h.consL (t := 0) rfl h.nilL))))))))))))
  have h3 := h2.noFacts
  have h3 := h3.add (h2.fact 10 rfl)
  have h3 := h3.add (h2.fact 9 rfl)
  have h3 := h3.add (h2.fact 8 rfl)
  have h3 := h3.add (h2.fact 7 rfl)
  have h3 := h3.add (h2.fact 6 rfl)
  have h3 := h3.add (h2.fact 5 rfl)
  have h3 := h3.add (h2.fact 4 rfl)
  have h3 := h3.add (h2.fact 3 rfl)
  clear h2
  replace h := h3
  clear h3
  refine st_store h 0 rfl rfl rfl Tryz.sizeOf30 rfl rfl rfl rfl fun w h => ?_
  refine st_assign h rfl rfl fun a h => ?_
  refine wpList_nil ?_
  refine wp_ret ?_
  repeat refine then_ret ?_
  refine ret3 Tryz.results66 h (resv_agg h 1 rfl rfl Tryz.isAgg30 Tryz.sizeOf30 rfl) (resv_agg h 0 rfl rfl Tryz.isAgg30 Tryz.sizeOf30 rfl) (resv_tmp h rfl) ?_
  exact ⟨_, rfl, h.grow0, _, _, _, rfl, ⟨_, rfl, (by rw [show z0 / z1 = ofSign (!(true == b1)) ((z0.natAbs) / (z1.natAbs)) from hdv.1]; exact h.out 1 rfl)⟩, ⟨_, rfl, (by rw [show z0 % z1 = ofSign false ((z0.natAbs) % (z1.natAbs)) from hdv.2]; exact h.out 0 rfl)⟩, rfl⟩
 have hdv := div_neg_ofSign hz1 hz1p hz0 hm0
 refine seq_ (reg_ ?_)
 refine st_box h rfl rfl fun g75 w a h => ?_
 refine st_box h rfl rfl fun g76 w a h => ?_
 refine st_alloc h Tryz.zeroValue30 rfl fun g77 w a h => ?_
 refine st_alloc h Tryz.zeroValue30 rfl fun g78 w a h => ?_
 refine st_assign h rfl rfl fun a h => ?_
 refine wpList_nil ?_
 refine seq_ (reg_ ?_)
 refine st_fieldAddr h rfl (fa_30_1) rfl fun a h => ?_
 refine st_loadO h 3 rfl rfl Tryz.isAgg28 rfl rfl fun a h => ?_
 refine st_fieldAddr h rfl (fa_30_1) rfl fun a h => ?_
 refine st_loadO h 2 rfl rfl Tryz.isAgg28 rfl rfl fun a h => ?_
 refine st_call h Tryz.func65 rfl rfl rfl (limb_DivMod _ _ (fun b => h.owns_lt) (h.fact 2 rfl) (h.fact 3 rfl) (by omega) (by omega) (by omega)) rfl fun r w a hg hF h => ?_
 obtain ⟨y79, y80, y81, e82, t83, t84, t85⟩ := hF
 obtain ⟨A86, n87, c88, e90, f89⟩ := t83
 subst e90
 obtain ⟨A91, n92, c93, e95, f94⟩ := t84
 subst e95
 obtain rfl := t85
 subst e82
 have h := h.add (f := (Rel.natN).fact [(.slice A86 n87 c88)] ((z0.natAbs) / (z1.natAbs))) f89
 have h := h.add (f := (Rel.natN).fact [(.slice A91 n92 c93)] ((z0.natAbs) % (z1.natAbs))) f94
 refine st_move h rfl rfl fun a h => ?_
 refine st_extract (vs := [(.slice A86 n87 c88), (.slice A91 n92 c93), (.int .i64 0)]) h rfl rfl rfl fun a h => ?_
 refine st_extract (vs := [(.slice A86 n87 c88), (.slice A91 n92 c93), (.int .i64 0)]) h rfl rfl rfl fun a h => ?_
 refine st_extract (vs := [(.slice A86 n87 c88), (.slice A91 n92 c93), (.int .i64 0)]) h rfl rfl rfl fun a h => ?_
 refine st_assign h rfl rfl fun a h => ?_
 refine st_assign h rfl rfl fun a h => ?_
 refine st_assign h rfl rfl fun a h => ?_
 refine wpList_nil ?_
 refine seq_ (seq_ (reg_ ?_))
 refine st_move h rfl rfl fun a h => ?_
 refine st_cmp h rfl rfl rfl rfl fun a h => ?_
 refine wpList_nil ?_
 refine cond_f h rfl (rfl) ?_
 refine wp_skip ?_
 refine seq_ (reg_ ?_)
 refine st_move h rfl rfl fun a h => ?_
 refine st_fieldAddr h rfl (fa_30_0) rfl fun a h => ?_
 refine st_loadO h 3 rfl rfl Tryz.isAgg4 rfl rfl fun a h => ?_
 refine st_fieldAddr h rfl (fa_30_0) rfl fun a h => ?_
 refine st_loadO h 2 rfl rfl Tryz.isAgg4 rfl rfl fun a h => ?_
 refine st_neb h rfl rfl Tryz.underlying4 rfl fun a h => ?_
 refine st_call h Tryz.func39 rfl rfl rfl (whole_made _ _ (fun b => h.owns_lt) (h.fact 1 rfl)) rfl fun r w a hg hF h => ?_
 obtain ⟨cs96, e98, f97⟩ := hF
 obtain ⟨b99, A100, n101, c102, rfl⟩ := intN_shape f97
 subst e98
 have h := h.add (f := (Rel.intN).fact [(.bool b99), (.slice A100 n101 c102)] (ofSign (!(true == b1)) ((z0.natAbs) / (z1.natAbs)))) f97
 refine st_move h rfl rfl fun a h => ?_
 refine st_call h Tryz.func39 rfl rfl rfl (whole_made _ _ (fun b => h.owns_lt) (h.fact 1 rfl)) rfl fun r w a hg hF h => ?_
 obtain ⟨cs103, e105, f104⟩ := hF
 obtain ⟨b106, A107, n108, c109, rfl⟩ := intN_shape f104
 subst e105
 have h := h.add (f := (Rel.intN).fact [(.bool b106), (.slice A107 n108 c109)] (ofSign false ((z0.natAbs) % (z1.natAbs)))) f104
 refine st_store h 1 rfl rfl rfl Tryz.sizeOf30 rfl rfl rfl rfl fun w h => ?_
 refine st_store h 0 rfl rfl rfl Tryz.sizeOf30 rfl rfl rfl rfl fun w h => ?_
 refine wpList_nil ?_
 refine seq_ (seq_ (reg_ ?_))
 refine st_fieldAddr h rfl (fa_30_0) rfl fun a h => ?_
 refine st_loadO h 3 rfl rfl Tryz.isAgg4 rfl rfl fun a h => ?_
 refine st_move h rfl rfl fun a h => ?_
 refine guard_run h rfl rfl (rfl) ?_
 refine st_move h rfl rfl fun a h => ?_
 refine guard_run h rfl rfl (rfl) ?_
 refine st_len h rfl Tryz.runUnderlying28 rfl fun a h => ?_
 refine guard_run h rfl rfl (rfl) ?_
 have hrl := (natN_len (h.fact 2 rfl)).1
 refine st_cmp h rfl rfl rfl rfl fun a h => ?_
 refine st_pickT h rfl (rfl) rfl rfl fun a h => ?_
 refine wpList_nil ?_
 refine cond_t h rfl (by simp; omega) ?_
 refine seq_ (reg_ ?_)
 refine st_move h rfl rfl fun a h => ?_
 refine st_buildSlice h rfl (buildSlice_run (zs := [(.int .u32 0)]) Tryz.runUnderlying28 Tryz.sizeOf104 Tryz.zeroValue104 rfl rfl (by decide) (by decide) (by decide) rfl) rfl fun g110 w a h => ?_
 have hl1x : ∀ z ∈ [1], z < 4294967296 := by intro z hz; simp at hz; subst hz; decide
 have hrow := own_row32 (r := [1]) 1 h (fun i hi => by rcases i with _ | i <;> first | rfl | (simp at hi)) hl1x (show 1 < 2 ^ 47 by decide) (Nat.le_refl _) (by decide)
 replace h := h.publish
 have h := h.add (f := (Rel.natA).fact [.slice (some ⟨g110, 0, none⟩) 1 1] (1)) (⟨_, hrow, hl1x, by simp [val]⟩)
 refine st_call h Tryz.func101 rfl rfl rfl (limb_Add _ _ (fun b => h.owns_lt) (natA_of_natN (h.fact 4 rfl)) (h.fact 0 rfl) (by omega) (by omega)) rfl fun r w a hg hF h => ?_
 obtain ⟨A111, n112, c113, e115, f114⟩ := hF
 subst e115
 have h := h.add (f := (Rel.natN).fact [(.slice A111 n112 c113)] (((z0.natAbs) / (z1.natAbs)) + (1))) f114
 refine st_assign h rfl rfl fun a h => ?_
 refine wpList_nil ?_
 refine seq_ (reg_ ?_)
 refine st_fieldAddr h rfl (fa_30_1) rfl fun a h => ?_
 refine st_loadO h 2 rfl rfl Tryz.isAgg28 rfl rfl fun a h => ?_
 refine st_move h rfl rfl fun a h => ?_
 refine st_call h Tryz.func102 rfl rfl rfl (limb_Sub_le _ _ (fun b => h.owns_lt) (h.fact 9 rfl) (natA_of_natN (h.fact 4 rfl)) (by omega) (by omega)) rfl fun r w a hg hF h => ?_
 obtain ⟨y116, y117, e118, t119, t120⟩ := hF
 obtain ⟨A121, n122, c123, e125, f124⟩ := t119
 subst e125
 obtain rfl := t120
 subst e118
 have h := h.add (f := (Rel.natN).fact [(.slice A121 n122 c123)] ((z1.natAbs) - ((z0.natAbs) % (z1.natAbs)))) f124
 refine st_move h rfl rfl fun a h => ?_
 refine st_extract (vs := [(.slice A121 n122 c123), (.bool true)]) h rfl rfl rfl fun a h => ?_
 refine st_extract (vs := [(.slice A121 n122 c123), (.bool true)]) h rfl rfl rfl fun a h => ?_
 refine st_assign h rfl rfl fun a h => ?_
 refine wpList_nil ?_
 refine reg_ ?_
 refine st_move h rfl rfl fun a h => ?_
 refine st_fieldAddr h rfl (fa_30_0) rfl fun a h => ?_
 refine st_loadO h 3 rfl rfl Tryz.isAgg4 rfl rfl fun a h => ?_
 refine st_fieldAddr h rfl (fa_30_0) rfl fun a h => ?_
 refine st_loadO h 2 rfl rfl Tryz.isAgg4 rfl rfl fun a h => ?_
 refine st_neb h rfl rfl Tryz.underlying4 rfl fun a h => ?_
 refine st_call h Tryz.func39 rfl rfl rfl (whole_made _ _ (fun b => h.owns_lt) (h.fact 1 rfl)) rfl fun r w a hg hF h => ?_
 obtain ⟨cs126, e128, f127⟩ := hF
 obtain ⟨b129, A130, n131, c132, rfl⟩ := intN_shape f127
 subst e128
 have h := h.add (f := (Rel.intN).fact [(.bool b129), (.slice A130 n131 c132)] (ofSign (!(true == b1)) (((z0.natAbs) / (z1.natAbs)) + (1)))) f127
 refine st_move h rfl rfl fun a h => ?_
 refine st_call h Tryz.func39 rfl rfl rfl (whole_made _ _ (fun b => h.owns_lt) (h.fact 1 rfl)) rfl fun r w a hg hF h => ?_
 obtain ⟨cs133, e135, f134⟩ := hF
 obtain ⟨b136, A137, n138, c139, rfl⟩ := intN_shape f134
 subst e135
 have h := h.add (f := (Rel.intN).fact [(.bool b136), (.slice A137 n138 c139)] (ofSign false ((z1.natAbs) - ((z0.natAbs) % (z1.natAbs))))) f134
 refine st_store h 1 rfl rfl rfl Tryz.sizeOf30 rfl rfl rfl rfl fun w h => ?_
 refine st_store h 0 rfl rfl rfl Tryz.sizeOf30 rfl rfl rfl rfl fun w h => ?_
 refine wpList_nil ?_
 refine seq_ ?_
 refine draw_ mixed_ 3 [some 58, some 59, none] [[], [], [0]] [(eqF (.agg #[(.bool b129), (.slice A130 n131 c132)])), (eqF (.agg #[(.bool b136), (.slice A137 n138 c139)])), noF] (fun _ _ => [(g78, 30, [(.bool b136), (.slice A137 n138 c139)]), (g77, 30, [(.bool b129), (.slice A130 n131 c132)]), (g76, 30, [(.bool b1), (.slice A1 n1 c1)]), (g75, 30, [(.bool true), (.slice A0 n0 c0)])]) rfl h (fun _ => rfl) rfl ⟨?_, ?_, ?_, trivial⟩ ?_
 ·intro dp hdp0 hdp dv Fx a w h
  refine st_loadOS h 1 rfl rfl Tryz.isAgg30 Tryz.sizeOf30 rfl rfl fun a h => ?_
  refine wpList_nil ⟨rfl, ?_⟩
  exact ⟨_, h.drawEnd (F' := []) rfl rfl⟩
 ·intro dp hdp0 hdp dv Fx a w h
  refine st_loadOS h 0 rfl rfl Tryz.isAgg30 Tryz.sizeOf30 rfl rfl fun a h => ?_
  refine wpList_nil ⟨rfl, ?_⟩
  exact ⟨_, h.drawEnd (F' := []) rfl rfl⟩
 ·intro dp hdp0 hdp dv Fx a w h
  skip
  have e140 : dv 0 = (.agg #[(.bool b129), (.slice A130 n131 c132)]) := h.fact 0 rfl
  replace h := (h.spellE (t := 58) e140 rfl h)
  refine st_store h 1 rfl rfl rfl Tryz.sizeOf30 rfl rfl rfl rfl fun w h => ?_
  refine wpList_nil ⟨rfl, ?_⟩
  exact ⟨undef, h.drawEnd0 (F' := [_]) trivial⟩
 intro dp hdp dv a w h
 have hdp2 := hdp 2 (by omega)
 try simp only [hdp2, cond_true] at h
 have e141 : dv 1 = (.agg #[(.bool b136), (.slice A137 n138 c139)]) := h.fact 1 rfl
 have h2 := (h.spellE (t := 59) e141 rfl (h.consL (t := 38) rfl (h.consL (t := 19) rfl (h.consL (t := 8) rfl (h.consL (t := 7) rfl (h.consL (t := 6) rfl (h.consL (t := 5) rfl (h.consL (t := 4) rfl (h.consL (t := 3) rfl (h.consL (t := 2) rfl (h.consL (t := 1) rfl (h.consL (t := 0) rfl h.nilL))))))))))))
 have h3 := h2.noFacts
 have h3 := h3.add (h2.fact 15 rfl)
 have h3 := h3.add (h2.fact 14 rfl)
 have h3 := h3.add (h2.fact 13 rfl)
 have h3 := h3.add (h2.fact 12 rfl)
 have h3 := h3.add (h2.fact 11 rfl)
 have h3 := h3.add (h2.fact 10 rfl)
 have h3 := h3.add (h2.fact 9 rfl)
 have h3 := h3.add (h2.fact 8 rfl)
 have h3 := h3.add (h2.fact 7 rfl)
 have h3 := h3.add (h2.fact 6 rfl)
 have h3 := h3.add (h2.fact 5 rfl)
 have h3 := h3.add (h2.fact 4 rfl)
 have h3 := h3.add (h2.fact 3 rfl)
 clear h2
 replace h := h3
 clear h3
 refine st_store h 0 rfl rfl rfl Tryz.sizeOf30 rfl rfl rfl rfl fun w h => ?_
 refine st_assign h rfl rfl fun a h => ?_
 refine wpList_nil ?_
 refine wp_ret ?_
 repeat refine then_ret ?_
 refine ret3 Tryz.results66 h (resv_agg h 1 rfl rfl Tryz.isAgg30 Tryz.sizeOf30 rfl) (resv_agg h 0 rfl rfl Tryz.isAgg30 Tryz.sizeOf30 rfl) (resv_tmp h rfl) ?_
 exact ⟨_, rfl, h.grow0, _, _, _, rfl, ⟨_, rfl, (by rw [show z0 / z1 = ofSign (!(true == b1)) (((z0.natAbs) / (z1.natAbs)) + (1)) from hdv.1]; exact h.out 1 rfl)⟩, ⟨_, rfl, (by rw [show z0 % z1 = ofSign false ((z1.natAbs) - ((z0.natAbs) % (z1.natAbs))) from hdv.2]; exact h.out 0 rfl)⟩, rfl⟩
set_option maxHeartbeats 1000000 in
theorem whole_Exact (hO : ∀ b, Ob b → b < W.heap.size) {b0 : Bool} {A0 : Option Addr} {n0 c0 : Nat} {z0 : Int} {b1 : Bool} {A1 : Option Addr} {n1 c1 : Nat} {z1 : Int} (hx0 : Rel.intA.at_ W Ob [.bool b0, .slice A0 n0 c0] z0) (hx1 : Rel.intA.at_ W Ob [.bool b1, .slice A1 n1 c1] z1) (hs0 : isz z0 ≤ 4294967295) (hs1 : isz z1 ≤ 4294967295) (hz : z1 ≠ 0) (hdv : z0 % z1 = 0) :
  Calls Tryz.prog 37 #[.agg #[.bool b0, .slice A0 n0 c0], .agg #[.bool b1, .slice A1 n1 c1]] W (Ret W Ob (tup2 (Rel.intN.aggF (z0 / z1)) (eqF (.int .i64 0)))) := by
 obtain ⟨hx2, hz0⟩ := intA_open hx0
 obtain ⟨hx3, hz1⟩ := intA_open hx1
 have hs0' : sz z0.natAbs ≤ 4294967295 := hs0
 have hs1' : sz z1.natAbs ≤ 4294967295 := hs1
 refine enter (vs := [(.agg #[(.bool b0), (.slice A0 n0 c0)]), (.agg #[(.bool b1), (.slice A1 n1 c1)])]) (Ob := Ob) (K := fun b => b < W.heap.size) (Fs := [(Rel.intA).fact [(.bool b0), (.slice A0 n0 c0)] (z0), (Rel.intA).fact [(.bool b1), (.slice A1 n1 c1)] (z1), (Rel.natA).fact [(.slice A0 n0 c0)] (z0.natAbs), (Rel.natA).fact [(.slice A1 n1 c1)] (z1.natAbs)]) Tryz.func37 rfl Tryz.ntmps37 rfl (fun _ h => h) hO (by simp only [List.mem_cons, List.not_mem_nil, or_false, forall_eq_or_imp, forall_eq, false_imp_iff, implies_true]; exact ⟨hx0, hx1, hx2, hx3⟩) fun a h => ?_
 refine seq_ (reg_ ?_)
 refine st_box h rfl rfl fun g1 w a h => ?_
 refine st_box h rfl rfl fun g2 w a h => ?_
 refine st_alloc h Tryz.zeroValue30 rfl fun g3 w a h => ?_
 refine st_assign h rfl rfl fun a h => ?_
 refine wpList_nil ?_
 refine seq_ (reg_ ?_)
 refine st_loadOS h 2 rfl rfl Tryz.isAgg30 Tryz.sizeOf30 rfl rfl fun a h => ?_
 refine st_loadOS h 1 rfl rfl Tryz.isAgg30 Tryz.sizeOf30 rfl rfl fun a h => ?_
 refine st_call h Tryz.func66 rfl rfl rfl (whole_DivMod _ _ (fun b => h.owns_lt) (h.fact 0 rfl) (h.fact 1 rfl) (by omega) (by omega) (by omega)) rfl fun r w a hg hF h => ?_
 obtain ⟨y4, y5, y6, e7, t8, t9, t10⟩ := hF
 obtain ⟨cs11, e13, f12⟩ := t8
 obtain ⟨b14, A15, n16, c17, rfl⟩ := intN_shape f12
 subst e13
 obtain ⟨cs18, e20, f19⟩ := t9
 obtain ⟨b21, A22, n23, c24, rfl⟩ := intN_shape f19
 subst e20
 obtain rfl := t10
 subst e7
 have h := h.add (f := (Rel.intN).fact [(.bool b14), (.slice A15 n16 c17)] ((z0) / (z1))) f12
 have h := h.add (f := (Rel.intN).fact [(.bool b21), (.slice A22 n23 c24)] ((z0) % (z1))) f19
 refine st_move h rfl rfl fun a h => ?_
 refine st_extract (vs := [(.agg #[(.bool b14), (.slice A15 n16 c17)]), (.agg #[(.bool b21), (.slice A22 n23 c24)]), (.int .i64 0)]) h rfl rfl rfl fun a h => ?_
 refine st_extract (vs := [(.agg #[(.bool b14), (.slice A15 n16 c17)]), (.agg #[(.bool b21), (.slice A22 n23 c24)]), (.int .i64 0)]) h rfl rfl rfl fun a h => ?_
 refine st_extract (vs := [(.agg #[(.bool b14), (.slice A15 n16 c17)]), (.agg #[(.bool b21), (.slice A22 n23 c24)]), (.int .i64 0)]) h rfl rfl rfl fun a h => ?_
 refine st_alloc h Tryz.zeroValue30 rfl fun g25 w a h => ?_
 refine st_alloc h Tryz.zeroValue30 rfl fun g26 w a h => ?_
 refine st_store h 1 rfl rfl rfl Tryz.sizeOf30 rfl rfl rfl rfl fun w h => ?_
 refine st_store h 0 rfl rfl rfl Tryz.sizeOf30 rfl rfl rfl rfl fun w h => ?_
 refine st_assign h rfl rfl fun a h => ?_
 refine wpList_nil ?_
 refine seq_ (seq_ (reg_ ?_))
 refine st_move h rfl rfl fun a h => ?_
 refine st_cmp h rfl rfl rfl rfl fun a h => ?_
 refine wpList_nil ?_
 refine cond_f h rfl (rfl) ?_
 refine wp_skip ?_
 refine seq_ (seq_ (reg_ ?_))
 refine st_fieldAddr h rfl (fa_30_1) rfl fun a h => ?_
 refine st_loadO h 0 rfl rfl Tryz.isAgg28 rfl rfl fun a h => ?_
 refine st_len h rfl Tryz.runUnderlying28 rfl fun a h => ?_
 have hrl := (natN_len (intN_open (h.fact 0 rfl)).1).1
 rw [hdv] at hrl
 refine st_cmp h rfl rfl rfl rfl fun a h => ?_
 refine wpList_nil ?_
 refine cond_f h rfl (by simp; omega) ?_
 refine wp_skip ?_
 refine seq_ (reg_ ?_)
 refine st_loadOS h 1 rfl rfl Tryz.isAgg30 Tryz.sizeOf30 rfl rfl fun a h => ?_
 refine st_store h 2 rfl rfl rfl Tryz.sizeOf30 rfl rfl rfl rfl fun w h => ?_
 refine st_assign h rfl rfl fun a h => ?_
 refine wpList_nil ?_
 refine wp_ret ?_
 repeat refine then_ret ?_
 refine ret2 Tryz.results37 h (resv_agg h 2 rfl rfl Tryz.isAgg30 Tryz.sizeOf30 rfl) (resv_tmp h rfl) ?_
 exact ⟨_, rfl, h.grow0, _, _, rfl, ⟨_, rfl, h.out 1 rfl⟩, rfl⟩
set_option maxHeartbeats 1000000 in
theorem whole_Gcd (hO : ∀ b, Ob b → b < W.heap.size) {A : Option Addr} {n c : Nat} {l : List Int} (hx0 : Rel.intA.slice.at_ W Ob [.slice A n c] l) (hs : ∀ z ∈ l, isz z ≤ 4294967295) :
  Calls Tryz.prog 36 #[.slice A n c] W (Ret W Ob (Rel.intN.aggF ((gcdL l : Nat) : Int))) := by
 obtain ⟨en, _, _, _⟩ := srow_open hx0
 refine enter (vs := [(.slice A n c)]) (Ob := Ob) (K := fun b => b < W.heap.size) (Fs := [((Rel.intA.slice)).fact [.slice A n c] (l)]) Tryz.func36 rfl Tryz.ntmps36 rfl (fun _ h => h) hO (by simp only [List.mem_cons, List.not_mem_nil, or_false, forall_eq_or_imp, forall_eq, false_imp_iff, implies_true]; exact hx0) fun a h => ?_
 refine seq_ (reg_ ?_)
 refine st_alloc h Tryz.zeroValue30 rfl fun g1 w a h => ?_
 refine wpList_nil ?_
 refine seq_ (reg_ ?_)
 refine st_assign h rfl rfl fun a h => ?_
 refine wpList_nil ?_
 refine seq_ (seq_ (reg_ ?_))
 refine st_move h rfl rfl fun a h => ?_
 refine st_len h rfl Tryz.runUnderlying26 rfl fun a h => ?_
 refine st_move h rfl rfl fun a h => ?_
 refine wpList_nil ?_
 refine blk_cut (fun a w' => ∃ G gn gc gv, gv = gcdL l ∧ sz gv ≤ 4294967295 ∧ St (fun b => b < W.heap.size) Ob W w' a 44 [(2, (.pointer (some ⟨g1, 0, none⟩))), (3, (.slice G gn gc))] [(Rel.natN).fact [.slice G gn gc] (gv)] [(g1, 30, [(.bool false), (.slice none 0 0)])]) ?_ ?_
 ·skip
  refine wp_block ?_
  refine loop_ (fun m a w' => ∃ i G gn gc gv, i ≤ n ∧ gv = gcdL (l.take i) ∧ sz gv ≤ 4294967295 ∧ m = n - i ∧ St (fun b => b < W.heap.size) Ob W w' a 44 [(0, (.slice A n c)), (2, (.pointer (some ⟨g1, 0, none⟩))), (3, (.slice G gn gc)), (10, (.slice A n c)), (11, (.int .i64 (n : Int))), (12, (.int .i64 (i : Int)))] [(Rel.natN).fact [.slice G gn gc] (gv), ((Rel.intA.slice)).fact [.slice A n c] (l)] [(g1, 30, [(.bool false), (.slice none 0 0)])]) (m := _) (⟨0, none, 0, 0, 0, by omega, rfl, by decide, rfl, (((h.consL (t := 0) rfl (h.consL (t := 2) rfl (h.consL (t := 3) rfl (h.consL (t := 10) rfl (h.consL (t := 11) rfl (h.consL (t := 12) rfl h.nilL)))))).noFacts.add (h.fact 0 rfl)).add (natN_nil))⟩) ?_
  clear h
  rintro m a w ⟨i, G, gn, gc, gv, hp0, hp1, hp2, hm, h⟩
  by_cases hlt : i < n
  ·obtain ⟨b1, o1, rfl, _⟩ := srow_get (h.fact 1 rfl) (by omega)
   obtain ⟨z, hz⟩ : ∃ z, l[i]? = some z := ⟨_, List.getElem?_eq_getElem (by omega)⟩
   have hzs := hs _ (List.mem_of_getElem? hz)
   have hzs' : sz z.natAbs ≤ 4294967295 := hzs
   refine seq_ (reg_ ?_)
   refine st_cmp h rfl rfl rfl rfl fun a h => ?_
   refine wpList_nil ?_
   refine seq_ ?_
   refine cond_t h rfl (by simp; omega) ?_
   refine wp_skip ?_
   refine seq_ ?_
   refine wp_block ?_
   refine seq_ (reg_ ?_)
   refine st_indexI (i) h rfl rfl Tryz.runUnderlying26 Tryz.sizeOf30 (rfl) (by omega) rfl fun a h => ?_
   obtain ⟨cs, hcs, hcell⟩ := srow_cells (h.fact 1 rfl) hz
   obtain ⟨zb, Z, zn, zc, rfl⟩ := intA_shape hcs
   have h := h.add (f := Rel.intA.fact [.bool zb, .slice Z zn zc] z) hcs
   have h := h.add (f := Rel.natA.fact [.slice Z zn zc] z.natAbs) (intA_open hcs).1
   refine st_loadS (vs := [(.bool zb), (.slice Z zn zc)]) h rfl Tryz.isAgg30 Tryz.sizeOf30 rfl (hcell) rfl fun a h => ?_
   refine st_alloc h Tryz.zeroValue30 rfl fun g2 w a h => ?_
   refine st_store h 0 rfl rfl rfl Tryz.sizeOf30 rfl rfl rfl rfl fun w h => ?_
   refine wpList_nil ?_
   refine seq_ (reg_ ?_)
   refine st_fieldAddr h rfl (fa_30_1) rfl fun a h => ?_
   refine st_loadO h 0 rfl rfl Tryz.isAgg28 rfl rfl fun a h => ?_
   refine st_call h Tryz.func40 rfl rfl rfl (limb_Norm _ _ (fun b => h.owns_lt) (h.fact 0 rfl) (by omega)) rfl fun r w a hg hF h => ?_
   obtain ⟨A3, n4, c5, e7, f6⟩ := hF
   subst e7
   have h := h.add (f := (Rel.natN).fact [(.slice A3 n4 c5)] (z.natAbs)) f6
   refine st_assign h rfl rfl fun a h => ?_
   refine wpList_nil ?_
   refine seq_ ?_
   refine wp_block ?_
   replace h := h.publish
   refine loop_ (fun m a w' => ∃ G' gn' gc' gv' X xn xc xv, Nat.gcd gv' xv = Nat.gcd gv z.natAbs ∧ sz gv' ≤ 4294967295 ∧ sz xv ≤ 4294967295 ∧ m = xv ∧ St (fun b => b < W.heap.size) Ob W w' a 44 [(0, (.slice (some ⟨b1, o1, none⟩) n c)), (2, (.pointer (some ⟨g1, 0, none⟩))), (10, (.slice (some ⟨b1, o1, none⟩) n c)), (11, (.int .i64 (n : Int))), (12, (.int .i64 (i : Int))), (3, (.slice G' gn' gc')), (6, (.slice X xn xc))] [(Rel.natN).fact [(.slice G' gn' gc')] (gv'), (Rel.natN).fact [.slice X xn xc] (xv), ((Rel.intA.slice)).fact [(.slice (some ⟨b1, o1, none⟩) n c)] (l)] [(g1, 30, [(.bool false), (.slice none 0 0)])]) (m := _) (⟨_, _, _, _, _, _, _, _, rfl, hp2, hzs', rfl, ((((h.consL (t := 0) rfl (h.consL (t := 2) rfl (h.consL (t := 10) rfl (h.consL (t := 11) rfl (h.consL (t := 12) rfl (h.consL (t := 3) rfl (h.consL (t := 6) rfl h.nilL))))))).noFacts.add (h.fact 4 rfl)).add (h.fact 0 rfl)).add (h.fact 3 rfl))⟩) ?_
   clear h
   rintro m a w ⟨G', gn', gc', gv', X, xn, xc, xv, hp20, hp21, hp22, hm, h⟩
   have hxl := (natN_len (h.fact 1 rfl)).1
   by_cases hx0 : 0 < xv
   ·skip
    refine seq_ (seq_ (reg_ ?_))
    refine st_move h rfl rfl fun a h => ?_
    refine st_len h rfl Tryz.runUnderlying28 rfl fun a h => ?_
    refine st_cmp h rfl rfl rfl rfl fun a h => ?_
    refine wpList_nil ?_
    refine cond_t h rfl (by simp; omega) ?_
    refine wp_skip ?_
    refine wp_block ?_
    refine seq_ (reg_ ?_)
    refine st_move h rfl rfl fun a h => ?_
    refine st_move h rfl rfl fun a h => ?_
    refine st_call h Tryz.func65 rfl rfl rfl (limb_DivMod _ _ (fun b => h.owns_lt) (natA_of_natN (h.fact 0 rfl)) (natA_of_natN (h.fact 1 rfl)) (by omega) (by omega) (by omega)) rfl fun r w a hg hF h => ?_
    obtain ⟨y8, y9, y10, e11, t12, t13, t14⟩ := hF
    obtain ⟨A15, n16, c17, e19, f18⟩ := t12
    subst e19
    obtain ⟨A20, n21, c22, e24, f23⟩ := t13
    subst e24
    obtain rfl := t14
    subst e11
    have h := h.add (f := (Rel.natN).fact [(.slice A15 n16 c17)] ((gv') / (xv))) f18
    have h := h.add (f := (Rel.natN).fact [(.slice A20 n21 c22)] ((gv') % (xv))) f23
    refine st_move h rfl rfl fun a h => ?_
    refine st_extract (vs := [(.slice A15 n16 c17), (.slice A20 n21 c22), (.int .i64 0)]) h rfl rfl rfl fun a h => ?_
    refine st_extract (vs := [(.slice A15 n16 c17), (.slice A20 n21 c22), (.int .i64 0)]) h rfl rfl rfl fun a h => ?_
    refine st_extract (vs := [(.slice A15 n16 c17), (.slice A20 n21 c22), (.int .i64 0)]) h rfl rfl rfl fun a h => ?_
    refine st_assign h rfl rfl fun a h => ?_
    refine st_assign h rfl rfl fun a h => ?_
    refine st_assign h rfl rfl fun a h => ?_
    refine wpList_nil ?_
    refine reg_ ?_
    refine st_move h rfl rfl fun a h => ?_
    refine st_move h rfl rfl fun a h => ?_
    refine st_assign h rfl rfl fun a h => ?_
    refine st_assign h rfl rfl fun a h => ?_
    refine wpList_nil ?_
    refine ⟨_, ?_, _, _, _, _, _, _, _, _, by rw [← hp20]; exact (gcd_mod gv' xv), hp22, Nat.le_trans (sz_mono (Nat.le_of_lt (Nat.mod_lt _ hx0))) hp22, rfl, ((((h.consL (t := 0) rfl (h.consL (t := 2) rfl (h.consL (t := 10) rfl (h.consL (t := 11) rfl (h.consL (t := 12) rfl (h.consL (t := 3) rfl (h.consL (t := 6) rfl h.nilL))))))).noFacts.add (h.fact 4 rfl)).add (h.fact 0 rfl)).add (h.fact 3 rfl))⟩
    rw [hm]; exact Nat.mod_lt _ hx0
   skip
   refine seq_ (seq_ (reg_ ?_))
   refine st_move h rfl rfl fun a h => ?_
   refine st_len h rfl Tryz.runUnderlying28 rfl fun a h => ?_
   refine st_cmp h rfl rfl rfl rfl fun a h => ?_
   refine wpList_nil ?_
   refine cond_f h rfl (by simp; omega) ?_
   refine wp_exit ?_
   repeat refine then_exit ?_
   refine inBlock_exit ?_
   refine seq_ (reg_ ?_)
   refine st_move h rfl rfl fun a h => ?_
   refine st_len h rfl Tryz.runUnderlying28 rfl fun a h => ?_
   have hgv : gv' = gcdL (l.take (i + 1)) := by rw [gcdL_snoc hz, ← hp1, ← hp20, show xv = 0 from by omega, Nat.gcd_zero_right]
   by_cases h1 : gn' = 1
   ·obtain ⟨ly, hly1, hly2, hly3⟩ := h.fact 0 rfl
    obtain ⟨ey, _, _⟩ := row_open hly1
    obtain ⟨b2, o2, rfl, _, _, _⟩ := row_get hly1 (i := 0) (by omega)
    obtain ⟨y, hy⟩ : ∃ y, ly[0]? = some y := ⟨_, List.getElem?_eq_getElem (by omega)⟩
    have hyv : gv' = y := by rw [← hly3, val_top1 (l := ly) (k := 0) (by omega) hy]; simp [val]
    have h := h.add (f := Rel.row32.fact [(.slice (some ⟨b2, o2, none⟩) gn' gc')] ly) hly1
    refine st_cmp h rfl rfl rfl rfl fun a h => ?_
    refine st_move h rfl rfl fun a h => ?_
    refine guard_run h rfl rfl (by simp; omega) ?_
    refine st_move h rfl rfl fun a h => ?_
    refine guard_run h rfl rfl (by simp; omega) ?_
    refine st_indexI (0) h rfl rfl Tryz.runUnderlying28 Tryz.sizeOf104 (rfl) (by omega) rfl fun a h => ?_
    refine guard_run h rfl rfl (by simp; omega) ?_
    refine st_load h rfl Tryz.isAgg104 (row_cell (h.fact 0 rfl) hy) rfl fun a h => ?_
    refine guard_run h rfl rfl (by simp; omega) ?_
    refine st_cmp h rfl rfl rfl rfl fun a h => ?_
    refine st_pickT h rfl (by simp; omega) rfl rfl fun a h => ?_
    refine wpList_nil ?_
    refine cond_ h rfl (fun hb_if3 => ?_) (fun hb_if3 => ?_)
    ·try simp only [decide_eq_true_eq, decide_eq_false_iff_not, Bool.not_eq_true', Bool.not_eq_false'] at hb_if3
     have hg1 := (gcdL_one (l := l) (i := i + 1) (by omega)).symm
     rw [show (1 : Nat) = gv' from by omega] at hg1
     refine wp_exit ?_
     repeat refine then_exit ?_
     refine inBlock_other rfl ?_
     repeat refine then_exit ?_
     refine inBlock_exit ?_
     exact ⟨_, _, _, _, hg1, hp21, ((h.consL (t := 2) rfl (h.consL (t := 3) rfl h.nilL)).noFacts.add (h.fact 1 rfl))⟩
    try simp only [decide_eq_true_eq, decide_eq_false_iff_not, Bool.not_eq_true', Bool.not_eq_false'] at hb_if3
    refine wp_skip ?_
    refine reg_ ?_
    refine st_addI h rfl rfl (by omega) rfl fun a h => ?_
    refine st_move h rfl rfl fun a h => ?_
    refine wpList_nil ?_
    refine ⟨_, ?_, i + 1, _, _, _, _, by omega, hgv, hp21, rfl, (((h.consL (t := 0) rfl (h.consL (t := 2) rfl (h.consL (t := 3) rfl (h.consL (t := 10) rfl (h.consL (t := 11) rfl (h.consL (t := 12) rfl h.nilL)))))).noFacts.add (h.fact 3 rfl)).add (h.fact 1 rfl))⟩
    omega
   skip
   refine st_cmp h rfl rfl rfl rfl fun a h => ?_
   refine st_move h rfl rfl fun a h => ?_
   refine guard_skip h rfl rfl (by simp; omega) rfl fun a h => ?_
   refine guard_skip h rfl rfl (by simp; omega) rfl fun a h => ?_
   refine guard_skip h rfl rfl (by simp; omega) rfl fun a h => ?_
   refine guard_skip h rfl rfl (by simp; omega) rfl fun a h => ?_
   refine st_pickF h rfl (by simp; omega) rfl rfl fun a h => ?_
   refine wpList_nil ?_
   refine cond_f h rfl (rfl) ?_
   refine wp_skip ?_
   refine reg_ ?_
   refine st_addI h rfl rfl (by omega) rfl fun a h => ?_
   refine st_move h rfl rfl fun a h => ?_
   refine wpList_nil ?_
   refine ⟨_, ?_, i + 1, _, _, _, _, by omega, hgv, hp21, rfl, (((h.consL (t := 0) rfl (h.consL (t := 2) rfl (h.consL (t := 3) rfl (h.consL (t := 10) rfl (h.consL (t := 11) rfl (h.consL (t := 12) rfl h.nilL)))))).noFacts.add (h.fact 2 rfl)).add (h.fact 0 rfl))⟩
   omega
  skip
  refine seq_ (reg_ ?_)
  refine st_cmp h rfl rfl rfl rfl fun a h => ?_
  refine wpList_nil ?_
  refine seq_ ?_
  refine cond_f h rfl (by simp; omega) ?_
  refine wp_exit ?_
  repeat refine then_exit ?_
  refine inBlock_exit ?_
  exact ⟨_, _, _, _, by rw [hp1, List.take_of_length_le (by omega)], hp2, ((h.consL (t := 2) rfl (h.consL (t := 3) rfl h.nilL)).noFacts.add (h.fact 0 rfl))⟩
 clear h
 rintro a w ⟨G, gn, gc, gv, hp0, hp1, h⟩
 refine seq_ (reg_ ?_)
 refine st_move h rfl rfl fun a h => ?_
 refine st_call h Tryz.func40 rfl rfl rfl (limb_Norm _ _ (fun b => h.owns_lt) (natA_of_natN (h.fact 0 rfl)) (by omega)) rfl fun r w a hg hF h => ?_
 obtain ⟨A25, n26, c27, e29, f28⟩ := hF
 subst e29
 have h := h.add (f := (Rel.natN).fact [(.slice A25 n26 c27)] (gv)) f28
 refine st_call h Tryz.func39 rfl rfl rfl (whole_made _ _ (fun b => h.owns_lt) (h.fact 0 rfl)) rfl fun r w a hg hF h => ?_
 obtain ⟨cs30, e32, f31⟩ := hF
 obtain ⟨b33, A34, n35, c36, rfl⟩ := intN_shape f31
 subst e32
 have h := h.add (f := (Rel.intN).fact [(.bool b33), (.slice A34 n35 c36)] (ofSign false (gv))) f31
 refine st_store h 0 rfl rfl rfl Tryz.sizeOf30 rfl rfl rfl rfl fun w h => ?_
 refine wpList_nil ?_
 refine wp_ret ?_
 repeat refine then_ret ?_
 refine ret1 Tryz.results36 h (resv_agg h 0 rfl rfl Tryz.isAgg30 Tryz.sizeOf30 rfl) ?_
 exact ⟨_, rfl, h.grow0, _, rfl, (by rw [show ((gcdL l : Nat) : Int) = ofSign false (gv) from by rw [← hp0]; rfl]; exact h.out 0 rfl)⟩
end Orr

namespace Orr
open Go Go.Proofs
theorem d_whole_Norm {x y : LV} {z : Int} (hi : IsInt x y z) (hs1 : isz z ≤ 4294967295) : Does Tryz.prog 34 [.agg [x, y]] (.agg (ofI z)) :=
  does_int1 hi fun Ob W b A n c hO h => ⟨_, whole_Norm Ob W hO h hs1, fun w v => aggF_a v⟩
theorem d_whole_Neg {x y : LV} {z : Int} (hi : IsInt x y z) (hs1 : isz z ≤ 4294967295) : Does Tryz.prog 24 [.agg [x, y]] (.agg (ofI (-z))) :=
  does_int1 hi fun Ob W b A n c hO h => ⟨_, whole_Neg Ob W hO h hs1, fun w v => aggF_a v⟩
theorem d_whole_Mul {x y x' y' : LV} {z z' : Int} (hi : IsInt x y z) (hi' : IsInt x' y' z') (hs1 : isz z ≤ 4294967295) (hs2 : isz z' ≤ 4294967295)  : Does Tryz.prog 89 [.agg [x, y], .agg [x', y']] (.agg (ofI (z * z'))) :=
  does_int2 hi hi' fun Ob W b A n c b' A' n' c' hO h h' => ⟨_, whole_Mul Ob W hO h h' hs1 hs2 , fun w v => aggF_a v⟩
theorem d_whole_Add {x y x' y' : LV} {z z' : Int} (hi : IsInt x y z) (hi' : IsInt x' y' z') (hs1 : isz z ≤ 4294967295) (hs2 : isz z' ≤ 4294967295)  : Does Tryz.prog 121 [.agg [x, y], .agg [x', y']] (.agg (ofI (z + z'))) :=
  does_int2 hi hi' fun Ob W b A n c b' A' n' c' hO h h' => ⟨_, whole_Add Ob W hO h h' hs1 hs2 , fun w v => aggF_a v⟩
theorem d_whole_Sub {x y x' y' : LV} {z z' : Int} (hi : IsInt x y z) (hi' : IsInt x' y' z') (hs1 : isz z ≤ 4294967295) (hs2 : isz z' ≤ 4294967295)  : Does Tryz.prog 112 [.agg [x, y], .agg [x', y']] (.agg (ofI (z - z'))) :=
  does_int2 hi hi' fun Ob W b A n c b' A' n' c' hO h h' => ⟨_, whole_Sub Ob W hO h h' hs1 hs2 , fun w v => aggF_a v⟩
theorem d_whole_Cmp {x y x' y' : LV} {z z' : Int} (hi : IsInt x y z) (hi' : IsInt x' y' z') (hs1 : isz z ≤ 4294967295) (hs2 : isz z' ≤ 4294967295)  : Does Tryz.prog 71 [.agg [x, y], .agg [x', y']] (.one (.int .i64 (cmpZ z z'))) :=
  does_int2 hi hi' fun Ob W b A n c b' A' n' c' hO h h' => ⟨_, whole_Cmp Ob W hO h h' hs1 hs2 , fun w v => eqF_a rfl v⟩
theorem d_whole_Exact {x y x' y' : LV} {z z' : Int} (hi : IsInt x y z) (hi' : IsInt x' y' z') (hs1 : isz z ≤ 4294967295) (hs2 : isz z' ≤ 4294967295) (hz : z' ≠ 0) (hdv : z % z' = 0) : Does Tryz.prog 37 [.agg [x, y], .agg [x', y']] (.tup [.agg (ofI (z / z')), .one (.int .i64 0)]) :=
  does_int2 hi hi' fun Ob W b A n c b' A' n' c' hO h h' => ⟨_, whole_Exact Ob W hO h h' hs1 hs2 hz hdv, fun w v => tup2_a (fun v h => intN_to h) eqF_t v⟩
theorem d_whole_Of {z : Int} (h1 : -9223372036854775808 ≤ z ∧ z ≤ 9223372036854775807) : Does Tryz.prog 20 [.one (.int .i64 z)] (.agg (ofI z)) :=
  does_of fun Ob W vs hO hargs => by
    rcases vs with _ | ⟨v, _ | ⟨v2, vs⟩⟩
    · exact hargs.elim
    · have hr : LRep W Ob v (.int .i64 z) := hargs.1
      cases hr
      exact ⟨_, whole_Of Ob W hO h1.1 h1.2, fun w v => aggF_a v⟩
    · exact hargs.2.elim
theorem d_whole_Gcd {l : List (List LV)} {p : List Int} (hi : IsInts l p) (hs : ∀ z ∈ p, isz z ≤ 4294967295) : Does Tryz.prog 36 [.one (.row l)] (.agg (ofI ((gcdL p : Nat) : Int))) :=
  does_ints hi fun Ob W A n c hO h => ⟨_, whole_Gcd Ob W hO h hs, fun w v => aggF_a v⟩
end Orr

namespace Orr
def Bd (s : Nat) (p : List Int) : Prop := ∀ z ∈ p, isz z ≤ s
theorem isz_zero : isz 0 = 0 := rfl
theorem bd_get {s : Nat} {p : List Int} (h : Bd s p) {i : Nat} {z : Int} (hz : p[i]? = some z) : isz z ≤ s := h z (List.mem_of_getElem? hz)
theorem bd_getD {s : Nat} {p : List Int} (h : Bd s p) (k : Nat) : isz (p.getD k 0) ≤ s := by
  rw [List.getD_eq_getElem?_getD]
  cases hk : p[k]? with
  | none => rw [Option.getD_none, isz_zero]; exact Nat.zero_le _
  | some z => exact bd_get h hk
theorem bd_mono {s t : Nat} {p : List Int} (h : Bd s p) (ht : s ≤ t) : Bd t p := fun z hz => Nat.le_trans (h z hz) ht
theorem bd_nil {s : Nat} : Bd s [] := fun z hz => by cases hz
theorem bd_map {s : Nat} {n : Nat} {g : Nat → Int} (h : ∀ k, k < n → isz (g k) ≤ s) : Bd s ((List.range n).map g) := fun z hz => by
  obtain ⟨k, hk, rfl⟩ := List.mem_map.1 hz
  exact h k (List.mem_range.1 hk)
theorem trim_sub : ∀ (l : List Int), ∀ z ∈ trim l, z ∈ l
  | [], z, h => by cases h
  | x :: l, z, h => by
    have ih := trim_sub l
    cases hl : trim l with
    | nil =>
      simp only [trim, hl] at h
      split at h
      · cases h
      · rw [List.mem_singleton] at h; rw [h]; exact List.mem_cons_self ..
    | cons y k =>
      simp only [trim, hl] at h
      rcases List.mem_cons.1 h with rfl | h
      · exact List.mem_cons_self ..
      · exact List.mem_cons_of_mem _ (ih z (by rw [hl]; exact h))
theorem trim_len (l : List Int) : (trim l).length ≤ l.length := by
  induction l with
  | nil => exact Nat.le_refl _
  | cons x l ih =>
    cases hl : trim l with
    | nil => simp only [trim, hl]; split <;> simp
    | cons y k => simp only [trim, hl]; rw [hl] at ih; simp at ih ⊢; exact ih
theorem bd_trim {s : Nat} {p : List Int} (h : Bd s p) : Bd s (trim p) := fun z hz => h z (trim_sub p z hz)
def each (n : Nat) (g : Nat → Int) : List Int := trim ((List.range n).map g)
theorem each_trim (n : Nat) (g : Nat → Int) : Trim (each n g) := trim_trim _
theorem each_len (n : Nat) (g : Nat → Int) : (each n g).length ≤ n := Nat.le_trans (trim_len _) (by simp)
theorem bd_each {s n : Nat} {g : Nat → Int} (h : ∀ k, k < n → isz (g k) ≤ s) : Bd s (each n g) := bd_trim (bd_map h)
def padd (p q : List Int) : List Int := each (max p.length q.length) fun k => p.getD k 0 + q.getD k 0
def psub (p q : List Int) : List Int := each (max p.length q.length) fun k => p.getD k 0 - q.getD k 0
def pscale (p : List Int) (c : Int) : List Int := each p.length fun k => p.getD k 0 * c
def pder (p : List Int) : List Int := each (p.length - 1) fun k => p.getD (k + 1) 0 * ((k + 1 : Nat) : Int)
theorem bd_padd {s t : Nat} {p q : List Int} (h : Bd s p) (h' : Bd t q) : Bd (max s t + 1) (padd p q) := bd_each fun k _ => Nat.le_trans (isz_add _ _) (by have := bd_getD h k; have := bd_getD h' k; omega)
theorem bd_psub {s t : Nat} {p q : List Int} (h : Bd s p) (h' : Bd t q) : Bd (max s t + 1) (psub p q) := bd_each fun k _ => Nat.le_trans (isz_sub _ _) (by have := bd_getD h k; have := bd_getD h' k; omega)
theorem bd_pscale {s t : Nat} {p : List Int} {c : Int} (h : Bd s p) (hc : isz c ≤ t) : Bd (s + t) (pscale p c) := bd_each fun k _ => Nat.le_trans (isz_mul _ _) (by have := bd_getD h k; omega)
theorem len_padd (p q : List Int) : (padd p q).length ≤ max p.length q.length := each_len _ _
theorem len_psub (p q : List Int) : (psub p q).length ≤ max p.length q.length := each_len _ _
theorem len_pscale (p : List Int) (c : Int) : (pscale p c).length ≤ p.length := each_len _ _
theorem len_pder (p : List Int) : (pder p).length ≤ p.length - 1 := each_len _ _
theorem isz_nat {k t : Nat} (h : k < 2 ^ t) : isz (k : Int) ≤ t := by rw [isz_le]; simpa using h
theorem isz_nat38 {k : Nat} (h : k < 274877906944) : isz (k : Int) ≤ 4294967295 := Nat.le_trans (isz_nat (t := 38) (Nat.lt_of_lt_of_eq h (by decide))) (by omega)
theorem bd_pder {s t : Nat} {p : List Int} (h : Bd s p) (hl : p.length ≤ 2 ^ t) : Bd (s + t) (pder p) := bd_each fun k hk => Nat.le_trans (isz_mul _ _) (by
  have := bd_getD h (k + 1)
  have := isz_nat (k := k + 1) (t := t) (by omega)
  omega)
def mulk (x : Int) (b : List Int) (i : Nat) (o : List Int) : Nat → List Int
  | 0 => o
  | k + 1 => (mulk x b i o k).set (i + k) ((mulk x b i o k).getD (i + k) 0 + x * b.getD k 0)
def muli (a b o : List Int) : Nat → List Int
  | 0 => o
  | i + 1 => mulk (a.getD i 0) b i (muli a b o i) b.length
def pmul (a b : List Int) : List Int := if a.length = 0 ∨ b.length = 0 then [] else trim (muli a b (List.replicate (a.length + b.length - 1) 0) a.length)
theorem mulk_len (x : Int) (b : List Int) (i : Nat) (o : List Int) (k : Nat) : (mulk x b i o k).length = o.length := by
  induction k with
  | zero => rfl
  | succ k ih => simp [mulk, ih]
theorem muli_len (a b o : List Int) (i : Nat) : (muli a b o i).length = o.length := by
  induction i with
  | zero => rfl
  | succ i ih => simp [muli, mulk_len, ih]
theorem getD_set (l : List Int) (i m : Nat) (v : Int) (h : i < l.length) : (l.set i v).getD m 0 = if m = i then v else l.getD m 0 := by
  rw [List.getD_eq_getElem?_getD, List.getElem?_set, List.getD_eq_getElem?_getD]
  by_cases e : i = m
  · subst e; simp [h]
  · rw [if_neg e, if_neg (fun h => e h.symm)]
theorem mulk_getD (x : Int) (b : List Int) (i : Nat) (o : List Int) (k m : Nat) (h : i + k ≤ o.length) : (mulk x b i o k).getD m 0 = if i ≤ m ∧ m < i + k then o.getD m 0 + x * b.getD (m - i) 0 else o.getD m 0 := by
  induction k with
  | zero => simp only [mulk]; rw [if_neg (by omega)]
  | succ k ih =>
    have ih := ih (by omega)
    simp only [mulk]
    rw [getD_set _ _ _ _ (by rw [mulk_len]; omega)]
    by_cases e : m = i + k
    · subst e
      rw [if_pos rfl, if_pos (by omega), show i + k - i = k from by omega]
      rw [ih, if_neg (by omega)]
    · rw [if_neg e, ih]
      by_cases h1 : i ≤ m ∧ m < i + k
      · rw [if_pos h1, if_pos (by omega)]
      · rw [if_neg h1, if_neg (by omega)]
theorem natAbs_mul_bd {x y : Int} {s t : Nat} (hx : isz x ≤ s) (hy : isz y ≤ t) : (x * y).natAbs ≤ 2 ^ (s + t) := by
  have h := Nat.le_trans (isz_mul x y) (show _ ≤ s + t by omega)
  rw [isz_le] at h; omega
theorem mulk_bd {x : Int} {b : List Int} {i : Nat} {o : List Int} {k M : Nat} (h : i + k ≤ o.length) (ho : ∀ m, (o.getD m 0).natAbs ≤ i * M) (hx : ∀ j, (x * b.getD j 0).natAbs ≤ M) (m : Nat) : ((mulk x b i o k).getD m 0).natAbs ≤ (i + 1) * M := by
  rw [mulk_getD x b i o k m h, Nat.succ_mul]
  have h1 := ho m
  split
  · have h2 := hx (m - i)
    generalize i * M = q at *
    omega
  · omega
theorem muli_bd {a b o : List Int} {i M : Nat} (h : ∀ j, j < i → j + b.length ≤ o.length) (ho : ∀ m, o.getD m 0 = 0) (hx : ∀ i j, (a.getD i 0 * b.getD j 0).natAbs ≤ M) (m : Nat) : ((muli a b o i).getD m 0).natAbs ≤ i * M := by
  induction i generalizing m with
  | zero => simp only [muli]; rw [ho]; simp
  | succ i ih =>
    simp only [muli]
    exact mulk_bd (by rw [muli_len]; exact h i (by omega)) (ih fun j hj => h j (by omega)) (hx i) m
theorem isz_of_natAbs {z : Int} {i s t : Nat} (h : z.natAbs ≤ i * 2 ^ s) (hi : i < 2 ^ t) : isz z ≤ s + t := by
  rw [isz_le]
  have h1 : i * 2 ^ s < 2 ^ t * 2 ^ s := Nat.mul_lt_mul_of_pos_right hi (Nat.pow_pos (by decide))
  rw [← Nat.pow_add, Nat.add_comm t s] at h1
  omega
theorem getD_replicate (n m : Nat) : (List.replicate n (0 : Int)).getD m 0 = 0 := by
  rw [List.getD_eq_getElem?_getD, List.getElem?_replicate]; split <;> rfl
theorem bd_of_getD {s : Nat} {p : List Int} (h : ∀ m, isz (p.getD m 0) ≤ s) : Bd s p := fun z hz => by
  obtain ⟨i, hi⟩ := List.mem_iff_getElem?.1 hz
  have := h i
  rw [List.getD_eq_getElem?_getD, hi] at this
  exact this
theorem len_pmul (a b : List Int) : (pmul a b).length ≤ a.length + b.length - 1 := by
  unfold pmul
  split
  · simp
  · refine Nat.le_trans (trim_len _) ?_
    rw [muli_len]; simp
theorem bd_pmul {s t u : Nat} {a b : List Int} (ha : Bd s a) (hb : Bd t b) (hl : a.length < 2 ^ u) : Bd (s + t + u) (pmul a b) := by
  unfold pmul
  split
  · exact bd_nil
  · refine bd_trim (bd_of_getD fun m => ?_)
    exact isz_of_natAbs (muli_bd (M := 2 ^ (s + t)) (fun j hj => by simp; omega) (getD_replicate _) (fun i j => natAbs_mul_bd (bd_getD ha i) (bd_getD hb j)) m) hl
def valk (a : List Int) (n d : Int) : Nat → Int × Int
  | 0 => (0, 1)
  | k + 1 => ((valk a n d k).1 * n + a.getD (a.length - 1 - k) 0 * (valk a n d k).2, (valk a n d k).2 * d)
def pval (a : List Int) (n d : Int) : Int := (valk a n d a.length).1
theorem valk_bd {a : List Int} {n d : Int} {s t k : Nat} (ha : Bd s a) (hn : isz n ≤ t) (hd : isz d ≤ t) : isz (valk a n d k).1 ≤ s + 2 + k * (t + 1) ∧ isz (valk a n d k).2 ≤ 1 + k * t := by
  induction k with
  | zero => exact ⟨by simp [valk, isz_zero], by simp [valk]; decide⟩
  | succ k ih =>
    obtain ⟨h1, h2⟩ := ih
    have h3 := bd_getD ha (a.length - 1 - k)
    have e1 : k * (t + 1) = k * t + k := by rw [Nat.mul_add, Nat.mul_one]
    rw [Nat.succ_mul, Nat.succ_mul]
    refine ⟨?_, ?_⟩
    · simp only [valk]
      refine Nat.le_trans (isz_add _ _) ?_
      have h4 := isz_mul (valk a n d k).1 n
      have h5 := isz_mul (a.getD (a.length - 1 - k) 0) (valk a n d k).2
      generalize k * t = q at *
      rw [e1] at h1 ⊢
      omega
    · simp only [valk]
      have h4 := isz_mul (valk a n d k).2 d
      generalize k * t = q at *
      omega
end Orr
namespace Orr
theorem getD_some {l : List Int} {i : Nat} (h : i < l.length) : l[i]? = some (l.getD i 0) := by
  rw [List.getD_eq_getElem?_getD, List.getElem?_eq_getElem h]; rfl
theorem cmpZ_eq {x y : Int} : cmpZ x y = 0 ↔ x = y := by
  unfold cmpZ
  constructor
  · intro h
    split at h
    · omega
    · split at h <;> omega
  · rintro rfl; simp
theorem trim_zero {p : List Int} (h : Trim p) (h0 : 0 < p.length) : p.getD (p.length - 1) 0 ≠ 0 := by
  induction p with
  | nil => simp at h0
  | cons x l ih =>
    unfold Trim at h
    cases hl : trim l with
    | nil =>
      simp only [trim, hl] at h
      split at h
      · cases h
      · rename_i hx
        injection h with h1 h2
        subst h2
        simpa using hx
    | cons y k =>
      simp only [trim, hl] at h
      injection h with h1 h2
      rw [← hl] at h2
      have ih := ih h2 (by rw [← h2, hl]; simp)
      have h3 : 0 < l.length := by rw [← h2, hl]; simp
      simp only [List.length_cons, Nat.add_sub_cancel]
      obtain ⟨m, hm⟩ : ∃ m, l.length = m + 1 := ⟨l.length - 1, by omega⟩
      rw [hm] at ih ⊢
      simpa using ih
end Orr
namespace Orr
theorem map_getD (p : List Int) : (List.range p.length).map (fun k => p.getD k 0) = p := by
  apply List.ext_getElem?
  intro i
  rw [List.getElem?_map]
  rcases Nat.lt_or_ge i p.length with h | h
  · rw [List.getElem?_range h]
    simp [List.getElem?_eq_getElem h]
  · rw [List.getElem?_eq_none (by simpa using h), List.getElem?_eq_none h]; rfl
theorem eq_of_getD {p q : List Int} (hl : p.length = q.length) (h : ∀ j, j < p.length → p.getD j 0 = q.getD j 0) : p = q := by
  rw [← map_getD p, ← map_getD q, ← hl]
  exact List.map_congr_left fun j hj => h j (List.mem_range.1 hj)
end Orr

namespace Orr
open Go Go.Proofs
theorem d_Zero {b : Bool} {l : List Nat} : Does Tryz.prog 35 [.agg [.bool b, u32r l]] (.one (.bool (decide (l.length = 0)))) := by
 refine does_ (n := 7) Tryz.func35 rfl Tryz.ntmps35 rfl ?_
 refine ac_seq (ac_reg ?_)
 refine w_ (p_boxS rfl rfl rfl rfl) ?_
 refine w_ (p_assign rfl rfl) ?_
 refine aw_nil ?_
 refine ac_seq (ac_reg ?_)
 refine w_ (p_fieldSh fa_30_1 rfl rfl rfl) ?_
 refine w_ (p_loadSh Tryz.isAgg28 Tryz.sizeOf28 rfl rfl rfl rfl) ?_
 refine w_ (p_len (m := l.length) Tryz.runUnderlying28 rfl (by simp [rlen, u32r]) rfl) ?_
 refine w_ (p_cmp rfl rfl rfl rfl) ?_
 refine w_ (p_assign rfl rfl) ?_
 refine aw_nil ?_
 refine ac_ret ?_
 exact retB_1 Tryz.results35 (rv_tmp rfl rfl) (by simp)
theorem d_ZeroN (z : Int) : Does Tryz.prog 35 [.agg (ofI z)] (.one (.bool (decide (z = 0)))) := by
 have h := d_Zero (b := decide (z < 0)) (l := limbs z.natAbs)
 rwa [show decide ((limbs z.natAbs).length = 0) = decide (z = 0) from by rw [decide_eq_decide]; exact limbs_nil] at h
theorem d_poly_at {p : List Int} {k : Nat} : Does Tryz.prog 116 [.one (pl p), .one (.int .i64 ((k : Int)))] (.agg [sg (p.getD k 0), mg (p.getD k 0)]) := by
 refine does_ (n := 14) Tryz.func116 rfl Tryz.ntmps116 rfl ?_
 refine ac_seq (ac_reg ?_)
 refine a_alloc Tryz.zeroValue30 rfl rfl fun g1 => ?_
 refine aw_nil ?_
 refine ac_seq (ac_seq (ac_reg ?_))
 refine w_ (p_move rfl rfl) ?_
 refine w_ (p_move rfl rfl) ?_
 refine w_ (p_len (m := p.length) Tryz.runUnderlying27 rfl (rlen_pl _) rfl) ?_
 refine w_ (p_cmp rfl rfl rfl rfl) ?_
 refine aw_nil ?_
 refine ac_cond rfl (fun hb_if1 => ?_) (fun hb_if1 => ?_)
 ·try simp only [decide_eq_true_eq, decide_eq_false_iff_not, Bool.not_eq_true', Bool.not_eq_false'] at hb_if1
  have hb : k < p.length := by omega
  refine ac_seq (ac_reg ?_)
  refine w_ (p_move rfl rfl) ?_
  refine w_ (p_move rfl rfl) ?_
  obtain ⟨x_ix1, hx_ix1⟩ : ∃ x, (p)[k]? = some x := ⟨_, List.getElem?_eq_getElem (by omega)⟩
  refine w_ (p_index (k) Tryz.runUnderlying27 Tryz.sizeOf30 rfl rfl (rfl) (map_get hx_ix1) rfl rfl) ?_
  refine w_ (p_loadSh Tryz.isAgg30 Tryz.sizeOf30 rfl rfl rfl rfl) ?_
  refine a_storeOw 0 Tryz.sizeOf30 rfl rfl rfl rfl rfl rfl rfl ?_
  refine aw_nil ?_
  refine ac_ret ?_
  exact retB_1 Tryz.results116 (rv_cell 0 Tryz.isAgg30 Tryz.sizeOf30 rfl rfl rfl rfl rfl) (by rw [List.getD_eq_getElem?_getD, hx_ix1]; rfl)
 try simp only [decide_eq_true_eq, decide_eq_false_iff_not, Bool.not_eq_true', Bool.not_eq_false'] at hb_if1
 have hb : p.length ≤ k := by omega
 refine ac_skip ?_
 refine ac_seq (ac_reg ?_)
 refine w_ (p_build (bd_30) rfl rfl rfl rfl) ?_
 refine a_storeOw 0 Tryz.sizeOf30 rfl rfl rfl rfl rfl rfl rfl ?_
 refine aw_nil ?_
 refine ac_ret ?_
 exact retB_1 Tryz.results116 (rv_cell 0 Tryz.isAgg30 Tryz.sizeOf30 rfl rfl rfl rfl rfl) (by rw [List.getD_eq_getElem?_getD, List.getElem?_eq_none hb, Option.getD_none]; exact congrArg AV.agg ofI_zero.symm)
theorem d_poly_cut {p : List Int} (hl : p.length < 140737488355328 := by omega) : Does Tryz.prog 21 [.one (pl p)] (.one (pl (trim p))) := by
 refine does_ (n := 21) Tryz.func21 rfl Tryz.ntmps21 rfl ?_
 refine ac_seq (ac_reg ?_)
 refine w_ (p_assign rfl rfl) ?_
 refine aw_nil ?_
 refine ac_seq (ac_reg ?_)
 refine w_ (p_move rfl rfl) ?_
 refine w_ (p_len (m := p.length) Tryz.runUnderlying27 rfl (rlen_pl _) rfl) ?_
 refine w_ (p_assign rfl rfl) ?_
 refine aw_nil ?_
 refine ac_seq (ac_block ?_)
 refine ac_pick [0, 3] rfl ?_
 refine ac_loop (fun m L B => ∃ n, n ≤ p.length ∧ (∀ j x, n ≤ j → p[j]? = some x → x = 0) ∧ m = n ∧ L = [(0, .one (pl p)), (3, .one (.int .i64 ((n : Int))))] ∧ B = []) (m := _) ⟨p.length, Nat.le_refl _, fun j x hj hx => absurd (List.getElem?_eq_some_iff.1 hx).1 (by omega), rfl, rfl, rfl⟩ ?_
 rintro m L B ⟨n, hp0, hp1, hm, rfl, rfl⟩
 by_cases hn0 : 0 < n
 ·obtain ⟨y, hy⟩ : ∃ y, p[n - 1]? = some y := ⟨_, List.getElem?_eq_getElem (by omega)⟩
  by_cases hy0 : y = 0
  ·skip
   refine ac_seq (ac_seq (ac_reg ?_))
   refine w_ (p_move rfl rfl) ?_
   refine w_ (p_cmp rfl rfl rfl rfl) ?_
   refine w_ (p_move rfl rfl) ?_
   refine w_ ((p_grun rfl rfl (decide_eq_true (by omega)) (p_move rfl rfl))) ?_
   refine w_ ((p_grun rfl rfl (decide_eq_true (by omega)) (p_move rfl rfl))) ?_
   refine w_ ((p_grun rfl rfl (decide_eq_true (by omega)) (p_sub (r := ((n - 1 : Nat) : Int)) rfl rfl (i64_is (by omega) (by omega)) rfl))) ?_
   refine w_ ((p_grun rfl rfl (decide_eq_true (by omega)) (p_index (n - 1) Tryz.runUnderlying27 Tryz.sizeOf30 rfl rfl (rfl) (map_get hy) rfl rfl))) ?_
   refine w_ ((p_grun rfl rfl (decide_eq_true (by omega)) (p_loadSh Tryz.isAgg30 Tryz.sizeOf30 rfl rfl rfl rfl))) ?_
   refine w_ ((p_grun rfl rfl (decide_eq_true (by omega)) (p_call Tryz.func35 rfl rfl rfl rfl ((d_ZeroN _) ) rfl))) ?_
   refine w_ (p_pickT rfl (decide_eq_true (by omega)) rfl rfl) ?_
   refine aw_nil ?_
   refine ac_t rfl (decide_eq_true hy0) ?_
   refine ac_skip ?_
   refine ac_block (ac_reg ?_)
   refine w_ (p_move rfl rfl) ?_
   refine w_ (p_sub (r := ((n - 1 : Nat) : Int)) rfl rfl (i64_is (by omega) (by omega)) rfl) ?_
   refine w_ (p_assign rfl rfl) ?_
   refine aw_pick [0, 3] rfl ?_
   refine aw_nil ?_
   refine ⟨_, ?_, n - 1, by omega, fun j x hj hx => by
     rcases Nat.lt_or_ge j n with h1 | h1
     ·have : j = n - 1 := by omega
      subst this; rw [hy] at hx; injection hx with hx; rw [← hx]; exact hy0
     ·exact hp1 j x h1 hx, rfl, rfl, rfl⟩
   omega
  skip
  refine ac_seq (ac_seq (ac_reg ?_))
  refine w_ (p_move rfl rfl) ?_
  refine w_ (p_cmp rfl rfl rfl rfl) ?_
  refine w_ (p_move rfl rfl) ?_
  refine w_ ((p_grun rfl rfl (decide_eq_true (by omega)) (p_move rfl rfl))) ?_
  refine w_ ((p_grun rfl rfl (decide_eq_true (by omega)) (p_move rfl rfl))) ?_
  refine w_ ((p_grun rfl rfl (decide_eq_true (by omega)) (p_sub (r := ((n - 1 : Nat) : Int)) rfl rfl (i64_is (by omega) (by omega)) rfl))) ?_
  refine w_ ((p_grun rfl rfl (decide_eq_true (by omega)) (p_index (n - 1) Tryz.runUnderlying27 Tryz.sizeOf30 rfl rfl (rfl) (map_get hy) rfl rfl))) ?_
  refine w_ ((p_grun rfl rfl (decide_eq_true (by omega)) (p_loadSh Tryz.isAgg30 Tryz.sizeOf30 rfl rfl rfl rfl))) ?_
  refine w_ ((p_grun rfl rfl (decide_eq_true (by omega)) (p_call Tryz.func35 rfl rfl rfl rfl ((d_ZeroN _) ) rfl))) ?_
  refine w_ (p_pickT rfl (decide_eq_true (by omega)) rfl rfl) ?_
  refine aw_nil ?_
  refine ac_f rfl (decide_eq_false hy0) ?_
  refine ac_exit ?_
  repeat refine seqQ_exit ?_
  refine blkQ_here ?_
  refine ac_seq (ac_reg ?_)
  refine w_ (p_move rfl rfl) ?_
  refine w_ (p_move rfl rfl) ?_
  have hcut := trim_cut (l := p) (m := n) hp0 hp1 (fun _ => ⟨y, hy, hy0⟩)
  refine w_ (p_sliceHi n Tryz.runUnderlying27 Tryz.sizeOf30 rfl rfl rfl (by simp; omega) (map_w p (sz := 2) (fun _ => rfl)) (l' := (trim p).map ofI) (by rw [hcut, List.map_take]) rfl) ?_
  refine w_ (p_assign rfl rfl) ?_
  refine aw_nil ?_
  refine ac_ret ?_
  exact retB_1 Tryz.results21 (rv_tmp rfl rfl) (rfl)
 skip
 refine ac_seq (ac_seq (ac_reg ?_))
 refine w_ (p_move rfl rfl) ?_
 refine w_ (p_cmp rfl rfl rfl rfl) ?_
 refine w_ (p_move rfl rfl) ?_
 refine w_ (p_gskip rfl rfl (decide_eq_false (by omega)) rfl) ?_
 refine w_ (p_gskip rfl rfl (decide_eq_false (by omega)) rfl) ?_
 refine w_ (p_gskip rfl rfl (decide_eq_false (by omega)) rfl) ?_
 refine w_ (p_gskip rfl rfl (decide_eq_false (by omega)) rfl) ?_
 refine w_ (p_gskip rfl rfl (decide_eq_false (by omega)) rfl) ?_
 refine w_ (p_gskip rfl rfl (decide_eq_false (by omega)) rfl) ?_
 refine w_ (p_pickF rfl (decide_eq_false (by omega)) rfl rfl) ?_
 refine aw_nil ?_
 refine ac_f rfl (rfl) ?_
 refine ac_exit ?_
 repeat refine seqQ_exit ?_
 refine blkQ_here ?_
 refine ac_seq (ac_reg ?_)
 refine w_ (p_move rfl rfl) ?_
 refine w_ (p_move rfl rfl) ?_
 have hcut := trim_cut (l := p) (m := n) hp0 hp1 (fun h => absurd h hn0)
 refine w_ (p_sliceHi n Tryz.runUnderlying27 Tryz.sizeOf30 rfl rfl rfl (by simp; omega) (map_w p (sz := 2) (fun _ => rfl)) (l' := (trim p).map ofI) (by rw [hcut, List.map_take]) rfl) ?_
 refine w_ (p_assign rfl rfl) ?_
 refine aw_nil ?_
 refine ac_ret ?_
 exact retB_1 Tryz.results21 (rv_tmp rfl rfl) (rfl)
theorem d_poly_Add1 {p q : List Int} {k : Nat} (hp : Bd 4294967295 p) (hq : Bd 4294967295 q) : Does Tryz.prog 120 [.one (.int .i64 ((k : Int))), .one (.sh [pl p]), .one (.sh [pl q])] (.agg [sg (p.getD k 0 + q.getD k 0), mg (p.getD k 0 + q.getD k 0)]) := by
 refine does_ (n := 12) Tryz.func120 rfl Tryz.ntmps120 rfl ?_
 refine ac_seq (ac_reg ?_)
 refine a_alloc Tryz.zeroValue30 rfl rfl fun g1 => ?_
 refine aw_nil ?_
 refine ac_seq ?_
 refine ac_draw mixed_ 5 [5, 6, 7, 8, 9] [[], [], [0, 1], [], []] [.one (pl p), .one (.int .i64 ((k : Int))), .agg [sg (List.getD p k 0), mg (List.getD p k 0)], .one (pl q), .one (.int .i64 ((k : Int)))] rfl rfl rfl ⟨p_loadSh Tryz.isAgg27 Tryz.sizeOf27 rfl rfl rfl rfl, p_move rfl rfl, p_call Tryz.func116 rfl rfl rfl rfl (d_poly_at ) rfl, p_loadSh Tryz.isAgg27 Tryz.sizeOf27 rfl rfl rfl rfl, p_move rfl rfl, trivial⟩ rfl ?_
 refine w_ (p_call Tryz.func116 rfl rfl rfl rfl (d_poly_at ) rfl) ?_
 refine w_ (p_call Tryz.func121 rfl rfl rfl rfl (d_whole_Add (isInt_n _) (isInt_n _) (bd_getD hp k) (bd_getD hq k)) rfl) ?_
 refine a_storeOw 0 Tryz.sizeOf30 rfl rfl rfl rfl rfl rfl rfl ?_
 refine aw_nil ?_
 refine ac_ret ?_
 exact retB_1 Tryz.results120 (rv_cell 0 Tryz.isAgg30 Tryz.sizeOf30 rfl rfl rfl rfl rfl) (rfl)
theorem d_poly_Sub1 {p q : List Int} {k : Nat} (hp : Bd 4294967295 p) (hq : Bd 4294967295 q) : Does Tryz.prog 115 [.one (.int .i64 ((k : Int))), .one (.sh [pl p]), .one (.sh [pl q])] (.agg [sg (p.getD k 0 - q.getD k 0), mg (p.getD k 0 - q.getD k 0)]) := by
 refine does_ (n := 12) Tryz.func115 rfl Tryz.ntmps115 rfl ?_
 refine ac_seq (ac_reg ?_)
 refine a_alloc Tryz.zeroValue30 rfl rfl fun g1 => ?_
 refine aw_nil ?_
 refine ac_seq ?_
 refine ac_draw mixed_ 5 [5, 6, 7, 8, 9] [[], [], [0, 1], [], []] [.one (pl p), .one (.int .i64 ((k : Int))), .agg [sg (List.getD p k 0), mg (List.getD p k 0)], .one (pl q), .one (.int .i64 ((k : Int)))] rfl rfl rfl ⟨p_loadSh Tryz.isAgg27 Tryz.sizeOf27 rfl rfl rfl rfl, p_move rfl rfl, p_call Tryz.func116 rfl rfl rfl rfl (d_poly_at ) rfl, p_loadSh Tryz.isAgg27 Tryz.sizeOf27 rfl rfl rfl rfl, p_move rfl rfl, trivial⟩ rfl ?_
 refine w_ (p_call Tryz.func116 rfl rfl rfl rfl (d_poly_at ) rfl) ?_
 refine w_ (p_call Tryz.func112 rfl rfl rfl rfl (d_whole_Sub (isInt_n _) (isInt_n _) (bd_getD hp k) (bd_getD hq k)) rfl) ?_
 refine a_storeOw 0 Tryz.sizeOf30 rfl rfl rfl rfl rfl rfl rfl ?_
 refine aw_nil ?_
 refine ac_ret ?_
 exact retB_1 Tryz.results115 (rv_cell 0 Tryz.isAgg30 Tryz.sizeOf30 rfl rfl rfl rfl rfl) (rfl)
theorem d_poly_Scale1 {p : List Int} {c : Int} {k : Nat} (hk : k < p.length) (hp : Bd 4294967295 p) (hc : isz c ≤ 4294967295) : Does Tryz.prog 117 [.one (.int .i64 ((k : Int))), .one (.sh [pl p]), .one (.sh [sg c, mg c])] (.agg [sg (p.getD k 0 * c), mg (p.getD k 0 * c)]) := by
 refine does_ (n := 11) Tryz.func117 rfl Tryz.ntmps117 rfl ?_
 refine ac_seq (ac_reg ?_)
 refine a_alloc Tryz.zeroValue30 rfl rfl fun g1 => ?_
 refine aw_nil ?_
 refine ac_seq ?_
 obtain ⟨x_ix1, hx_ix1⟩ : ∃ x, (p)[k]? = some x := ⟨_, List.getElem?_eq_getElem (by omega)⟩
 refine ac_draw mixed_ 5 [5, 6, 7, 8, 9] [[], [], [0, 1], [2], []] [.one (pl p), .one (.int .i64 ((k : Int))), .one (.sh [sg x_ix1, mg x_ix1]), .agg [sg x_ix1, mg x_ix1], .agg [sg c, mg c]] rfl rfl rfl ⟨p_loadSh Tryz.isAgg27 Tryz.sizeOf27 rfl rfl rfl rfl, p_move rfl rfl, p_index (k) Tryz.runUnderlying27 Tryz.sizeOf30 rfl rfl (rfl) (map_get hx_ix1) rfl rfl, p_loadSh Tryz.isAgg30 Tryz.sizeOf30 rfl rfl rfl rfl, p_loadSh Tryz.isAgg30 Tryz.sizeOf30 rfl rfl rfl rfl, trivial⟩ rfl ?_
 refine w_ (p_call Tryz.func89 rfl rfl rfl rfl (d_whole_Mul (isInt_n _) (isInt_n _) (bd_get hp hx_ix1) (hc)) rfl) ?_
 refine a_storeOw 0 Tryz.sizeOf30 rfl rfl rfl rfl rfl rfl rfl ?_
 refine aw_nil ?_
 refine ac_ret ?_
 exact retB_1 Tryz.results117 (rv_cell 0 Tryz.isAgg30 Tryz.sizeOf30 rfl rfl rfl rfl rfl) (by rw [List.getD_eq_getElem?_getD, hx_ix1]; rfl)
theorem d_poly_Derive1 {p : List Int} {k : Nat} (hk : k + 1 < p.length) (hl : p.length < 274877906944) (hp : Bd 4294967295 p) : Does Tryz.prog 133 [.one (.int .i64 ((k : Int))), .one (.sh [pl p])] (.agg [sg (p.getD (k + 1) 0 * ((k + 1 : Nat) : Int)), mg (p.getD (k + 1) 0 * ((k + 1 : Nat) : Int))]) := by
 refine does_ (n := 13) Tryz.func133 rfl Tryz.ntmps133 rfl ?_
 refine ac_seq (ac_reg ?_)
 refine a_alloc Tryz.zeroValue30 rfl rfl fun g1 => ?_
 refine aw_nil ?_
 refine ac_seq ?_
 obtain ⟨x_ix1, hx_ix1⟩ : ∃ x, (p)[k + 1]? = some x := ⟨_, List.getElem?_eq_getElem (by omega)⟩
 refine ac_draw mixed_ 8 [4, 5, 6, 7, 8, 9, 10, 11] [[], [], [1], [0, 2], [3], [], [5], [6]] [.one (pl p), .one (.int .i64 ((k : Int))), .one (.int .i64 (((k + 1 : Nat) : Int))), .one (.sh [sg x_ix1, mg x_ix1]), .agg [sg x_ix1, mg x_ix1], .one (.int .i64 ((k : Int))), .one (.int .i64 (((k + 1 : Nat) : Int))), .agg [sg (((k + 1 : Nat) : Int)), mg (((k + 1 : Nat) : Int))]] rfl rfl rfl ⟨p_loadSh Tryz.isAgg27 Tryz.sizeOf27 rfl rfl rfl rfl, p_move rfl rfl, p_add (r := ((k + 1 : Nat) : Int)) rfl rfl (i64_is (by omega) (by omega)) rfl, p_index (k + 1) Tryz.runUnderlying27 Tryz.sizeOf30 rfl rfl (rfl) (map_get hx_ix1) rfl rfl, p_loadSh Tryz.isAgg30 Tryz.sizeOf30 rfl rfl rfl rfl, p_move rfl rfl, p_add (r := ((k + 1 : Nat) : Int)) rfl rfl (i64_is (by omega) (by omega)) rfl, p_call Tryz.func20 rfl rfl rfl rfl (d_whole_Of (by omega)) rfl, trivial⟩ rfl ?_
 refine w_ (p_call Tryz.func89 rfl rfl rfl rfl (d_whole_Mul (isInt_n _) (isInt_n _) (bd_get hp hx_ix1) (isz_nat38 (by omega))) rfl) ?_
 refine a_storeOw 0 Tryz.sizeOf30 rfl rfl rfl rfl rfl rfl rfl ?_
 refine aw_nil ?_
 refine ac_ret ?_
 exact retB_1 Tryz.results133 (rv_cell 0 Tryz.isAgg30 Tryz.sizeOf30 rfl rfl rfl rfl rfl) (by rw [List.getD_eq_getElem?_getD, hx_ix1]; rfl)
theorem d_poly_each {n fid : Nat} {pre post : List LV} {fn : Func} {g : Nat → Int} (hfn : Tryz.prog.funcs[fid]? = some fn) (hnm : (fn.name == "runtime.NumGoroutine") = false) (hbd : fn.body.isNone = false) (hn : n < 274877906944)
  (hf : ∀ k : Nat, k < n → Does Tryz.prog fid (pre.map .one ++ [.one (.int .i64 (k : Int))] ++ post.map .one) (.agg (ofI (g k)))) : Does Tryz.prog 114 [.one (.int .i64 ((n : Int))), .one (.fn fid pre post)] (.one (pl (each n g))) := by
 refine does_ (n := 23) Tryz.func114 rfl Tryz.ntmps114 rfl ?_
 refine ac_seq (ac_reg ?_)
 refine w_ (p_assign rfl rfl) ?_
 refine aw_nil ?_
 refine ac_seq (ac_reg ?_)
 refine w_ (p_move rfl rfl) ?_
 refine a_make (n) Tryz.runUnderlying27 Tryz.typeInfo30 rfl Tryz.sizeOf30 Tryz.zeroValue30 rfl rfl rfl rfl rfl rfl (rfl) (rfl) (hn) rfl fun r1 => ?_
 refine aw_zeros (ls' := (tab g n 0).map ofI) 0 rfl rfl (by rw [← tab_zero]; exact zeros_I _) ?_
 refine w_ (p_assign rfl rfl) ?_
 refine aw_nil ?_
 refine ac_seq (ac_seq (ac_reg ?_))
 refine w_ (p_move rfl rfl) ?_
 refine w_ (p_len (m := n) Tryz.runUnderlying27 rfl (rfl) rfl) ?_
 refine w_ (p_move rfl rfl) ?_
 refine aw_nil ?_
 refine ac_block ?_
 refine ac_pick [1, 5, 10, 11] rfl ?_
 refine ac_loop (fun m L B => ∃ i, i ≤ n ∧ m = n - i ∧ L = [(1, .one (.fn fid pre post)), (5, .one (.orow r1 2 0 n)), (10, .one (.int .i64 (((n : Nat) : Int)))), (11, .one (.int .i64 ((i : Int))))] ∧ B = [.row r1 30 2 ((tab g n i).map ofI)]) (m := _) ⟨0, Nat.zero_le _, rfl, rfl, rfl⟩ ?_
 rintro m L B ⟨i, hp0, hm, rfl, rfl⟩
 by_cases hlt : i < n
 ·skip
  refine ac_seq (ac_reg ?_)
  refine w_ (p_cmp rfl rfl rfl rfl) ?_
  refine aw_nil ?_
  refine ac_seq ?_
  refine ac_t rfl (decide_eq_true (by omega)) ?_
  refine ac_skip ?_
  refine ac_seq (ac_block (ac_seq (ac_reg ?_)))
  refine w_ (p_move rfl rfl) ?_
  refine w_ (p_assign rfl rfl) ?_
  refine aw_nil ?_
  refine ac_reg ?_
  refine w_ (p_move rfl rfl) ?_
  refine w_ (p_move rfl rfl) ?_
  refine w_ (p_move rfl rfl) ?_
  refine w_ (p_move rfl rfl) ?_
  refine w_ (p_callFn rfl hfn hnm hbd rfl rfl (hf i hlt) rfl) ?_
  refine w_ (p_indexO (i) Tryz.runUnderlying27 Tryz.sizeOf30 rfl rfl (rfl) (by omega) rfl) ?_
  refine a_storeO (ls2 := (tab g n (i + 1)).map ofI) 0 Tryz.sizeOf30 rfl rfl rfl rfl rfl rfl (by rw [Nat.zero_add]; exact map_get (tab_get g hlt)) rfl (by rw [Nat.zero_add]; exact (set_map ofI _ i (g i)).trans (by rw [tab_set g hlt])) ?_
  refine aw_nil ?_
  refine ac_reg ?_
  refine w_ (p_add (r := ((i + 1 : Nat) : Int)) rfl rfl (i64_is (by omega) (by omega)) rfl) ?_
  refine w_ (p_move rfl rfl) ?_
  refine aw_pick [1, 5, 10, 11] rfl ?_
  refine aw_nil ?_
  refine ⟨_, ?_, i + 1, by omega, rfl, rfl, rfl⟩
  omega
 skip
 refine ac_seq (ac_reg ?_)
 refine w_ (p_cmp rfl rfl rfl rfl) ?_
 refine aw_nil ?_
 refine ac_seq ?_
 refine ac_f rfl (decide_eq_false (by omega)) ?_
 refine ac_exit ?_
 repeat refine seqQ_exit ?_
 refine blkQ_here ?_
 refine ac_seq (ac_reg ?_)
 refine w_ (p_move rfl rfl) ?_
 refine aw_pub 0 [21] rfl (allAre1 rfl) (by rw [List.length_map, tab_len g (by omega)]) (by rw [List.length_map, tab_len g (by omega)]; omega) rfl ?_
 refine w_ (p_call Tryz.func21 rfl rfl rfl rfl (d_poly_cut (by rw [tab_len g (by omega)]; omega)) rfl) ?_
 refine w_ (p_assign rfl rfl) ?_
 refine aw_nil ?_
 refine ac_ret ?_
 exact retB_1 Tryz.results114 (rv_tmp rfl rfl) (by rw [show i = n from by omega, tab_all]; rfl)
theorem d_poly_Add {p q : List Int} (hlp : p.length < 274877906944) (hlq : q.length < 274877906944) (hp : Bd 4294967295 p) (hq : Bd 4294967295 q) : Does Tryz.prog 87 [.one (pl p), .one (pl q)] (.one (pl (padd p q))) := by
 refine does_ (n := 12) Tryz.func87 rfl Tryz.ntmps87 rfl ?_
 refine ac_seq (ac_reg ?_)
 refine w_ (p_boxS rfl rfl rfl rfl) ?_
 refine w_ (p_boxS rfl rfl rfl rfl) ?_
 refine w_ (p_assign rfl rfl) ?_
 refine aw_nil ?_
 refine ac_seq (ac_reg ?_)
 refine w_ (p_loadSh Tryz.isAgg27 Tryz.sizeOf27 rfl rfl rfl rfl) ?_
 refine w_ (p_len (m := p.length) Tryz.runUnderlying27 rfl (rlen_pl _) rfl) ?_
 refine w_ (p_loadSh Tryz.isAgg27 Tryz.sizeOf27 rfl rfl rfl rfl) ?_
 refine w_ (p_len (m := q.length) Tryz.runUnderlying27 rfl (rlen_pl _) rfl) ?_
 refine w_ (p_max (r := ((max p.length q.length : Nat) : Int)) rfl rfl (by split <;> omega) rfl) ?_
 refine w_ (p_makeFunc rfl rfl rfl rfl rfl rfl rfl) ?_
 refine w_ (p_call Tryz.func114 rfl rfl rfl rfl (d_poly_each (g := fun k => p.getD k 0 + q.getD k 0) Tryz.func120 rfl rfl (by omega) (fun k hk => d_poly_Add1 hp hq)) rfl) ?_
 refine w_ (p_assign rfl rfl) ?_
 refine aw_nil ?_
 refine ac_ret ?_
 exact retB_1 Tryz.results87 (rv_tmp rfl rfl) (rfl)
theorem d_poly_Sub {p q : List Int} (hlp : p.length < 274877906944) (hlq : q.length < 274877906944) (hp : Bd 4294967295 p) (hq : Bd 4294967295 q) : Does Tryz.prog 81 [.one (pl p), .one (pl q)] (.one (pl (psub p q))) := by
 refine does_ (n := 12) Tryz.func81 rfl Tryz.ntmps81 rfl ?_
 refine ac_seq (ac_reg ?_)
 refine w_ (p_boxS rfl rfl rfl rfl) ?_
 refine w_ (p_boxS rfl rfl rfl rfl) ?_
 refine w_ (p_assign rfl rfl) ?_
 refine aw_nil ?_
 refine ac_seq (ac_reg ?_)
 refine w_ (p_loadSh Tryz.isAgg27 Tryz.sizeOf27 rfl rfl rfl rfl) ?_
 refine w_ (p_len (m := p.length) Tryz.runUnderlying27 rfl (rlen_pl _) rfl) ?_
 refine w_ (p_loadSh Tryz.isAgg27 Tryz.sizeOf27 rfl rfl rfl rfl) ?_
 refine w_ (p_len (m := q.length) Tryz.runUnderlying27 rfl (rlen_pl _) rfl) ?_
 refine w_ (p_max (r := ((max p.length q.length : Nat) : Int)) rfl rfl (by split <;> omega) rfl) ?_
 refine w_ (p_makeFunc rfl rfl rfl rfl rfl rfl rfl) ?_
 refine w_ (p_call Tryz.func114 rfl rfl rfl rfl (d_poly_each (g := fun k => p.getD k 0 - q.getD k 0) Tryz.func115 rfl rfl (by omega) (fun k hk => d_poly_Sub1 hp hq)) rfl) ?_
 refine w_ (p_assign rfl rfl) ?_
 refine aw_nil ?_
 refine ac_ret ?_
 exact retB_1 Tryz.results81 (rv_tmp rfl rfl) (rfl)
theorem d_poly_Scale {p : List Int} {c : Int} (hlp : p.length < 274877906944) (hp : Bd 4294967295 p) (hc : isz c ≤ 4294967295) : Does Tryz.prog 82 [.one (pl p), .agg [sg c, mg c]] (.one (pl (pscale p c))) := by
 refine does_ (n := 9) Tryz.func82 rfl Tryz.ntmps82 rfl ?_
 refine ac_seq (ac_reg ?_)
 refine w_ (p_boxS rfl rfl rfl rfl) ?_
 refine w_ (p_boxS rfl rfl rfl rfl) ?_
 refine w_ (p_assign rfl rfl) ?_
 refine aw_nil ?_
 refine ac_seq (ac_reg ?_)
 refine w_ (p_loadSh Tryz.isAgg27 Tryz.sizeOf27 rfl rfl rfl rfl) ?_
 refine w_ (p_len (m := p.length) Tryz.runUnderlying27 rfl (rlen_pl _) rfl) ?_
 refine w_ (p_makeFunc rfl rfl rfl rfl rfl rfl rfl) ?_
 refine w_ (p_call Tryz.func114 rfl rfl rfl rfl (d_poly_each (g := fun k => p.getD k 0 * c) Tryz.func117 rfl rfl (by omega) (fun k hk => d_poly_Scale1 hk hp hc)) rfl) ?_
 refine w_ (p_assign rfl rfl) ?_
 refine aw_nil ?_
 refine ac_ret ?_
 exact retB_1 Tryz.results82 (rv_tmp rfl rfl) (rfl)
theorem d_poly_Derive {p : List Int} (hlp : p.length < 274877906944) (hp : Bd 4294967295 p) : Does Tryz.prog 107 [.one (pl p)] (.one (pl (pder p))) := by
 refine does_ (n := 9) Tryz.func107 rfl Tryz.ntmps107 rfl ?_
 refine ac_seq (ac_reg ?_)
 refine w_ (p_boxS rfl rfl rfl rfl) ?_
 refine w_ (p_assign rfl rfl) ?_
 refine aw_nil ?_
 refine ac_seq (ac_reg ?_)
 refine w_ (p_loadSh Tryz.isAgg27 Tryz.sizeOf27 rfl rfl rfl rfl) ?_
 refine w_ (p_len (m := p.length) Tryz.runUnderlying27 rfl (rlen_pl _) rfl) ?_
 refine w_ (p_sub (r := ((((p.length : Nat) : Int)) - 1)) rfl rfl (i64_is rfl (by omega)) rfl) ?_
 refine w_ (p_max (r := ((p.length - 1 : Nat) : Int)) rfl rfl (by split <;> omega) rfl) ?_
 refine w_ (p_makeFunc rfl rfl rfl rfl rfl rfl rfl) ?_
 refine w_ (p_call Tryz.func114 rfl rfl rfl rfl (d_poly_each (g := fun k => p.getD (k + 1) 0 * ((k + 1 : Nat) : Int)) Tryz.func133 rfl rfl (by omega) (fun k hk => d_poly_Derive1 (by omega) hlp hp)) rfl) ?_
 refine w_ (p_assign rfl rfl) ?_
 refine aw_nil ?_
 refine ac_ret ?_
 exact retB_1 Tryz.results107 (rv_tmp rfl rfl) (rfl)
theorem d_poly_Norm {ls : List (List LV)} {p : List Int} (hi : IsInts ls p) (hl : p.length < 274877906944) (hs : Bd 4294967295 p) : Does Tryz.prog 33 [.one (.row ls)] (.one (pl (trim p))) := by
 refine does_ (n := 24) Tryz.func33 rfl Tryz.ntmps33 rfl ?_
 refine ac_seq (ac_reg ?_)
 refine w_ (p_assign rfl rfl) ?_
 refine aw_nil ?_
 refine ac_seq (ac_reg ?_)
 refine w_ (p_move rfl rfl) ?_
 refine w_ (p_len (m := p.length) Tryz.runUnderlying27 rfl (by simp only [rlen]; rw [hi.len]) rfl) ?_
 refine a_make (p.length) Tryz.runUnderlying27 Tryz.typeInfo30 rfl Tryz.sizeOf30 Tryz.zeroValue30 rfl rfl rfl rfl rfl rfl (rfl) (rfl) (hl) rfl fun r1 => ?_
 refine aw_zeros (ls' := (tab (fun k => p.getD k 0) p.length 0).map ofI) 0 rfl rfl (by rw [← tab_zero]; exact zeros_I _) ?_
 refine w_ (p_assign rfl rfl) ?_
 refine aw_nil ?_
 refine ac_seq (ac_seq (ac_reg ?_))
 refine w_ (p_move rfl rfl) ?_
 refine w_ (p_len (m := p.length) Tryz.runUnderlying27 rfl (by simp only [rlen]; rw [hi.len]) rfl) ?_
 refine w_ (p_move rfl rfl) ?_
 refine aw_nil ?_
 refine ac_block ?_
 refine ac_pick [9, 10, 3, 11] rfl ?_
 refine ac_loop (fun m L B => ∃ i, i ≤ p.length ∧ m = p.length - i ∧ L = [(9, .one (.row ls)), (10, .one (.int .i64 (((p.length : Nat) : Int)))), (3, .one (.orow r1 2 0 p.length)), (11, .one (.int .i64 ((i : Int))))] ∧ B = [.row r1 30 2 ((tab (fun k => p.getD k 0) p.length i).map ofI)]) (m := _) ⟨0, Nat.zero_le _, rfl, rfl, rfl⟩ ?_
 rintro m L B ⟨i, hp0, hm, rfl, rfl⟩
 by_cases hlt : i < p.length
 ·obtain ⟨xa, xb, hx, bb, ll, rfl, rfl, hll, hzz⟩ := hi.get (getD_some hlt)
  refine ac_seq (ac_reg ?_)
  refine w_ (p_cmp rfl rfl rfl rfl) ?_
  refine aw_nil ?_
  refine ac_seq ?_
  refine ac_t rfl (decide_eq_true (by omega)) ?_
  refine ac_skip ?_
  refine ac_seq (ac_block (ac_seq (ac_reg ?_)))
  refine w_ (p_move rfl rfl) ?_
  refine w_ (p_index (i) Tryz.runUnderlying27 Tryz.sizeOf30 rfl rfl (rfl) (hx) rfl rfl) ?_
  refine w_ (p_loadSh Tryz.isAgg30 Tryz.sizeOf30 rfl rfl rfl rfl) ?_
  refine a_alloc Tryz.zeroValue30 rfl rfl fun g2 => ?_
  refine w_ (p_assign rfl rfl) ?_
  refine a_storeOw 0 Tryz.sizeOf30 rfl rfl rfl rfl rfl rfl rfl ?_
  refine aw_nil ?_
  refine ac_reg ?_
  refine w_ (p_move rfl rfl) ?_
  refine w_ (p_move rfl rfl) ?_
  refine w_ (p_loadOw 0 Tryz.isAgg30 Tryz.sizeOf30 rfl rfl rfl rfl rfl) ?_
  refine w_ (p_call Tryz.func34 rfl rfl rfl rfl (d_whole_Norm ⟨_, _, rfl, rfl, hll, hzz⟩ (bd_getD hs i)) rfl) ?_
  refine w_ (p_indexO (i) Tryz.runUnderlying27 Tryz.sizeOf30 rfl rfl (rfl) (by omega) rfl) ?_
  refine a_storeO (ls2 := (tab (fun k => p.getD k 0) p.length (i + 1)).map ofI) 1 Tryz.sizeOf30 rfl rfl rfl rfl rfl rfl (by rw [Nat.zero_add]; exact map_get (tab_get _ hlt)) rfl (by rw [Nat.zero_add]; exact (set_map ofI _ i (p.getD i 0)).trans (by rw [← tab_set _ hlt])) ?_
  refine aw_nil ?_
  refine ac_reg ?_
  refine w_ (p_add (r := ((i + 1 : Nat) : Int)) rfl rfl (i64_is (by omega) (by omega)) rfl) ?_
  refine w_ (p_move rfl rfl) ?_
  refine aw_pick [9, 10, 3, 11] rfl ?_
  refine aw_drop 1 rfl ?_
  refine aw_nil ?_
  refine ⟨_, ?_, i + 1, by omega, rfl, rfl, rfl⟩
  omega
 skip
 refine ac_seq (ac_reg ?_)
 refine w_ (p_cmp rfl rfl rfl rfl) ?_
 refine aw_nil ?_
 refine ac_seq ?_
 refine ac_f rfl (decide_eq_false (by omega)) ?_
 refine ac_exit ?_
 repeat refine seqQ_exit ?_
 refine blkQ_here ?_
 refine ac_seq (ac_reg ?_)
 refine w_ (p_move rfl rfl) ?_
 refine aw_pub 0 [22] rfl (allAre1 rfl) (by rw [List.length_map, tab_len _ (by omega)]) (by rw [List.length_map, tab_len _ (by omega)]; omega) rfl ?_
 refine w_ (p_call Tryz.func21 rfl rfl rfl rfl (d_poly_cut (by rw [tab_len _ (by omega)]; omega)) rfl) ?_
 refine w_ (p_assign rfl rfl) ?_
 refine aw_nil ?_
 refine ac_ret ?_
 exact retB_1 Tryz.results33 (rv_tmp rfl rfl) (by rw [show i = p.length from by omega, tab_all, map_getD])
theorem d_poly_NormN {p : List Int} (hl : p.length < 274877906944) (hs : Bd 4294967295 p) : Does Tryz.prog 33 [.one (pl p)] (.one (pl (trim p))) := d_poly_Norm (isInts_n p) hl hs
theorem d_poly_NormT {p : List Int} (ht : Trim p) (hl : p.length < 274877906944) (hs : Bd 4294967295 p) : Does Tryz.prog 33 [.one (pl p)] (.one (pl p)) := by
 have h := d_poly_NormN hl hs
 rwa [show trim p = p from ht] at h
theorem d_poly_Of {p : List Int} (hl : p.length < 274877906944) (hr : ∀ z ∈ p, -9223372036854775808 ≤ z ∧ z ≤ 9223372036854775807) : Does Tryz.prog 12 [.one (ids p)] (.one (pl (trim p))) := by
 refine does_ (n := 24) Tryz.func12 rfl Tryz.ntmps12 rfl ?_
 refine ac_seq (ac_reg ?_)
 refine w_ (p_assign rfl rfl) ?_
 refine aw_nil ?_
 refine ac_seq (ac_reg ?_)
 refine w_ (p_move rfl rfl) ?_
 refine w_ (p_len (m := p.length) Tryz.runUnderlying42 rfl (rlen_ids _) rfl) ?_
 refine a_make (p.length) Tryz.runUnderlying27 Tryz.typeInfo30 rfl Tryz.sizeOf30 Tryz.zeroValue30 rfl rfl rfl rfl rfl rfl (rfl) (rfl) (hl) rfl fun r1 => ?_
 refine aw_zeros (ls' := (tab (fun k => p.getD k 0) p.length 0).map ofI) 0 rfl rfl (by rw [← tab_zero]; exact zeros_I _) ?_
 refine w_ (p_assign rfl rfl) ?_
 refine aw_nil ?_
 refine ac_seq (ac_seq (ac_reg ?_))
 refine w_ (p_move rfl rfl) ?_
 refine w_ (p_len (m := p.length) Tryz.runUnderlying42 rfl (rlen_ids _) rfl) ?_
 refine w_ (p_move rfl rfl) ?_
 refine aw_nil ?_
 refine ac_block ?_
 refine ac_pick [9, 10, 3, 11] rfl ?_
 refine ac_loop (fun m L B => ∃ i, i ≤ p.length ∧ m = p.length - i ∧ L = [(9, .one (ids p)), (10, .one (.int .i64 (((p.length : Nat) : Int)))), (3, .one (.orow r1 2 0 p.length)), (11, .one (.int .i64 ((i : Int))))] ∧ B = [.row r1 30 2 ((tab (fun k => p.getD k 0) p.length i).map ofI)]) (m := _) ⟨0, Nat.zero_le _, rfl, rfl, rfl⟩ ?_
 rintro m L B ⟨i, hp0, hm, rfl, rfl⟩
 by_cases hlt : i < p.length
 ·skip
  refine ac_seq (ac_reg ?_)
  refine w_ (p_cmp rfl rfl rfl rfl) ?_
  refine aw_nil ?_
  refine ac_seq ?_
  refine ac_t rfl (decide_eq_true (by omega)) ?_
  refine ac_skip ?_
  refine ac_seq (ac_block (ac_seq (ac_reg ?_)))
  refine w_ (p_move rfl rfl) ?_
  refine w_ (p_index (i) Tryz.runUnderlying42 Tryz.sizeOf3 rfl rfl (rfl) (map_get (getD_some hlt)) rfl rfl) ?_
  refine w_ (p_loadSh Tryz.isAgg3 Tryz.sizeOf3 rfl rfl rfl rfl) ?_
  refine w_ (p_assign rfl rfl) ?_
  refine w_ (p_assign rfl rfl) ?_
  refine aw_nil ?_
  refine ac_reg ?_
  refine w_ (p_move rfl rfl) ?_
  refine w_ (p_move rfl rfl) ?_
  refine w_ (p_move rfl rfl) ?_
  refine w_ (p_call Tryz.func20 rfl rfl rfl rfl (d_whole_Of (hr _ (List.mem_of_getElem? (getD_some hlt)))) rfl) ?_
  refine w_ (p_indexO (i) Tryz.runUnderlying27 Tryz.sizeOf30 rfl rfl (rfl) (by omega) rfl) ?_
  refine a_storeO (ls2 := (tab (fun k => p.getD k 0) p.length (i + 1)).map ofI) 0 Tryz.sizeOf30 rfl rfl rfl rfl rfl rfl (by rw [Nat.zero_add]; exact map_get (tab_get _ hlt)) rfl (by rw [Nat.zero_add]; exact (set_map ofI _ i (p.getD i 0)).trans (by rw [← tab_set _ hlt])) ?_
  refine aw_nil ?_
  refine ac_reg ?_
  refine w_ (p_add (r := ((i + 1 : Nat) : Int)) rfl rfl (i64_is (by omega) (by omega)) rfl) ?_
  refine w_ (p_move rfl rfl) ?_
  refine aw_pick [9, 10, 3, 11] rfl ?_
  refine aw_nil ?_
  refine ⟨_, ?_, i + 1, by omega, rfl, rfl, rfl⟩
  omega
 skip
 refine ac_seq (ac_reg ?_)
 refine w_ (p_cmp rfl rfl rfl rfl) ?_
 refine aw_nil ?_
 refine ac_seq ?_
 refine ac_f rfl (decide_eq_false (by omega)) ?_
 refine ac_exit ?_
 repeat refine seqQ_exit ?_
 refine blkQ_here ?_
 refine ac_seq (ac_reg ?_)
 refine w_ (p_move rfl rfl) ?_
 refine aw_pub 0 [22] rfl (allAre1 rfl) (by rw [List.length_map, tab_len _ (by omega)]) (by rw [List.length_map, tab_len _ (by omega)]; omega) rfl ?_
 refine w_ (p_call Tryz.func21 rfl rfl rfl rfl (d_poly_cut (by rw [tab_len _ (by omega)]; omega)) rfl) ?_
 refine w_ (p_assign rfl rfl) ?_
 refine aw_nil ?_
 refine ac_ret ?_
 exact retB_1 Tryz.results12 (rv_tmp rfl rfl) (by rw [show i = p.length from by omega, tab_all, map_getD])
theorem d_poly_Mul {p q : List Int} {s t : Nat} (tp : Trim p) (tq : Trim q) (hlp : p.length < 137438953472) (hlq : q.length < 137438953472) (hp : Bd s p) (hq : Bd t q) (hst : s + t ≤ 4294967000) : Does Tryz.prog 88 [.one (pl p), .one (pl q)] (.one (pl (pmul p q))) := by
 refine does_ (n := 62) Tryz.func88 rfl Tryz.ntmps88 rfl ?_
 rcases Nat.eq_zero_or_pos p.length with h0 | h0
 ·skip
  refine ac_seq (ac_reg ?_)
  refine w_ (p_assign rfl rfl) ?_
  refine aw_nil ?_
  refine ac_seq (ac_reg ?_)
  refine w_ (p_move rfl rfl) ?_
  refine w_ (p_call Tryz.func33 rfl rfl rfl rfl (d_poly_NormT tp (by omega) (bd_mono hp (by omega))) rfl) ?_
  refine w_ (p_move rfl rfl) ?_
  refine w_ (p_call Tryz.func33 rfl rfl rfl rfl (d_poly_NormT tq (by omega) (bd_mono hq (by omega))) rfl) ?_
  refine w_ (p_assign rfl rfl) ?_
  refine w_ (p_assign rfl rfl) ?_
  refine aw_nil ?_
  refine ac_seq (ac_seq (ac_reg ?_))
  refine w_ (p_move rfl rfl) ?_
  refine w_ (p_len (m := p.length) Tryz.runUnderlying27 rfl (rlen_pl _) rfl) ?_
  refine w_ (p_cmp rfl rfl rfl rfl) ?_
  refine w_ (p_move rfl rfl) ?_
  refine w_ (p_gskip rfl rfl (decide_eq_true (by omega)) rfl) ?_
  refine w_ (p_gskip rfl rfl (decide_eq_true (by omega)) rfl) ?_
  refine w_ (p_gskip rfl rfl (decide_eq_true (by omega)) rfl) ?_
  refine w_ (p_pickT rfl (decide_eq_true (by omega)) rfl rfl) ?_
  refine aw_nil ?_
  refine ac_t rfl (rfl) ?_
  refine ac_seq (ac_reg ?_)
  refine w_ (p_assign rfl rfl) ?_
  refine aw_nil ?_
  refine ac_ret ?_
  exact retB_1 Tryz.results88 (rv_tmp rfl rfl) (by unfold pmul; rw [if_pos (.inl h0)]; rfl)
 rcases Nat.eq_zero_or_pos q.length with h1 | h1
 ·skip
  refine ac_seq (ac_reg ?_)
  refine w_ (p_assign rfl rfl) ?_
  refine aw_nil ?_
  refine ac_seq (ac_reg ?_)
  refine w_ (p_move rfl rfl) ?_
  refine w_ (p_call Tryz.func33 rfl rfl rfl rfl (d_poly_NormT tp (by omega) (bd_mono hp (by omega))) rfl) ?_
  refine w_ (p_move rfl rfl) ?_
  refine w_ (p_call Tryz.func33 rfl rfl rfl rfl (d_poly_NormT tq (by omega) (bd_mono hq (by omega))) rfl) ?_
  refine w_ (p_assign rfl rfl) ?_
  refine w_ (p_assign rfl rfl) ?_
  refine aw_nil ?_
  refine ac_seq (ac_seq (ac_reg ?_))
  refine w_ (p_move rfl rfl) ?_
  refine w_ (p_len (m := p.length) Tryz.runUnderlying27 rfl (rlen_pl _) rfl) ?_
  refine w_ (p_cmp rfl rfl rfl rfl) ?_
  refine w_ (p_move rfl rfl) ?_
  refine w_ ((p_grun rfl rfl (decide_eq_false (by omega)) (p_move rfl rfl))) ?_
  refine w_ ((p_grun rfl rfl (decide_eq_false (by omega)) (p_len (m := q.length) Tryz.runUnderlying27 rfl (rlen_pl _) rfl))) ?_
  refine w_ ((p_grun rfl rfl (decide_eq_false (by omega)) (p_cmp rfl rfl rfl rfl))) ?_
  refine w_ (p_pickF rfl (decide_eq_false (by omega)) rfl rfl) ?_
  refine aw_nil ?_
  refine ac_t rfl (decide_eq_true (by omega)) ?_
  refine ac_seq (ac_reg ?_)
  refine w_ (p_assign rfl rfl) ?_
  refine aw_nil ?_
  refine ac_ret ?_
  exact retB_1 Tryz.results88 (rv_tmp rfl rfl) (by unfold pmul; rw [if_pos (.inr h1)]; rfl)
 skip
 refine ac_seq (ac_reg ?_)
 refine w_ (p_assign rfl rfl) ?_
 refine aw_nil ?_
 refine ac_seq (ac_reg ?_)
 refine w_ (p_move rfl rfl) ?_
 refine w_ (p_call Tryz.func33 rfl rfl rfl rfl (d_poly_NormT tp (by omega) (bd_mono hp (by omega))) rfl) ?_
 refine w_ (p_move rfl rfl) ?_
 refine w_ (p_call Tryz.func33 rfl rfl rfl rfl (d_poly_NormT tq (by omega) (bd_mono hq (by omega))) rfl) ?_
 refine w_ (p_assign rfl rfl) ?_
 refine w_ (p_assign rfl rfl) ?_
 refine aw_nil ?_
 refine ac_seq (ac_seq (ac_reg ?_))
 refine w_ (p_move rfl rfl) ?_
 refine w_ (p_len (m := p.length) Tryz.runUnderlying27 rfl (rlen_pl _) rfl) ?_
 refine w_ (p_cmp rfl rfl rfl rfl) ?_
 refine w_ (p_move rfl rfl) ?_
 refine w_ ((p_grun rfl rfl (decide_eq_false (by omega)) (p_move rfl rfl))) ?_
 refine w_ ((p_grun rfl rfl (decide_eq_false (by omega)) (p_len (m := q.length) Tryz.runUnderlying27 rfl (rlen_pl _) rfl))) ?_
 refine w_ ((p_grun rfl rfl (decide_eq_false (by omega)) (p_cmp rfl rfl rfl rfl))) ?_
 refine w_ (p_pickF rfl (decide_eq_false (by omega)) rfl rfl) ?_
 refine aw_nil ?_
 refine ac_f rfl (decide_eq_false (by omega)) ?_
 refine ac_skip ?_
 refine ac_seq (ac_reg ?_)
 refine w_ (p_move rfl rfl) ?_
 refine w_ (p_len (m := p.length) Tryz.runUnderlying27 rfl (rlen_pl _) rfl) ?_
 refine w_ (p_move rfl rfl) ?_
 refine w_ (p_len (m := q.length) Tryz.runUnderlying27 rfl (rlen_pl _) rfl) ?_
 refine w_ (p_add (r := ((p.length + q.length : Nat) : Int)) rfl rfl (i64_is (by omega) (by omega)) rfl) ?_
 refine w_ (p_sub (r := ((p.length + q.length - 1 : Nat) : Int)) rfl rfl (i64_is (by omega) (by omega)) rfl) ?_
 refine a_make (p.length + q.length - 1) Tryz.runUnderlying27 Tryz.typeInfo30 rfl Tryz.sizeOf30 Tryz.zeroValue30 rfl rfl rfl rfl rfl rfl (rfl) (rfl) (by omega) rfl fun r1 => ?_
 refine aw_zeros (ls' := (muli p q (List.replicate (p.length + q.length - 1) 0) 0).map ofI) 0 rfl rfl (zeros_I _) ?_
 refine w_ (p_assign rfl rfl) ?_
 refine aw_nil ?_
 refine ac_seq (ac_seq (ac_reg ?_))
 refine w_ (p_move rfl rfl) ?_
 refine w_ (p_len (m := p.length) Tryz.runUnderlying27 rfl (rlen_pl _) rfl) ?_
 refine w_ (p_move rfl rfl) ?_
 refine aw_nil ?_
 refine ac_block ?_
 refine ac_pick [1, 5, 29, 30, 31] rfl ?_
 refine ac_loop (fun m L B => ∃ i, i ≤ p.length ∧ m = p.length - i ∧ L = [(1, .one (pl q)), (5, .one (.orow r1 2 0 (p.length + q.length - 1))), (29, .one (pl p)), (30, .one (.int .i64 (((p.length : Nat) : Int)))), (31, .one (.int .i64 ((i : Int))))] ∧ B = [.row r1 30 2 ((muli p q (List.replicate (p.length + q.length - 1) 0) i).map ofI)]) (m := _) ⟨0, Nat.zero_le _, rfl, rfl, rfl⟩ ?_
 rintro m L B ⟨i, hp0, hm, rfl, rfl⟩
 by_cases hlt : i < p.length
 ·skip
  refine ac_seq (ac_reg ?_)
  refine w_ (p_cmp rfl rfl rfl rfl) ?_
  refine aw_nil ?_
  refine ac_seq ?_
  refine ac_t rfl (decide_eq_true (by omega)) ?_
  refine ac_skip ?_
  refine ac_seq (ac_block (ac_seq (ac_reg ?_)))
  refine w_ (p_move rfl rfl) ?_
  refine w_ (p_index (i) Tryz.runUnderlying27 Tryz.sizeOf30 rfl rfl (rfl) (map_get (getD_some hlt)) rfl rfl) ?_
  refine w_ (p_loadSh Tryz.isAgg30 Tryz.sizeOf30 rfl rfl rfl rfl) ?_
  refine a_alloc Tryz.zeroValue30 rfl rfl fun g2 => ?_
  refine w_ (p_assign rfl rfl) ?_
  refine a_storeOw 0 Tryz.sizeOf30 rfl rfl rfl rfl rfl rfl rfl ?_
  refine aw_nil ?_
  refine ac_seq (ac_reg ?_)
  refine w_ (p_move rfl rfl) ?_
  refine w_ (p_len (m := q.length) Tryz.runUnderlying27 rfl (rlen_pl _) rfl) ?_
  refine w_ (p_move rfl rfl) ?_
  refine aw_nil ?_
  refine ac_block ?_
  refine ac_pick [1, 5, 6, 7, 29, 30, 31, 36, 37, 38] rfl ?_
  refine ac_front 0 rfl ?_
  refine ac_front 1 rfl ?_
  refine ac_loop (fun m L B => ∃ k, k ≤ q.length ∧ m = q.length - k ∧ L = [(1, .one (pl q)), (5, .one (.orow r1 2 0 (p.length + q.length - 1))), (6, .one (.int .i64 ((i : Int)))), (7, .one (.ow g2 0)), (29, .one (pl p)), (30, .one (.int .i64 (((p.length : Nat) : Int)))), (31, .one (.int .i64 ((i : Int)))), (36, .one (pl q)), (37, .one (.int .i64 (((q.length : Nat) : Int)))), (38, .one (.int .i64 ((k : Int))))] ∧ B = [.row r1 30 2 ((mulk (p.getD i 0) q i (muli p q (List.replicate (p.length + q.length - 1) 0) i) k).map ofI), .blk g2 30 [sg (p.getD i 0), mg (p.getD i 0)]]) (m := _) ⟨0, Nat.zero_le _, rfl, rfl, rfl⟩ ?_
  rintro m L B ⟨k, hq0, hm, rfl, rfl⟩
  by_cases hlt2 : k < q.length
  ·have hm1 : isz ((mulk (p.getD i 0) q i (muli p q (List.replicate (p.length + q.length - 1) 0) i) k).getD (i + k) 0) ≤ 4294967295 := Nat.le_trans (isz_of_natAbs (t := 39) (mulk_bd (by rw [muli_len, List.length_replicate]; omega) (muli_bd (fun j hj => by rw [List.length_replicate]; omega) (getD_replicate _) (fun i j => natAbs_mul_bd (bd_getD hp i) (bd_getD hq j))) (fun j => natAbs_mul_bd (bd_getD hp i) (bd_getD hq j)) (i + k)) (Nat.lt_of_lt_of_eq (show i + 1 < 549755813888 by omega) (by decide))) (by omega)
   have hm2 : isz (p.getD i 0 * q.getD k 0) ≤ 4294967295 := Nat.le_trans (isz_mul _ _) (by have := bd_getD hp i; have := bd_getD hq k; omega)
   refine ac_seq (ac_reg ?_)
   refine w_ (p_cmp rfl rfl rfl rfl) ?_
   refine aw_nil ?_
   refine ac_seq ?_
   refine ac_t rfl (decide_eq_true (by omega)) ?_
   refine ac_skip ?_
   refine ac_seq (ac_block (ac_seq (ac_reg ?_)))
   refine w_ (p_move rfl rfl) ?_
   refine w_ (p_index (k) Tryz.runUnderlying27 Tryz.sizeOf30 rfl rfl (rfl) (map_get (getD_some hlt2)) rfl rfl) ?_
   refine w_ (p_loadSh Tryz.isAgg30 Tryz.sizeOf30 rfl rfl rfl rfl) ?_
   refine a_alloc Tryz.zeroValue30 rfl rfl fun g3 => ?_
   refine w_ (p_assign rfl rfl) ?_
   refine a_storeOw 0 Tryz.sizeOf30 rfl rfl rfl rfl rfl rfl rfl ?_
   refine aw_nil ?_
   refine ac_draw mixed_ 14 [43, 44, 45, 46, 47, 48, 49, 50, 51, 52, 53, 54, 55, 56] [[], [], [], [1, 2], [], [], [], [5, 6], [4, 7], [8], [], [], [10, 11], [9, 12]] [.one (.orow r1 2 0 (p.length + q.length - 1)), .one (.int .i64 ((i : Int))), .one (.int .i64 ((k : Int))), .one (.int .i64 (((i + k : Nat) : Int))), .one (.orow r1 2 0 (p.length + q.length - 1)), .one (.int .i64 ((i : Int))), .one (.int .i64 ((k : Int))), .one (.int .i64 (((i + k : Nat) : Int))), .one (.oel r1 2 ((0 + (i + k))) 0), .agg [sg ((mulk (p.getD i 0) q i (muli p q (List.replicate (p.length + q.length - 1) 0) i) k).getD (i + k) 0), mg ((mulk (p.getD i 0) q i (muli p q (List.replicate (p.length + q.length - 1) 0) i) k).getD (i + k) 0)], .agg [sg (p.getD i 0), mg (p.getD i 0)], .agg [sg (q.getD k 0), mg (q.getD k 0)], .agg [sg ((p.getD i 0) * (q.getD k 0)), mg ((p.getD i 0) * (q.getD k 0))], .agg [sg (((mulk (p.getD i 0) q i (muli p q (List.replicate (p.length + q.length - 1) 0) i) k).getD (i + k) 0) + ((p.getD i 0) * (q.getD k 0))), mg (((mulk (p.getD i 0) q i (muli p q (List.replicate (p.length + q.length - 1) 0) i) k).getD (i + k) 0) + ((p.getD i 0) * (q.getD k 0)))]] rfl rfl rfl ⟨p_move rfl rfl, p_move rfl rfl, p_move rfl rfl, p_add (r := ((i + k : Nat) : Int)) rfl rfl (i64_is (by omega) (by omega)) rfl, p_move rfl rfl, p_move rfl rfl, p_move rfl rfl, p_add (r := ((i + k : Nat) : Int)) rfl rfl (i64_is (by omega) (by omega)) rfl, p_indexO (i + k) Tryz.runUnderlying27 Tryz.sizeOf30 rfl rfl (rfl) (by omega) rfl, p_loadO 1 Tryz.isAgg30 Tryz.sizeOf30 rfl rfl (by rw [Nat.zero_add]; exact map_get (getD_some (by rw [mulk_len, muli_len, List.length_replicate]; omega))) rfl rfl rfl, p_loadOw 2 Tryz.isAgg30 Tryz.sizeOf30 rfl rfl rfl rfl rfl, p_loadOw 0 Tryz.isAgg30 Tryz.sizeOf30 rfl rfl rfl rfl rfl, p_call Tryz.func89 rfl rfl rfl rfl (d_whole_Mul (isInt_n _) (isInt_n _) (Nat.le_trans (bd_getD hp i) (by omega)) (Nat.le_trans (bd_getD hq k) (by omega))) rfl, p_call Tryz.func121 rfl rfl rfl rfl (d_whole_Add (isInt_n _) (isInt_n _) (hm1) (hm2)) rfl, trivial⟩ rfl ?_
   refine w_ (p_indexO (i + k) Tryz.runUnderlying27 Tryz.sizeOf30 rfl rfl (rfl) (by omega) rfl) ?_
   refine a_storeO (ls2 := (mulk (p.getD i 0) q i (muli p q (List.replicate (p.length + q.length - 1) 0) i) (k + 1)).map ofI) 1 Tryz.sizeOf30 rfl rfl rfl rfl rfl rfl (by rw [Nat.zero_add]; exact map_get (getD_some (by rw [mulk_len, muli_len, List.length_replicate]; omega))) rfl (by rw [Nat.zero_add]; exact set_map ofI _ _ _) ?_
   refine aw_nil ?_
   refine ac_reg ?_
   refine w_ (p_add (r := ((k + 1 : Nat) : Int)) rfl rfl (i64_is (by omega) (by omega)) rfl) ?_
   refine w_ (p_move rfl rfl) ?_
   refine aw_pick [1, 5, 6, 7, 29, 30, 31, 36, 37, 38] rfl ?_
   refine aw_drop 1 rfl ?_
   refine aw_nil ?_
   refine ⟨_, ?_, k + 1, by omega, rfl, rfl, rfl⟩
   omega
  skip
  refine ac_seq (ac_reg ?_)
  refine w_ (p_cmp rfl rfl rfl rfl) ?_
  refine aw_nil ?_
  refine ac_seq ?_
  refine ac_f rfl (decide_eq_false (by omega)) ?_
  refine ac_exit ?_
  repeat refine seqQ_exit ?_
  refine blkQ_here ?_
  refine ac_reg ?_
  refine w_ (p_add (r := ((i + 1 : Nat) : Int)) rfl rfl (i64_is (by omega) (by omega)) rfl) ?_
  refine w_ (p_move rfl rfl) ?_
  refine aw_rowEq (ls' := (muli p q (List.replicate (p.length + q.length - 1) 0) (i + 1)).map ofI) 0 rfl (by rw [show k = q.length from by omega]; rfl) ?_
  refine aw_pick [1, 5, 29, 30, 31] rfl ?_
  refine aw_drop 1 rfl ?_
  refine aw_nil ?_
  refine ⟨_, ?_, i + 1, by omega, rfl, rfl, rfl⟩
  omega
 skip
 refine ac_seq (ac_reg ?_)
 refine w_ (p_cmp rfl rfl rfl rfl) ?_
 refine aw_nil ?_
 refine ac_seq ?_
 refine ac_f rfl (decide_eq_false (by omega)) ?_
 refine ac_exit ?_
 repeat refine seqQ_exit ?_
 refine blkQ_here ?_
 refine ac_seq (ac_reg ?_)
 refine w_ (p_move rfl rfl) ?_
 refine aw_pub 0 [60] rfl (allAre1 rfl) (by rw [List.length_map, muli_len, List.length_replicate]) (by rw [List.length_map, muli_len, List.length_replicate]; omega) rfl ?_
 refine w_ (p_call Tryz.func21 rfl rfl rfl rfl (d_poly_cut (by rw [muli_len, List.length_replicate]; omega)) rfl) ?_
 refine w_ (p_assign rfl rfl) ?_
 refine aw_nil ?_
 refine ac_ret ?_
 exact retB_1 Tryz.results88 (rv_tmp rfl rfl) (by unfold pmul; rw [if_neg (by omega), show i = p.length from by omega])
theorem d_poly_Same {p q : List Int} (hlp : p.length < 274877906944) (hlq : q.length < 274877906944) (hp : Bd 4294967295 p) (hq : Bd 4294967295 q) : Does Tryz.prog 73 [.one (pl p), .one (pl q)] (.one (.bool (decide (trim p = trim q)))) := by
 refine does_ (n := 31) Tryz.func73 rfl Tryz.ntmps73 rfl ?_
 have hl1 := trim_len p
 have hl2 := trim_len q
 skip
 refine ac_seq (ac_reg ?_)
 refine w_ (p_assign rfl rfl) ?_
 refine aw_nil ?_
 refine ac_seq (ac_reg ?_)
 refine w_ (p_move rfl rfl) ?_
 refine w_ (p_call Tryz.func33 rfl rfl rfl rfl (d_poly_NormN (hlp) (hp)) rfl) ?_
 refine w_ (p_move rfl rfl) ?_
 refine w_ (p_call Tryz.func33 rfl rfl rfl rfl (d_poly_NormN (hlq) (hq)) rfl) ?_
 refine w_ (p_assign rfl rfl) ?_
 refine w_ (p_assign rfl rfl) ?_
 refine aw_nil ?_
 refine ac_seq (ac_seq (ac_reg ?_))
 refine w_ (p_move rfl rfl) ?_
 refine w_ (p_len (m := (trim p).length) Tryz.runUnderlying27 rfl (rlen_pl _) rfl) ?_
 refine w_ (p_move rfl rfl) ?_
 refine w_ (p_len (m := (trim q).length) Tryz.runUnderlying27 rfl (rlen_pl _) rfl) ?_
 refine w_ (p_cmp rfl rfl rfl rfl) ?_
 refine aw_nil ?_
 refine ac_cond rfl (fun hb_if1 => ?_) (fun hb_if1 => ?_)
 ·try simp only [decide_eq_true_eq, decide_eq_false_iff_not, Bool.not_eq_true', Bool.not_eq_false'] at hb_if1
  refine ac_seq (ac_reg ?_)
  refine w_ (p_assign rfl rfl) ?_
  refine aw_nil ?_
  refine ac_ret ?_
  exact retB_1 Tryz.results73 (rv_tmp rfl rfl) (by rw [decide_eq_false fun e => hb_if1 (by rw [e])])
 try simp only [decide_eq_true_eq, decide_eq_false_iff_not, Bool.not_eq_true', Bool.not_eq_false'] at hb_if1
 refine ac_skip ?_
 refine ac_seq (ac_seq (ac_reg ?_))
 refine w_ (p_move rfl rfl) ?_
 refine w_ (p_len (m := (trim p).length) Tryz.runUnderlying27 rfl (rlen_pl _) rfl) ?_
 refine w_ (p_move rfl rfl) ?_
 refine aw_nil ?_
 refine ac_block ?_
 refine ac_pick [1, 16, 17, 18] rfl ?_
 refine ac_loop (fun m L B => ∃ i, i ≤ (trim p).length ∧ (∀ j, j < i → (trim p).getD j 0 = (trim q).getD j 0) ∧ m = (trim p).length - i ∧ L = [(1, .one (pl (trim q))), (16, .one (pl (trim p))), (17, .one (.int .i64 ((((trim p).length : Nat) : Int)))), (18, .one (.int .i64 ((i : Int))))] ∧ B = []) (m := _) ⟨0, Nat.zero_le _, fun j hj => absurd hj (Nat.not_lt_zero _), rfl, rfl, rfl⟩ ?_
 rintro m L B ⟨i, hp0, hp1, hm, rfl, rfl⟩
 by_cases hlt : i < (trim p).length
 ·skip
  refine ac_seq (ac_reg ?_)
  refine w_ (p_cmp rfl rfl rfl rfl) ?_
  refine aw_nil ?_
  refine ac_seq ?_
  refine ac_t rfl (decide_eq_true (by omega)) ?_
  refine ac_skip ?_
  refine ac_seq (ac_block (ac_seq (ac_reg ?_)))
  refine w_ (p_move rfl rfl) ?_
  refine w_ (p_index (i) Tryz.runUnderlying27 Tryz.sizeOf30 rfl rfl (rfl) (map_get (getD_some hlt)) rfl rfl) ?_
  refine w_ (p_loadSh Tryz.isAgg30 Tryz.sizeOf30 rfl rfl rfl rfl) ?_
  refine a_alloc Tryz.zeroValue30 rfl rfl fun g1 => ?_
  refine w_ (p_assign rfl rfl) ?_
  refine a_storeOw 0 Tryz.sizeOf30 rfl rfl rfl rfl rfl rfl rfl ?_
  refine aw_nil ?_
  refine ac_seq ?_
  refine ac_draw mixed_ 5 [23, 24, 25, 26, 27] [[], [], [], [1, 2], [3]] [.agg [sg ((trim p).getD i 0), mg ((trim p).getD i 0)], .one (pl (trim q)), .one (.int .i64 ((i : Int))), .one (.sh [sg ((trim q).getD i 0), mg ((trim q).getD i 0)]), .agg [sg ((trim q).getD i 0), mg ((trim q).getD i 0)]] rfl rfl rfl ⟨p_loadOw 0 Tryz.isAgg30 Tryz.sizeOf30 rfl rfl rfl rfl rfl, p_move rfl rfl, p_move rfl rfl, p_index (i) Tryz.runUnderlying27 Tryz.sizeOf30 rfl rfl (rfl) (map_get (getD_some (by omega))) rfl rfl, p_loadSh Tryz.isAgg30 Tryz.sizeOf30 rfl rfl rfl rfl, trivial⟩ rfl ?_
  refine w_ (p_call Tryz.func71 rfl rfl rfl rfl (d_whole_Cmp (isInt_n _) (isInt_n _) (Nat.le_trans (bd_getD (bd_trim hp) i) (Nat.le_refl _)) (Nat.le_trans (bd_getD (bd_trim hq) i) (Nat.le_refl _))) rfl) ?_
  refine w_ (p_cmp rfl rfl rfl rfl) ?_
  refine aw_nil ?_
  refine ac_cond rfl (fun hb_if3 => ?_) (fun hb_if3 => ?_)
  ·try simp only [decide_eq_true_eq, decide_eq_false_iff_not, Bool.not_eq_true', Bool.not_eq_false'] at hb_if3
   have hne : (trim p).getD i 0 ≠ (trim q).getD i 0 := fun e => hb_if3 (cmpZ_eq.2 e)
   refine ac_seq (ac_reg ?_)
   refine w_ (p_assign rfl rfl) ?_
   refine aw_nil ?_
   refine ac_ret ?_
   exact retB_1 Tryz.results73 (rv_tmp rfl rfl) (by rw [decide_eq_false fun e => hne (by rw [e])])
  try simp only [decide_eq_true_eq, decide_eq_false_iff_not, Bool.not_eq_true', Bool.not_eq_false'] at hb_if3
  refine ac_skip ?_
  refine ac_reg ?_
  refine w_ (p_add (r := ((i + 1 : Nat) : Int)) rfl rfl (i64_is (by omega) (by omega)) rfl) ?_
  refine w_ (p_move rfl rfl) ?_
  refine aw_pick [1, 16, 17, 18] rfl ?_
  refine aw_drop 0 rfl ?_
  refine aw_nil ?_
  refine ⟨_, ?_, i + 1, by omega, fun j hj => by
    rcases Nat.lt_or_ge j i with h1 | h1
    ·exact hp1 j h1
    ·rw [show j = i from by omega]; exact cmpZ_eq.1 (Classical.not_not.1 hb_if3), rfl, rfl, rfl⟩
  omega
 skip
 refine ac_seq (ac_reg ?_)
 refine w_ (p_cmp rfl rfl rfl rfl) ?_
 refine aw_nil ?_
 refine ac_seq ?_
 refine ac_f rfl (decide_eq_false (by omega)) ?_
 refine ac_exit ?_
 repeat refine seqQ_exit ?_
 refine blkQ_here ?_
 refine ac_seq (ac_reg ?_)
 refine w_ (p_assign rfl rfl) ?_
 refine aw_nil ?_
 refine ac_ret ?_
 exact retB_1 Tryz.results73 (rv_tmp rfl rfl) (by rw [decide_eq_true (eq_of_getD (by omega) fun j hj => hp1 j (by omega))])
theorem d_poly_value {p : List Int} {n d : Int} {s t : Nat} (hl : p.length < 274877906944) (hp : Bd s p) (hn : isz n ≤ t) (hd : isz d ≤ t) (hst : s + p.length * (t + 1) + 2 * t + 10 ≤ 4294967295) : Does Tryz.prog 106 [.one (pl p), .agg [sg n, mg n], .agg [sg d, mg d]] (.agg [sg (pval p n d), mg (pval p n d)]) := by
 refine does_ (n := 32) Tryz.func106 rfl Tryz.ntmps106 rfl ?_
 refine ac_seq (ac_reg ?_)
 refine w_ (p_boxS rfl rfl rfl rfl) ?_
 refine w_ (p_boxS rfl rfl rfl rfl) ?_
 refine a_alloc Tryz.zeroValue30 rfl rfl fun g1 => ?_
 refine aw_nil ?_
 refine ac_seq (ac_reg ?_)
 refine a_alloc Tryz.zeroValue30 rfl rfl fun g2 => ?_
 refine aw_nil ?_
 refine ac_seq (ac_reg ?_)
 refine w_ (p_call Tryz.func20 rfl rfl rfl rfl (d_whole_Of (by omega)) rfl) ?_
 refine a_alloc Tryz.zeroValue30 rfl rfl fun g3 => ?_
 refine a_storeOw 0 Tryz.sizeOf30 rfl rfl rfl rfl rfl rfl rfl ?_
 refine aw_blk (ys := ofI 0) 1 rfl rfl ofI_zero.symm ?_
 refine aw_nil ?_
 refine ac_seq (ac_seq (ac_reg ?_))
 refine w_ (p_move rfl rfl) ?_
 refine w_ (p_len (m := p.length) Tryz.runUnderlying27 rfl (rlen_pl _) rfl) ?_
 refine w_ (p_sub (r := ((p.length : Int) - 1 - ((0 : Nat) : Int))) rfl rfl (i64_is (by omega) (by omega)) rfl) ?_
 refine w_ (p_assign rfl rfl) ?_
 refine aw_nil ?_
 refine ac_block ?_
 refine ac_pick [0, 4, 5, 6, 7, 8, 9] rfl ?_
 refine ac_front 2 rfl ?_
 refine ac_front 1 rfl ?_
 refine ac_front 2 rfl ?_
 refine ac_loop (fun m L B => ∃ j, j ≤ p.length ∧ m = p.length - j ∧ L = [(0, .one (pl p)), (4, .one (.sh [sg n, mg n])), (5, .one (.sh [sg d, mg d])), (6, .one (.ow g1 0)), (7, .one (.ow g2 0)), (8, .one (.ow g3 0)), (9, .one (.int .i64 (((p.length : Int) - 1 - (j : Int)))))] ∧ B = [.blk g3 30 [sg ((valk p n d j).2), mg ((valk p n d j).2)], .blk g2 30 [sg ((valk p n d j).1), mg ((valk p n d j).1)], .blk g1 30 [.bool false, .nils]]) (m := _) ⟨0, Nat.zero_le _, rfl, rfl, rfl⟩ ?_
 rintro m L B ⟨j, hp0, hm, rfl, rfl⟩
 by_cases hlt : j < p.length
 ·have hv := valk_bd (k := j) hp hn hd
  have hjl : j * (t + 1) ≤ p.length * (t + 1) := Nat.mul_le_mul_right _ (by omega)
  have hjl2 : j * t ≤ j * (t + 1) := Nat.mul_le_mul_left _ (by omega)
  have hc := bd_getD hp (p.length - 1 - j)
  have hm1 : isz ((valk p n d j).1 * n) ≤ 4294967295 := Nat.le_trans (isz_mul _ _) (by omega)
  have hm2 : isz (p.getD (p.length - 1 - j) 0 * (valk p n d j).2) ≤ 4294967295 := Nat.le_trans (isz_mul _ _) (by omega)
  refine ac_seq (ac_seq (ac_reg ?_))
  refine w_ (p_move rfl rfl) ?_
  refine w_ (p_cmp rfl rfl rfl rfl) ?_
  refine aw_nil ?_
  refine ac_t rfl (decide_eq_true (by omega)) ?_
  refine ac_skip ?_
  refine ac_seq (ac_block (ac_seq ?_))
  refine ac_draw mixed_ 8 [18, 19, 20, 21, 22, 23, 24, 25] [[], [], [0, 1], [], [], [3, 4], [5], []] [.agg [sg ((valk p n d j).1), mg ((valk p n d j).1)], .agg [sg n, mg n], .agg [sg (((valk p n d j).1) * n), mg (((valk p n d j).1) * n)], .one (pl p), .one (.int .i64 (((p.length : Int) - 1 - (j : Int)))), .one (.sh [sg (p.getD (p.length - 1 - j) 0), mg (p.getD (p.length - 1 - j) 0)]), .agg [sg (p.getD (p.length - 1 - j) 0), mg (p.getD (p.length - 1 - j) 0)], .agg [sg ((valk p n d j).2), mg ((valk p n d j).2)]] rfl rfl rfl ⟨p_loadOw 1 Tryz.isAgg30 Tryz.sizeOf30 rfl rfl rfl rfl rfl, p_loadSh Tryz.isAgg30 Tryz.sizeOf30 rfl rfl rfl rfl, p_call Tryz.func89 rfl rfl rfl rfl (d_whole_Mul (isInt_n _) (isInt_n _) (by omega) (by omega)) rfl, p_move rfl rfl, p_move rfl rfl, p_index (p.length - 1 - j) Tryz.runUnderlying27 Tryz.sizeOf30 rfl rfl (by omega) (map_get (getD_some (by omega))) rfl rfl, p_loadSh Tryz.isAgg30 Tryz.sizeOf30 rfl rfl rfl rfl, p_loadOw 0 Tryz.isAgg30 Tryz.sizeOf30 rfl rfl rfl rfl rfl, trivial⟩ rfl ?_
  refine w_ (p_call Tryz.func89 rfl rfl rfl rfl (d_whole_Mul (isInt_n _) (isInt_n _) (by omega) (by omega)) rfl) ?_
  refine w_ (p_call Tryz.func121 rfl rfl rfl rfl (d_whole_Add (isInt_n _) (isInt_n _) (hm1) (hm2)) rfl) ?_
  refine a_storeOw 1 Tryz.sizeOf30 rfl rfl rfl rfl rfl rfl rfl ?_
  refine aw_nil ?_
  refine ac_reg ?_
  refine w_ (p_loadOw 0 Tryz.isAgg30 Tryz.sizeOf30 rfl rfl rfl rfl rfl) ?_
  refine w_ (p_loadSh Tryz.isAgg30 Tryz.sizeOf30 rfl rfl rfl rfl) ?_
  refine w_ (p_call Tryz.func89 rfl rfl rfl rfl (d_whole_Mul (isInt_n _) (isInt_n _) (by omega) (by omega)) rfl) ?_
  refine a_storeOw 0 Tryz.sizeOf30 rfl rfl rfl rfl rfl rfl rfl ?_
  refine aw_nil ?_
  refine ac_reg ?_
  refine w_ (p_move rfl rfl) ?_
  refine w_ (p_sub (r := ((p.length : Int) - 1 - ((j + 1 : Nat) : Int))) rfl rfl (i64_is (by omega) (by omega)) rfl) ?_
  refine w_ (p_assign rfl rfl) ?_
  refine aw_pick [0, 4, 5, 6, 7, 8, 9] rfl ?_
  refine aw_nil ?_
  refine ⟨_, ?_, j + 1, by omega, rfl, rfl, rfl⟩
  omega
 skip
 refine ac_seq (ac_seq (ac_reg ?_))
 refine w_ (p_move rfl rfl) ?_
 refine w_ (p_cmp rfl rfl rfl rfl) ?_
 refine aw_nil ?_
 refine ac_f rfl (decide_eq_false (by omega)) ?_
 refine ac_exit ?_
 repeat refine seqQ_exit ?_
 refine blkQ_here ?_
 refine ac_seq (ac_reg ?_)
 refine w_ (p_loadOw 1 Tryz.isAgg30 Tryz.sizeOf30 rfl rfl rfl rfl rfl) ?_
 refine a_storeOw 2 Tryz.sizeOf30 rfl rfl rfl rfl rfl rfl rfl ?_
 refine aw_nil ?_
 refine ac_ret ?_
 exact retB_1 Tryz.results106 (rv_cell 2 Tryz.isAgg30 Tryz.sizeOf30 rfl rfl rfl rfl rfl) (by rw [show j = p.length from by omega]; rfl)
theorem d_poly_Lead {p : List Int} (tp : Trim p) (hl : p.length < 274877906944) (hp : Bd 4294967295 p) : Does Tryz.prog 136 [.one (pl p)] (.agg [sg (p.getD (p.length - 1) 0), mg (p.getD (p.length - 1) 0)]) := by
 refine does_ (n := 15) Tryz.func136 rfl Tryz.ntmps136 rfl ?_
 refine ac_seq (ac_reg ?_)
 refine a_alloc Tryz.zeroValue30 rfl rfl fun g1 => ?_
 refine aw_nil ?_
 refine ac_seq (ac_seq (ac_reg ?_))
 refine w_ (p_move rfl rfl) ?_
 refine w_ (p_call Tryz.func33 rfl rfl rfl rfl (d_poly_NormT tp (by omega) (bd_mono hp (by omega))) rfl) ?_
 refine w_ (p_assign rfl rfl) ?_
 refine aw_nil ?_
 refine ac_seq (ac_reg ?_)
 refine w_ (p_move rfl rfl) ?_
 refine w_ (p_len (m := p.length) Tryz.runUnderlying27 rfl (rlen_pl _) rfl) ?_
 refine w_ (p_cmp rfl rfl rfl rfl) ?_
 refine aw_nil ?_
 refine ac_cond rfl (fun hb_if1 => ?_) (fun hb_if1 => ?_)
 ·try simp only [decide_eq_true_eq, decide_eq_false_iff_not, Bool.not_eq_true', Bool.not_eq_false'] at hb_if1
  refine ac_seq (ac_reg ?_)
  refine w_ (p_build (bd_30) rfl rfl rfl rfl) ?_
  refine a_storeOw 0 Tryz.sizeOf30 rfl rfl rfl rfl rfl rfl rfl ?_
  refine aw_nil ?_
  refine ac_ret ?_
  exact retB_1 Tryz.results136 (rv_cell 0 Tryz.isAgg30 Tryz.sizeOf30 rfl rfl rfl rfl rfl) (by rw [List.getD_eq_getElem?_getD, List.getElem?_eq_none (by omega), Option.getD_none]; exact congrArg AV.agg ofI_zero.symm)
 try simp only [decide_eq_true_eq, decide_eq_false_iff_not, Bool.not_eq_true', Bool.not_eq_false'] at hb_if1
 refine ac_skip ?_
 refine ac_seq (ac_reg ?_)
 refine w_ (p_move rfl rfl) ?_
 refine w_ (p_move rfl rfl) ?_
 refine w_ (p_len (m := p.length) Tryz.runUnderlying27 rfl (rlen_pl _) rfl) ?_
 refine w_ (p_sub (r := ((p.length - 1 : Nat) : Int)) rfl rfl (i64_is (by omega) (by omega)) rfl) ?_
 refine w_ (p_index (p.length - 1) Tryz.runUnderlying27 Tryz.sizeOf30 rfl rfl (rfl) (map_get (getD_some (by omega))) rfl rfl) ?_
 refine w_ (p_loadSh Tryz.isAgg30 Tryz.sizeOf30 rfl rfl rfl rfl) ?_
 refine a_storeOw 0 Tryz.sizeOf30 rfl rfl rfl rfl rfl rfl rfl ?_
 refine aw_nil ?_
 refine ac_ret ?_
 exact retB_1 Tryz.results136 (rv_cell 0 Tryz.isAgg30 Tryz.sizeOf30 rfl rfl rfl rfl rfl) (rfl)
end Orr

namespace Orr
abbrev rl (q : Rat) : List LV := [sg q.num, mg q.num, sg (q.den : Int), mg (q.den : Int)]
theorem rl_eq {a b : Int} {q : Rat} (h1 : a = q.num) (h2 : b = (q.den : Int)) : AV.agg [sg a, mg a, sg b, mg b] = AV.agg (rl q) := by rw [h1, h2]
theorem gcdL_two (n d : Int) : gcdL [n, d] = Int.gcd d n := by
  unfold gcdL
  simp only [List.foldl_cons, List.foldl_nil, Nat.gcd_zero_left]
  exact Nat.gcd_comm _ _
theorem gcdL_pos {n d : Int} (hd : d ≠ 0) : (0 : Int) < ((gcdL [n, d] : Nat) : Int) := by
  rw [gcdL_two]
  have := Int.gcd_pos_of_ne_zero_left n hd
  omega
theorem gcdL_dvd_l (n d : Int) : n % ((gcdL [n, d] : Nat) : Int) = 0 := by
  rw [gcdL_two]; exact Int.emod_eq_zero_of_dvd (Int.gcd_dvd_right ..)
theorem gcdL_dvd_r (n d : Int) : d % ((gcdL [n, d] : Nat) : Int) = 0 := by
  rw [gcdL_two]; exact Int.emod_eq_zero_of_dvd (Int.gcd_dvd_left ..)
theorem neg_mod {n g : Int} (h : n % g = 0) : -n % g = 0 := by
  exact Int.emod_eq_zero_of_dvd (Int.dvd_neg.2 (Int.dvd_of_emod_eq_zero h))
theorem isz_gcd {n d : Int} {s : Nat} (hd : d ≠ 0) (h : isz d ≤ s) : isz ((gcdL [n, d] : Nat) : Int) ≤ s := by
  rw [gcdL_two]
  refine Nat.le_trans (sz_mono ?_) h
  have := Nat.le_of_dvd (by omega : 0 < d.natAbs) (show Int.gcd d n ∣ d.natAbs from Nat.gcd_dvd_left _ _)
  simpa using this
theorem low_pos {n d : Int} (hd : 0 < d) : n / ((gcdL [n, d] : Nat) : Int) = (Rat.divInt n d).num ∧ d / ((gcdL [n, d] : Nat) : Int) = ((Rat.divInt n d).den : Int) := by
  rw [gcdL_two, Rat.num_divInt, Rat.den_divInt, if_neg (by omega), Int.sign_eq_one_of_pos hd, Int.one_mul]
  refine ⟨rfl, ?_⟩
  rw [Int.natCast_ediv, Int.natAbs_of_nonneg (by omega)]
theorem low_neg {n d : Int} (hd : d < 0) : -n / ((gcdL [n, d] : Nat) : Int) = (Rat.divInt n d).num ∧ -d / ((gcdL [n, d] : Nat) : Int) = ((Rat.divInt n d).den : Int) := by
  rw [gcdL_two, Rat.num_divInt, Rat.den_divInt, if_neg (by omega), Int.sign_eq_neg_one_of_neg hd, Int.neg_mul, Int.one_mul]
  refine ⟨rfl, ?_⟩
  rw [Int.natCast_ediv, Int.ofNat_natAbs_of_nonpos (by omega)]
theorem isz_div' (u g : Int) : isz (u / g) ≤ isz u := by
  unfold isz
  exact sz_mono (Int.natAbs_ediv_le_natAbs u g)
theorem isz_divInt_num {n d : Int} {s : Nat} (h : isz n ≤ s) : isz (Rat.divInt n d).num ≤ s := by
  rw [Rat.num_divInt]
  refine Nat.le_trans (isz_div' _ _) ?_
  unfold isz
  rw [Int.natAbs_mul]
  refine Nat.le_trans (sz_mono ?_) h
  have : d.sign.natAbs ≤ 1 := by rcases sign_cases d with ⟨_, e⟩ | ⟨_, e⟩ | ⟨_, e⟩ <;> rw [e] <;> decide
  calc d.sign.natAbs * n.natAbs ≤ 1 * n.natAbs := Nat.mul_le_mul_right _ this
    _ = n.natAbs := Nat.one_mul _
theorem isz_divInt_den {n d : Int} {s : Nat} (h : isz d ≤ s) (h1 : 1 ≤ s) : isz ((Rat.divInt n d).den : Int) ≤ s := by
  rw [Rat.den_divInt]
  split
  · exact h1
  · refine Nat.le_trans (sz_mono ?_) h
    exact Nat.div_le_self _ _
def Qs (s : Nat) (q : Rat) : Prop := isz q.num ≤ s ∧ isz (q.den : Int) ≤ s
theorem Qs.mono {s t : Nat} {q : Rat} (h : Qs s q) (ht : s ≤ t) : Qs t q := ⟨Nat.le_trans h.1 ht, Nat.le_trans h.2 ht⟩
theorem Qs.divInt {s : Nat} {n d : Int} (h : isz n ≤ s) (h' : isz d ≤ s) (h1 : 1 ≤ s) : Qs s (Rat.divInt n d) := ⟨isz_divInt_num h, isz_divInt_den h' h1⟩
theorem den_ne (q : Rat) : (q.den : Int) ≠ 0 := by have := q.den_nz; omega
def ratOf (n d : Int) : Rat := Rat.divInt n (if d = 0 then 1 else d)
theorem ratOf_q (q : Rat) : ratOf q.num q.den = q := by
  unfold ratOf
  rw [if_neg (den_ne q)]; exact Rat.num_divInt_den q
def cmpQ (a b : Rat) : Int := cmpZ (a.num * (b.den : Int)) (b.num * (a.den : Int))
theorem cmpQ_self (a : Rat) : cmpQ a a = 0 := by unfold cmpQ cmpZ; simp
end Orr

namespace Orr
structure Crv where
  x : List Int
  y : List Int
  d : Int
abbrev cl (k : Crv) : List LV := [pl k.x, pl k.y, sg k.d, mg k.d]
def Crv.d' (k : Crv) : Int := if k.d = 0 then 1 else k.d
def Crv.g (k : Crv) : Int := if k.d' < 0 then -((gcdL (k.d' :: (trim k.x ++ trim k.y)) : Nat) : Int) else (gcdL (k.d' :: (trim k.x ++ trim k.y)) : Nat)
def Crv.norm (k : Crv) : Crv := ⟨trim ((trim k.x).map (· / k.g)), trim ((trim k.y).map (· / k.g)), k.d' / k.g⟩
theorem gcdL_dvd {l : List Int} : ∀ z ∈ l, ((gcdL l : Nat) : Int) ∣ z := by
  have key : ∀ (l : List Int) (g : Nat), (l.foldl (fun g z => Nat.gcd g z.natAbs) g ∣ g) ∧ ∀ z ∈ l, l.foldl (fun g z => Nat.gcd g z.natAbs) g ∣ z.natAbs := by
    intro l
    induction l with
    | nil => intro g; exact ⟨Nat.dvd_refl _, by simp⟩
    | cons u l ih =>
      intro g
      obtain ⟨h1, h2⟩ := ih (Nat.gcd g u.natAbs)
      refine ⟨Nat.dvd_trans h1 (Nat.gcd_dvd_left _ _), fun z hz => ?_⟩
      rcases List.mem_cons.1 hz with rfl | hz
      · exact Nat.dvd_trans h1 (Nat.gcd_dvd_right _ _)
      · exact h2 z hz
  intro z hz
  have := (key l 0).2 z hz
  exact Int.ofNat_dvd_left.2 this
theorem Crv.d'_ne (k : Crv) : k.d' ≠ 0 := by unfold Crv.d'; split <;> omega
theorem Crv.gcd_ne (k : Crv) : gcdL (k.d' :: (trim k.x ++ trim k.y)) ≠ 0 := by
  intro e
  have h := gcdL_dvd (l := k.d' :: (trim k.x ++ trim k.y)) k.d' (List.mem_cons_self ..)
  rw [e] at h
  exact k.d'_ne (by simpa using h)
theorem Crv.g_ne (k : Crv) : k.g ≠ 0 := by
  have h0 := k.gcd_ne
  unfold Crv.g
  split <;> omega
theorem Crv.g_dvd (k : Crv) : ∀ z ∈ k.d' :: (trim k.x ++ trim k.y), z % k.g = 0 := by
  intro z hz
  have h := gcdL_dvd z hz
  refine Int.emod_eq_zero_of_dvd ?_
  unfold Crv.g
  split
  · exact Int.neg_dvd.2 h
  · exact h
theorem Crv.isz_g (k : Crv) {s : Nat} (h : isz k.d' ≤ s) : isz k.g ≤ s := by
  have hd := gcdL_dvd (l := k.d' :: (trim k.x ++ trim k.y)) k.d' (List.mem_cons_self ..)
  have hle : gcdL (k.d' :: (trim k.x ++ trim k.y)) ≤ k.d'.natAbs := Nat.le_of_dvd (by have := k.d'_ne; omega) (Int.ofNat_dvd_left.1 hd)
  refine Nat.le_trans (sz_mono ?_) h
  unfold Crv.g
  split <;> simp <;> exact hle
structure Cs (s n : Nat) (k : Crv) : Prop where
  x : Bd s k.x
  y : Bd s k.y
  d : isz k.d ≤ s
  lx : k.x.length ≤ n
  ly : k.y.length ≤ n
theorem isz_d' {k : Crv} {s : Nat} (h : isz k.d ≤ s) (h1 : 1 ≤ s) : isz k.d' ≤ s := by unfold Crv.d'; split <;> first | exact h1 | exact h
theorem bd_div {s : Nat} {p : List Int} (h : Bd s p) (g : Int) : Bd s (p.map (· / g)) := fun z hz => by
  obtain ⟨u, hu, rfl⟩ := List.mem_map.1 hz
  exact Nat.le_trans (isz_div' u g) (h u hu)
theorem Cs.norm {s n : Nat} {k : Crv} (h : Cs s n k) (h1 : 1 ≤ s) : Cs s n k.norm := by
  refine ⟨bd_trim (bd_div (bd_trim h.x) _), bd_trim (bd_div (bd_trim h.y) _), Nat.le_trans (isz_div' _ _) (isz_d' h.d h1), ?_, ?_⟩
  · refine Nat.le_trans (trim_len _) ?_; rw [List.length_map]; exact Nat.le_trans (trim_len _) h.lx
  · refine Nat.le_trans (trim_len _) ?_; rw [List.length_map]; exact Nat.le_trans (trim_len _) h.ly
theorem Cs.mono {s n t m : Nat} {k : Crv} (h : Cs s n k) (hs : s ≤ t) (hn : n ≤ m) : Cs t m k := ⟨bd_mono h.x hs, bd_mono h.y hs, Nat.le_trans h.d hs, Nat.le_trans h.lx hn, Nat.le_trans h.ly hn⟩
def Nml (k : Crv) : Prop := Trim k.x ∧ Trim k.y ∧ 0 < k.d ∧ gcdL (k.d :: (k.x ++ k.y)) = 1
theorem Crv.norm_of {k : Crv} (h : Nml k) : k.norm = k := by
  obtain ⟨h1, h2, h3, h4⟩ := h
  have hd : k.d' = k.d := by unfold Crv.d'; rw [if_neg (by omega)]
  have hx : trim k.x = k.x := h1
  have hy : trim k.y = k.y := h2
  have hg : k.g = 1 := by unfold Crv.g; rw [hd, hx, hy, h4, if_neg (by omega)]; rfl
  unfold Crv.norm
  rw [hg, hd, hx, hy]
  simp [hx, hy]
theorem gcdL_map_div {l : List Int} {g : Int} (hg : g ≠ 0) (hga : g.natAbs = gcdL l) : gcdL (l.map (· / g)) = 1 := by
  have key : ∀ (l : List Int) (a : Nat), (∀ z ∈ l, g ∣ z) → l.foldl (fun a z => Nat.gcd a z.natAbs) (a * g.natAbs) = ((l.map (· / g)).foldl (fun a z => Nat.gcd a z.natAbs) a) * g.natAbs := by
    intro l
    induction l with
    | nil => intro a _; rfl
    | cons z l ih =>
      intro a h
      simp only [List.map_cons, List.foldl_cons]
      have hz : z.natAbs = (z / g).natAbs * g.natAbs := by
        obtain ⟨q, rfl⟩ := h z (List.mem_cons_self ..)
        rw [Int.mul_ediv_cancel_left _ hg, Int.natAbs_mul, Nat.mul_comm]
      rw [hz, Nat.gcd_mul_right]
      exact ih _ fun u hu => h u (List.mem_cons_of_mem _ hu)
  have h := key l 0 fun z hz => Int.natAbs_dvd_natAbs.1 (by rw [hga]; exact Int.natAbs_dvd_natAbs.2 (gcdL_dvd z hz))
  rw [Nat.zero_mul] at h
  have h' : gcdL l = gcdL (l.map (· / g)) * g.natAbs := h
  rw [← hga] at h'
  have hp : 0 < g.natAbs := by omega
  exact Nat.eq_of_mul_eq_mul_right hp (by rw [Nat.one_mul]; exact h'.symm)
theorem trim_id_of_map {l : List Int} {g : Int} (ht : Trim l) (hg : g ≠ 0) (hd : ∀ z ∈ l, g ∣ z) : Trim (l.map (· / g)) := by
  induction l with
  | nil => rfl
  | cons x l ih =>
    have hne : ∀ z ∈ x :: l, z ≠ 0 → z / g ≠ 0 := fun z hz h0 h1 => by
      obtain ⟨q, rfl⟩ := hd z hz
      rw [Int.mul_ediv_cancel_left _ hg] at h1
      rw [h1] at h0; simp at h0
    unfold Trim at ht ih ⊢
    cases hl : trim l with
    | nil =>
      simp only [trim, hl] at ht
      split at ht
      · cases ht
      · rename_i hx
        injection ht with _ h2
        subst h2
        simp [trim, hne x (List.mem_cons_self ..) hx]
    | cons y k =>
      simp only [trim, hl] at ht
      injection ht with _ h2
      have hll : trim l = l := by rw [hl]; exact h2
      have ih := ih hll fun z hz => hd z (List.mem_cons_of_mem _ hz)
      rw [List.map_cons]
      have hne2 : l.map (· / g) ≠ [] := by rw [← hll, hl]; simp
      cases hm : l.map (· / g) with
      | nil => exact absurd hm hne2
      | cons u w =>
        rw [hm] at ih
        have e : trim (x / g :: u :: w) = match trim (u :: w) with | [] => if x / g = 0 then [] else [x / g] | y :: k => x / g :: y :: k := rfl
        rw [e, ih]
theorem Crv.nml (k : Crv) : Nml k.norm := by
  have hg := k.g_ne
  have hdv : ∀ z ∈ k.d' :: (trim k.x ++ trim k.y), k.g ∣ z := fun z hz => Int.dvd_of_emod_eq_zero (k.g_dvd z hz)
  have hx := trim_id_of_map (g := k.g) (trim_trim k.x) hg fun z hz => hdv z (by simp [hz])
  have hy := trim_id_of_map (g := k.g) (trim_trim k.y) hg fun z hz => hdv z (by simp [hz])
  refine ⟨trim_trim _, trim_trim _, ?_, ?_⟩
  · show 0 < k.d' / k.g
    obtain ⟨q, hq⟩ := hdv k.d' (List.mem_cons_self ..)
    have h0 := k.d'_ne
    have hgc := k.gcd_ne
    have e : k.d' / k.g = q := by rw [hq, Int.mul_ediv_cancel_left _ hg]
    rw [e]
    unfold Crv.g at hq hg
    have hq0 : q ≠ 0 := fun e => by rw [e, Int.mul_zero] at hq; exact h0 hq
    split at hq
    · rename_i hneg
      rcases Int.lt_or_gt_of_ne hq0 with h | h
      · have := Int.mul_pos_of_neg_of_neg (a := -((gcdL (k.d' :: (trim k.x ++ trim k.y)) : Nat) : Int)) (b := q) (by omega) h
        omega
      · exact h
    · rename_i hneg
      rcases Int.lt_or_gt_of_ne hq0 with h | h
      · have := Int.mul_neg_of_pos_of_neg (a := ((gcdL (k.d' :: (trim k.x ++ trim k.y)) : Nat) : Int)) (b := q) (by omega) h
        omega
      · exact h
  · show gcdL (k.d' / k.g :: (trim ((trim k.x).map (· / k.g)) ++ trim ((trim k.y).map (· / k.g)))) = 1
    rw [show trim ((trim k.x).map (· / k.g)) = (trim k.x).map (· / k.g) from hx, show trim ((trim k.y).map (· / k.g)) = (trim k.y).map (· / k.g) from hy, ← List.map_append, ← List.map_cons (f := (· / k.g))]
    refine gcdL_map_div hg ?_
    unfold Crv.g
    split <;> omega
structure Pt where
  c : Crv
  id : Int
def ofPt (p : Pt) : List LV := [pl p.c.x, pl p.c.y, sg p.c.d, mg p.c.d, .int .i64 p.id]
def pts (l : List Pt) : LV := .row (l.map ofPt)
theorem rlen_pts (l : List Pt) : rlen (pts l) = some l.length := by simp [rlen, pts]
end Orr

namespace Orr
def pos : List Pt → Int → Nat
  | [], _ => 0
  | p :: l, id => if p.id < id then pos l id + 1 else 0
def has (l : List Pt) (id : Int) : Bool := match l[pos l id]? with
  | some p => decide (p.id = id)
  | none => false
theorem pos_le (l : List Pt) (id : Int) : pos l id ≤ l.length := by
  induction l with
  | nil => exact Nat.le_refl _
  | cons p l ih => simp only [pos]; split <;> simp <;> omega
theorem pos_eq : ∀ {l : List Pt} {id : Int} {k : Nat}, (∀ j p, j < k → l[j]? = some p → p.id < id) → (k = l.length ∨ ∃ p, l[k]? = some p ∧ ¬ p.id < id) → pos l id = k
  | [], id, k, _, h => by
    rcases h with h | ⟨p, h, _⟩
    · subst h; rfl
    · simp at h
  | q :: l, id, 0, _, h => by
    rcases h with h | ⟨p, h, h2⟩
    · simp at h
    · simp at h; subst h; simp [pos, h2]
  | q :: l, id, k + 1, h1, h => by
    have hq := h1 0 q (by omega) rfl
    simp only [pos, hq, if_true]
    rw [pos_eq (k := k) (fun j p hj hp => h1 (j + 1) p (by omega) (by simpa using hp))]
    rcases h with h | ⟨p, h, h2⟩
    · left; simpa using h
    · right; exact ⟨p, by simpa using h, h2⟩
def put (l : List Pt) (q : Pt) : List Pt := l.take (pos l q.id) ++ q :: l.drop (pos l q.id)
def putE (l : List Pt) (q : Pt) : Int := if has l q.id = true then 6 else if 6 ≤ l.length then 9 else 0
def PtOk (s n : Nat) (p : Pt) : Prop := Nml p.c ∧ Cs s n p.c
theorem put_len (l : List Pt) (q : Pt) : (put l q).length = l.length + 1 := by
  have := pos_le l q.id
  simp [put]; omega
theorem put_mem {l : List Pt} {q p : Pt} (h : p ∈ put l q) : p = q ∨ p ∈ l := by
  unfold put at h
  rcases List.mem_append.1 h with h | h
  · exact .inr (List.mem_of_mem_take h)
  · rcases List.mem_cons.1 h with h | h
    · exact .inl h
    · exact .inr (List.mem_of_mem_drop h)
def newL : List Pt → List Pt → List Pt × Int
  | acc, [] => (acc, 0)
  | acc, q :: qs => if putE acc q = 0 then newL (put acc q) qs else ([], putE acc q)
def crvEq (a b : Crv) : Bool := decide (a.x = b.x ∧ a.y = b.y ∧ a.d = b.d)
def waysF (out : List Pt) (p : Pt) : List Pt := if out.any (fun q => crvEq p.c q.c) = true then out else out ++ [p]
def ways (l : List Pt) : List Pt := l.foldl waysF []
theorem waysF_mem {out : List Pt} {p q : Pt} (h : q ∈ waysF out p) : q ∈ out ∨ q = p := by
  unfold waysF at h
  split at h
  · exact .inl h
  · rcases List.mem_append.1 h with h | h
    · exact .inl h
    · exact .inr (by simpa using h)
theorem waysF_len (out : List Pt) (p : Pt) : (waysF out p).length ≤ out.length + 1 := by
  unfold waysF; split <;> simp
theorem foldl_take_succ {α β : Type} (f : β → α → β) (b : β) (l : List α) {i : Nat} {x : α} (h : l[i]? = some x) : (l.take (i + 1)).foldl f b = f ((l.take i).foldl f b) x := by
  rw [List.take_add_one, h]; simp [List.foldl_append]
theorem ways_take_mem (l : List Pt) (i : Nat) : ∀ q ∈ (l.take i).foldl waysF [], q ∈ l := by
  induction i with
  | zero => simp
  | succ i ih =>
    intro q hq
    cases hi : l[i]? with
    | none =>
      rw [List.take_of_length_le (by have := List.getElem?_eq_none_iff.1 hi; omega)] at hq
      rw [List.take_of_length_le (List.getElem?_eq_none_iff.1 hi)] at ih
      exact ih q hq
    | some x =>
      rw [foldl_take_succ _ _ _ hi] at hq
      rcases waysF_mem hq with h | h
      · exact ih q h
      · subst h; exact List.mem_of_getElem? hi
theorem ways_take_len (l : List Pt) (i : Nat) : ((l.take i).foldl waysF []).length ≤ i := by
  induction i with
  | zero => simp
  | succ i ih =>
    cases hi : l[i]? with
    | none =>
      rw [List.take_of_length_le (by have := List.getElem?_eq_none_iff.1 hi; omega)]
      rw [List.take_of_length_le (List.getElem?_eq_none_iff.1 hi)] at ih
      omega
    | some x =>
      rw [foldl_take_succ _ _ _ hi]
      have := waysF_len ((l.take i).foldl waysF []) x
      omega
theorem ways_mem {l : List Pt} {q : Pt} (h : q ∈ ways l) : q ∈ l := by
  have := ways_take_mem l l.length q
  rw [List.take_length] at this
  exact this h
theorem ways_len (l : List Pt) : (ways l).length ≤ l.length := by
  have := ways_take_len l l.length
  rwa [List.take_length] at this
def IsPt (s n : Nat) (z : List LV) (q : Pt) : Prop := ∃ lx ly b l px py d, z = [.row lx, .row ly, .bool b, u32r l, .int .i64 q.id] ∧ IsInts lx px ∧ IsInts ly py ∧ IsInt (.bool b) (u32r l) d ∧ Cs s n ⟨px, py, d⟩ ∧ q.c = Crv.norm ⟨px, py, d⟩
theorem isPt_n {s n : Nat} {p : Pt} (h : PtOk s n p) : IsPt s n (ofPt p) p := by
  obtain ⟨b, l, h1, h2, h3, h4⟩ := isInt_n p.c.d
  refine ⟨_, _, decide (p.c.d < 0), limbs p.c.d.natAbs, _, _, p.c.d, rfl, isInts_n _, isInts_n _, isInt_n _, h.2, (Crv.norm_of h.1).symm⟩
def IsPts (s n : Nat) : List (List LV) → List Pt → Prop
  | [], [] => True
  | z :: zs, q :: qs => IsPt s n z q ∧ IsPts s n zs qs
  | _, _ => False
theorem IsPts.len {s n : Nat} : ∀ {zs : List (List LV)} {qs : List Pt}, IsPts s n zs qs → zs.length = qs.length
  | [], [], _ => rfl
  | _ :: _, _ :: _, h => by simp [h.2.len]
  | [], _ :: _, h => h.elim
  | _ :: _, [], h => h.elim
theorem IsPts.get {s n : Nat} : ∀ {zs : List (List LV)} {qs : List Pt}, IsPts s n zs qs → ∀ {i : Nat} {q : Pt}, qs[i]? = some q → ∃ z, zs[i]? = some z ∧ IsPt s n z q
  | [], [], _, i, q, h => by simp at h
  | z :: zs, q :: qs, h, 0, r, hr => by simp at hr; subst hr; exact ⟨z, rfl, h.1⟩
  | z :: zs, q :: qs, h, i + 1, r, hr => by simpa using h.2.get (i := i) (by simpa using hr)
  | [], _ :: _, h, _, _, _ => h.elim
  | _ :: _, [], h, _, _, _ => h.elim
theorem isPts_n {s n : Nat} : ∀ {l : List Pt}, (∀ p ∈ l, PtOk s n p) → IsPts s n (l.map ofPt) l
  | [], _ => trivial
  | p :: l, h => ⟨isPt_n (h p (List.mem_cons_self ..)), isPts_n fun q hq => h q (List.mem_cons_of_mem _ hq)⟩
theorem IsPt.ok {s n : Nat} {z : List LV} {q : Pt} (h : IsPt s n z q) (h1 : 1 ≤ s) : PtOk s n q := by
  obtain ⟨lx, ly, b, l, px, py, d, _, _, _, _, hc, e⟩ := h
  unfold PtOk
  rw [e]
  exact ⟨Crv.nml _, hc.norm h1⟩
theorem newL_step (acc qs : List Pt) {i : Nat} {q : Pt} (hi : qs[i]? = some q) (h : newL acc (qs.take i) = ((newL acc (qs.take i)).1, 0)) : newL acc (qs.take (i + 1)) = if putE (newL acc (qs.take i)).1 q = 0 then (put (newL acc (qs.take i)).1 q, 0) else ([], putE (newL acc (qs.take i)).1 q) := by
  induction qs generalizing acc i with
  | nil => simp at hi
  | cons x qs ih =>
    cases i with
    | zero => simp at hi; subst hi; simp [newL]
    | succ i =>
      simp only [List.take_succ_cons, newL] at h ⊢
      by_cases h0 : putE acc x = 0
      · simp only [h0, if_true] at h ⊢
        exact ih (put acc x) (by simpa using hi) h
      · simp only [h0, if_false] at h
        injection h with _ h
        exact absurd h h0
theorem newL_err (acc qs : List Pt) {i : Nat} {e : Int} (he : e ≠ 0) (h : newL acc (qs.take i) = ([], e)) : newL acc qs = ([], e) := by
  induction qs generalizing acc i with
  | nil => simp [newL] at h; exact absurd h.2.symm he
  | cons x qs ih =>
    cases i with
    | zero => simp [newL] at h; exact absurd h.2.symm he
    | succ i =>
      simp only [List.take_succ_cons, newL] at h ⊢
      by_cases h0 : putE acc x = 0
      · simp only [h0, if_true] at h ⊢; exact ih _ h
      · simp only [h0, if_false] at h ⊢; exact h
end Orr

namespace Orr
def psign (p : List Int) (q : Rat) : Int := cmpZ (pval p q.num q.den) 0
def gfirst (sgn : List Int → Int) : Nat → List Int → Int
  | 0, _ => 0
  | k + 1, p => if p.length = 0 then 0 else if sgn p = 0 then gfirst sgn k (pder p) else sgn p
theorem gfirst_fuel (sgn : List Int → Int) : ∀ (k : Nat) (p : List Int), p.length ≤ k → gfirst sgn k p = gfirst sgn p.length p
  | 0, p, h => by
    have : p.length = 0 := by omega
    rw [this]
  | k + 1, p, h => by
    cases hp : p.length with
    | zero => simp [gfirst, hp]
    | succ m =>
      simp only [gfirst]
      have h1 := len_pder p
      rw [gfirst_fuel sgn k (pder p) (by omega), gfirst_fuel sgn m (pder p) (by omega)]
theorem gfirst_zero (sgn : List Int → Int) {p : List Int} (h : p.length = 0) : gfirst sgn p.length p = 0 := by rw [h]; rfl
theorem gfirst_here (sgn : List Int → Int) {p : List Int} (h : 0 < p.length) (hs : sgn p ≠ 0) : gfirst sgn p.length p = sgn p := by
  obtain ⟨m, hm⟩ : ∃ m, p.length = m + 1 := ⟨p.length - 1, by omega⟩
  rw [hm]; simp only [gfirst]; rw [if_neg (by omega), if_neg hs]
theorem gfirst_next (sgn : List Int → Int) {p : List Int} (h : 0 < p.length) (hs : sgn p = 0) : gfirst sgn p.length p = gfirst sgn (pder p).length (pder p) := by
  obtain ⟨m, hm⟩ : ∃ m, p.length = m + 1 := ⟨p.length - 1, by omega⟩
  rw [hm]; simp only [gfirst]; rw [if_neg (by omega), if_pos hs]
  exact gfirst_fuel sgn m _ (by have := len_pder p; omega)
def germAt (p : List Int) (q : Rat) : Int := gfirst (fun p => psign p q) p.length p
structure Pb (p : List Int) : Prop where
  t : Trim p
  l : p.length ≤ 64
  b : Bd 16777216 p
abbrev Qb (q : Rat) : Prop := Qs 16777216 q
abbrev Cb (k : Crv) : Prop := Cs 1048576 16 k
def pright (a b : Crv) : List Int := psub (pscale b.x a.d) (pscale a.x b.d)
def pabove (a b : Crv) : List Int := psub (pscale b.y a.d) (pscale a.y b.d)
def pfirst (q : Rat) (a b : Pt) : List (List Int) → Bool
  | [] => decide (a.id < b.id)
  | p :: l => if 0 < p.length then decide (0 < germAt p q) else pfirst q a b l
def before (q : Rat) (a b : Pt) : Bool := pfirst q a b [pright a.c b.c, pabove a.c b.c]
def pls (l : List (List Int)) : LV := .row (l.map fun p => [pl p])
theorem rlen_pls (l : List (List Int)) : rlen (pls l) = some l.length := by simp [rlen, pls]
end Orr
