/- ALaw22 ASquares LastI -/
import Derived.Test.YtdigkdmaagnimaaGreatPart10
import Derived.Test.YtdigkdmaagnimaaGreatPart06
import Derived.Test.YtdigkdmaagnimaaGreatProg
import Derived.ProofKit
import Derived.OpenShut
import Derived.WideKeyArgs
import Derived.SizedLaws
set_option linter.all false

namespace Orr
open Go Go.Proofs
theorem wake_tris : (meshT (ratOf 0 0) (newL [] [(Pt.mk (still 0 0) 1), (Pt.mk (still 1 0) 2), (Pt.mk (still 0 1) 3), (Pt.mk (still 1 1) 4)]).1).length = 4 := by decide +kernel
theorem wake_eds : (edgesOf (meshT (ratOf 0 0) (newL [] [(Pt.mk (still 0 0) 1), (Pt.mk (still 1 0) 2), (Pt.mk (still 0 1) 3), (Pt.mk (still 1 1) 4)]).1)).length = 6 := by decide +kernel
theorem wake_good : GoodP [(Pt.mk (still 0 0) 1), (Pt.mk (still 1 0) 2), (Pt.mk (still 0 1) 3), (Pt.mk (still 1 1) 4)] := by
 intro x hx
 simp only [List.mem_cons, List.not_mem_nil, or_false] at hx
 rcases hx with rfl | rfl | rfl | rfl <;> exact good_still (by decide) (by decide)
set_option maxRecDepth 20000 in
theorem d_law22_wakes  : Does Tryz.prog 10 [] (.one (.bool true)) := by
 refine does_ (n := 35) Tryz.func10 rfl Tryz.ntmps10 rfl ?_
 refine ac_seq (ac_reg ?_)
 refine w_ (p_assign rfl rfl) ?_
 refine aw_nil ?_
 refine ac_seq (ac_reg ?_)
 refine w_ (p_build (bd_41) rfl rfl rfl rfl) ?_
 refine w_ (p_call Tryz.func5 rfl rfl rfl rfl (d_curve_Still (by decide) (by decide)) rfl) ?_
 refine w_ (p_build (bd_35) rfl rfl rfl rfl) ?_
 refine w_ (p_call Tryz.func5 rfl rfl rfl rfl (d_curve_Still (by decide) (by decide)) rfl) ?_
 refine w_ (p_build (bd_35) rfl rfl rfl rfl) ?_
 refine w_ (p_call Tryz.func5 rfl rfl rfl rfl (d_curve_Still (by decide) (by decide)) rfl) ?_
 refine w_ (p_build (bd_35) rfl rfl rfl rfl) ?_
 refine w_ (p_call Tryz.func5 rfl rfl rfl rfl (d_curve_Still (by decide) (by decide)) rfl) ?_
 refine w_ (p_build (bd_35) rfl rfl rfl rfl) ?_
 refine w_ (p_lit Tryz.runUnderlying25 Tryz.sizeOf35 Tryz.zeroValue35 rfl rfl rfl rfl rfl rfl rfl rfl rfl rfl) ?_
 refine a_calls (Bin := []) Tryz.func6 rfl rfl rfl rfl (d_delaunay_New (l1 := []) (l2 := []) (qs := [(Pt.mk (still 0 0) 1), (Pt.mk (still 1 0) 2), (Pt.mk (still 0 1) 3), (Pt.mk (still 1 1) 4)]) isInt_zero isInt_zero (by decide) (by decide) (qs_0.mono (by omega)) (isPts_n (l := [(Pt.mk (still 0 0) 1), (Pt.mk (still 1 0) 2), (Pt.mk (still 0 1) 3), (Pt.mk (still 1 1) 4)]) (fun x hx => ⟨(wake_good x hx).1, (wake_good x hx).2.mono (by omega) (by omega)⟩)) wake_good (show 4 ≤ 6 by decide) (by decide +kernel)) rfl fun r_ B_ hr_ => ?_
 obtain ⟨g, rfl, rfl⟩ := hr_
 refine w_ (p_move rfl rfl) ?_
 refine w_ (p_extract rfl rfl rfl) ?_
 refine w_ (p_extract rfl rfl rfl) ?_
 refine w_ (p_assign rfl rfl) ?_
 refine w_ (p_assign rfl rfl) ?_
 refine aw_nil ?_
 refine ac_seq (ac_reg ?_)
 refine w_ (p_move rfl rfl) ?_
 refine w_ (p_cmp (b := true) rfl rfl rfl rfl) ?_
 refine w_ (p_move rfl rfl) ?_
 refine w_ ((p_grun rfl rfl (rfl) (p_move rfl rfl))) ?_
 refine w_ ((p_grun rfl rfl (rfl) (p_neNil Tryz.runUnderlying36 rfl rfl rfl rfl rfl))) ?_
 refine w_ (p_pickT rfl (rfl) rfl rfl) ?_
 refine w_ (p_move rfl rfl) ?_
 refine w_ ((p_grun rfl rfl (rfl) (p_move rfl rfl))) ?_
 refine aw_grun rfl rfl (rfl) ?_
 refine a_calls (Bin := [.blk g 54 [.bool true, pl ([-((ratOf 0 0)).num, (((ratOf 0 0)).den : Int)]), sg ((((ratOf 0 0))).num), mg ((((ratOf 0 0))).num), sg (((((ratOf 0 0))).den : Int)), mg (((((ratOf 0 0))).den : Int)), sg ((((ratOf 0 0))).num), mg ((((ratOf 0 0))).num), sg (((((ratOf 0 0))).den : Int)), mg (((((ratOf 0 0))).den : Int)), wts ((sortC (meshC ((ratOf 0 0)) ((newL [] [(Pt.mk (still 0 0) 1), (Pt.mk (still 1 0) 2), (Pt.mk (still 0 1) 3), (Pt.mk (still 1 1) 4)]).1)))), .int .i64 0, pts ((newL [] [(Pt.mk (still 0 0) 1), (Pt.mk (still 1 0) 2), (Pt.mk (still 0 1) 3), (Pt.mk (still 1 1) 4)]).1), tris ((meshT ((ratOf 0 0)) ((newL [] [(Pt.mk (still 0 0) 1), (Pt.mk (still 1 0) 2), (Pt.mk (still 0 1) 3), (Pt.mk (still 1 1) 4)]).1)))]]) Tryz.func8 rfl rfl rfl rfl (d_mesh_Triples (g := g) (show (meshT (ratOf 0 0) (newL [] [(Pt.mk (still 0 0) 1), (Pt.mk (still 1 0) 2), (Pt.mk (still 0 1) 3), (Pt.mk (still 1 1) 4)]).1).length ≤ 1000 by rw [wake_tris]; decide)) rfl fun r_ B_ hr_ => ?_
 obtain ⟨rfl, rfl⟩ := hr_
 refine aw_grun rfl rfl (rfl) ?_
 refine w_ (p_len (m := 4) Tryz.runUnderlying52 rfl (by rw [rlen_tris, wake_tris]) rfl) ?_
 refine w_ ((p_grun rfl rfl (rfl) (p_cmp (b := true) rfl rfl rfl rfl))) ?_
 refine w_ (p_pickT rfl (rfl) rfl rfl) ?_
 refine w_ (p_move rfl rfl) ?_
 refine w_ ((p_grun rfl rfl (rfl) (p_move rfl rfl))) ?_
 refine aw_grun rfl rfl (rfl) ?_
 refine a_calls (Bin := [.blk g 54 [.bool true, pl ([-((ratOf 0 0)).num, (((ratOf 0 0)).den : Int)]), sg ((((ratOf 0 0))).num), mg ((((ratOf 0 0))).num), sg (((((ratOf 0 0))).den : Int)), mg (((((ratOf 0 0))).den : Int)), sg ((((ratOf 0 0))).num), mg ((((ratOf 0 0))).num), sg (((((ratOf 0 0))).den : Int)), mg (((((ratOf 0 0))).den : Int)), wts ((sortC (meshC ((ratOf 0 0)) ((newL [] [(Pt.mk (still 0 0) 1), (Pt.mk (still 1 0) 2), (Pt.mk (still 0 1) 3), (Pt.mk (still 1 1) 4)]).1)))), .int .i64 0, pts ((newL [] [(Pt.mk (still 0 0) 1), (Pt.mk (still 1 0) 2), (Pt.mk (still 0 1) 3), (Pt.mk (still 1 1) 4)]).1), tris ((meshT ((ratOf 0 0)) ((newL [] [(Pt.mk (still 0 0) 1), (Pt.mk (still 1 0) 2), (Pt.mk (still 0 1) 3), (Pt.mk (still 1 1) 4)]).1)))]]) Tryz.func9 rfl rfl rfl rfl (d_mesh_Edges (g := g) (show (meshT (ratOf 0 0) (newL [] [(Pt.mk (still 0 0) 1), (Pt.mk (still 1 0) 2), (Pt.mk (still 0 1) 3), (Pt.mk (still 1 1) 4)]).1).length ≤ 1000 by rw [wake_tris]; decide)) rfl fun r_ B_ hr_ => ?_
 obtain ⟨rfl, rfl⟩ := hr_
 refine aw_grun rfl rfl (rfl) ?_
 refine w_ (p_len (m := 6) Tryz.runUnderlying24 rfl (by rw [rlen_eds, wake_eds]) rfl) ?_
 refine w_ ((p_grun rfl rfl (rfl) (p_cmp (b := true) rfl rfl rfl rfl))) ?_
 refine w_ (p_pickT rfl (rfl) rfl rfl) ?_
 refine w_ (p_assign rfl rfl) ?_
 refine aw_nil ?_
 refine ac_ret ?_
 exact retB_1 Tryz.results10 (rv_tmp rfl rfl) (rfl)
end Orr

namespace Orr
open Go Go.Proofs
theorem sqs_len (x y w h : Int) (n : Nat) : (sqs x y w h n).length = n := by simp [sqs]
theorem lns_len (x y w h : Int) (n : Nat) : (lns x y w h n).length = n := by simp [lns]
theorem sqs_snoc (x y w h : Int) (n : Nat) {e : Int × Int} (he : (sqC x y w h)[n]? = some e) : sqs x y w h (n + 1) = sqs x y w h n ++ [⟨still e.1 e.2, n⟩] := by
 simp only [sqs, List.range_succ, List.map_append, List.map_cons, List.map_nil]
 rw [sqP, List.getD_eq_getElem?_getD, he]; rfl
theorem lns_snoc (x y w h : Int) (n : Nat) : lns x y w h (n + 1) = lns x y w h n ++ [⟨still (x + (n : Int) * w) (y + (n : Int) * h), n⟩] := by
 simp only [lns, List.range_succ, List.map_append, List.map_cons, List.map_nil]; rfl
theorem good_small {l : List Pt} (h : ∀ p ∈ l, ∃ a b, p.c = still a b ∧ (-1000000 ≤ a ∧ a ≤ 1000000) ∧ (-1000000 ≤ b ∧ b ≤ 1000000)) : GoodP l := by
 intro p hp
 obtain ⟨a, b, e, h1, h2⟩ := h p hp
 rw [e]
 exact good_still (by omega) (by omega)
theorem sqC_small {x y w h : Int} (hx : 0 ≤ x ∧ x < 50) (hy : 0 ≤ y ∧ y < 50) (hw : 1 ≤ w ∧ w ≤ 20) (hh : 1 ≤ h ∧ h ≤ 20) {i : Nat} {e : Int × Int} (he : (sqC x y w h)[i]? = some e) : (-1000000 ≤ e.1 ∧ e.1 ≤ 1000000) ∧ (-1000000 ≤ e.2 ∧ e.2 ≤ 1000000) := by
 have h1 := List.mem_of_getElem? he
 simp only [sqC, List.mem_cons, List.not_mem_nil, or_false] at h1
 rcases h1 with rfl | rfl | rfl | rfl <;> refine ⟨⟨?_, ?_⟩, ?_, ?_⟩ <;> simp <;> omega
theorem mul_i {i : Nat} (hi : i < 5) {w : Int} (hw : 1 ≤ w ∧ w ≤ 20) : 0 ≤ (i : Int) * w ∧ (i : Int) * w ≤ 100 := by
 rcases five_cases hi with rfl | rfl | rfl | rfl | rfl <;> omega
theorem sqs_good {x y w h : Int} (hx : 0 ≤ x ∧ x < 50) (hy : 0 ≤ y ∧ y < 50) (hw : 1 ≤ w ∧ w ≤ 20) (hh : 1 ≤ h ∧ h ≤ 20) {n : Nat} (hn : n < 5) : GoodP (sqs x y w h n) := by
 refine good_small fun p hp => ?_
 obtain ⟨i, hi, rfl⟩ := List.mem_map.1 hp
 rw [List.mem_range] at hi
 have hl : i < (sqC x y w h).length := by simp [sqC]; omega
 have he : (sqC x y w h)[i]? = some (sqC x y w h)[i] := List.getElem?_eq_getElem hl
 refine ⟨_, _, rfl, ?_⟩
 rw [List.getD_eq_getElem?_getD, he]
 exact sqC_small hx hy hw hh he
theorem lns_good {x y w h : Int} (hx : 0 ≤ x ∧ x < 50) (hy : 0 ≤ y ∧ y < 50) (hw : 1 ≤ w ∧ w ≤ 20) (hh : 1 ≤ h ∧ h ≤ 20) {n : Nat} (hn : n < 5) : GoodP (lns x y w h n) := by
 refine good_small fun p hp => ?_
 obtain ⟨i, hi, rfl⟩ := List.mem_map.1 hp
 rw [List.mem_range] at hi
 have h1 := mul_i (i := i) (by omega) hw
 have h2 := mul_i (i := i) (by omega) hh
 exact ⟨_, _, rfl, by omega, by omega⟩
theorem stay_sort {q : Rat} {l : List Pt} (h : Stay l) (hg : GoodP l) : StayC (sortC (meshC q l)) := by
 intro c hc
 have hc := sortC_mem hc
 obtain ⟨z, hz⟩ := stay_certs h c hc
 have hb := (meshC_pb q hg c hc).b
 rw [hz] at hb
 refine ⟨z, hz, ?_⟩
 by_cases h0 : z = 0
 ·subst h0; decide
 have := hb z (by rw [kst_eq, if_neg h0]; exact List.mem_singleton.2 rfl)
 omega
set_option maxRecDepth 20000 in
theorem d_law22_Squares {x y w h k : Int} (hx0 : -9223372036854775808 ≤ x ∧ x ≤ 9223372036854775807) (hy0 : -9223372036854775808 ≤ y ∧ y ≤ 9223372036854775807) (hw0 : -9223372036854775808 ≤ w ∧ w ≤ 9223372036854775807) (hh0 : -9223372036854775808 ≤ h ∧ h ≤ 9223372036854775807) (hk0 : -9223372036854775808 ≤ k ∧ k ≤ 9223372036854775807) : Does Tryz.prog 3 [.one (.int .i64 x), .one (.int .i64 y), .one (.int .i64 w), .one (.int .i64 h), .one (.int .i64 k)] (.one (.bool true)) := by
 refine does_ (n := 154) Tryz.func3 rfl Tryz.ntmps3 rfl ?_
 have hx : 0 ≤ x % 50 ∧ x % 50 < 50 := ⟨Int.emod_nonneg _ (by decide), Int.emod_lt_of_pos _ (by decide)⟩
 have hy : 0 ≤ y % 50 ∧ y % 50 < 50 := ⟨Int.emod_nonneg _ (by decide), Int.emod_lt_of_pos _ (by decide)⟩
 have hw : 1 ≤ 1 + w % 20 ∧ 1 + w % 20 ≤ 20 := by
  have h1 : 0 ≤ w % 20 := Int.emod_nonneg _ (by decide)
  have h2 : w % 20 < 20 := Int.emod_lt_of_pos _ (by decide)
  omega
 have hh : 1 ≤ 1 + h % 20 ∧ 1 + h % 20 ≤ 20 := by
  have h1 : 0 ≤ h % 20 := Int.emod_nonneg _ (by decide)
  have h2 : h % 20 < 20 := Int.emod_lt_of_pos _ (by decide)
  omega
 obtain ⟨n, hn⟩ : ∃ n : Nat, k % 5 = (n : Int) := ⟨(k % 5).toNat, by have := Int.emod_nonneg k (show (5 : Int) ≠ 0 by decide); omega⟩
 have hn5 : n < 5 := by have := Int.emod_lt_of_pos k (show (0 : Int) < 5 by decide); omega
 have hg1 := sqs_good hx hy hw hh hn5
 have hg2 := lns_good hx hy hw hh hn5
 have hst : StayC (sortC (meshC (ratOf 0 0) (newL [] (sqs (x % 50) (y % 50) (1 + w % 20) (1 + h % 20) n)).1)) := by
  rw [newL_sqs _ _ _ _ hn5]; exact stay_sort (sqs_stay _ _ _ _ _) hg1
 have hcl : (meshC (ratOf 0 0) (newL [] (sqs (x % 50) (y % 50) (1 + w % 20) (1 + h % 20) n)).1).length ≤ 100000 := meshC_le _ _ (by rw [newL_sqs _ _ _ _ hn5]; show (sqs _ _ _ _ n).length ≤ 10; rw [sqs_len]; omega)
 obtain ⟨v, hv⟩ : ∃ v, ([0, 0, 0, 1, 4] : List Int)[n]? = some v := ⟨_, List.getElem?_eq_getElem (by show n < 5; exact hn5)⟩
 have hml : (meshT (ratOf 0 0) (newL [] (sqs (x % 50) (y % 50) (1 + w % 20) (1 + h % 20) n)).1).length = [0, 0, 0, 1, 4].getD n 0 := by
  rw [newL_sqs _ _ _ _ hn5]; exact sqs_mesh _ _ _ _ _ hn5 hw.1 hh.1
 have hm4 : (meshT (ratOf 0 0) (newL [] (sqs (x % 50) (y % 50) (1 + w % 20) (1 + h % 20) n)).1).length ≤ 1000 := by
  rw [hml]; rcases five_cases hn5 with rfl | rfl | rfl | rfl | rfl <;> decide
 have hwant : (((meshT (ratOf 0 0) (newL [] (sqs (x % 50) (y % 50) (1 + w % 20) (1 + h % 20) n)).1).length : Nat) : Int) = v := by
  rw [hml]; rcases five_cases hn5 with rfl | rfl | rfl | rfl | rfl <;> (cases hv; rfl)
 have hm0 : (meshT (ratOf 0 0) (newL [] (lns (x % 50) (y % 50) (1 + w % 20) (1 + h % 20) n)).1) = [] := by
  rw [newL_lns _ _ _ _ hn5]; exact lns_none _ _ _ _ _ _
 have hnone : (((meshT (ratOf 0 0) (newL [] (lns (x % 50) (y % 50) (1 + w % 20) (1 + h % 20) n)).1).length : Nat) : Int) = 0 := by rw [hm0]; rfl
 have hm1 : (meshT (ratOf 0 0) (newL [] (lns (x % 50) (y % 50) (1 + w % 20) (1 + h % 20) n)).1).length ≤ 1000 := by rw [hm0]; decide
 have hedge : (((edgesOf (meshT (ratOf 0 0) (newL [] (lns (x % 50) (y % 50) (1 + w % 20) (1 + h % 20) n)).1)).length : Nat) : Int) = 0 := by rw [hm0]; rfl
 skip
 refine ac_seq (ac_reg ?_)
 refine w_ (p_assign rfl rfl) ?_
 refine aw_nil ?_
 refine ac_seq (ac_reg ?_)
 refine w_ (p_move rfl rfl) ?_
 refine w_ (p_call Tryz.func4 rfl rfl rfl rfl (d_keep_Within (by assumption) (by omega)) rfl) ?_
 refine w_ (p_move rfl rfl) ?_
 refine w_ (p_call Tryz.func4 rfl rfl rfl rfl (d_keep_Within (by assumption) (by omega)) rfl) ?_
 refine w_ (p_move rfl rfl) ?_
 refine w_ (p_call Tryz.func4 rfl rfl rfl rfl (d_keep_Within (by assumption) (by omega)) rfl) ?_
 refine w_ (p_add (r := (1 + ((w % 20)))) rfl rfl (i64_is rfl (by omega)) rfl) ?_
 refine w_ (p_move rfl rfl) ?_
 refine w_ (p_call Tryz.func4 rfl rfl rfl rfl (d_keep_Within (by assumption) (by omega)) rfl) ?_
 refine w_ (p_add (r := (1 + ((h % 20)))) rfl rfl (i64_is rfl (by omega)) rfl) ?_
 refine w_ (p_assign rfl rfl) ?_
 refine w_ (p_assign rfl rfl) ?_
 refine w_ (p_assign rfl rfl) ?_
 refine w_ (p_assign rfl rfl) ?_
 refine aw_nil ?_
 refine ac_seq (ac_reg ?_)
 refine w_ (p_move rfl rfl) ?_
 refine w_ (p_move rfl rfl) ?_
 refine w_ (p_build (bd_23) rfl rfl rfl rfl) ?_
 refine w_ (p_move rfl rfl) ?_
 refine w_ (p_move rfl rfl) ?_
 refine w_ (p_add (r := (((x % 50)) + ((1 + ((w % 20)))))) rfl rfl (i64_is rfl (by omega)) rfl) ?_
 refine w_ (p_move rfl rfl) ?_
 refine w_ (p_build (bd_23) rfl rfl rfl rfl) ?_
 refine w_ (p_move rfl rfl) ?_
 refine w_ (p_move rfl rfl) ?_
 refine w_ (p_move rfl rfl) ?_
 refine w_ (p_add (r := (((y % 50)) + ((1 + ((h % 20)))))) rfl rfl (i64_is rfl (by omega)) rfl) ?_
 refine w_ (p_build (bd_23) rfl rfl rfl rfl) ?_
 refine w_ (p_move rfl rfl) ?_
 refine w_ (p_move rfl rfl) ?_
 refine w_ (p_add (r := (((x % 50)) + ((1 + ((w % 20)))))) rfl rfl (i64_is rfl (by omega)) rfl) ?_
 refine w_ (p_move rfl rfl) ?_
 refine w_ (p_move rfl rfl) ?_
 refine w_ (p_add (r := (((y % 50)) + ((1 + ((h % 20)))))) rfl rfl (i64_is rfl (by omega)) rfl) ?_
 refine w_ (p_build (bd_23) rfl rfl rfl rfl) ?_
 refine w_ (p_lit Tryz.runUnderlying24 Tryz.sizeOf23 Tryz.zeroValue23 rfl rfl rfl rfl rfl rfl rfl rfl rfl rfl) ?_
 refine w_ (p_assign rfl rfl) ?_
 refine aw_nil ?_
 refine ac_seq (ac_reg ?_)
 refine w_ (p_move rfl rfl) ?_
 refine w_ (p_call Tryz.func4 rfl rfl rfl rfl (d_keep_Within (by assumption) (by omega)) rfl) ?_
 refine w_ (p_assign rfl rfl) ?_
 refine aw_nil ?_
 refine ac_seq (ac_reg ?_)
 refine w_ (p_assign rfl rfl) ?_
 refine w_ (p_assign rfl rfl) ?_
 refine aw_nil ?_
 refine ac_seq (ac_seq (ac_reg ?_))
 refine w_ (p_assign rfl rfl) ?_
 refine aw_nil ?_
 refine ac_block ?_
 refine ac_slotEq 12 (y := .one (.int .i64 ((n : Nat) : Int))) rfl (by rw [hn]) ?_
 refine ac_slotEq 11 (y := .one (eds (sqC (x % 50) (y % 50) (1 + w % 20) (1 + h % 20)))) rfl rfl ?_
 refine ac_ownNil [13] 35 5 rfl (allAre1 rfl) rfl ?_
 refine ac_ownNil [14] 35 5 rfl (allAre1 rfl) rfl ?_
 refine ac_pick [0, 1, 2, 3, 11, 12, 13, 14, 15] rfl ?_
 refine ac_loop (fun m L B => ∃ i r u, i ≤ n ∧ m = n - i ∧ L = [(0, .one (.int .i64 ((x % 50)))), (1, .one (.int .i64 ((y % 50)))), (2, .one (.int .i64 ((1 + ((w % 20)))))), (3, .one (.int .i64 ((1 + ((h % 20)))))), (11, .one (eds ((sqC (x % 50) (y % 50) (1 + w % 20) (1 + h % 20))))), (12, .one (.int .i64 (((n : Nat) : Int)))), (13, .one (.orow r 5 0 i)), (14, .one (.orow u 5 0 i)), (15, .one (.int .i64 (((i : Nat) : Int))))] ∧ B = [.row r 35 5 ((sqs (x % 50) (y % 50) (1 + w % 20) (1 + h % 20) i).map ofPt), .row u 35 5 ((lns (x % 50) (y % 50) (1 + w % 20) (1 + h % 20) i).map ofPt)]) (m := _) ⟨0, none, none, Nat.zero_le _, rfl, rfl, rfl⟩ ?_
 rintro m L B ⟨i, r, u, hp0, hm, rfl, rfl⟩
 by_cases h1 : i < n
 ·obtain ⟨e, he⟩ : ∃ e, (sqC (x % 50) (y % 50) (1 + w % 20) (1 + h % 20))[i]? = some e := ⟨_, List.getElem?_eq_getElem (by show i < 4; omega)⟩
  have hes := sqC_small hx hy hw hh he
  have hiw := mul_i (i := i) (by omega) hw
  have hih := mul_i (i := i) (by omega) hh
  refine ac_seq (ac_seq (ac_reg ?_))
  refine w_ (p_move rfl rfl) ?_
  refine w_ (p_move rfl rfl) ?_
  refine w_ (p_cmp rfl rfl rfl rfl) ?_
  refine aw_nil ?_
  refine ac_t rfl (decide_eq_true (by omega)) ?_
  refine ac_skip ?_
  refine ac_seq (ac_block (ac_seq ?_))
  refine ac_draw mixed_ 15 [61, 62, 63, 64, 65, 66, 67, 68, 69, 70, 71, 72, 73, 74, 75] [[], [], [], [1, 2], [3], [4], [], [], [6, 7], [8], [9], [5, 10], [], [11, 12], [13]] [.one (.orow r 5 0 i), .one (eds ((sqC (x % 50) (y % 50) (1 + w % 20) (1 + h % 20)))), .one (.int .i64 (((i : Nat) : Int))), .one (.sh [.int .i64 e.1, .int .i64 e.2]), .one (.sh [.int .i64 e.1, .int .i64 e.2]), .one (.int .i64 e.1), .one (eds ((sqC (x % 50) (y % 50) (1 + w % 20) (1 + h % 20)))), .one (.int .i64 (((i : Nat) : Int))), .one (.sh [.int .i64 e.1, .int .i64 e.2]), .one (.sh [.int .i64 e.2]), .one (.int .i64 e.2), .agg [pl (((still e.1 e.2)).x), pl (((still e.1 e.2)).y), sg (((still e.1 e.2)).d), mg (((still e.1 e.2)).d)], .one (.int .i64 (((i : Nat) : Int))), .agg [pl (((still e.1 e.2)).x), pl (((still e.1 e.2)).y), sg (((still e.1 e.2)).d), mg (((still e.1 e.2)).d), .int .i64 (((i : Nat) : Int))], .one (.row [[pl (((still e.1 e.2)).x), pl (((still e.1 e.2)).y), sg (((still e.1 e.2)).d), mg (((still e.1 e.2)).d), .int .i64 (((i : Nat) : Int))]])] rfl rfl rfl ⟨p_move rfl rfl, p_move rfl rfl, p_move rfl rfl, p_index (i) Tryz.runUnderlying24 Tryz.sizeOf23 rfl rfl (rfl) (map_get he) rfl rfl, p_indexArrSh 0 Tryz.runUnderlying23 Tryz.sizeOf3 rfl rfl rfl (by decide) rfl rfl, p_loadSh Tryz.isAgg3 Tryz.sizeOf3 rfl rfl rfl rfl, p_move rfl rfl, p_move rfl rfl, p_index (i) Tryz.runUnderlying24 Tryz.sizeOf23 rfl rfl (rfl) (map_get he) rfl rfl, p_indexArrSh 1 Tryz.runUnderlying23 Tryz.sizeOf3 rfl rfl rfl (by decide) rfl rfl, p_loadSh Tryz.isAgg3 Tryz.sizeOf3 rfl rfl rfl rfl, p_call Tryz.func5 rfl rfl rfl rfl (d_curve_Still (by omega) (by omega)) rfl, p_move rfl rfl, p_build (bd_35) rfl rfl rfl rfl, p_lit Tryz.runUnderlying25 Tryz.sizeOf35 Tryz.zeroValue35 rfl rfl rfl rfl rfl rfl rfl rfl rfl rfl, trivial⟩ rfl ?_
  refine a_append (ls2 := ((sqs (x % 50) (y % 50) (1 + w % 20) (1 + h % 20) (i + 1)).map ofPt)) (m2 := i + 1) 0 Tryz.runUnderlying25 Tryz.runUnderlying25 Tryz.typeInfo35 rfl rfl Tryz.sizeOf35 Tryz.zeroValue35 rfl rfl rfl rfl rfl rfl rfl (by rw [List.length_map, sqs_len]; exact Nat.le_refl _) (one_w rfl) (one_f rfl) (by show _ + 1 < _; omega) (by rw [List.take_of_length_le (by rw [List.length_map, sqs_len]; exact Nat.le_refl _), sqs_snoc _ _ _ _ _ he, List.map_append]; rfl) (rfl) fun r1 => ?_
  refine w_ (p_assign rfl rfl) ?_
  refine aw_nil ?_
  refine ac_reg ?_
  refine w_ (p_move rfl rfl) ?_
  refine w_ (p_move rfl rfl) ?_
  refine w_ (p_move rfl rfl) ?_
  refine w_ (p_move rfl rfl) ?_
  refine w_ (p_mul (r := (((i : Nat) : Int) * (1 + w % 20))) rfl rfl (i64_is rfl (by have := hiw; omega)) rfl) ?_
  refine w_ (p_add (r := (((x % 50)) + ((((i : Nat) : Int) * (1 + w % 20))))) rfl rfl (i64_is rfl (by omega)) rfl) ?_
  refine w_ (p_move rfl rfl) ?_
  refine w_ (p_move rfl rfl) ?_
  refine w_ (p_move rfl rfl) ?_
  refine w_ (p_mul (r := (((i : Nat) : Int) * (1 + h % 20))) rfl rfl (i64_is rfl (by have := hih; omega)) rfl) ?_
  refine w_ (p_add (r := (((y % 50)) + ((((i : Nat) : Int) * (1 + h % 20))))) rfl rfl (i64_is rfl (by omega)) rfl) ?_
  refine w_ (p_call Tryz.func5 rfl rfl rfl rfl (d_curve_Still (by omega) (by omega)) rfl) ?_
  refine w_ (p_move rfl rfl) ?_
  refine w_ (p_build (bd_35) rfl rfl rfl rfl) ?_
  refine w_ (p_lit Tryz.runUnderlying25 Tryz.sizeOf35 Tryz.zeroValue35 rfl rfl rfl rfl rfl rfl rfl rfl rfl rfl) ?_
  refine a_append (ls2 := ((lns (x % 50) (y % 50) (1 + w % 20) (1 + h % 20) (i + 1)).map ofPt)) (m2 := i + 1) 1 Tryz.runUnderlying25 Tryz.runUnderlying25 Tryz.typeInfo35 rfl rfl Tryz.sizeOf35 Tryz.zeroValue35 rfl rfl rfl rfl rfl rfl rfl (by rw [List.length_map, lns_len]; exact Nat.le_refl _) (one_w rfl) (one_f rfl) (by show _ + 1 < _; omega) (by rw [List.take_of_length_le (by rw [List.length_map, lns_len]; exact Nat.le_refl _), lns_snoc, List.map_append]; rfl) (rfl) fun r2 => ?_
  refine w_ (p_assign rfl rfl) ?_
  refine aw_nil ?_
  refine ac_reg ?_
  refine w_ (p_move rfl rfl) ?_
  refine w_ (p_add (r := ((i + 1 : Nat) : Int)) rfl rfl (i64_is (by omega) (by omega)) rfl) ?_
  refine w_ (p_assign rfl rfl) ?_
  refine aw_pick [0, 1, 2, 3, 11, 12, 13, 14, 15] rfl ?_
  refine aw_front 0 rfl ?_
  refine aw_front 1 rfl ?_
  refine aw_nil ?_
  refine ⟨_, ?_, i + 1, r1, r2, by omega, rfl, rfl, rfl⟩
  omega
 have hi : i = n := by omega
 refine ac_pub (L2 := _) 0 [13] rfl (allAre1 rfl) (by rw [List.length_map, sqs_len]) (by rw [List.length_map, sqs_len]; omega) rfl ?_
 refine ac_slotEq 13 (y := .one (pts (sqs (x % 50) (y % 50) (1 + w % 20) (1 + h % 20) n))) rfl (by rw [hi]; rfl) ?_
 refine ac_pub (L2 := _) 0 [14] rfl (allAre1 rfl) (by rw [List.length_map, lns_len]) (by rw [List.length_map, lns_len]; omega) rfl ?_
 refine ac_slotEq 14 (y := .one (pts (lns (x % 50) (y % 50) (1 + w % 20) (1 + h % 20) n))) rfl (by rw [hi]; rfl) ?_
 refine ac_seq (ac_seq (ac_reg ?_))
 refine w_ (p_move rfl rfl) ?_
 refine w_ (p_move rfl rfl) ?_
 refine w_ (p_cmp rfl rfl rfl rfl) ?_
 refine aw_nil ?_
 refine ac_f rfl (decide_eq_false (by omega)) ?_
 refine ac_exit ?_
 repeat refine seqQ_exit ?_
 refine blkQ_here ?_
 refine ac_seq (ac_reg ?_)
 refine w_ (p_build (bd_41) rfl rfl rfl rfl) ?_
 refine w_ (p_move rfl rfl) ?_
 refine a_calls (Bin := []) Tryz.func6 rfl rfl rfl rfl (d_delaunay_New (l1 := []) (l2 := []) (qs := (sqs (x % 50) (y % 50) (1 + w % 20) (1 + h % 20) n)) isInt_zero isInt_zero (by decide) (by decide) (qs_0.mono (by omega)) (isPts_n (l := (sqs (x % 50) (y % 50) (1 + w % 20) (1 + h % 20) n)) (fun x hx => ⟨(hg1 x hx).1, (hg1 x hx).2.mono (by omega) (by omega)⟩)) hg1 (by rw [sqs_len]; omega) (by rw [newL_sqs _ _ _ _ hn5])) rfl fun r_ B_ hr_ => ?_
 obtain ⟨gA, rfl, rfl⟩ := hr_
 refine w_ (p_move rfl rfl) ?_
 refine w_ (p_extract rfl rfl rfl) ?_
 refine w_ (p_extract rfl rfl rfl) ?_
 refine w_ (p_assign rfl rfl) ?_
 refine w_ (p_assign rfl rfl) ?_
 refine aw_nil ?_
 refine ac_seq (ac_reg ?_)
 refine w_ (p_build (bd_41) rfl rfl rfl rfl) ?_
 refine w_ (p_move rfl rfl) ?_
 refine a_calls (Bin := []) Tryz.func6 rfl rfl rfl rfl (d_delaunay_New (l1 := []) (l2 := []) (qs := (lns (x % 50) (y % 50) (1 + w % 20) (1 + h % 20) n)) isInt_zero isInt_zero (by decide) (by decide) (qs_0.mono (by omega)) (isPts_n (l := (lns (x % 50) (y % 50) (1 + w % 20) (1 + h % 20) n)) (fun x hx => ⟨(hg2 x hx).1, (hg2 x hx).2.mono (by omega) (by omega)⟩)) hg2 (by rw [lns_len]; omega) (by rw [newL_lns _ _ _ _ hn5])) rfl fun r_ B_ hr_ => ?_
 obtain ⟨gB, rfl, rfl⟩ := hr_
 refine w_ (p_move rfl rfl) ?_
 refine w_ (p_extract rfl rfl rfl) ?_
 refine w_ (p_extract rfl rfl rfl) ?_
 refine w_ (p_assign rfl rfl) ?_
 refine w_ (p_assign rfl rfl) ?_
 refine aw_nil ?_
 refine ac_seq (ac_seq (ac_reg ?_))
 refine w_ (p_move rfl rfl) ?_
 refine w_ (p_cmp (b := false) rfl rfl rfl rfl) ?_
 refine w_ (p_move rfl rfl) ?_
 refine w_ ((p_grun rfl rfl (rfl) (p_move rfl rfl))) ?_
 refine w_ ((p_grun rfl rfl (rfl) (p_cmp (b := false) rfl rfl rfl rfl))) ?_
 refine w_ (p_pickF rfl (rfl) rfl rfl) ?_
 refine w_ (p_move rfl rfl) ?_
 refine w_ ((p_grun rfl rfl (rfl) (p_move rfl rfl))) ?_
 refine w_ ((p_grun rfl rfl (rfl) (p_eqNil Tryz.runUnderlying36 rfl rfl rfl rfl rfl))) ?_
 refine w_ (p_pickF rfl (rfl) rfl rfl) ?_
 refine w_ (p_move rfl rfl) ?_
 refine w_ ((p_grun rfl rfl (rfl) (p_move rfl rfl))) ?_
 refine w_ ((p_grun rfl rfl (rfl) (p_eqNil Tryz.runUnderlying36 rfl rfl rfl rfl rfl))) ?_
 refine w_ (p_pickF rfl (rfl) rfl rfl) ?_
 refine aw_nil ?_
 refine ac_f rfl (rfl) ?_
 refine ac_skip ?_
 refine ac_seq (ac_reg ?_)
 refine w_ (p_lit Tryz.runUnderlying42 Tryz.sizeOf3 Tryz.zeroValue3 rfl rfl rfl rfl rfl rfl rfl rfl rfl rfl) ?_
 refine w_ (p_move rfl rfl) ?_
 refine aw_slotEq 119 (y := .one (ids [0, 0, 0, 1, 4])) rfl rfl ?_
 refine w_ (p_index (n) Tryz.runUnderlying42 Tryz.sizeOf3 rfl rfl (rfl) (map_get hv) rfl rfl) ?_
 refine w_ (p_loadSh Tryz.isAgg3 Tryz.sizeOf3 rfl rfl rfl rfl) ?_
 refine w_ (p_assign rfl rfl) ?_
 refine aw_nil ?_
 refine ac_seq (ac_reg ?_)
 refine w_ (p_move rfl rfl) ?_
 refine w_ (p_nilCheck rfl rfl rfl) ?_
 refine w_ (p_fieldOw fa_54_0 rfl rfl) ?_
 refine aw_front 1 rfl ?_
 refine a_calls (Bin := [.blk gA 54 [.bool true, pl ([-((ratOf 0 0)).num, (((ratOf 0 0)).den : Int)]), sg ((((ratOf 0 0))).num), mg ((((ratOf 0 0))).num), sg (((((ratOf 0 0))).den : Int)), mg (((((ratOf 0 0))).den : Int)), sg ((((ratOf 0 0))).num), mg ((((ratOf 0 0))).num), sg (((((ratOf 0 0))).den : Int)), mg (((((ratOf 0 0))).den : Int)), wts ((sortC (meshC ((ratOf 0 0)) ((newL [] (sqs (x % 50) (y % 50) (1 + w % 20) (1 + h % 20) n)).1)))), .int .i64 0, pts ((newL [] (sqs (x % 50) (y % 50) (1 + w % 20) (1 + h % 20) n)).1), tris ((meshT ((ratOf 0 0)) ((newL [] (sqs (x % 50) (y % 50) (1 + w % 20) (1 + h % 20) n)).1)))]]) Tryz.func7 rfl rfl rfl rfl (d_kin_NextK (qs_0.mono (by omega)) (by rw [sortC_len]; exact Nat.le_trans hcl (by decide)) hst) rfl fun r_ B_ hr_ => ?_
 obtain ⟨rfl, rfl⟩ := hr_
 refine w_ (p_move rfl rfl) ?_
 refine w_ (p_extract rfl rfl rfl) ?_
 refine w_ (p_extract rfl rfl rfl) ?_
 refine a_alloc Tryz.zeroValue44 rfl rfl fun g3 => ?_
 refine a_storeOw 0 Tryz.sizeOf44 rfl rfl rfl rfl rfl rfl rfl ?_
 refine w_ (p_assign rfl rfl) ?_
 refine aw_nil ?_
 refine ac_seq (ac_reg ?_)
 refine w_ (p_move rfl rfl) ?_
 refine aw_front 1 rfl ?_
 refine a_calls (Bin := [.blk gA 54 [.bool true, pl ([-((ratOf 0 0)).num, (((ratOf 0 0)).den : Int)]), sg ((((ratOf 0 0))).num), mg ((((ratOf 0 0))).num), sg (((((ratOf 0 0))).den : Int)), mg (((((ratOf 0 0))).den : Int)), sg ((((ratOf 0 0))).num), mg ((((ratOf 0 0))).num), sg (((((ratOf 0 0))).den : Int)), mg (((((ratOf 0 0))).den : Int)), vts ((sortC (meshC (ratOf 0 0) (newL [] (sqs (x % 50) (y % 50) (1 + w % 20) (1 + h % 20) n)).1))), .int .i64 0, pts ((newL [] (sqs (x % 50) (y % 50) (1 + w % 20) (1 + h % 20) n)).1), tris ((meshT ((ratOf 0 0)) ((newL [] (sqs (x % 50) (y % 50) (1 + w % 20) (1 + h % 20) n)).1)))]]) Tryz.func8 rfl rfl rfl rfl (d_mesh_Triples (g := gA) hm4) rfl fun r_ B_ hr_ => ?_
 obtain ⟨rfl, rfl⟩ := hr_
 refine w_ (p_len (m := ((meshT (ratOf 0 0) (newL [] (sqs (x % 50) (y % 50) (1 + w % 20) (1 + h % 20) n)).1)).length) Tryz.runUnderlying52 rfl (rlen_tris _) rfl) ?_
 refine w_ (p_move rfl rfl) ?_
 refine w_ (p_cmp rfl rfl rfl rfl) ?_
 refine w_ (p_move rfl rfl) ?_
 refine w_ ((p_grun rfl rfl (decide_eq_true hwant) (p_move rfl rfl))) ?_
 refine aw_grun rfl rfl (decide_eq_true hwant) ?_
 refine aw_front 2 rfl ?_
 refine a_calls (Bin := [.blk gB 54 [.bool true, pl ([-((ratOf 0 0)).num, (((ratOf 0 0)).den : Int)]), sg ((((ratOf 0 0))).num), mg ((((ratOf 0 0))).num), sg (((((ratOf 0 0))).den : Int)), mg (((((ratOf 0 0))).den : Int)), sg ((((ratOf 0 0))).num), mg ((((ratOf 0 0))).num), sg (((((ratOf 0 0))).den : Int)), mg (((((ratOf 0 0))).den : Int)), wts ((sortC (meshC ((ratOf 0 0)) ((newL [] (lns (x % 50) (y % 50) (1 + w % 20) (1 + h % 20) n)).1)))), .int .i64 0, pts ((newL [] (lns (x % 50) (y % 50) (1 + w % 20) (1 + h % 20) n)).1), tris ((meshT ((ratOf 0 0)) ((newL [] (lns (x % 50) (y % 50) (1 + w % 20) (1 + h % 20) n)).1)))]]) Tryz.func8 rfl rfl rfl rfl (d_mesh_Triples (g := gB) hm1) rfl fun r_ B_ hr_ => ?_
 obtain ⟨rfl, rfl⟩ := hr_
 refine w_ ((p_grun rfl rfl (decide_eq_true hwant) (p_len (m := ((meshT (ratOf 0 0) (newL [] (lns (x % 50) (y % 50) (1 + w % 20) (1 + h % 20) n)).1)).length) Tryz.runUnderlying52 rfl (rlen_tris _) rfl))) ?_
 refine w_ ((p_grun rfl rfl (decide_eq_true hwant) (p_cmp rfl rfl rfl rfl))) ?_
 refine w_ (p_pickT rfl (decide_eq_true hwant) rfl rfl) ?_
 refine w_ (p_move rfl rfl) ?_
 refine w_ ((p_grun rfl rfl (decide_eq_true hnone) (p_move rfl rfl))) ?_
 refine aw_grun rfl rfl (decide_eq_true hnone) ?_
 refine a_calls (Bin := [.blk gB 54 [.bool true, pl ([-((ratOf 0 0)).num, (((ratOf 0 0)).den : Int)]), sg ((((ratOf 0 0))).num), mg ((((ratOf 0 0))).num), sg (((((ratOf 0 0))).den : Int)), mg (((((ratOf 0 0))).den : Int)), sg ((((ratOf 0 0))).num), mg ((((ratOf 0 0))).num), sg (((((ratOf 0 0))).den : Int)), mg (((((ratOf 0 0))).den : Int)), wts ((sortC (meshC ((ratOf 0 0)) ((newL [] (lns (x % 50) (y % 50) (1 + w % 20) (1 + h % 20) n)).1)))), .int .i64 0, pts ((newL [] (lns (x % 50) (y % 50) (1 + w % 20) (1 + h % 20) n)).1), tris ((meshT ((ratOf 0 0)) ((newL [] (lns (x % 50) (y % 50) (1 + w % 20) (1 + h % 20) n)).1)))]]) Tryz.func9 rfl rfl rfl rfl (d_mesh_Edges (g := gB) hm1) rfl fun r_ B_ hr_ => ?_
 obtain ⟨rfl, rfl⟩ := hr_
 refine w_ ((p_grun rfl rfl (decide_eq_true hnone) (p_len (m := ((edgesOf (meshT (ratOf 0 0) (newL [] (lns (x % 50) (y % 50) (1 + w % 20) (1 + h % 20) n)).1))).length) Tryz.runUnderlying24 rfl (rlen_eds _) rfl))) ?_
 refine w_ ((p_grun rfl rfl (decide_eq_true hnone) (p_cmp rfl rfl rfl rfl))) ?_
 refine w_ (p_pickT rfl (decide_eq_true hnone) rfl rfl) ?_
 refine w_ (p_move rfl rfl) ?_
 refine w_ ((p_grun rfl rfl (decide_eq_true hedge) (p_move rfl rfl))) ?_
 refine w_ ((p_grun rfl rfl (decide_eq_true hedge) (p_not rfl rfl))) ?_
 refine w_ (p_pickT rfl (decide_eq_true hedge) rfl rfl) ?_
 refine w_ (p_move rfl rfl) ?_
 refine w_ ((p_grun rfl rfl (rfl) (p_call Tryz.func10 rfl rfl rfl rfl (d_law22_wakes) rfl))) ?_
 refine w_ (p_pickT rfl (rfl) rfl rfl) ?_
 refine w_ (p_assign rfl rfl) ?_
 refine aw_nil ?_
 refine ac_ret ?_
 exact retB_1 Tryz.results3 (rv_tmp rfl rfl) (rfl)
end Orr

namespace Orr
open Go Go.Proofs Go.ChangeShapes Go.WideShapes Go.ChangeAt Go.RowKit Go.WideElems
theorem kept_ofI {w w' : World} {Bo : List Blk} (h : Moved w w' [] Bo) (may : MemPlace → Prop) : w.keptBut w' may := by
  refine ⟨h.io.1, h.io.2, fun i hi => ?_⟩
  rw [h.keep i hi (by simp)]
  cases w.heap[i]? with
  | none => rfl
  | some o => cases o <;> simp
abbrev I64 (n : Int) : Prop := -9223372036854775808 ≤ n ∧ n ≤ 9223372036854775807
theorem i64_wf {n : Int} (h : (Lit.int .i64 n).wf = true) : I64 n := by
  have h1 : -2^63 ≤ n ∧ n ≤ 2^63-1 := by simpa [Lit.wf, IntKind.min, IntKind.max, IntKind.signed, IntKind.bits] using h
  exact ⟨by omega, by omega⟩
set_option maxRecDepth 20000 in
theorem law_five {f : FuncId} {fn : Func} {s : ChangeSpec} (hp : fn.params = #[3, 3, 3, 3, 3]) (hr : fn.resultTypes = #[4]) (hv : s.vars = [])
    (hs : ∀ (H : Type) (d1 d2 d3 d4 d5 : DataW H), s.fn H [d1, d2, d3, d4, d5] = { results := [.lit (.bool true)], args := [d1, d2, d3, d4, d5] })
    (law : ∀ a b c d e : Int, I64 a → I64 b → I64 c → I64 d → I64 e → Does Tryz.prog f [.one (.int .i64 a), .one (.int .i64 b), .one (.int .i64 c), .one (.int .i64 d), .one (.int .i64 e)] (.one (.bool true)))
    {H : Type} {enc : TypeId × Value → H} {W : World} {base : Nat} {args : Array Value} {ds gs : List (DataW H)} {before : List MemPlace} {fresh handsOn : Bool}
    (hval : ∀ (j : Nat) t v, fn.params[j]? = some t → args[j]? = some v → Value.okWide Tryz.prog W .any base t v)
    (hW : DataW.Whole enc Tryz.prog fn.params.toList s.vars false W args.toList ds gs before) :
    Calls Tryz.prog f args W fun e W' => ∃ v, e = .returned v ∧ s.post enc Tryz.prog fn false fresh handsOn false W args v W' := by
  have hW' := hW
  obtain ⟨p, q, hA0, hV, rfl, hfz, hnd⟩ := hW
  have hA : DataW.TrodAll enc Tryz.prog W 0 (fun _ => true) true fn.params.toList args.toList ds p := hA0
  rw [hv] at hV
  obtain ⟨rfl, rfl⟩ := trodVars_none hV
  rw [hp] at hA hval
  obtain ⟨v0, vs0, d0, ds0, p0, q0, hargs0, rfl, rfl, h0, r0⟩ := trodAll_cons hA
  obtain ⟨v1, vs1, d1, ds1, p1, q1, rfl, rfl, rfl, h1, r1⟩ := trodAll_cons r0
  obtain ⟨v2, vs2, d2, ds2, p2, q2, rfl, rfl, rfl, h2, r2⟩ := trodAll_cons r1
  obtain ⟨v3, vs3, d3, ds3, p3, q3, rfl, rfl, rfl, h3, r3⟩ := trodAll_cons r2
  obtain ⟨v4, vs4, d4, ds4, p4, q4, rfl, rfl, rfl, h4, r4⟩ := trodAll_cons r3
  obtain ⟨rfl, rfl, rfl⟩ := trodAll_nil r4
  obtain rfl : args = #[v0, v1, v2, v3, v4] := by cases args; simp_all
  obtain ⟨a, rfl, rfl, rfl, w0⟩ := open_int Tryz.underlying3 (hval 0 3 v0 rfl rfl) h0
  obtain ⟨b, rfl, rfl, rfl, w1⟩ := open_int Tryz.underlying3 (hval 1 3 v1 rfl rfl) h1
  obtain ⟨c, rfl, rfl, rfl, w2⟩ := open_int Tryz.underlying3 (hval 2 3 v2 rfl rfl) h2
  obtain ⟨d, rfl, rfl, rfl, w3⟩ := open_int Tryz.underlying3 (hval 3 3 v3 rfl rfl) h3
  obtain ⟨e, rfl, rfl, rfl, w4⟩ := open_int Tryz.underlying3 (hval 4 3 v4 rfl rfl) h4
  have hcall := law a b c d e (i64_wf w0) (i64_wf w1) (i64_wf w2) (i64_wf w3) (i64_wf w4) (fun _ => False) W [.int .i64 a, .int .i64 b, .int .i64 c, .int .i64 d, .int .i64 e] [] (fun _ h => h.elim) ⟨by simp, by simp⟩
    ⟨(LRep.int .i64 a).x, (LRep.int .i64 b).x, (LRep.int .i64 c).x, (LRep.int .i64 d).x, (LRep.int .i64 e).x, trivial⟩ rfl
  refine hcall.mono fun ex W' ⟨v, r, Bout, Bo, he, hpost, har, hbs, hm, hh⟩ => ?_
  obtain ⟨rfl, rfl⟩ := hpost
  obtain rfl : v = .bool true := by
    have h : LRep _ _ v (.bool true) := har
    cases h
    rfl
  refine ⟨_, he, ?_⟩
  refine ⟨[.lit (.int .i64 a), .lit (.int .i64 b), .lit (.int .i64 c), .lit (.int .i64 d), .lit (.int .i64 e)], [], _, [], [] ++ ([] ++ ([] ++ ([] ++ ([] ++ [])))), [], hW', ?_, ?_, ?_, kept_ofI hm _, fun h => by cases h⟩
  · rw [hr, List.append_nil, hs]
    exact trodAll_cons_mk (shut_bool Tryz.underlying4 true) trodAll_mk0
  · rw [hp, List.append_nil, hs]
    exact trodAll_cons_mk (shut_int Tryz.underlying3 w0) (trodAll_cons_mk (shut_int Tryz.underlying3 w1) (trodAll_cons_mk (shut_int Tryz.underlying3 w2) (trodAll_cons_mk (shut_int Tryz.underlying3 w3) (trodAll_cons_mk (shut_int Tryz.underlying3 w4) trodAll_mk0))))
  · rw [hv, List.append_nil, hs]
    rfl
end Orr
