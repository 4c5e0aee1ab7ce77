/- Quotients of rows. Package whole: division. Whole numbers: the contracts, told in data. Polynomials as rows of whole numbers: plain laws. -/
import Derived.Test.YtaffmkgbfgjgeaaGreatPart04
import Derived.Test.YtaffmkgbfgjgeaaGreatPart03
import Derived.Test.YtaffmkgbfgjgeaaGreatPart01
import Derived.Test.YtaffmkgbfgjgeaaGreatPart02
set_option linter.all false

namespace Orr
open Go Go.Proofs
variable (Ob : Nat → Prop) (W : World)
set_option maxHeartbeats 1000000 in
theorem bits_Lead (hO : ∀ b, Ob b → b < W.heap.size) {x : Nat} (hs : x < 4294967296) :
    Calls Tryz.prog 333 #[.int .u32 (x : Int)] W (Ret W Ob (eqF (.int .i64 ((32 - sz x : Nat) : Int)))) := by
  have hsz : sz x ≤ 32 := sz_le.2 (by omega)
  refine enter (vs := [(.int .u32 (x : Int))]) (Ob := Ob) (K := fun b => b < W.heap.size) (Fs := []) Tryz.func333 rfl Tryz.ntmps333 rfl (fun _ h => h) hO (fun f hf => by cases hf) fun a h => ?_
  refine seq_ ?_
  refine reg_ ?_
  refine st_assign h rfl rfl fun a h => ?_
  refine wpList_nil ?_
  refine seq_ ?_
  refine reg_ ?_
  refine st_move h rfl rfl fun a h => ?_
  refine st_call h Tryz.func329 rfl rfl rfl (bits_Len32 _ _ (fun b => h.owns_lt) (by omega)) rfl fun r w a hg hF h => ?_
  obtain rfl := hF
  refine st_subI h rfl rfl (by omega) rfl fun a h => ?_
  refine st_assign h rfl rfl fun a h => ?_
  refine wpList_nil ?_
  refine wp_ret ?_
  exact ret1 Tryz.results333 h (resv_tmp h rfl) ⟨_, rfl, h.grow0, congrArg _ (by omega)⟩

set_option maxHeartbeats 1000000 in
theorem limb_Shl (hO : ∀ b, Ob b → b < W.heap.size) {A : Option Addr} {n c x s : Nat} (hx0 : Rel.natA.at_ W Ob [.slice A n c] x) (hsx : sz x ≤ 4294967400) (hs : s ≤ 31) :
    Calls Tryz.prog 338 #[.slice A n c, .int .i64 (s : Int)] W (Ret W Ob (Rel.natN.sliceF (x * 2 ^ s))) := by

  refine enter (vs := [(.slice A n c), (.int .i64 (s : Int))]) (Ob := Ob) (K := fun b => b < W.heap.size) (Fs := [(Rel.natA).fact [.slice A n c] (x)]) Tryz.func338 rfl Tryz.ntmps338 rfl (fun _ h => h) hO (by simp only [List.mem_cons, List.not_mem_nil, or_false, forall_eq_or_imp, forall_eq, false_imp_iff, implies_true]; exact hx0) fun a h => ?_
  refine seq_ ?_
  refine reg_ ?_
  refine st_assign h rfl rfl fun a h => ?_
  refine wpList_nil ?_
  refine seq_ ?_
  refine reg_ ?_
  refine st_move h rfl rfl fun a h => ?_
  refine st_call h Tryz.func309 rfl rfl rfl (limb_cut _ _ (fun b => h.owns_lt) (h.fact 0 rfl)) rfl fun r w a hg hF h => ?_
  obtain ⟨A1, n2, c3, e5, f4⟩ := hF
  subst e5
  have h := h.add (f := (Rel.natN).fact [(.slice A1 n2 c3)] (x)) f4
  refine st_assign h rfl rfl fun a h => ?_
  refine wpList_nil ?_
  refine seq_ ?_
  refine reg_ ?_
  refine st_move h rfl rfl fun a h => ?_
  refine st_min (r := (s : Int)) h rfl rfl (by split <;> omega) rfl fun a h => ?_
  refine st_max (r := (s : Int)) h rfl rfl (by split <;> omega) rfl fun a h => ?_
  refine st_assign h rfl rfl fun a h => ?_
  refine wpList_nil ?_
  refine seq_ ?_
  refine seq_ ?_
  refine reg_ ?_
  refine st_move h rfl rfl fun a h => ?_
  refine st_len h rfl Tryz.runUnderlying53 rfl fun a h => ?_
  obtain ⟨l, hl1, hl2, hl3⟩ := h.fact 0 rfl
  have h := h.add (f := Rel.row32.fact [(.slice A1 n2 c3)] l) hl1
  obtain ⟨el, _, _⟩ := row_open hl1
  have hszl := nrm_len hl2
  rw [hl3] at hszl
  have h38 : (2 : Nat) ^ 38 = 274877906944 := by decide
  have h47 : (2 : Nat) ^ 47 = 140737488355328 := by decide
  have h63 : (2 : Nat) ^ 63 = 9223372036854775808 := by decide
  refine st_cmp h rfl rfl rfl rfl fun a h => ?_
  refine wpList_nil ?_
  refine cond_ h rfl (fun hb_if1 => ?_) (fun hb_if1 => ?_)
  · try simp only [decide_eq_true_eq, decide_eq_false_iff_not, Bool.not_eq_true', Bool.not_eq_false'] at hb_if1
    refine seq_ ?_
    refine reg_ ?_
    refine st_assign h rfl rfl fun a h => ?_
    refine wpList_nil ?_
    refine wp_ret ?_
    exact ret1 Tryz.results338 h (resv_tmp h rfl) ⟨_, rfl, h.grow0, _, _, _, rfl, by rw [show x = 0 from hl3 ▸ (nrm_zero hl2).2 (List.eq_nil_of_length_eq_zero (by omega)), Nat.zero_mul]; exact natN_nil⟩
  · try simp only [decide_eq_true_eq, decide_eq_false_iff_not, Bool.not_eq_true', Bool.not_eq_false'] at hb_if1
    refine wp_skip ?_
    refine seq_ ?_
    refine reg_ ?_
    refine st_move h rfl rfl fun a h => ?_
    refine st_quo h rfl rfl (by omega) rfl fun a h => ?_
    replace h := h.respell (u := .int .i64 (0 : Int)) (congrArg _ (quo32 hs))
    refine st_move h rfl rfl fun a h => ?_
    refine st_rem h rfl rfl (by omega) rfl fun a h => ?_
    replace h := h.respell (u := .int .i64 (s : Int)) (congrArg _ (rem32 hs))
    refine st_to64 (p := s) h rfl (by omega) Tryz.runUnderlying3 Tryz.runUnderlying319 rfl fun a h => ?_
    refine st_assign h rfl rfl fun a h => ?_
    refine st_assign h rfl rfl fun a h => ?_
    refine wpList_nil ?_
    refine seq_ ?_
    refine reg_ ?_
    refine st_move h rfl rfl fun a h => ?_
    refine st_len h rfl Tryz.runUnderlying53 rfl fun a h => ?_
    refine st_move h rfl rfl fun a h => ?_
    refine st_addI h rfl rfl (by omega) rfl fun a h => ?_
    refine st_addI h rfl rfl (by omega) rfl fun a h => ?_
    refine st_make (m := (n2 + 1)) (zs := [(.int .u32 0)]) h (rfl) (rfl) Tryz.runUnderlying53 Tryz.typeInfo276 rfl Tryz.sizeOf276 Tryz.zeroValue276 rfl rfl (by omega) rfl fun g6 w a h => ?_
    replace h := h.respellB (reps_u32s _)
    refine st_assign h rfl rfl fun a h => ?_
    refine wpList_nil ?_
    refine seq_ ?_
    refine seq_ ?_
    refine reg_ ?_
    refine st_move h rfl rfl fun a h => ?_
    refine st_len h rfl Tryz.runUnderlying53 rfl fun a h => ?_
    refine st_move h rfl rfl fun a h => ?_
    refine wpList_nil ?_
    refine wp_block ?_
    refine loop_ (fun m a w' => ∃ i o, i ≤ n2 ∧ o.length = n2 + 1 ∧ (∀ x ∈ o, x < 4294967296) ∧ (∃ z, o[i]? = some z ∧ z < 2 ^ s) ∧ val (o.take (i + 1)) = val (l.take i) * 2 ^ s ∧ m = n2 - i ∧ St (fun b => b < W.heap.size) Ob W w' a 67 [(0, (.slice A1 n2 c3)), (5, (.int .i64 0)), (6, (.int .u64 ((s : Nat) : Int))), (7, (.slice (some ⟨g6, 0, none⟩) (n2 + 1) (n2 + 1))), (30, (.slice A1 n2 c3)), (31, (.int .i64 (n2 : Int))), (32, (.int .i64 (i : Int)))] [(Rel.row32).fact [(.slice A1 n2 c3)] (l)] [(g6, 276, u32s o)]) (m := _) (⟨0, List.replicate (n2 + 1) 0, by omega, by simp, by simp, ⟨0, by simp, Nat.pow_pos (by decide)⟩, by simp [val], rfl, ((h.consL (t := 0) rfl (h.consL (t := 5) rfl (h.consL (t := 6) rfl (h.consL (t := 7) rfl (h.consL (t := 30) rfl (h.consL (t := 31) rfl (h.consL (t := 32) rfl h.nilL))))))).noFacts.add (h.fact 0 rfl))⟩) ?_
    clear h
    rintro m a w ⟨i, o, hp0, hp1, hp2, hp3, hp4, hm, h⟩
    by_cases hlt : i < n2
    · obtain ⟨b1, o1, rfl, _, _, _⟩ := row_get (h.fact 0 rfl) (i := i) (by omega)
      obtain ⟨x1, hx1⟩ : ∃ x, l[i]? = some x := ⟨_, List.getElem?_eq_getElem (by omega)⟩
      have hx1b := row_lt (h.fact 0 rfl) _ (List.mem_of_getElem? hx1)
      obtain ⟨z, hz, hzs⟩ := hp3
      have hzb := hp2 _ (List.mem_of_getElem? hz)
      have hstep := shl_step hs hx1 hx1b hz hzs (by omega) hp4
      have hxs := shl_lt hs hx1b
      refine seq_ ?_
      refine reg_ ?_
      refine st_cmp h rfl rfl rfl rfl fun a h => ?_
      refine wpList_nil ?_
      refine seq_ ?_
      refine cond_t h rfl (by simp; omega) ?_
      refine wp_skip ?_
      refine seq_ ?_
      refine wp_block ?_
      refine seq_ ?_
      refine reg_ ?_
      refine st_move h rfl rfl fun a h => ?_
      refine st_indexI (i) h rfl rfl Tryz.runUnderlying53 Tryz.sizeOf276 (rfl) (by omega) rfl fun a h => ?_
      refine st_load h rfl Tryz.isAgg276 (row_cell (h.fact 0 rfl) hx1) rfl fun a h => ?_
      refine st_assign h rfl rfl fun a h => ?_
      refine st_assign h rfl rfl fun a h => ?_
      refine wpList_nil ?_
      refine seq_ ?_
      refine reg_ ?_
      refine st_move h rfl rfl fun a h => ?_
      refine st_to64 (p := x1) h rfl (by omega) Tryz.runUnderlying276 Tryz.runUnderlying317 rfl fun a h => ?_
      refine st_move h rfl rfl fun a h => ?_
      refine st_shlN (p := x1) (m := s) h rfl rfl (by omega) (by omega) rfl fun a h => ?_
      refine st_assign h rfl rfl fun a h => ?_
      refine wpList_nil ?_
      refine seq_ ?_
      refine reg_ ?_
      refine st_move h rfl rfl fun a h => ?_
      refine st_move h rfl rfl fun a h => ?_
      refine st_move h rfl rfl fun a h => ?_
      refine st_addI h rfl rfl (by omega) rfl fun a h => ?_
      refine st_move h rfl rfl fun a h => ?_
      refine st_move h rfl rfl fun a h => ?_
      refine st_move h rfl rfl fun a h => ?_
      refine st_addI h rfl rfl (by omega) rfl fun a h => ?_
      refine st_indexI (i) h rfl rfl Tryz.runUnderlying53 Tryz.sizeOf276 (by omega) (by omega) rfl fun a h => ?_
      refine st_load h rfl Tryz.isAgg276 (h.u32s_cell hz) rfl fun a h => ?_
      refine st_move h rfl rfl fun a h => ?_
      refine st_to32 (p := (x1) * 2 ^ s) h rfl Tryz.runUnderlying317 Tryz.runUnderlying276 rfl fun a h => ?_
      refine st_or32 (s := s) (p := z) (q := (x1) * 2 ^ s % 4294967296) h rfl rfl hstep.2.2.2 hzs (by omega) (Nat.mod_lt _ (by decide)) hstep.1 rfl fun a h => ?_
      refine st_indexI (i) h rfl rfl Tryz.runUnderlying53 Tryz.sizeOf276 (by omega) (by omega) rfl fun a h => ?_
      refine st_storeU (i := i) h rfl rfl Tryz.sizeOf276 (by omega) fun w h => ?_
      refine wpList_nil ?_
      refine reg_ ?_
      refine st_move h rfl rfl fun a h => ?_
      refine st_move h rfl rfl fun a h => ?_
      refine st_move h rfl rfl fun a h => ?_
      refine st_addI h rfl rfl (by omega) rfl fun a h => ?_
      refine st_addI h rfl rfl (by omega) rfl fun a h => ?_
      refine st_move h rfl rfl fun a h => ?_
      refine st_shrN (p := (x1) * 2 ^ s) (m := 32) h rfl rfl (by omega) rfl fun a h => ?_
      refine st_to32 (p := ((x1) * 2 ^ s) / 2 ^ 32) h rfl Tryz.runUnderlying317 Tryz.runUnderlying276 rfl fun a h => ?_
      refine st_indexI (i + 1) h rfl rfl Tryz.runUnderlying53 Tryz.sizeOf276 (by omega) (by omega) rfl fun a h => ?_
      refine st_storeU (i := i + 1) h rfl rfl Tryz.sizeOf276 (by rw [List.length_set]; omega) fun w h => ?_
      refine wpList_nil ?_
      refine reg_ ?_
      refine st_addI h rfl rfl (by omega) rfl fun a h => ?_
      refine st_move h rfl rfl fun a h => ?_
      refine wpList_nil ?_
      refine ⟨_, ?_, i + 1, (o.set i (z + (x1) * 2 ^ s % 4294967296)).set (i + 1) (((x1) * 2 ^ s) / 2 ^ 32 % 4294967296), by omega, by simp only [List.length_set]; omega, set_lt (set_lt hp2 _ _ hstep.1) _ _ (Nat.mod_lt _ (by decide)), ⟨_, by rw [List.getElem?_set_self (by rw [List.length_set]; omega)], Nat.lt_of_le_of_lt (Nat.mod_le _ _) hstep.2.1⟩, hstep.2.2.1, rfl, ((h.consL (t := 0) rfl (h.consL (t := 5) rfl (h.consL (t := 6) rfl (h.consL (t := 7) rfl (h.consL (t := 30) rfl (h.consL (t := 31) rfl (h.consL (t := 32) rfl h.nilL))))))).noFacts.add (h.fact 0 rfl))⟩
      omega
    · skip
      refine seq_ ?_
      refine reg_ ?_
      refine st_cmp h rfl rfl rfl rfl fun a h => ?_
      refine wpList_nil ?_
      refine seq_ ?_
      refine cond_f h rfl (by simp; omega) ?_
      refine wp_exit ?_
      repeat refine then_exit ?_
      refine inBlock_exit ?_
      refine seq_ ?_
      refine reg_ ?_
      refine st_move h rfl rfl fun a h => ?_
      have hie : i = n2 := by omega
      have hlen := hp1
      rw [List.take_of_length_le (l := o) (by omega), List.take_of_length_le (l := l) (by omega), hl3] at hp4
      have hrow := own_row32 (r := o) ((n2 + 1)) h (fun _ _ => rfl) hp2 (by omega) (by omega) (by omega)
      replace h := h.publish
      have h := h.add (f := Rel.natA.fact [.slice (some ⟨g6, 0, none⟩) (n2 + 1) (n2 + 1)] (x * 2 ^ s)) ⟨_, hlen ▸ hrow, hp2, hp4⟩
      refine st_call h Tryz.func309 rfl rfl rfl (limb_cut _ _ (fun b => h.owns_lt) (h.fact 0 rfl)) rfl fun r w a hg hF h => ?_
      obtain ⟨A7, n8, c9, e11, f10⟩ := hF
      subst e11
      have h := h.add (f := (Rel.natN).fact [(.slice A7 n8 c9)] ((x * 2 ^ s))) f10
      refine st_assign h rfl rfl fun a h => ?_
      refine wpList_nil ?_
      refine wp_ret ?_
      exact ret1 Tryz.results338 h (resv_tmp h rfl) ⟨_, rfl, h.grow0, _, _, _, rfl, h.out 0 rfl⟩

set_option maxHeartbeats 1000000 in
theorem limb_Shr (hO : ∀ b, Ob b → b < W.heap.size) {A : Option Addr} {n c x s : Nat} (hx0 : Rel.natA.at_ W Ob [.slice A n c] x) (hsx : sz x ≤ 4294967400) (hs : s ≤ 31) :
    Calls Tryz.prog 336 #[.slice A n c, .int .i64 (s : Int)] W (Ret W Ob (Rel.natN.sliceF (x / 2 ^ s))) := by

  refine enter (vs := [(.slice A n c), (.int .i64 (s : Int))]) (Ob := Ob) (K := fun b => b < W.heap.size) (Fs := [(Rel.natA).fact [.slice A n c] (x)]) Tryz.func336 rfl Tryz.ntmps336 rfl (fun _ h => h) hO (by simp only [List.mem_cons, List.not_mem_nil, or_false, forall_eq_or_imp, forall_eq, false_imp_iff, implies_true]; exact hx0) fun a h => ?_
  refine seq_ ?_
  refine reg_ ?_
  refine st_assign h rfl rfl fun a h => ?_
  refine wpList_nil ?_
  refine seq_ ?_
  refine reg_ ?_
  refine st_move h rfl rfl fun a h => ?_
  refine st_call h Tryz.func309 rfl rfl rfl (limb_cut _ _ (fun b => h.owns_lt) (h.fact 0 rfl)) rfl fun r w a hg hF h => ?_
  obtain ⟨A1, n2, c3, e5, f4⟩ := hF
  subst e5
  have h := h.add (f := (Rel.natN).fact [(.slice A1 n2 c3)] (x)) f4
  refine st_assign h rfl rfl fun a h => ?_
  refine wpList_nil ?_
  refine seq_ ?_
  refine reg_ ?_
  refine st_move h rfl rfl fun a h => ?_
  refine st_min (r := (s : Int)) h rfl rfl (by split <;> omega) rfl fun a h => ?_
  refine st_max (r := (s : Int)) h rfl rfl (by split <;> omega) rfl fun a h => ?_
  refine st_assign h rfl rfl fun a h => ?_
  refine wpList_nil ?_
  refine seq_ ?_
  refine reg_ ?_
  refine st_move h rfl rfl fun a h => ?_
  refine st_quo h rfl rfl (by omega) rfl fun a h => ?_
  replace h := h.respell (u := .int .i64 (0 : Int)) (congrArg _ (quo32 hs))
  refine st_move h rfl rfl fun a h => ?_
  refine st_rem h rfl rfl (by omega) rfl fun a h => ?_
  replace h := h.respell (u := .int .i64 (s : Int)) (congrArg _ (rem32 hs))
  refine st_to64 (p := s) h rfl (by omega) Tryz.runUnderlying3 Tryz.runUnderlying319 rfl fun a h => ?_
  refine st_assign h rfl rfl fun a h => ?_
  refine st_assign h rfl rfl fun a h => ?_
  refine wpList_nil ?_
  refine seq_ ?_
  refine seq_ ?_
  refine reg_ ?_
  refine st_move h rfl rfl fun a h => ?_
  refine st_move h rfl rfl fun a h => ?_
  refine st_len h rfl Tryz.runUnderlying53 rfl fun a h => ?_
  obtain ⟨l, hl1, hl2, hl3⟩ := h.fact 0 rfl
  have h := h.add (f := Rel.row32.fact [(.slice A1 n2 c3)] l) hl1
  obtain ⟨el, _, _⟩ := row_open hl1
  have hszl := nrm_len hl2
  rw [hl3] at hszl
  have h38 : (2 : Nat) ^ 38 = 274877906944 := by decide
  have h47 : (2 : Nat) ^ 47 = 140737488355328 := by decide
  have h63 : (2 : Nat) ^ 63 = 9223372036854775808 := by decide
  refine st_cmp h rfl rfl rfl rfl fun a h => ?_
  refine wpList_nil ?_
  refine cond_ h rfl (fun hb_if1 => ?_) (fun hb_if1 => ?_)
  · try simp only [decide_eq_true_eq, decide_eq_false_iff_not, Bool.not_eq_true', Bool.not_eq_false'] at hb_if1
    refine seq_ ?_
    refine reg_ ?_
    refine st_assign h rfl rfl fun a h => ?_
    refine wpList_nil ?_
    refine wp_ret ?_
    exact ret1 Tryz.results336 h (resv_tmp h rfl) ⟨_, rfl, h.grow0, _, _, _, rfl, by rw [show x = 0 from hl3 ▸ (nrm_zero hl2).2 (List.eq_nil_of_length_eq_zero (by omega)), Nat.zero_div]; exact natN_nil⟩
  · try simp only [decide_eq_true_eq, decide_eq_false_iff_not, Bool.not_eq_true', Bool.not_eq_false'] at hb_if1
    refine wp_skip ?_
    refine seq_ ?_
    refine reg_ ?_
    refine st_move h rfl rfl fun a h => ?_
    refine st_len h rfl Tryz.runUnderlying53 rfl fun a h => ?_
    refine st_move h rfl rfl fun a h => ?_
    refine st_subI h rfl rfl (by omega) rfl fun a h => ?_
    replace h := h.respell (u := .int .i64 (n2 : Int)) (congrArg _ (by omega))
    refine st_make (m := n2) (zs := [(.int .u32 0)]) h (rfl) (rfl) Tryz.runUnderlying53 Tryz.typeInfo276 rfl Tryz.sizeOf276 Tryz.zeroValue276 rfl rfl (by omega) rfl fun g6 w a h => ?_
    replace h := h.respellB (reps_u32s _)
    refine st_assign h rfl rfl fun a h => ?_
    refine wpList_nil ?_
    refine seq_ ?_
    refine seq_ ?_
    refine reg_ ?_
    refine st_move h rfl rfl fun a h => ?_
    refine st_len h rfl Tryz.runUnderlying53 rfl fun a h => ?_
    refine st_move h rfl rfl fun a h => ?_
    refine wpList_nil ?_
    refine wp_block ?_
    refine loop_ (fun m a w' => ∃ i o, i ≤ n2 ∧ o.length = n2 ∧ (∀ x ∈ o, x < 4294967296) ∧ val (o.take i) = val l / 2 ^ s % 4294967296 ^ i ∧ m = n2 - i ∧ St (fun b => b < W.heap.size) Ob W w' a 69 [(0, (.slice A1 n2 c3)), (5, (.int .i64 0)), (6, (.int .u64 ((s : Nat) : Int))), (7, (.slice (some ⟨g6, 0, none⟩) n2 n2)), (30, (.int .i64 (n2 : Int))), (31, (.int .i64 (i : Int)))] [(Rel.row32).fact [(.slice A1 n2 c3)] (l)] [(g6, 276, u32s o)]) (m := _) (⟨0, List.replicate n2 0, by omega, by simp, by simp, by simp [val]; omega, rfl, ((h.consL (t := 0) rfl (h.consL (t := 5) rfl (h.consL (t := 6) rfl (h.consL (t := 7) rfl (h.consL (t := 30) rfl (h.consL (t := 31) rfl h.nilL)))))).noFacts.add (h.fact 0 rfl))⟩) ?_
    clear h
    rintro m a w ⟨i, o, hp0, hp1, hp2, hp3, hm, h⟩
    by_cases hlt : i < n2
    · obtain ⟨b1, o1, rfl, _, _, _⟩ := row_get (h.fact 0 rfl) (i := i) (by omega)
      obtain ⟨x1, hx1⟩ : ∃ x, l[i]? = some x := ⟨_, List.getElem?_eq_getElem (by omega)⟩
      have hx1b := row_lt (h.fact 0 rfl) _ (List.mem_of_getElem? hx1)
      refine seq_ ?_
      refine reg_ ?_
      refine st_cmp h rfl rfl rfl rfl fun a h => ?_
      refine wpList_nil ?_
      refine seq_ ?_
      refine cond_t h rfl (by simp; omega) ?_
      refine wp_skip ?_
      refine seq_ ?_
      refine wp_block ?_
      refine seq_ ?_
      refine reg_ ?_
      refine st_move h rfl rfl fun a h => ?_
      refine st_assign h rfl rfl fun a h => ?_
      refine wpList_nil ?_
      refine seq_ ?_
      refine reg_ ?_
      refine st_move h rfl rfl fun a h => ?_
      refine st_move h rfl rfl fun a h => ?_
      refine st_move h rfl rfl fun a h => ?_
      refine st_addI h rfl rfl (by omega) rfl fun a h => ?_
      refine st_indexI (i) h rfl rfl Tryz.runUnderlying53 Tryz.sizeOf276 (by omega) (by omega) rfl fun a h => ?_
      refine st_load h rfl Tryz.isAgg276 (row_cell (h.fact 0 rfl) hx1) rfl fun a h => ?_
      refine st_to64 (p := x1) h rfl (by omega) Tryz.runUnderlying276 Tryz.runUnderlying317 rfl fun a h => ?_
      refine st_assign h rfl rfl fun a h => ?_
      refine wpList_nil ?_
      refine seq_ ?_
      refine seq_ ?_
      refine reg_ ?_
      refine st_move h rfl rfl fun a h => ?_
      refine st_move h rfl rfl fun a h => ?_
      refine st_addI h rfl rfl (by omega) rfl fun a h => ?_
      refine st_addI h rfl rfl (by omega) rfl fun a h => ?_
      refine st_move h rfl rfl fun a h => ?_
      refine st_len h rfl Tryz.runUnderlying53 rfl fun a h => ?_
      refine st_cmp h rfl rfl rfl rfl fun a h => ?_
      refine wpList_nil ?_
      refine cond_ h rfl (fun hb_if3 => ?_) (fun hb_if3 => ?_)
      · try simp only [decide_eq_true_eq, decide_eq_false_iff_not, Bool.not_eq_true', Bool.not_eq_false'] at hb_if3
        obtain ⟨y1, hy1⟩ : ∃ y, l[i + 1]? = some y := ⟨_, List.getElem?_eq_getElem (by omega)⟩
        have hy1b := row_lt (h.fact 0 rfl) _ (List.mem_of_getElem? hy1)
        refine reg_ ?_
        refine st_move h rfl rfl fun a h => ?_
        refine st_move h rfl rfl fun a h => ?_
        refine st_move h rfl rfl fun a h => ?_
        refine st_move h rfl rfl fun a h => ?_
        refine st_addI h rfl rfl (by omega) rfl fun a h => ?_
        refine st_addI h rfl rfl (by omega) rfl fun a h => ?_
        refine st_indexI (i + 1) h rfl rfl Tryz.runUnderlying53 Tryz.sizeOf276 (by omega) (by omega) rfl fun a h => ?_
        refine st_load h rfl Tryz.isAgg276 (row_cell (h.fact 0 rfl) hy1) rfl fun a h => ?_
        refine st_to64 (p := y1) h rfl (by omega) Tryz.runUnderlying276 Tryz.runUnderlying317 rfl fun a h => ?_
        refine st_shlN (p := y1) (m := 32) h rfl rfl (by omega) (by omega) rfl fun a h => ?_
        refine st_orM (k' := y1) (p := x1) (q := y1 * 2 ^ 32) h rfl rfl (by omega) (by omega) (by omega) rfl fun a h => ?_
        refine st_assign h rfl rfl fun a h => ?_
        refine wpList_nil ?_
        refine reg_ ?_
        refine st_move h rfl rfl fun a h => ?_
        refine st_move h rfl rfl fun a h => ?_
        refine st_move h rfl rfl fun a h => ?_
        refine st_move h rfl rfl fun a h => ?_
        refine st_shrN (p := x1 + y1 * 2 ^ 32) (m := s) h rfl rfl (by omega) rfl fun a h => ?_
        refine st_to32 (p := (x1 + y1 * 2 ^ 32) / 2 ^ s) h rfl Tryz.runUnderlying317 Tryz.runUnderlying276 rfl fun a h => ?_
        refine st_indexI (i) h rfl rfl Tryz.runUnderlying53 Tryz.sizeOf276 (rfl) (by omega) rfl fun a h => ?_
        refine st_storeU (i := i) h rfl rfl Tryz.sizeOf276 (by omega) fun w h => ?_
        refine wpList_nil ?_
        refine reg_ ?_
        refine st_addI h rfl rfl (by omega) rfl fun a h => ?_
        refine st_move h rfl rfl fun a h => ?_
        refine wpList_nil ?_
        have hstep := shr_step hs hx1 (.inl hy1) (by omega) hl2.1 hp3
        refine ⟨_, ?_, i + 1, o.set i (((x1 + y1 * 2 ^ 32) / 2 ^ s) % 4294967296), by omega, by simp only [List.length_set]; omega, set_lt hp2 _ _ (Nat.mod_lt _ (by decide)), hstep, rfl, ((h.consL (t := 0) rfl (h.consL (t := 5) rfl (h.consL (t := 6) rfl (h.consL (t := 7) rfl (h.consL (t := 30) rfl (h.consL (t := 31) rfl h.nilL)))))).noFacts.add (h.fact 0 rfl))⟩
        omega
      · try simp only [decide_eq_true_eq, decide_eq_false_iff_not, Bool.not_eq_true', Bool.not_eq_false'] at hb_if3
        refine wp_skip ?_
        refine reg_ ?_
        refine st_move h rfl rfl fun a h => ?_
        refine st_move h rfl rfl fun a h => ?_
        refine st_move h rfl rfl fun a h => ?_
        refine st_move h rfl rfl fun a h => ?_
        refine st_shrN (p := x1) (m := s) h rfl rfl (by omega) rfl fun a h => ?_
        refine st_to32 (p := (x1) / 2 ^ s) h rfl Tryz.runUnderlying317 Tryz.runUnderlying276 rfl fun a h => ?_
        refine st_indexI (i) h rfl rfl Tryz.runUnderlying53 Tryz.sizeOf276 (rfl) (by omega) rfl fun a h => ?_
        refine st_storeU (i := i) h rfl rfl Tryz.sizeOf276 (by omega) fun w h => ?_
        refine wpList_nil ?_
        refine reg_ ?_
        refine st_addI h rfl rfl (by omega) rfl fun a h => ?_
        refine st_move h rfl rfl fun a h => ?_
        refine wpList_nil ?_
        have hstep := shr_step (y := 0) hs hx1 (.inr ⟨by omega, rfl⟩) (by omega) hl2.1 hp3
        rw [Nat.zero_mul, Nat.add_zero] at hstep
        refine ⟨_, ?_, i + 1, o.set i (((x1) / 2 ^ s) % 4294967296), by omega, by simp only [List.length_set]; omega, set_lt hp2 _ _ (Nat.mod_lt _ (by decide)), hstep, rfl, ((h.consL (t := 0) rfl (h.consL (t := 5) rfl (h.consL (t := 6) rfl (h.consL (t := 7) rfl (h.consL (t := 30) rfl (h.consL (t := 31) rfl h.nilL)))))).noFacts.add (h.fact 0 rfl))⟩
        omega
    · skip
      refine seq_ ?_
      refine reg_ ?_
      refine st_cmp h rfl rfl rfl rfl fun a h => ?_
      refine wpList_nil ?_
      refine seq_ ?_
      refine cond_f h rfl (by simp; omega) ?_
      refine wp_exit ?_
      repeat refine then_exit ?_
      refine inBlock_exit ?_
      refine seq_ ?_
      refine reg_ ?_
      refine st_move h rfl rfl fun a h => ?_
      have hie : i = n2 := by omega
      have hlen := hp1
      have hvl := val_lt l hl2.1
      rw [List.take_of_length_le (l := o) (by omega), show i = l.length from by omega, Nat.mod_eq_of_lt (Nat.lt_of_le_of_lt (Nat.div_le_self _ _) hvl), hl3] at hp3
      have hrow := own_row32 (r := o) (n2) h (fun _ _ => rfl) hp2 (by omega) (by omega) (by omega)
      replace h := h.publish
      have h := h.add (f := Rel.natA.fact [.slice (some ⟨g6, 0, none⟩) n2 n2] (x / 2 ^ s)) ⟨_, hlen ▸ hrow, hp2, hp3⟩
      refine st_call h Tryz.func309 rfl rfl rfl (limb_cut _ _ (fun b => h.owns_lt) (h.fact 0 rfl)) rfl fun r w a hg hF h => ?_
      obtain ⟨A7, n8, c9, e11, f10⟩ := hF
      subst e11
      have h := h.add (f := (Rel.natN).fact [(.slice A7 n8 c9)] ((x / 2 ^ s))) f10
      refine st_assign h rfl rfl fun a h => ?_
      refine wpList_nil ?_
      refine wp_ret ?_
      exact ret1 Tryz.results336 h (resv_tmp h rfl) ⟨_, rfl, h.grow0, _, _, _, rfl, h.out 0 rfl⟩

set_option maxHeartbeats 1000000 in
theorem limb_wide (hO : ∀ b, Ob b → b < W.heap.size) {A : Option Addr} {m c x s n : Nat} (hx0 : Rel.natA.at_ W Ob [.slice A m c] x) (hsx : sz x ≤ 4294967400) (hs : s ≤ 31) (hn : n < 274877906944) (hv : x * 2 ^ s < 4294967296 ^ n) :
    Calls Tryz.prog 334 #[.slice A m c, .int .i64 (s : Int), .int .i64 (n : Int)] W fun e w' => ∃ r, e = .returned r ∧ Grow W w' ∧ ∃ g cs, W.heap.size ≤ g ∧ w'.heap[g]? = some (.cells cs.toArray 276 (0, 0)) ∧ r = .slice (some ⟨g, 0, none⟩) n n ∧ ∃ l, cs = u32s l ∧ l.length = n ∧ (∀ u ∈ l, u < 4294967296) ∧ val l = x * 2 ^ s := by
  have h38 : (2 : Nat) ^ 38 = 274877906944 := by decide
  refine enter (vs := [(.slice A m c), (.int .i64 (s : Int)), (.int .i64 (n : Int))]) (Ob := Ob) (K := fun b => b < W.heap.size) (Fs := [(Rel.natA).fact [.slice A m c] (x)]) Tryz.func334 rfl Tryz.ntmps334 rfl (fun _ h => h) hO (by simp only [List.mem_cons, List.not_mem_nil, or_false, forall_eq_or_imp, forall_eq, false_imp_iff, implies_true]; exact hx0) fun a h => ?_
  refine seq_ ?_
  refine reg_ ?_
  refine st_assign h rfl rfl fun a h => ?_
  refine wpList_nil ?_
  refine seq_ ?_
  refine reg_ ?_
  refine st_move h rfl rfl fun a h => ?_
  refine st_make (m := n) (zs := [(.int .u32 0)]) h (rfl) (rfl) Tryz.runUnderlying53 Tryz.typeInfo276 rfl Tryz.sizeOf276 Tryz.zeroValue276 rfl rfl (by omega) rfl fun g1 w a h => ?_
  replace h := h.respellB (reps_u32s _)
  refine st_assign h rfl rfl fun a h => ?_
  refine wpList_nil ?_
  refine seq_ ?_
  refine reg_ ?_
  refine st_move h rfl rfl fun a h => ?_
  refine st_move h rfl rfl fun a h => ?_
  refine st_move h rfl rfl fun a h => ?_
  refine st_call h Tryz.func338 rfl rfl rfl (limb_Shl _ _ (fun b => h.owns_lt) (h.fact 0 rfl) (by omega) (by omega)) rfl fun r w a hg hF h => ?_
  obtain ⟨A2, n3, c4, e6, f5⟩ := hF
  subst e6
  have h := h.add (f := (Rel.natN).fact [(.slice A2 n3 c4)] ((x) * 2 ^ (s))) f5
  obtain ⟨l, hl1, hl2, hl3⟩ := h.fact 0 rfl
  obtain ⟨el, _, _⟩ := row_open hl1
  have hle : l.length ≤ n := nrm_le_pow hl2 (by rw [hl3]; exact hv)
  subst el
  refine st_copy (m' := l.length) h 0 rfl rfl rfl Tryz.runUnderlying53 Tryz.sizeOf276 rfl (fun _ => rfl) (Nat.min_eq_left hle) (src_row32 hl1) (by rw [length_u32s, length_u32s, List.length_replicate]; omega) (u32s_one l) rfl fun w a h => ?_
  replace h := h.respellB (cs' := u32s (l ++ List.replicate (n - l.length) 0)) (by rw [upd_u32s_row _ _ (by rw [List.length_replicate]; exact hle), List.drop_replicate])
  refine wpList_nil ?_
  refine seq_ ?_
  refine reg_ ?_
  refine st_move h rfl rfl fun a h => ?_
  refine st_assign h rfl rfl fun a h => ?_
  refine wpList_nil ?_
  refine wp_ret ?_
  refine ret1 Tryz.results334 h (resv_tmp h rfl) ⟨_, rfl, h.grow0, _, _, Nat.le_of_not_lt (h.own _ _ _ (List.mem_cons_self ..)).1, h.own0, rfl, _, rfl, by simp; omega, fun u hu => ?_, by rw [val_pad, hl3]⟩
  rcases List.mem_append.1 hu with hu | hu
  · exact hl2.1 u hu
  · have := List.eq_of_mem_replicate hu; omega

set_option maxHeartbeats 1000000 in
theorem limb_digit (hO : ∀ b, Ob b → b < W.heap.size) {g n c cx top nx xn x1 x2 : Nat} {A : Option Addr} {pre x post ly : List Nat} (hg : W.heap[g]? = some (.cells (u32s (pre ++ x ++ post)).toArray 276 (0, 0))) (hgO : ¬ Ob g) (hx0 : Rel.row32.at_ W (owns Ob [(g, 276, u32s (pre ++ x ++ post))]) [.slice A n c] ly)
    (hn38 : n < 274877906944) (D : Dig x ly n top nx xn x1 x2) :
    Calls Tryz.prog 335 #[.slice (some ⟨g, pre.length, none⟩) x.length cx, .slice A n c] W fun e w' => ∃ r, e = .returned r ∧ ∃ cs', Wrote W w' g 276 cs' ∧ ∃ x', cs' = u32s (pre ++ x' ++ post) ∧ x'.length = x.length ∧ (∀ u ∈ x', u < 4294967296) ∧ r = .int .u32 ((val x / val ly : Nat) : Int) ∧ val x' = val x % val ly := by
  have hxl := D.hx
  have hxb := D.xb
  have hll := D.hl
  have hn2 := D.hn
  have hbd := D.bnd
  have e32 : (2 : Nat) ^ 32 = 4294967296 := by decide
  have hhd : x1 + xn * 2 ^ 32 < 18446744073709551616 := by omega
  obtain ⟨b1, o1, rfl, _, _, _⟩ := row_get hx0 (i := 0) (by omega)
  refine enterOwn (vs := [(.slice (some ⟨g, pre.length, none⟩) x.length cx), (.slice (some ⟨b1, o1, none⟩) n c)]) (Ob := Ob) (Fs := [(Rel.row32).fact [.slice (some ⟨b1, o1, none⟩) n c] (ly)]) (g := g) (E := 276) (cs := u32s (pre ++ x ++ post)) Tryz.func335 rfl Tryz.ntmps335 rfl hO hg hgO (by simp only [List.mem_cons, List.not_mem_nil, or_false, forall_eq_or_imp, forall_eq, false_imp_iff, implies_true]; exact hx0) fun a h => ?_
  refine seq_ ?_
  refine reg_ ?_
  refine st_assign h rfl rfl fun a h => ?_
  refine wpList_nil ?_
  refine seq_ ?_
  refine reg_ ?_
  refine st_move h rfl rfl fun a h => ?_
  refine st_len h rfl Tryz.runUnderlying53 rfl fun a h => ?_
  refine st_assign h rfl rfl fun a h => ?_
  refine wpList_nil ?_
  refine seq_ ?_
  refine draw0_ mixed_ 13 [some 24, some 25, some 26, some 27, some 28, some 29, some 30, some 31, some 32, some 33, some 34, some 35, some 6] [[], [], [1], [0, 2], [3], [4], [], [], [7], [6, 8], [9], [10], [5]] [(eqF (.slice (some ⟨b1, o1, none⟩) n c)), (eqF (.int .i64 (n : Int))), (eqF (.int .i64 ((n : Int) - 1))), (eqF (.pointer (some ⟨b1, (o1 + (n - 1) * 1), none⟩))), (eqF (.int .u32 (top : Int))), (eqF (.int .u64 ((top : Nat) : Int))), (eqF (.slice (some ⟨b1, o1, none⟩) n c)), (eqF (.int .i64 (n : Int))), (eqF (.int .i64 ((n : Int) - 2))), (eqF (.pointer (some ⟨b1, (o1 + (n - 2) * 1), none⟩))), (eqF (.int .u32 (nx : Int))), (eqF (.int .u64 ((nx : Nat) : Int))), (eqF (.int .u64 ((top : Nat) : Int)))] rfl h rfl ⟨?_, ?_, ?_, ?_, ?_, ?_, ?_, ?_, ?_, ?_, ?_, ?_, ?_, trivial⟩ ?_
  · intro dp hdp0 hdp dv Fx a w h
    refine st_move h rfl rfl fun a h => ?_
    refine wpList_nil ⟨rfl, ?_⟩
    exact ⟨_, h.drawEnd (F' := []) rfl rfl⟩
  · intro dp hdp0 hdp dv Fx a w h
    refine st_move h rfl rfl fun a h => ?_
    refine wpList_nil ⟨rfl, ?_⟩
    exact ⟨_, h.drawEnd (F' := []) rfl rfl⟩
  · intro dp hdp0 hdp dv Fx a w h
    have e1 : dv 1 = (.int .i64 (n : Int)) := h.fact 0 rfl
    replace h := (h.spellE (t := 25) e1 rfl h)
    refine st_subI h rfl rfl (by omega) rfl fun a h => ?_
    refine wpList_nil ⟨rfl, ?_⟩
    exact ⟨_, h.drawEnd (F' := [_]) rfl rfl⟩
  · intro dp hdp0 hdp dv Fx a w h
    have e2 : dv 0 = (.slice (some ⟨b1, o1, none⟩) n c) := h.fact 0 rfl
    have e3 : dv 2 = (.int .i64 ((n : Int) - 1)) := h.fact 1 rfl
    replace h := (h.spellE (t := 26) e3 rfl (h.spellE (t := 24) e2 rfl h))
    refine st_indexI (n - 1) h rfl rfl Tryz.runUnderlying53 Tryz.sizeOf276 (by omega) (by omega) rfl fun a h => ?_
    refine wpList_nil ⟨rfl, ?_⟩
    exact ⟨_, h.drawEnd (F' := [_, _]) rfl rfl⟩
  · intro dp hdp0 hdp dv Fx a w h
    have e4 : dv 3 = (.pointer (some ⟨b1, (o1 + (n - 1) * 1), none⟩)) := h.fact 0 rfl
    replace h := (h.spellE (t := 27) e4 rfl h)
    refine st_load h rfl Tryz.isAgg276 (row_cell (h.fact 1 rfl) D.ltop) rfl fun a h => ?_
    refine wpList_nil ⟨rfl, ?_⟩
    exact ⟨_, h.drawEnd (F' := [_]) rfl rfl⟩
  · intro dp hdp0 hdp dv Fx a w h
    have e5 : dv 4 = (.int .u32 (top : Int)) := h.fact 0 rfl
    replace h := (h.spellE (t := 28) e5 rfl h)
    refine st_to64 (p := top) h rfl (by omega) Tryz.runUnderlying276 Tryz.runUnderlying317 rfl fun a h => ?_
    refine wpList_nil ⟨rfl, ?_⟩
    exact ⟨_, h.drawEnd (F' := [_]) rfl rfl⟩
  · intro dp hdp0 hdp dv Fx a w h
    refine st_move h rfl rfl fun a h => ?_
    refine wpList_nil ⟨rfl, ?_⟩
    exact ⟨_, h.drawEnd (F' := []) rfl rfl⟩
  · intro dp hdp0 hdp dv Fx a w h
    refine st_move h rfl rfl fun a h => ?_
    refine wpList_nil ⟨rfl, ?_⟩
    exact ⟨_, h.drawEnd (F' := []) rfl rfl⟩
  · intro dp hdp0 hdp dv Fx a w h
    have e6 : dv 7 = (.int .i64 (n : Int)) := h.fact 0 rfl
    replace h := (h.spellE (t := 31) e6 rfl h)
    refine st_subI h rfl rfl (by omega) rfl fun a h => ?_
    refine wpList_nil ⟨rfl, ?_⟩
    exact ⟨_, h.drawEnd (F' := [_]) rfl rfl⟩
  · intro dp hdp0 hdp dv Fx a w h
    have e7 : dv 6 = (.slice (some ⟨b1, o1, none⟩) n c) := h.fact 0 rfl
    have e8 : dv 8 = (.int .i64 ((n : Int) - 2)) := h.fact 1 rfl
    replace h := (h.spellE (t := 32) e8 rfl (h.spellE (t := 30) e7 rfl h))
    refine st_indexI (n - 2) h rfl rfl Tryz.runUnderlying53 Tryz.sizeOf276 (by omega) (by omega) rfl fun a h => ?_
    refine wpList_nil ⟨rfl, ?_⟩
    exact ⟨_, h.drawEnd (F' := [_, _]) rfl rfl⟩
  · intro dp hdp0 hdp dv Fx a w h
    have e9 : dv 9 = (.pointer (some ⟨b1, (o1 + (n - 2) * 1), none⟩)) := h.fact 0 rfl
    replace h := (h.spellE (t := 33) e9 rfl h)
    refine st_load h rfl Tryz.isAgg276 (row_cell (h.fact 1 rfl) D.lnx) rfl fun a h => ?_
    refine wpList_nil ⟨rfl, ?_⟩
    exact ⟨_, h.drawEnd (F' := [_]) rfl rfl⟩
  · intro dp hdp0 hdp dv Fx a w h
    have e10 : dv 10 = (.int .u32 (nx : Int)) := h.fact 0 rfl
    replace h := (h.spellE (t := 34) e10 rfl h)
    refine st_to64 (p := nx) h rfl (by omega) Tryz.runUnderlying276 Tryz.runUnderlying317 rfl fun a h => ?_
    refine wpList_nil ⟨rfl, ?_⟩
    exact ⟨_, h.drawEnd (F' := [_]) rfl rfl⟩
  · intro dp hdp0 hdp dv Fx a w h
    have e11 : dv 5 = (.int .u64 ((top : Nat) : Int)) := h.fact 0 rfl
    replace h := (h.spellE (t := 29) e11 rfl h)
    refine st_assign h rfl rfl fun a h => ?_
    refine wpList_nil ⟨rfl, ?_⟩
    exact ⟨_, h.drawEnd (F' := [_]) rfl rfl⟩
  intro dv a w h
  have e12 : dv 11 = (.int .u64 ((nx : Nat) : Int)) := h.fact 11 rfl
  have e13 : dv 12 = (.int .u64 ((top : Nat) : Int)) := h.fact 12 rfl
  have h2 := (h.spellE (t := 6) e13 rfl (h.spellE (t := 35) e12 rfl (h.consL (t := 5) rfl (h.consL (t := 4) rfl (h.consL (t := 1) rfl (h.consL (t := 0) rfl h.nilL))))))
  have h3 := h2.noFacts
  have h3 := h3.add (h2.fact 13 rfl)
  clear h2
  replace h := h3
  clear h3
  refine st_assign h rfl rfl fun a h => ?_
  refine wpList_nil ?_
  refine seq_ ?_
  refine draw0_ mixed_ 12 [some 36, some 37, some 38, some 39, some 40, some 41, some 42, some 43, some 44, some 45, some 46, some 47] [[], [], [0, 1], [2], [3], [4], [], [], [7], [6, 8], [9], [10]] [(eqF (.slice (some ⟨g, pre.length, none⟩) x.length cx)), (eqF (.int .i64 (n : Int))), (eqF (.pointer (some ⟨g, (pre.length + (n) * 1), none⟩))), (eqF (.int .u32 (xn : Int))), (eqF (.int .u64 ((xn : Nat) : Int))), (eqF (.int .u64 (((xn) * 2 ^ 32 : Nat) : Int))), (eqF (.slice (some ⟨g, pre.length, none⟩) x.length cx)), (eqF (.int .i64 (n : Int))), (eqF (.int .i64 ((n : Int) - 1))), (eqF (.pointer (some ⟨g, (pre.length + (n - 1) * 1), none⟩))), (eqF (.int .u32 (x1 : Int))), (eqF (.int .u64 ((x1 : Nat) : Int)))] rfl h rfl ⟨?_, ?_, ?_, ?_, ?_, ?_, ?_, ?_, ?_, ?_, ?_, ?_, trivial⟩ ?_
  · intro dp hdp0 hdp dv Fx a w h
    refine st_move h rfl rfl fun a h => ?_
    refine wpList_nil ⟨rfl, ?_⟩
    exact ⟨_, h.drawEnd (F' := []) rfl rfl⟩
  · intro dp hdp0 hdp dv Fx a w h
    refine st_move h rfl rfl fun a h => ?_
    refine wpList_nil ⟨rfl, ?_⟩
    exact ⟨_, h.drawEnd (F' := []) rfl rfl⟩
  · intro dp hdp0 hdp dv Fx a w h
    have e14 : dv 0 = (.slice (some ⟨g, pre.length, none⟩) x.length cx) := h.fact 0 rfl
    have e15 : dv 1 = (.int .i64 (n : Int)) := h.fact 1 rfl
    replace h := (h.spellE (t := 37) e15 rfl (h.spellE (t := 36) e14 rfl h))
    refine st_indexI (n) h rfl rfl Tryz.runUnderlying53 Tryz.sizeOf276 (rfl) (by omega) rfl fun a h => ?_
    refine wpList_nil ⟨rfl, ?_⟩
    exact ⟨_, h.drawEnd (F' := [_, _]) rfl rfl⟩
  · intro dp hdp0 hdp dv Fx a w h
    have e16 : dv 2 = (.pointer (some ⟨g, (pre.length + (n) * 1), none⟩)) := h.fact 0 rfl
    replace h := (h.spellE (t := 38) e16 rfl h)
    refine st_load h rfl Tryz.isAgg276 (h.cellW D.xn) rfl fun a h => ?_
    refine wpList_nil ⟨rfl, ?_⟩
    exact ⟨_, h.drawEnd (F' := [_]) rfl rfl⟩
  · intro dp hdp0 hdp dv Fx a w h
    have e17 : dv 3 = (.int .u32 (xn : Int)) := h.fact 0 rfl
    replace h := (h.spellE (t := 39) e17 rfl h)
    refine st_to64 (p := xn) h rfl (by omega) Tryz.runUnderlying276 Tryz.runUnderlying317 rfl fun a h => ?_
    refine wpList_nil ⟨rfl, ?_⟩
    exact ⟨_, h.drawEnd (F' := [_]) rfl rfl⟩
  · intro dp hdp0 hdp dv Fx a w h
    have e18 : dv 4 = (.int .u64 ((xn : Nat) : Int)) := h.fact 0 rfl
    replace h := (h.spellE (t := 40) e18 rfl h)
    refine st_shlN (p := xn) (m := 32) h rfl rfl (by omega) (by omega) rfl fun a h => ?_
    refine wpList_nil ⟨rfl, ?_⟩
    exact ⟨_, h.drawEnd (F' := [_]) rfl rfl⟩
  · intro dp hdp0 hdp dv Fx a w h
    refine st_move h rfl rfl fun a h => ?_
    refine wpList_nil ⟨rfl, ?_⟩
    exact ⟨_, h.drawEnd (F' := []) rfl rfl⟩
  · intro dp hdp0 hdp dv Fx a w h
    refine st_move h rfl rfl fun a h => ?_
    refine wpList_nil ⟨rfl, ?_⟩
    exact ⟨_, h.drawEnd (F' := []) rfl rfl⟩
  · intro dp hdp0 hdp dv Fx a w h
    have e19 : dv 7 = (.int .i64 (n : Int)) := h.fact 0 rfl
    replace h := (h.spellE (t := 43) e19 rfl h)
    refine st_subI h rfl rfl (by omega) rfl fun a h => ?_
    refine wpList_nil ⟨rfl, ?_⟩
    exact ⟨_, h.drawEnd (F' := [_]) rfl rfl⟩
  · intro dp hdp0 hdp dv Fx a w h
    have e20 : dv 6 = (.slice (some ⟨g, pre.length, none⟩) x.length cx) := h.fact 0 rfl
    have e21 : dv 8 = (.int .i64 ((n : Int) - 1)) := h.fact 1 rfl
    replace h := (h.spellE (t := 44) e21 rfl (h.spellE (t := 42) e20 rfl h))
    refine st_indexI (n - 1) h rfl rfl Tryz.runUnderlying53 Tryz.sizeOf276 (by omega) (by omega) rfl fun a h => ?_
    refine wpList_nil ⟨rfl, ?_⟩
    exact ⟨_, h.drawEnd (F' := [_, _]) rfl rfl⟩
  · intro dp hdp0 hdp dv Fx a w h
    have e22 : dv 9 = (.pointer (some ⟨g, (pre.length + (n - 1) * 1), none⟩)) := h.fact 0 rfl
    replace h := (h.spellE (t := 45) e22 rfl h)
    refine st_load h rfl Tryz.isAgg276 (h.cellW D.x1) rfl fun a h => ?_
    refine wpList_nil ⟨rfl, ?_⟩
    exact ⟨_, h.drawEnd (F' := [_]) rfl rfl⟩
  · intro dp hdp0 hdp dv Fx a w h
    have e23 : dv 10 = (.int .u32 (x1 : Int)) := h.fact 0 rfl
    replace h := (h.spellE (t := 46) e23 rfl h)
    refine st_to64 (p := x1) h rfl (by omega) Tryz.runUnderlying276 Tryz.runUnderlying317 rfl fun a h => ?_
    refine wpList_nil ⟨rfl, ?_⟩
    exact ⟨_, h.drawEnd (F' := [_]) rfl rfl⟩
  intro dv a w h
  have e24 : dv 5 = (.int .u64 (((xn) * 2 ^ 32 : Nat) : Int)) := h.fact 5 rfl
  have e25 : dv 11 = (.int .u64 ((x1 : Nat) : Int)) := h.fact 11 rfl
  have h2 := (h.spellE (t := 47) e25 rfl (h.spellE (t := 41) e24 rfl (h.consL (t := 7) rfl (h.consL (t := 6) rfl (h.consL (t := 5) rfl (h.consL (t := 4) rfl (h.consL (t := 1) rfl (h.consL (t := 0) rfl h.nilL))))))))
  have h3 := h2.noFacts
  have h3 := h3.add (h2.fact 12 rfl)
  clear h2
  replace h := h3
  clear h3
  refine st_orN (k' := xn) (p := (xn) * 2 ^ 32) (q := x1) h rfl rfl (by omega) (by omega) (by omega) rfl fun a h => ?_
  refine st_assign h rfl rfl fun a h => ?_
  refine wpList_nil ?_
  refine seq_ ?_
  refine reg_ ?_
  refine st_move h rfl rfl fun a h => ?_
  refine st_move h rfl rfl fun a h => ?_
  refine st_quoN (p := ((xn) * 2 ^ 32) + x1) (q := top) h rfl rfl (by omega) (D.top0) rfl fun a h => ?_
  refine st_assign h rfl rfl fun a h => ?_
  refine wpList_nil ?_
  refine seq_ ?_
  refine reg_ ?_
  refine st_move h rfl rfl fun a h => ?_
  refine st_move h rfl rfl fun a h => ?_
  refine st_remN (p := ((xn) * 2 ^ 32) + x1) (q := top) h rfl rfl (D.top0) rfl fun a h => ?_
  refine st_assign h rfl rfl fun a h => ?_
  refine wpList_nil ?_
  refine seq_ ?_
  refine blk_cut (fun a w' => ∃ gq, val x / val ly ≤ gq ∧ (gq - 1) * val ly ≤ val x ∧ gq ≤ 4294967296 ∧ St (fun b => b < W.heap.size ∧ b ≠ g) Ob W w' a 170 [(0, (.slice (some ⟨g, pre.length, none⟩) x.length cx)), (1, (.slice (some ⟨b1, o1, none⟩) n c)), (5, (.int .i64 (n : Int))), (9, (.int .u64 ((gq : Nat) : Int)))] [(Rel.row32).fact [.slice (some ⟨b1, o1, none⟩) n c] (ly)] [(g, 276, u32s (pre ++ x ++ post))]) ?_ ?_
  · skip
    refine wp_block ?_
    refine loop_ (fun m a w' => ∃ gq r, gq * top + r = xn * 2 ^ 32 + x1 ∧ val x / val ly ≤ gq ∧ r < 4294967296 ∧ gq < 18446744073709551616 ∧ m = 4294967296 - r ∧ St (fun b => b < W.heap.size ∧ b ≠ g) Ob W w' a 170 [(0, (.slice (some ⟨g, pre.length, none⟩) x.length cx)), (1, (.slice (some ⟨b1, o1, none⟩) n c)), (5, (.int .i64 (n : Int))), (6, (.int .u64 ((top : Nat) : Int))), (7, (.int .u64 ((nx : Nat) : Int))), (9, (.int .u64 ((gq : Nat) : Int))), (10, (.int .u64 ((r : Nat) : Int)))] [(Rel.row32).fact [.slice (some ⟨b1, o1, none⟩) n c] (ly)] [(g, 276, u32s (pre ++ x ++ post))]) (m := _) (⟨(xn * 2 ^ 32 + x1) / top, (xn * 2 ^ 32 + x1) % top, by rw [Nat.mul_comm]; exact Nat.div_add_mod _ _, D.start, Nat.lt_trans (Nat.mod_lt _ D.top0) D.bnd.1, Nat.lt_of_le_of_lt (Nat.div_le_self _ _) (by rw [Nat.add_comm]; exact hhd), rfl, ((h.consL (t := 0) rfl (h.consL (t := 1) rfl (h.consL (t := 5) rfl (h.consL (t := 6) rfl (h.consL (t := 7) rfl (h.consL (t := 9) rfl (h.consL (t := 10) rfl h.nilL))))))).noFacts.add (h.fact 0 rfl))⟩) ?_
    clear h
    rintro m a w ⟨gq, r, hp0, hp1, hp2, hp3, hm, h⟩
    rcases Nat.lt_or_ge gq 4294967296 with hlt | hge
    · have hbd := D.bnd
      have hgn := mul_le_limb (x := gq) (y := nx) (by omega) hbd.2.1
      refine seq_ ?_
      refine seq_ ?_
      refine reg_ ?_
      refine st_move h rfl rfl fun a h => ?_
      refine st_cmp h rfl rfl rfl rfl fun a h => ?_
      refine st_move h rfl rfl fun a h => ?_
      refine guard_run h rfl rfl (by simp; omega) ?_
      refine st_move h rfl rfl fun a h => ?_
      refine guard_run h rfl rfl (by simp; omega) ?_
      refine st_move h rfl rfl fun a h => ?_
      refine guard_run h rfl rfl (by simp; omega) ?_
      refine st_mulN (p := gq) (q := nx) h rfl rfl (by omega) rfl fun a h => ?_
      refine guard_run h rfl rfl (by simp; omega) ?_
      refine st_move h rfl rfl fun a h => ?_
      refine guard_run h rfl rfl (by simp; omega) ?_
      refine st_shlN (p := r) (m := 32) h rfl rfl (by omega) (by omega) rfl fun a h => ?_
      refine guard_run h rfl rfl (by simp; omega) ?_
      refine st_move h rfl rfl fun a h => ?_
      refine guard_run h rfl rfl (by simp; omega) ?_
      refine st_move h rfl rfl fun a h => ?_
      refine guard_run h rfl rfl (by simp; omega) ?_
      refine st_subI h rfl rfl (by omega) rfl fun a h => ?_
      refine guard_run h rfl rfl (by simp; omega) ?_
      refine st_indexI (n - 2) h rfl rfl Tryz.runUnderlying53 Tryz.sizeOf276 (by omega) (by omega) rfl fun a h => ?_
      refine guard_run h rfl rfl (by simp; omega) ?_
      refine st_load h rfl Tryz.isAgg276 (h.cellW D.x2) rfl fun a h => ?_
      refine guard_run h rfl rfl (by simp; omega) ?_
      refine st_to64 (p := x2) h rfl (by omega) Tryz.runUnderlying276 Tryz.runUnderlying317 rfl fun a h => ?_
      refine guard_run h rfl rfl (by simp; omega) ?_
      refine st_orN (k' := r) (p := (r) * 2 ^ 32) (q := x2) h rfl rfl (by omega) (by omega) (by omega) rfl fun a h => ?_
      refine guard_run h rfl rfl (by simp; omega) ?_
      refine st_cmp h rfl rfl rfl rfl fun a h => ?_
      refine st_pickF h rfl (by simp; omega) rfl rfl fun a h => ?_
      refine wpList_nil ?_
      refine cond_ h rfl (fun hb_if1 => ?_) (fun hb_if1 => ?_)
      · try simp only [decide_eq_true_eq, decide_eq_false_iff_not, Bool.not_eq_true', Bool.not_eq_false'] at hb_if1
        have hrd := D.round hp0 hp1 (.inr (by omega))
        refine wp_skip ?_
        refine wp_block ?_
        refine seq_ ?_
        refine reg_ ?_
        refine st_move h rfl rfl fun a h => ?_
        refine st_subN (p := gq) (q := 1) h rfl rfl (by omega) rfl fun a h => ?_
        refine st_assign h rfl rfl fun a h => ?_
        refine wpList_nil ?_
        refine seq_ ?_
        refine reg_ ?_
        refine st_move h rfl rfl fun a h => ?_
        refine st_move h rfl rfl fun a h => ?_
        refine st_addN (p := r) (q := top) h rfl rfl (by omega) rfl fun a h => ?_
        refine st_assign h rfl rfl fun a h => ?_
        refine wpList_nil ?_
        refine seq_ ?_
        refine reg_ ?_
        refine st_move h rfl rfl fun a h => ?_
        refine st_cmp h rfl rfl rfl rfl fun a h => ?_
        refine wpList_nil ?_
        refine cond_ h rfl (fun hb_if2 => ?_) (fun hb_if2 => ?_)
        · try simp only [decide_eq_true_eq, decide_eq_false_iff_not, Bool.not_eq_true', Bool.not_eq_false'] at hb_if2
          refine wp_exit ?_
          repeat refine then_exit ?_
          refine inBlock_other rfl ?_
          repeat refine then_exit ?_
          refine inBlock_exit ?_
          have hfin := hrd.2.2.2 (by omega)
          exact ⟨gq - 1, hrd.2.1, hfin.1, hfin.2, ((h.consL (t := 0) rfl (h.consL (t := 1) rfl (h.consL (t := 5) rfl ((h.consL (t := 9) rfl h.nilL).respell (congrArg (fun z : Nat => Go.Value.int .u64 (z : Int)) (dec64 hrd.1 hp3)))))).noFacts.add (h.fact 0 rfl))⟩
        · try simp only [decide_eq_true_eq, decide_eq_false_iff_not, Bool.not_eq_true', Bool.not_eq_false'] at hb_if2
          refine wp_skip ?_
          refine ⟨_, ?_, gq - 1, r + top, hrd.2.2.1, hrd.2.1, by omega, by omega, rfl, ((h.consL (t := 0) rfl (h.consL (t := 1) rfl (h.consL (t := 5) rfl (h.consL (t := 6) rfl (h.consL (t := 7) rfl ((h.consL (t := 9) rfl (h.consL (t := 10) rfl h.nilL)).respell (congrArg (fun z : Nat => Go.Value.int .u64 (z : Int)) (dec64 hrd.1 hp3)))))))).noFacts.add (h.fact 0 rfl))⟩
          have := D.top0; omega
      · try simp only [decide_eq_true_eq, decide_eq_false_iff_not, Bool.not_eq_true', Bool.not_eq_false'] at hb_if1
        refine wp_exit ?_
        repeat refine then_exit ?_
        refine inBlock_exit ?_
        exact ⟨gq, hp1, D.fin hp0 (by omega) (by omega), by omega, ((h.consL (t := 0) rfl (h.consL (t := 1) rfl (h.consL (t := 5) rfl (h.consL (t := 9) rfl h.nilL)))).noFacts.add (h.fact 0 rfl))⟩
    · have hrd := D.round hp0 hp1 (.inl hge)
      have hbd := D.bnd
      refine seq_ ?_
      refine seq_ ?_
      refine reg_ ?_
      refine st_move h rfl rfl fun a h => ?_
      refine st_cmp h rfl rfl rfl rfl fun a h => ?_
      refine st_move h rfl rfl fun a h => ?_
      refine guard_skip h rfl rfl (by simp; omega) rfl fun a h => ?_
      refine guard_skip h rfl rfl (by simp; omega) rfl fun a h => ?_
      refine guard_skip h rfl rfl (by simp; omega) rfl fun a h => ?_
      refine guard_skip h rfl rfl (by simp; omega) rfl fun a h => ?_
      refine guard_skip h rfl rfl (by simp; omega) rfl fun a h => ?_
      refine guard_skip h rfl rfl (by simp; omega) rfl fun a h => ?_
      refine guard_skip h rfl rfl (by simp; omega) rfl fun a h => ?_
      refine guard_skip h rfl rfl (by simp; omega) rfl fun a h => ?_
      refine guard_skip h rfl rfl (by simp; omega) rfl fun a h => ?_
      refine guard_skip h rfl rfl (by simp; omega) rfl fun a h => ?_
      refine guard_skip h rfl rfl (by simp; omega) rfl fun a h => ?_
      refine guard_skip h rfl rfl (by simp; omega) rfl fun a h => ?_
      refine guard_skip h rfl rfl (by simp; omega) rfl fun a h => ?_
      refine st_pickT h rfl (by simp; omega) rfl rfl fun a h => ?_
      refine wpList_nil ?_
      refine cond_t h rfl (rfl) ?_
      refine wp_skip ?_
      refine wp_block ?_
      refine seq_ ?_
      refine reg_ ?_
      refine st_move h rfl rfl fun a h => ?_
      refine st_subN (p := gq) (q := 1) h rfl rfl (by omega) rfl fun a h => ?_
      refine st_assign h rfl rfl fun a h => ?_
      refine wpList_nil ?_
      refine seq_ ?_
      refine reg_ ?_
      refine st_move h rfl rfl fun a h => ?_
      refine st_move h rfl rfl fun a h => ?_
      refine st_addN (p := r) (q := top) h rfl rfl (by omega) rfl fun a h => ?_
      refine st_assign h rfl rfl fun a h => ?_
      refine wpList_nil ?_
      refine seq_ ?_
      refine reg_ ?_
      refine st_move h rfl rfl fun a h => ?_
      refine st_cmp h rfl rfl rfl rfl fun a h => ?_
      refine wpList_nil ?_
      refine cond_ h rfl (fun hb_if2 => ?_) (fun hb_if2 => ?_)
      · try simp only [decide_eq_true_eq, decide_eq_false_iff_not, Bool.not_eq_true', Bool.not_eq_false'] at hb_if2
        refine wp_exit ?_
        repeat refine then_exit ?_
        refine inBlock_other rfl ?_
        repeat refine then_exit ?_
        refine inBlock_exit ?_
        have hfin := hrd.2.2.2 (by omega)
        exact ⟨gq - 1, hrd.2.1, hfin.1, hfin.2, ((h.consL (t := 0) rfl (h.consL (t := 1) rfl (h.consL (t := 5) rfl ((h.consL (t := 9) rfl h.nilL).respell (congrArg (fun z : Nat => Go.Value.int .u64 (z : Int)) (dec64 hrd.1 hp3)))))).noFacts.add (h.fact 0 rfl))⟩
      · try simp only [decide_eq_true_eq, decide_eq_false_iff_not, Bool.not_eq_true', Bool.not_eq_false'] at hb_if2
        refine wp_skip ?_
        refine ⟨_, ?_, gq - 1, r + top, hrd.2.2.1, hrd.2.1, by omega, by omega, rfl, ((h.consL (t := 0) rfl (h.consL (t := 1) rfl (h.consL (t := 5) rfl (h.consL (t := 6) rfl (h.consL (t := 7) rfl ((h.consL (t := 9) rfl (h.consL (t := 10) rfl h.nilL)).respell (congrArg (fun z : Nat => Go.Value.int .u64 (z : Int)) (dec64 hrd.1 hp3)))))))).noFacts.add (h.fact 0 rfl))⟩
        have := D.top0; omega
  · clear h
    rintro a w ⟨gq, hq0, hq1, hq2, h⟩
    refine seq_ ?_
    refine reg_ ?_
    refine st_assign h rfl rfl fun a h => ?_
    refine st_assign h rfl rfl fun a h => ?_
    refine wpList_nil ?_
    refine seq_ ?_
    refine seq_ ?_
    refine reg_ ?_
    refine st_move h rfl rfl fun a h => ?_
    refine st_len h rfl Tryz.runUnderlying53 rfl fun a h => ?_
    refine st_move h rfl rfl fun a h => ?_
    refine wpList_nil ?_
    refine wp_block ?_
    refine loop_ (fun m a w' => ∃ i o cy bw, i ≤ n ∧ o.length = n + 1 ∧ (∀ u ∈ o, u < 4294967296) ∧ bw ≤ 1 ∧ cy < 4294967296 ∧ val (o.take i) + gq * val (ly.take i) = val (x.take i) + (cy + bw) * 4294967296 ^ i ∧ o.drop i = x.drop i ∧ m = n - i ∧ St (fun b => b < W.heap.size ∧ b ≠ g) Ob W w' a 170 [(0, (.slice (some ⟨g, pre.length, none⟩) x.length cx)), (1, (.slice (some ⟨b1, o1, none⟩) n c)), (5, (.int .i64 (n : Int))), (9, (.int .u64 ((gq : Nat) : Int))), (11, (.int .u64 ((cy : Nat) : Int))), (12, (.int .u64 ((bw : Nat) : Int))), (79, (.slice (some ⟨b1, o1, none⟩) n c)), (80, (.int .i64 (n : Int))), (81, (.int .i64 (i : Int)))] [(Rel.row32).fact [.slice (some ⟨b1, o1, none⟩) n c] (ly)] [(g, 276, u32s (pre ++ o ++ post))]) (m := _) (⟨0, x, 0, 0, by omega, hxl, hxb, by omega, by omega, by simp [val], rfl, rfl, ((h.consL (t := 0) rfl (h.consL (t := 1) rfl (h.consL (t := 5) rfl (h.consL (t := 9) rfl (h.consL (t := 11) rfl (h.consL (t := 12) rfl (h.consL (t := 79) rfl (h.consL (t := 80) rfl (h.consL (t := 81) rfl h.nilL))))))))).noFacts.add (h.fact 0 rfl))⟩) ?_
    clear h
    rintro m a w ⟨i, o, cy, bw, hp0, hp1, hp2, hp3, hp4, hp5, hp6, hm, h⟩
    by_cases hlt : i < n
    · obtain ⟨w1, hw1⟩ : ∃ y, ly[i]? = some y := ⟨_, List.getElem?_eq_getElem (by omega)⟩
      obtain ⟨u, hu⟩ : ∃ y, x[i]? = some y := ⟨_, List.getElem?_eq_getElem (by omega)⟩
      have hw1b := row_lt (h.fact 0 rfl) _ (List.mem_of_getElem? hw1)
      have hub := hxb _ (List.mem_of_getElem? hu)
      have hou := (drop_get hp6).trans hu
      have hgw : gq * w1 ≤ 18446744069414584320 := by
        have := Nat.mul_le_mul hq2 (show w1 ≤ 4294967295 by omega)
        omega
      have hstep := mulsub_step' (p := gq * w1 + cy) (by omega) hu hw1 hub hp3 hp5 rfl rfl
      refine seq_ ?_
      refine reg_ ?_
      refine st_cmp h rfl rfl rfl rfl fun a h => ?_
      refine wpList_nil ?_
      refine seq_ ?_
      refine cond_t h rfl (by simp; omega) ?_
      refine wp_skip ?_
      refine seq_ ?_
      refine wp_block ?_
      refine seq_ ?_
      refine reg_ ?_
      refine st_move h rfl rfl fun a h => ?_
      refine st_indexI (i) h rfl rfl Tryz.runUnderlying53 Tryz.sizeOf276 (rfl) (by omega) rfl fun a h => ?_
      refine st_load h rfl Tryz.isAgg276 (row_cell (h.fact 0 rfl) hw1) rfl fun a h => ?_
      refine st_assign h rfl rfl fun a h => ?_
      refine st_assign h rfl rfl fun a h => ?_
      refine wpList_nil ?_
      refine seq_ ?_
      refine reg_ ?_
      refine st_move h rfl rfl fun a h => ?_
      refine st_move h rfl rfl fun a h => ?_
      refine st_to64 (p := w1) h rfl (by omega) Tryz.runUnderlying276 Tryz.runUnderlying317 rfl fun a h => ?_
      refine st_mulN (p := gq) (q := w1) h rfl rfl (by omega) rfl fun a h => ?_
      refine st_move h rfl rfl fun a h => ?_
      refine st_addN (p := gq * w1) (q := cy) h rfl rfl (by omega) rfl fun a h => ?_
      refine st_assign h rfl rfl fun a h => ?_
      refine wpList_nil ?_
      refine seq_ ?_
      refine reg_ ?_
      refine st_move h rfl rfl fun a h => ?_
      refine st_shrN (p := (gq * w1) + cy) (m := 32) h rfl rfl (by omega) rfl fun a h => ?_
      refine st_assign h rfl rfl fun a h => ?_
      refine wpList_nil ?_
      refine seq_ ?_
      refine reg_ ?_
      refine st_move h rfl rfl fun a h => ?_
      refine st_move h rfl rfl fun a h => ?_
      refine st_indexI (i) h rfl rfl Tryz.runUnderlying53 Tryz.sizeOf276 (rfl) (by omega) rfl fun a h => ?_
      refine st_load h rfl Tryz.isAgg276 (h.cellW hou) rfl fun a h => ?_
      refine st_to64 (p := u) h rfl (by omega) Tryz.runUnderlying276 Tryz.runUnderlying317 rfl fun a h => ?_
      refine st_move h rfl rfl fun a h => ?_
      refine st_to32 (p := (gq * w1) + cy) h rfl Tryz.runUnderlying317 Tryz.runUnderlying276 rfl fun a h => ?_
      refine st_to64 (p := ((gq * w1) + cy) % 4294967296) h rfl (by omega) Tryz.runUnderlying276 Tryz.runUnderlying317 rfl fun a h => ?_
      refine st_subN (p := u) (q := ((gq * w1) + cy) % 4294967296) h rfl rfl (by omega) rfl fun a h => ?_
      refine st_move h rfl rfl fun a h => ?_
      refine st_subN (p := (u + 18446744073709551616 - (((gq * w1) + cy) % 4294967296)) % 18446744073709551616) (q := bw) h rfl rfl (by omega) rfl fun a h => ?_
      refine st_assign h rfl rfl fun a h => ?_
      refine wpList_nil ?_
      refine reg_ ?_
      refine st_move h rfl rfl fun a h => ?_
      refine st_move h rfl rfl fun a h => ?_
      refine st_move h rfl rfl fun a h => ?_
      refine st_to32 (p := ((u + 18446744073709551616 - (((gq * w1) + cy) % 4294967296)) % 18446744073709551616 + 18446744073709551616 - (bw)) % 18446744073709551616) h rfl Tryz.runUnderlying317 Tryz.runUnderlying276 rfl fun a h => ?_
      refine st_move h rfl rfl fun a h => ?_
      refine st_shrN (p := ((u + 18446744073709551616 - (((gq * w1) + cy) % 4294967296)) % 18446744073709551616 + 18446744073709551616 - (bw)) % 18446744073709551616) (m := 63) h rfl rfl (by omega) rfl fun a h => ?_
      refine st_indexI (i) h rfl rfl Tryz.runUnderlying53 Tryz.sizeOf276 (rfl) (by omega) rfl fun a h => ?_
      refine st_storeW (i := i) h rfl rfl Tryz.sizeOf276 (by omega) fun w h => ?_
      refine st_assign h rfl rfl fun a h => ?_
      refine wpList_nil ?_
      refine reg_ ?_
      refine st_addI h rfl rfl (by omega) rfl fun a h => ?_
      refine st_move h rfl rfl fun a h => ?_
      refine wpList_nil ?_
      refine ⟨_, ?_, i + 1, o.set i ((((u + 18446744073709551616 - (((gq * w1) + cy) % 4294967296)) % 18446744073709551616 + 18446744073709551616 - (bw)) % 18446744073709551616) % 4294967296), ((gq * w1) + cy) / 2 ^ 32, (((u + 18446744073709551616 - (((gq * w1) + cy) % 4294967296)) % 18446744073709551616 + 18446744073709551616 - (bw)) % 18446744073709551616) / 2 ^ 63, by omega, by rw [List.length_set]; omega, set_lt hp2 _ _ (Nat.mod_lt _ (by decide)), hstep.2, by omega, hstep.1, drop_next hp6, rfl, ((h.consL (t := 0) rfl (h.consL (t := 1) rfl (h.consL (t := 5) rfl (h.consL (t := 9) rfl (h.consL (t := 11) rfl (h.consL (t := 12) rfl (h.consL (t := 79) rfl (h.consL (t := 80) rfl (h.consL (t := 81) rfl h.nilL))))))))).noFacts.add (h.fact 0 rfl))⟩
      omega
    · skip
      refine seq_ ?_
      refine reg_ ?_
      refine st_cmp h rfl rfl rfl rfl fun a h => ?_
      refine wpList_nil ?_
      refine seq_ ?_
      refine cond_f h rfl (by simp; omega) ?_
      refine wp_exit ?_
      repeat refine then_exit ?_
      refine inBlock_exit ?_
      refine seq_ ?_
      refine reg_ ?_
      refine st_move h rfl rfl fun a h => ?_
      refine st_move h rfl rfl fun a h => ?_
      have hie : i = n := by omega
      subst hie
      have hon := (drop_get hp6).trans D.xn
      rw [List.take_of_length_le (l := ly) (by omega)] at hp5
      have hbd := D.bnd
      refine st_indexI (i) h rfl rfl Tryz.runUnderlying53 Tryz.sizeOf276 (rfl) (by omega) rfl fun a h => ?_
      refine st_load h rfl Tryz.isAgg276 (h.cellW hon) rfl fun a h => ?_
      refine st_to64 (p := xn) h rfl (by omega) Tryz.runUnderlying276 Tryz.runUnderlying317 rfl fun a h => ?_
      refine st_move h rfl rfl fun a h => ?_
      refine st_subN (p := xn) (q := cy) h rfl rfl (by omega) rfl fun a h => ?_
      refine st_move h rfl rfl fun a h => ?_
      refine st_subN (p := (xn + 18446744073709551616 - (cy)) % 18446744073709551616) (q := bw) h rfl rfl (by omega) rfl fun a h => ?_
      refine st_assign h rfl rfl fun a h => ?_
      refine wpList_nil ?_
      refine seq_ ?_
      refine reg_ ?_
      refine st_move h rfl rfl fun a h => ?_
      refine st_move h rfl rfl fun a h => ?_
      refine st_move h rfl rfl fun a h => ?_
      refine st_to32 (p := ((xn + 18446744073709551616 - (cy)) % 18446744073709551616 + 18446744073709551616 - (bw)) % 18446744073709551616) h rfl Tryz.runUnderlying317 Tryz.runUnderlying276 rfl fun a h => ?_
      refine st_indexI (i) h rfl rfl Tryz.runUnderlying53 Tryz.sizeOf276 (rfl) (by omega) rfl fun a h => ?_
      refine st_storeW (i := i) h rfl rfl Tryz.sizeOf276 (by omega) fun w h => ?_
      obtain ⟨oa, ho1⟩ : ∃ oa, oa = o.set i ((((xn + 18446744073709551616 - (cy)) % 18446744073709551616 + 18446744073709551616 - (bw)) % 18446744073709551616) % 4294967296) := ⟨_, rfl⟩
      rw [← ho1] at h
      have ho1l : oa.length = i + 1 := by rw [ho1, List.length_set]; exact hp1
      have ho1b : ∀ u ∈ oa, u < 4294967296 := by rw [ho1]; exact set_lt hp2 _ _ (Nat.mod_lt _ (by decide))
      obtain ⟨v1, hv1⟩ : ∃ y, oa[i]? = some y := ⟨_, List.getElem?_eq_getElem (by omega)⟩
      refine wpList_nil ?_
      refine seq_ ?_
      refine seq_ ?_
      refine reg_ ?_
      refine st_move h rfl rfl fun a h => ?_
      refine st_shrN (p := ((xn + 18446744073709551616 - (cy)) % 18446744073709551616 + 18446744073709551616 - (bw)) % 18446744073709551616) (m := 63) h rfl rfl (by omega) rfl fun a h => ?_
      refine st_cmp h rfl rfl rfl rfl fun a h => ?_
      refine wpList_nil ?_
      refine cond_ h rfl (fun hb_if4 => ?_) (fun hb_if4 => ?_)
      · try simp only [decide_eq_true_eq, decide_eq_false_iff_not, Bool.not_eq_true', Bool.not_eq_false'] at hb_if4
        have hf := D.fin0 hp1 hp4 hp3 hq0 hp5 rfl (by omega)
        refine seq_ ?_
        refine reg_ ?_
        refine st_move h rfl rfl fun a h => ?_
        refine st_to32 (p := gq) h rfl Tryz.runUnderlying317 Tryz.runUnderlying276 rfl fun a h => ?_
        refine st_assign h rfl rfl fun a h => ?_
        refine wpList_nil ?_
        refine wp_ret ?_
        rw [← ho1] at hf
        repeat refine then_ret ?_
        refine ret1 Tryz.results335 h (resv_tmp h rfl) ?_
        exact ⟨_, rfl, _, h.wroteOut, _, rfl, by omega, ho1b, by rw [hf.1], hf.2⟩
      · try simp only [decide_eq_true_eq, decide_eq_false_iff_not, Bool.not_eq_true', Bool.not_eq_false'] at hb_if4
        have hf := D.fin1 hp1 hp2 hp4 hp3 hq1 hp5 rfl (by omega)
        rw [← ho1] at hf
        refine wp_skip ?_
        refine seq_ ?_
        refine reg_ ?_
        refine st_assign h rfl rfl fun a h => ?_
        refine wpList_nil ?_
        refine seq_ ?_
        refine seq_ ?_
        refine reg_ ?_
        refine st_move h rfl rfl fun a h => ?_
        refine st_len h rfl Tryz.runUnderlying53 rfl fun a h => ?_
        refine st_move h rfl rfl fun a h => ?_
        refine wpList_nil ?_
        refine wp_block ?_
        refine loop_ (fun m a w' => ∃ j o2 bk, j ≤ i ∧ o2.length = i + 1 ∧ (∀ u ∈ o2, u < 4294967296) ∧ bk ≤ 1 ∧ val (o2.take j) + bk * 4294967296 ^ j = val (oa.take j) + val (ly.take j) ∧ o2.drop j = oa.drop j ∧ m = i - j ∧ St (fun b => b < W.heap.size ∧ b ≠ g) Ob W w' a 170 [(0, (.slice (some ⟨g, pre.length, none⟩) x.length cx)), (1, (.slice (some ⟨b1, o1, none⟩) i c)), (5, (.int .i64 (i : Int))), (9, (.int .u64 ((gq : Nat) : Int))), (18, (.int .u64 ((bk : Nat) : Int))), (132, (.slice (some ⟨b1, o1, none⟩) i c)), (133, (.int .i64 (i : Int))), (134, (.int .i64 (j : Int)))] [(Rel.row32).fact [.slice (some ⟨b1, o1, none⟩) i c] (ly)] [(g, 276, u32s (pre ++ o2 ++ post))]) (m := _) (⟨0, oa, 0, by omega, ho1l, ho1b, by omega, by simp [val], rfl, rfl, ((h.consL (t := 0) rfl (h.consL (t := 1) rfl (h.consL (t := 5) rfl (h.consL (t := 9) rfl (h.consL (t := 18) rfl (h.consL (t := 132) rfl (h.consL (t := 133) rfl (h.consL (t := 134) rfl h.nilL)))))))).noFacts.add (h.fact 0 rfl))⟩) ?_
        clear h
        rintro m a w ⟨j, o2, bk, hr0, hr1, hr2, hr3, hr4, hr5, hm, h⟩
        by_cases hlt3 : j < i
        · obtain ⟨w1, hw1⟩ : ∃ y, ly[j]? = some y := ⟨_, List.getElem?_eq_getElem (by omega)⟩
          obtain ⟨u, hu⟩ : ∃ y, oa[j]? = some y := ⟨_, List.getElem?_eq_getElem (by omega)⟩
          have hw1b := row_lt (h.fact 0 rfl) _ (List.mem_of_getElem? hw1)
          have hub := ho1b _ (List.mem_of_getElem? hu)
          have hou := (drop_get hr5).trans hu
          have hstep := add_step (o := o2) (l := oa) (r := ly) (i := j) (s := u + w1 + bk) (cy := bk) (by omega) hu (.inl hw1) hr4 (by omega)
          rw [show (u + w1 + bk) / 4294967296 = (u + w1 + bk) / 2 ^ 32 from rfl] at hstep
          refine seq_ ?_
          refine reg_ ?_
          refine st_cmp h rfl rfl rfl rfl fun a h => ?_
          refine wpList_nil ?_
          refine seq_ ?_
          refine cond_t h rfl (by simp; omega) ?_
          refine wp_skip ?_
          refine seq_ ?_
          refine wp_block ?_
          refine seq_ ?_
          refine reg_ ?_
          refine st_move h rfl rfl fun a h => ?_
          refine st_indexI (j) h rfl rfl Tryz.runUnderlying53 Tryz.sizeOf276 (rfl) (by omega) rfl fun a h => ?_
          refine st_load h rfl Tryz.isAgg276 (row_cell (h.fact 0 rfl) hw1) rfl fun a h => ?_
          refine st_assign h rfl rfl fun a h => ?_
          refine st_assign h rfl rfl fun a h => ?_
          refine wpList_nil ?_
          refine seq_ ?_
          refine reg_ ?_
          refine st_move h rfl rfl fun a h => ?_
          refine st_move h rfl rfl fun a h => ?_
          refine st_indexI (j) h rfl rfl Tryz.runUnderlying53 Tryz.sizeOf276 (rfl) (by omega) rfl fun a h => ?_
          refine st_load h rfl Tryz.isAgg276 (h.cellW hou) rfl fun a h => ?_
          refine st_to64 (p := u) h rfl (by omega) Tryz.runUnderlying276 Tryz.runUnderlying317 rfl fun a h => ?_
          refine st_move h rfl rfl fun a h => ?_
          refine st_to64 (p := w1) h rfl (by omega) Tryz.runUnderlying276 Tryz.runUnderlying317 rfl fun a h => ?_
          refine st_addN (p := u) (q := w1) h rfl rfl (by omega) rfl fun a h => ?_
          refine st_move h rfl rfl fun a h => ?_
          refine st_addN (p := u + w1) (q := bk) h rfl rfl (by omega) rfl fun a h => ?_
          refine st_assign h rfl rfl fun a h => ?_
          refine wpList_nil ?_
          refine reg_ ?_
          refine st_move h rfl rfl fun a h => ?_
          refine st_move h rfl rfl fun a h => ?_
          refine st_move h rfl rfl fun a h => ?_
          refine st_to32 (p := (u + w1) + bk) h rfl Tryz.runUnderlying317 Tryz.runUnderlying276 rfl fun a h => ?_
          refine st_move h rfl rfl fun a h => ?_
          refine st_shrN (p := (u + w1) + bk) (m := 32) h rfl rfl (by omega) rfl fun a h => ?_
          refine st_indexI (j) h rfl rfl Tryz.runUnderlying53 Tryz.sizeOf276 (rfl) (by omega) rfl fun a h => ?_
          refine st_storeW (i := j) h rfl rfl Tryz.sizeOf276 (by omega) fun w h => ?_
          refine st_assign h rfl rfl fun a h => ?_
          refine wpList_nil ?_
          refine reg_ ?_
          refine st_addI h rfl rfl (by omega) rfl fun a h => ?_
          refine st_move h rfl rfl fun a h => ?_
          refine wpList_nil ?_
          refine ⟨_, ?_, j + 1, o2.set j (((u + w1) + bk) % 4294967296), ((u + w1) + bk) / 2 ^ 32, by omega, by rw [List.length_set]; omega, set_lt hr2 _ _ (Nat.mod_lt _ (by decide)), by omega, hstep, drop_next hr5, rfl, ((h.consL (t := 0) rfl (h.consL (t := 1) rfl (h.consL (t := 5) rfl (h.consL (t := 9) rfl (h.consL (t := 18) rfl (h.consL (t := 132) rfl (h.consL (t := 133) rfl (h.consL (t := 134) rfl h.nilL)))))))).noFacts.add (h.fact 0 rfl))⟩
          omega
        · skip
          refine seq_ ?_
          refine reg_ ?_
          refine st_cmp h rfl rfl rfl rfl fun a h => ?_
          refine wpList_nil ?_
          refine seq_ ?_
          refine cond_f h rfl (by simp; omega) ?_
          refine wp_exit ?_
          repeat refine then_exit ?_
          refine inBlock_exit ?_
          refine seq_ ?_
          refine reg_ ?_
          refine st_move h rfl rfl fun a h => ?_
          refine st_move h rfl rfl fun a h => ?_
          refine st_move h rfl rfl fun a h => ?_
          refine st_move h rfl rfl fun a h => ?_
          have hje : j = i := by omega
          subst hje
          have hon2 := (drop_get hr5).trans hv1
          rw [List.take_of_length_le (l := ly) (by omega)] at hr4
          refine st_indexI (j) h rfl rfl Tryz.runUnderlying53 Tryz.sizeOf276 (rfl) (by omega) rfl fun a h => ?_
          refine st_load h rfl Tryz.isAgg276 (h.cellW hon2) rfl fun a h => ?_
          refine st_move h rfl rfl fun a h => ?_
          refine st_to32 (p := bk) h rfl Tryz.runUnderlying317 Tryz.runUnderlying276 rfl fun a h => ?_
          refine st_add h rfl rfl rfl fun a h => ?_
          replace h := h.respell (u := .int .u32 (((v1 + bk) % 4294967296 : Nat) : Int)) (by congr 1; rw [← Int.natCast_add, wrapu32_of]; congr 1; omega)
          refine st_indexI (j) h rfl rfl Tryz.runUnderlying53 Tryz.sizeOf276 (rfl) (by omega) rfl fun a h => ?_
          refine st_storeW (i := j) h rfl rfl Tryz.sizeOf276 (by omega) fun w h => ?_
          refine wpList_nil ?_
          refine seq_ ?_
          refine reg_ ?_
          refine st_move h rfl rfl fun a h => ?_
          refine st_to32 (p := gq) h rfl Tryz.runUnderlying317 Tryz.runUnderlying276 rfl fun a h => ?_
          refine st_sub h rfl rfl rfl fun a h => ?_
          replace h := h.respell (u := .int .u32 ((val x / val ly : Nat) : Int)) (congrArg _ (sub32 hf.1 D.qlt))
          refine st_assign h rfl rfl fun a h => ?_
          refine wpList_nil ?_
          refine wp_ret ?_
          repeat refine then_ret ?_
          refine ret1 Tryz.results335 h (resv_tmp h rfl) ?_
          exact ⟨_, rfl, _, h.wroteOut, _, rfl, by rw [List.length_set]; omega, set_lt hr2 _ _ (Nat.mod_lt _ (by decide)), rfl, D.fin2 ho1l ho1b hr1 hr2 hv1 hr3 hf.2 hr4⟩

set_option maxHeartbeats 1000000 in
theorem limb_DivMod (hO : ∀ b, Ob b → b < W.heap.size) {A : Option Addr} {n c x : Nat} {A' : Option Addr} {n' c' y : Nat} (hx0 : Rel.natA.at_ W Ob [.slice A n c] x) (hx1 : Rel.natA.at_ W Ob [.slice A' n' c'] y) (hsx : sz x ≤ 4294967296) (hsy : sz y ≤ 4294967296) (hy : 0 < y) :
    Calls Tryz.prog 311 #[.slice A n c, .slice A' n' c'] W (Ret W Ob (tup3 (Rel.natN.sliceF (x / y)) (Rel.natN.sliceF (x % y)) (eqF (.int .i64 0)))) := by

  refine enter (vs := [(.slice A n c), (.slice A' n' c')]) (Ob := Ob) (K := fun b => b < W.heap.size) (Fs := [(Rel.natA).fact [.slice A n c] (x), (Rel.natA).fact [(.slice A' n' c')] (y)]) Tryz.func311 rfl Tryz.ntmps311 rfl (fun _ h => h) hO (by simp only [List.mem_cons, List.not_mem_nil, or_false, forall_eq_or_imp, forall_eq, false_imp_iff, implies_true]; exact ⟨hx0, hx1⟩) fun a h => ?_
  refine seq_ ?_
  refine reg_ ?_
  refine st_assign h rfl rfl fun a h => ?_
  refine st_assign h rfl rfl fun a h => ?_
  refine st_assign h rfl rfl fun a h => ?_
  refine wpList_nil ?_
  refine seq_ ?_
  refine reg_ ?_
  refine st_move h rfl rfl fun a h => ?_
  refine st_call h Tryz.func309 rfl rfl rfl (limb_cut _ _ (fun b => h.owns_lt) (h.fact 0 rfl)) rfl fun r w a hg hF h => ?_
  obtain ⟨A1, n2, c3, e5, f4⟩ := hF
  subst e5
  have h := h.add (f := (Rel.natN).fact [(.slice A1 n2 c3)] (x)) f4
  refine st_move h rfl rfl fun a h => ?_
  refine st_call h Tryz.func309 rfl rfl rfl (limb_cut _ _ (fun b => h.owns_lt) (h.fact 2 rfl)) rfl fun r w a hg hF h => ?_
  obtain ⟨A6, n7, c8, e10, f9⟩ := hF
  subst e10
  have h := h.add (f := (Rel.natN).fact [(.slice A6 n7 c8)] (y)) f9
  refine st_assign h rfl rfl fun a h => ?_
  refine st_assign h rfl rfl fun a h => ?_
  refine wpList_nil ?_
  refine seq_ ?_
  refine wp_block ?_
  refine seq_ ?_
  refine reg_ ?_
  refine st_move h rfl rfl fun a h => ?_
  refine st_len h rfl Tryz.runUnderlying53 rfl fun a h => ?_
  obtain ⟨l, hl1, hl2, hl3⟩ := h.fact 1 rfl
  have h := h.add (f := Rel.row32.fact [(.slice A1 n2 c3)] l) hl1
  obtain ⟨el, _, _⟩ := row_open hl1
  have hszl := nrm_len hl2
  rw [hl3] at hszl
  obtain ⟨r, hr1, hr2, hr3⟩ := h.fact 1 rfl
  have h := h.add (f := Rel.row32.fact [(.slice A6 n7 c8)] r) hr1
  obtain ⟨er, _, _⟩ := row_open hr1
  have hszr := nrm_len hr2
  rw [hr3] at hszr
  have h38 : (2 : Nat) ^ 38 = 274877906944 := by decide
  have h47 : (2 : Nat) ^ 47 = 140737488355328 := by decide
  have h63 : (2 : Nat) ^ 63 = 9223372036854775808 := by decide
  have hr0 : r.length = 0 ↔ y = 0 := by rw [← hr3, nrm_zero hr2]; exact List.length_eq_zero_iff
  refine st_cmp h rfl rfl rfl rfl fun a h => ?_
  refine st_assign h rfl rfl fun a h => ?_
  refine wpList_nil ?_
  refine cond_f h rfl (by simp; omega) ?_
  refine seq_ ?_
  refine reg_ ?_
  refine st_move h rfl rfl fun a h => ?_
  refine st_len h rfl Tryz.runUnderlying53 rfl fun a h => ?_
  refine st_move h rfl rfl fun a h => ?_
  refine st_len h rfl Tryz.runUnderlying53 rfl fun a h => ?_
  refine st_cmp h rfl rfl rfl rfl fun a h => ?_
  refine st_assign h rfl rfl fun a h => ?_
  refine wpList_nil ?_
  refine cond_ h rfl (fun hb_if2 => ?_) (fun hb_if2 => ?_)
  · try simp only [decide_eq_true_eq, decide_eq_false_iff_not, Bool.not_eq_true', Bool.not_eq_false'] at hb_if2
    have hlt := nrm_lt_of_len hl2 hr2 (by omega)
    rw [hl3, hr3] at hlt
    refine seq_ ?_
    refine reg_ ?_
    refine st_move h rfl rfl fun a h => ?_
    refine st_call h Tryz.func267 rfl rfl rfl (limb_Norm _ _ (fun b => h.owns_lt) (natA_of_natN (h.fact 3 rfl)) (by omega)) rfl fun r w a hg hF h => ?_
    obtain ⟨A11, n12, c13, e15, f14⟩ := hF
    subst e15
    have h := h.add (f := (Rel.natN).fact [(.slice A11 n12 c13)] (x)) f14
    refine st_assign h rfl rfl fun a h => ?_
    refine st_assign h rfl rfl fun a h => ?_
    refine st_assign h rfl rfl fun a h => ?_
    refine wpList_nil ?_
    refine wp_ret ?_
    exact ret3 Tryz.results311 h (resv_tmp h rfl) (resv_tmp h rfl) (resv_tmp h rfl) ⟨_, rfl, h.grow0, _, _, _, rfl, ⟨_, _, _, rfl, by rw [Nat.div_eq_of_lt hlt]; exact natN_nil⟩, ⟨_, _, _, rfl, by rw [Nat.mod_eq_of_lt hlt]; exact h.out 0 rfl⟩, rfl⟩
  · try simp only [decide_eq_true_eq, decide_eq_false_iff_not, Bool.not_eq_true', Bool.not_eq_false'] at hb_if2
    refine seq_ ?_
    refine reg_ ?_
    refine st_move h rfl rfl fun a h => ?_
    refine st_len h rfl Tryz.runUnderlying53 rfl fun a h => ?_
    refine st_cmp h rfl rfl rfl rfl fun a h => ?_
    refine st_assign h rfl rfl fun a h => ?_
    refine wpList_nil ?_
    refine cond_ h rfl (fun hb_if3 => ?_) (fun hb_if3 => ?_)
    · try simp only [decide_eq_true_eq, decide_eq_false_iff_not, Bool.not_eq_true', Bool.not_eq_false'] at hb_if3
      refine seq_ ?_
      refine reg_ ?_
      refine st_move h rfl rfl fun a h => ?_
      refine st_move h rfl rfl fun a h => ?_
      obtain ⟨b1, o1, rfl, _, _, _⟩ := row_get (h.fact 0 rfl) (i := 0) (by omega)
      obtain ⟨y1, hy1⟩ : ∃ y, r[0]? = some y := ⟨_, List.getElem?_eq_getElem (by omega)⟩
      have hy1b := row_lt (h.fact 0 rfl) _ (List.mem_of_getElem? hy1)
      refine st_indexI (0) h rfl rfl Tryz.runUnderlying53 Tryz.sizeOf276 (by omega) (by omega) rfl fun a h => ?_
      have hyv : y = y1 := by rw [← hr3, val_top1 (l := r) (k := 0) (by omega) hy1]; simp [val]
      refine st_load h rfl Tryz.isAgg276 (row_cell (h.fact 0 rfl) hy1) rfl fun a h => ?_
      refine st_call h Tryz.func332 rfl rfl rfl (limb_one _ _ (fun b => h.owns_lt) (h.fact 1 rfl) (hl3) (by omega) (by omega) (hy1b)) rfl fun r w a hg hF h => ?_
      obtain ⟨y16, y17, e18, t19, t20⟩ := hF
      obtain ⟨A21, n22, c23, e25, f24⟩ := t19
      subst e25
      obtain rfl := t20
      subst e18
      have h := h.add (f := (Rel.natN).fact [(.slice A21 n22 c23)] (x / y1)) f24
      refine st_move h rfl rfl fun a h => ?_
      refine st_extract (vs := [(.slice A21 n22 c23), (.int .u32 ((x % y1 : Nat) : Int))]) h rfl rfl rfl fun a h => ?_
      refine st_extract (vs := [(.slice A21 n22 c23), (.int .u32 ((x % y1 : Nat) : Int))]) h rfl rfl rfl fun a h => ?_
      refine st_assign h rfl rfl fun a h => ?_
      refine st_assign h rfl rfl fun a h => ?_
      refine wpList_nil ?_
      refine seq_ ?_
      refine reg_ ?_
      refine st_move h rfl rfl fun a h => ?_
      refine st_move h rfl rfl fun a h => ?_
      refine st_buildSlice h rfl (buildSlice_run (zs := [(.int .u32 0)]) Tryz.runUnderlying53 Tryz.sizeOf276 Tryz.zeroValue276 rfl rfl (by decide) (by decide) (by decide) rfl) rfl fun g26 w a h => ?_
      have hl1x : ∀ z ∈ [x % y1], z < 4294967296 := by intro z hz; simp at hz; subst hz; exact Nat.lt_of_lt_of_le (Nat.mod_lt _ (by omega)) (by omega)
      have hrow := own_row32 (r := [x % y1]) 1 h (fun i hi => by rcases i with _ | i <;> first | rfl | (simp at hi)) hl1x (show 1 < 2 ^ 47 by decide) (Nat.le_refl _) (by decide)
      replace h := h.publish
      have h := h.add (f := Rel.natA.fact [.slice (some ⟨g26, 0, none⟩) 1 1] (x % y1)) ⟨_, hrow, hl1x, by simp [val]⟩
      refine st_call h Tryz.func309 rfl rfl rfl (limb_cut _ _ (fun b => h.owns_lt) (h.fact 0 rfl)) rfl fun r w a hg hF h => ?_
      obtain ⟨A27, n28, c29, e31, f30⟩ := hF
      subst e31
      have h := h.add (f := (Rel.natN).fact [(.slice A27 n28 c29)] (x % y1)) f30
      refine st_assign h rfl rfl fun a h => ?_
      refine st_assign h rfl rfl fun a h => ?_
      refine st_assign h rfl rfl fun a h => ?_
      refine wpList_nil ?_
      refine wp_ret ?_
      exact ret3 Tryz.results311 h (resv_tmp h rfl) (resv_tmp h rfl) (resv_tmp h rfl) ⟨_, rfl, h.grow0, _, _, _, rfl, ⟨_, _, _, rfl, by rw [hyv]; exact h.out 2 rfl⟩, ⟨_, _, _, rfl, by rw [hyv]; exact h.out 0 rfl⟩, rfl⟩
    · try simp only [decide_eq_true_eq, decide_eq_false_iff_not, Bool.not_eq_true', Bool.not_eq_false'] at hb_if3
      refine wp_skip ?_
      refine seq_ ?_
      refine reg_ ?_
      refine st_move h rfl rfl fun a h => ?_
      refine st_move h rfl rfl fun a h => ?_
      refine st_len h rfl Tryz.runUnderlying53 rfl fun a h => ?_
      refine st_subI h rfl rfl (by omega) rfl fun a h => ?_
      obtain ⟨b1, o1, rfl, _, _, _⟩ := row_get (h.fact 0 rfl) (i := 0) (by omega)
      obtain ⟨y1, hy1⟩ : ∃ y, r[n7 - 1]? = some y := ⟨_, List.getElem?_eq_getElem (by omega)⟩
      have hy1b := row_lt (h.fact 0 rfl) _ (List.mem_of_getElem? hy1)
      refine st_indexI (n7 - 1) h rfl rfl Tryz.runUnderlying53 Tryz.sizeOf276 (by omega) (by omega) rfl fun a h => ?_
      have hy0 : 0 < y1 := by
        obtain ⟨z, hz, hz0⟩ := hr2.2 (by intro e; exact absurd (show r.length = 0 by rw [e]; rfl) (by omega))
        rw [← er, hy1] at hz; injection hz with hz; omega
      have hszt : sz y1 ≤ 32 := sz_le.2 (by omega)
      have hszp := sz_pos hy0
      have hszv := sz_val hr2 (y := y1) (by rw [← er]; exact hy1)
      rw [hr3] at hszv
      refine st_load h rfl Tryz.isAgg276 (row_cell (h.fact 0 rfl) hy1) rfl fun a h => ?_
      refine st_call h Tryz.func333 rfl rfl rfl (bits_Lead _ _ (fun b => h.owns_lt) (by omega)) rfl fun r w a hg hF h => ?_
      obtain rfl := hF
      refine st_assign h rfl rfl fun a h => ?_
      refine wpList_nil ?_
      refine seq_ ?_
      refine reg_ ?_
      refine st_move h rfl rfl fun a h => ?_
      refine st_move h rfl rfl fun a h => ?_
      refine st_move h rfl rfl fun a h => ?_
      refine st_len h rfl Tryz.runUnderlying53 rfl fun a h => ?_
      refine st_addI h rfl rfl (by omega) rfl fun a h => ?_
      obtain ⟨s, hs⟩ : ∃ s, s = 32 - sz y1 := ⟨_, rfl⟩
      have hs31 : s ≤ 31 := by omega
      have e32 : (2 : Nat) ^ 32 = 4294967296 := by decide
      have hvx : x * 2 ^ s < 4294967296 ^ (n2 + 1) := by
        have h1 := val_lt l hl2.1
        rw [hl3, ← el] at h1
        rw [Nat.pow_succ]
        exact Nat.lt_of_lt_of_le (Nat.mul_lt_mul_of_pos_right h1 (show 0 < 2 ^ s from Nat.pow_pos (by decide))) (Nat.mul_le_mul_left _ (by rw [← e32]; exact Nat.pow_le_pow_right (by decide) (by omega)))
      have hvy : y * 2 ^ s < 4294967296 ^ n7 := by
        have h1 := lt_sz y
        rw [← e32, ← Nat.pow_mul]
        have h2 : y * 2 ^ s < 2 ^ sz y * 2 ^ s := Nat.mul_lt_mul_of_pos_right h1 (Nat.pow_pos (by decide))
        rw [← Nat.pow_add] at h2
        rw [show 32 * n7 = sz y + s from by omega]
        exact h2
      refine st_callNew (vs := [(.slice A1 n2 c3), .int .i64 (s : Int), .int .i64 ((n2 + 1 : Nat) : Int)]) h Tryz.func334 rfl rfl (by rw [hs]; rfl) (limb_wide _ _ (fun b => h.owns_lt) (natA_of_natN (h.fact 3 rfl)) (by omega) hs31 (by omega) hvx) rfl ?_
      rintro _ gX _ w a ⟨rfl, X, rfl, hXl, hXb, hXv⟩ h
      refine st_move h rfl rfl fun a h => ?_
      refine st_move h rfl rfl fun a h => ?_
      refine st_move h rfl rfl fun a h => ?_
      refine st_len h rfl Tryz.runUnderlying53 rfl fun a h => ?_
      refine st_callNew (vs := [(.slice (some ⟨b1, o1, none⟩) n7 c8), .int .i64 (s : Int), .int .i64 ((n7 : Nat) : Int)]) h Tryz.func334 rfl rfl (by rw [hs]; rfl) (limb_wide _ _ (fun b => h.owns_lt) (natA_of_natN (h.fact 2 rfl)) (by omega) hs31 (by omega) hvy) rfl ?_
      rintro _ gY _ w a ⟨rfl, Y, rfl, hYl, hYb, hYv⟩ h
      have hrowY := own_row32 (r := Y) n7 h (fun _ _ => rfl) hYb (by omega) (by omega) (by omega)
      rw [hYl] at hrowY
      replace h := h.publish
      have h := h.add (f := Rel.row32.fact [.slice (some ⟨gY, 0, none⟩) n7 n7] Y) hrowY
      refine st_assign h rfl rfl fun a h => ?_
      refine st_assign h rfl rfl fun a h => ?_
      refine wpList_nil ?_
      refine seq_ ?_
      refine reg_ ?_
      refine st_move h rfl rfl fun a h => ?_
      refine st_len h rfl Tryz.runUnderlying53 rfl fun a h => ?_
      refine st_assign h rfl rfl fun a h => ?_
      refine wpList_nil ?_
      refine seq_ ?_
      refine reg_ ?_
      refine st_move h rfl rfl fun a h => ?_
      refine st_len h rfl Tryz.runUnderlying53 rfl fun a h => ?_
      refine st_move h rfl rfl fun a h => ?_
      refine st_subI h rfl rfl (by omega) rfl fun a h => ?_
      refine st_addI h rfl rfl (by omega) rfl fun a h => ?_
      have hyB : 4294967296 ^ (n7 - 1) ≤ y := by
        rw [← hr3, val_top1 (l := r) (k := n7 - 1) (by omega) hy1]
        have := Nat.mul_le_mul_left (4294967296 ^ (n7 - 1)) hy0
        omega
      have hxB : x < 4294967296 ^ n2 := by have h1 := val_lt l hl2.1; rwa [hl3, ← el] at h1
      have hR := rest_start (la := n2) hXv hYv hXl hXb hYl hYb (by omega) hxB hyB (by omega)
      replace h := h.respell (u := .int .i64 ((n2 - n7 + 1 : Nat) : Int)) (congrArg _ (by omega))
      refine st_make (m := (n2 - n7 + 1)) (zs := [(.int .u32 0)]) h (rfl) (rfl) Tryz.runUnderlying53 Tryz.typeInfo276 rfl Tryz.sizeOf276 Tryz.zeroValue276 rfl rfl (by omega) rfl fun g32 w a h => ?_
      replace h := h.respellB (reps_u32s _)
      replace h := h.perm (List.Perm.swap _ _ _)
      refine st_assign h rfl rfl fun a h => ?_
      refine wpList_nil ?_
      refine seq_ ?_
      refine seq_ ?_
      refine reg_ ?_
      refine st_move h rfl rfl fun a h => ?_
      refine st_len h rfl Tryz.runUnderlying53 rfl fun a h => ?_
      refine st_subI h rfl rfl (by omega) rfl fun a h => ?_
      refine st_assign h rfl rfl fun a h => ?_
      refine wpList_nil ?_
      refine wp_block ?_
      refine loop_ (fun m a w' => ∃ oq ox, oq.length = (n2 - n7 + 1) ∧ (∀ u ∈ oq, u < 4294967296) ∧ Rest ox Y n2 n7 m ∧ val (oq.drop m) * 4294967296 ^ m * val Y + val ox = val X ∧ True ∧ St (fun b => b < W.heap.size) Ob W w' a 98 [(4, (.slice (some ⟨g32, 0, none⟩) (n2 - n7 + 1) (n2 - n7 + 1))), (9, (.int .i64 ((32 - sz (y1) : Nat) : Int))), (10, (.slice (some ⟨gX, 0, none⟩) (n2 + 1) (n2 + 1))), (11, (.slice (some ⟨gY, 0, none⟩) n7 n7)), (12, (.int .i64 (n7 : Int))), (13, (.int .i64 ((m : Int) - 1)))] [(Rel.row32).fact [(.slice (some ⟨gY, 0, none⟩) n7 n7)] (Y)] [(gX, 276, u32s ox), (g32, 276, u32s oq)]) (m := (n2 - n7 + 1)) (⟨List.replicate (n2 - n7 + 1) 0, X, by simp, by simp, hR, by rw [List.drop_eq_nil_of_le (by simp)]; simp [val], trivial, ((h.consL (t := 4) rfl (h.consL (t := 9) rfl (h.consL (t := 10) rfl (h.consL (t := 11) rfl (h.consL (t := 12) rfl ((h.consL (t := 13) rfl h.nilL).respell (by congr 1 <;> omega))))))).noFacts.add (h.fact 0 rfl))⟩) ?_
      clear h
      rintro m a w ⟨oq, ox, hp0, hp1, hp2, hp3, hm, h⟩
      rcases m with _ | k
      · skip
        refine seq_ ?_
        refine seq_ ?_
        refine reg_ ?_
        refine st_move h rfl rfl fun a h => ?_
        refine st_cmp h rfl rfl rfl rfl fun a h => ?_
        refine wpList_nil ?_
        refine cond_f h rfl (by simp) ?_
        refine wp_exit ?_
        repeat refine then_exit ?_
        refine inBlock_exit ?_
        refine seq_ ?_
        have hfin := rest_end (x := x) (y := y) (s := s) (r := val ox) (q := oq) hy (by simpa [hXv, hYv] using hp3) (by have := hp2.lt; rw [hYv] at this; simpa using this)
        have hoxl := hp2.ol
        have hox := take_small (o := ox) (n := n7) (by omega) (Nat.lt_of_lt_of_le (show val ox < y * 2 ^ s by have := hp2.lt; rw [hYv] at this; simpa using this) (Nat.le_of_lt hvy))
        rw [hfin.2] at hox
        have hrX := own_row32 (r := ox.take n7) (n2 + 1) h (u32s_take_at ox n7) (fun u hu => hp2.ob u (List.mem_of_mem_take hu)) (by rw [List.length_take]; omega) (by rw [List.length_take]; omega) (by omega)
        rw [List.length_take, Nat.min_eq_left (by omega)] at hrX
        replace h := h.publish
        have h := h.add (f := Rel.natA.fact [.slice (some ⟨gX, 0, none⟩) n7 (n2 + 1)] (x % y * 2 ^ s)) ⟨_, hrX, fun u hu => hp2.ob u (List.mem_of_mem_take hu), hox⟩
        have hrq := own_row32 (r := oq) (n2 - n7 + 1) h (fun _ _ => rfl) hp1 (by omega) (by omega) (by omega)
        rw [hp0] at hrq
        replace h := h.publish
        have h := h.add (f := Rel.natA.fact [.slice (some ⟨g32, 0, none⟩) (n2 - n7 + 1) (n2 - n7 + 1)] (x / y)) ⟨_, hrq, hp1, hfin.1⟩
        have hszm : sz (x % y * 2 ^ s) ≤ 4294967400 := by
          have h1 := sz_mul (x % y) (2 ^ s)
          have h2 := sz_mono (Nat.le_of_lt (Nat.mod_lt x hy))
          have h3 : sz (2 ^ s) ≤ s + 1 := sz_le.2 (Nat.pow_lt_pow_right (by decide) (by omega))
          omega
        refine draw0_ mixed_ 6 [some 91, some 92, some 93, some 94, some 95, some 96] [[], [0], [], [], [2, 3], []] [(eqF (.slice (some ⟨g32, 0, none⟩) (n2 - n7 + 1) (n2 - n7 + 1))), (Rel.natN.sliceF (x / y)), (eqF (.slice (some ⟨gX, 0, none⟩) (n2 + 1) (n2 + 1))), (eqF (.int .i64 (n7 : Int))), (eqF (.slice (some ⟨gX, 0, none⟩) n7 (n2 + 1))), (eqF (.int .i64 ((32 - sz (y1) : Nat) : Int)))] rfl h rfl ⟨?_, ?_, ?_, ?_, ?_, ?_, trivial⟩ ?_
        · intro dp hdp0 hdp dv Fx a w h
          refine st_move h rfl rfl fun a h => ?_
          refine wpList_nil ⟨rfl, ?_⟩
          exact ⟨_, h.drawEnd (F' := []) rfl rfl⟩
        · intro dp hdp0 hdp dv Fx a w h
          have e38 : dv 0 = (.slice (some ⟨g32, 0, none⟩) (n2 - n7 + 1) (n2 - n7 + 1)) := h.fact 0 rfl
          replace h := (h.spellE (t := 91) e38 rfl h)
          refine st_call h Tryz.func309 rfl rfl rfl (limb_cut _ _ (fun b => h.owns_lt) (h.fact 1 rfl)) rfl fun r w a hg hF h => ?_
          obtain ⟨A39, n40, c41, e43, f42⟩ := hF
          subst e43
          have h := h.add (f := (Rel.natN).fact [(.slice A39 n40 c41)] (x / y)) f42
          refine wpList_nil ⟨rfl, ?_⟩
          exact ⟨_, h.drawEnd (F' := [_, _]) rfl ⟨_, _, _, rfl, h.fact 0 rfl⟩⟩
        · intro dp hdp0 hdp dv Fx a w h
          refine st_move h rfl rfl fun a h => ?_
          refine wpList_nil ⟨rfl, ?_⟩
          exact ⟨_, h.drawEnd (F' := []) rfl rfl⟩
        · intro dp hdp0 hdp dv Fx a w h
          refine st_move h rfl rfl fun a h => ?_
          refine wpList_nil ⟨rfl, ?_⟩
          exact ⟨_, h.drawEnd (F' := []) rfl rfl⟩
        · intro dp hdp0 hdp dv Fx a w h
          have e44 : dv 2 = (.slice (some ⟨gX, 0, none⟩) (n2 + 1) (n2 + 1)) := h.fact 0 rfl
          have e45 : dv 3 = (.int .i64 (n7 : Int)) := h.fact 1 rfl
          replace h := (h.spellE (t := 94) e45 rfl (h.spellE (t := 93) e44 rfl h))
          refine st_cutHi (i := n7) h rfl rfl Tryz.runUnderlying53 Tryz.sizeOf276 (by omega) rfl fun a h => ?_
          replace h := h.respell (u := .slice (some ⟨gX, 0, none⟩) n7 (n2 + 1)) rfl
          refine wpList_nil ⟨rfl, ?_⟩
          exact ⟨_, h.drawEnd (F' := [_, _]) rfl rfl⟩
        · intro dp hdp0 hdp dv Fx a w h
          refine st_move h rfl rfl fun a h => ?_
          refine wpList_nil ⟨rfl, ?_⟩
          exact ⟨_, h.drawEnd (F' := []) rfl rfl⟩
        intro dv a w h
        obtain ⟨A46, n47, c48, e50, f49⟩ := (h.fact 1 rfl)
        have e51 : dv 4 = (.slice (some ⟨gX, 0, none⟩) n7 (n2 + 1)) := h.fact 4 rfl
        have e52 : dv 5 = (.int .i64 ((32 - sz (y1) : Nat) : Int)) := h.fact 5 rfl
        have h2 := (h.spellE (t := 96) e52 rfl (h.spellE (t := 95) e51 rfl (h.spellE (t := 92) e50 rfl (h.consL (t := 76) rfl (h.consL (t := 13) rfl (h.consL (t := 12) rfl (h.consL (t := 11) rfl (h.consL (t := 10) rfl (h.consL (t := 9) rfl (h.consL (t := 4) rfl h.nilL))))))))))
        have h3 := h2.noFacts
        have h3 := h3.add (h2.fact 8 rfl)
        have h3 := h3.add (h2.fact 7 rfl)
        have h3 := h3.add (h2.fact 6 rfl)
        clear h2
        replace h := h3
        clear h3
        have h := h.add (f := (Rel.natN).fact [(.slice A46 n47 c48)] (x / y)) f49
        refine st_call h Tryz.func336 rfl rfl rfl (limb_Shr _ _ (fun b => h.owns_lt) (h.fact 2 rfl) (hszm) (by omega)) rfl fun r w a hg hF h => ?_
        obtain ⟨A53, n54, c55, e57, f56⟩ := hF
        subst e57
        have h := h.add (f := (Rel.natN).fact [(.slice A53 n54 c55)] ((x % y * 2 ^ s) / 2 ^ (32 - sz (y1)))) f56
        refine st_assign h rfl rfl fun a h => ?_
        refine st_assign h rfl rfl fun a h => ?_
        refine st_assign h rfl rfl fun a h => ?_
        refine wpList_nil ?_
        refine wp_ret ?_
        exact ret3 Tryz.results311 h (resv_tmp h rfl) (resv_tmp h rfl) (resv_tmp h rfl) ⟨_, rfl, h.grow0, _, _, _, rfl, ⟨_, _, _, rfl, h.out 1 rfl⟩, ⟨_, _, _, rfl, by have e := Nat.mul_div_cancel (x % y) (show 0 < 2 ^ s from Nat.pow_pos (by decide)); have o := h.out 0 rfl; rw [← hs, e] at o; exact o⟩, rfl⟩
      · replace h := (h.spellE (t := 13) (c := .int .i64 ((k : Nat) : Int)) (by congr 1; omega) rfl h)
        have hR := hp2
        have hXq := hp3
        have hkm := hR.hm
        have hoxl := hR.ol
        refine seq_ ?_
        refine seq_ ?_
        refine reg_ ?_
        refine st_move h rfl rfl fun a h => ?_
        refine st_cmp h rfl rfl rfl rfl fun a h => ?_
        refine wpList_nil ?_
        refine cond_t h rfl (by simp) ?_
        refine wp_skip ?_
        refine seq_ ?_
        refine wp_block ?_
        refine reg_ ?_
        refine st_move h rfl rfl fun a h => ?_
        refine st_move h rfl rfl fun a h => ?_
        refine st_move h rfl rfl fun a h => ?_
        refine st_move h rfl rfl fun a h => ?_
        refine st_move h rfl rfl fun a h => ?_
        refine st_move h rfl rfl fun a h => ?_
        refine st_addI h rfl rfl (by omega) rfl fun a h => ?_
        refine st_addI h rfl rfl (by omega) rfl fun a h => ?_
        refine st_cutLH (l := k) (r := k + n7 + 1) h rfl rfl rfl Tryz.runUnderlying53 Tryz.sizeOf276 (by omega) (by omega) (by omega) rfl fun a h => ?_
        replace h := h.respell (u := .slice (some ⟨gX, (ox.take k).length, none⟩) (win ox k n7).length (n2 + 1 - k)) (by rw [win_len (by omega), List.length_take, Nat.min_eq_left (by omega)]; congr 2 <;> (try congr 1) <;> omega)
        refine st_move h rfl rfl fun a h => ?_
        replace h := h.respellB (cs' := u32s (ox.take k ++ win ox k n7 ++ ox.drop (k + n7 + 1))) (by rw [win_split])
        obtain ⟨top, nx, xn, x1, x2, D⟩ := hR.dig
        refine st_callOwn h Tryz.func335 rfl rfl rfl (limb_digit _ _ (fun b => h.owns_lt0 b) h.own0 h.ownNot (h.factOwn 0 rfl) (by omega) D) rfl ?_
        rintro _ _ w a ⟨w', rfl, hwl, hwb, rfl, hwv⟩ h
        have hnx := hR.next hwl hwb hwv (by omega) hXq
        have hqd : val (win ox k n7) / val Y < 4294967296 := D.qlt
        refine st_indexI (k) h rfl rfl Tryz.runUnderlying53 Tryz.sizeOf276 (rfl) (by omega) rfl fun a h => ?_
        replace h := h.perm (List.Perm.swap _ _ _)
        refine st_storeU (i := k) h rfl rfl Tryz.sizeOf276 (by omega) fun w h => ?_
        replace h := h.perm (List.Perm.swap _ _ _)
        refine wpList_nil ?_
        refine reg_ ?_
        refine st_move h rfl rfl fun a h => ?_
        refine st_subI h rfl rfl (by omega) rfl fun a h => ?_
        refine st_assign h rfl rfl fun a h => ?_
        refine wpList_nil ?_
        refine ⟨k, ?_, oq.set k (val (win ox k n7) / val Y), ox.take k ++ w' ++ ox.drop (k + n7 + 1), by rw [List.length_set]; omega, set_lt hp1 _ _ hqd, hnx.1, hnx.2, trivial, ((h.consL (t := 4) rfl (h.consL (t := 9) rfl (h.consL (t := 10) rfl (h.consL (t := 11) rfl (h.consL (t := 12) rfl (h.consL (t := 13) rfl h.nilL)))))).noFacts.add (h.fact 0 rfl))⟩
        omega

end Orr

namespace Orr
open Go Go.Proofs
variable (Ob : Nat → Prop) (W : World)
set_option maxHeartbeats 1000000 in
theorem whole_DivMod (hO : ∀ b, Ob b → b < W.heap.size) {b0 : Bool} {A0 : Option Addr} {n0 c0 : Nat} {z0 : Int} {b1 : Bool} {A1 : Option Addr} {n1 c1 : Nat} {z1 : Int} (hx0 : Rel.intA.at_ W Ob [.bool b0, .slice A0 n0 c0] z0) (hx1 : Rel.intA.at_ W Ob [.bool b1, .slice A1 n1 c1] z1) (hs0 : isz z0 ≤ 4294967295) (hs1 : isz z1 ≤ 4294967295) (hz : z1 ≠ 0) :
    Calls Tryz.prog 312 #[.agg #[.bool b0, .slice A0 n0 c0], .agg #[.bool b1, .slice A1 n1 c1]] W (Ret W Ob (tup3 (Rel.intN.aggF (z0 / z1)) (Rel.intN.aggF (z0 % z1)) (eqF (.int .i64 0)))) := by
  obtain ⟨hx2, hz0⟩ := intA_open hx0
  obtain ⟨hx3, hz1⟩ := intA_open hx1
  have hs0' : sz z0.natAbs ≤ 4294967295 := hs0
  have hs1' : sz z1.natAbs ≤ 4294967295 := hs1
  have hz1p : 0 < z1.natAbs := by omega
  have hszq : sz (z0.natAbs / z1.natAbs) ≤ sz z0.natAbs := sz_mono (Nat.div_le_self _ _)
  have hszm := sz_mono (Nat.le_of_lt (Nat.mod_lt z0.natAbs hz1p))
  have hmlt := Nat.mod_lt z0.natAbs hz1p
  have hs1v : sz 1 = 1 := by decide
  refine enter (vs := [(.agg #[(.bool b0), (.slice A0 n0 c0)]), (.agg #[(.bool b1), (.slice A1 n1 c1)])]) (Ob := Ob) (K := fun b => b < W.heap.size) (Fs := [(Rel.intA).fact [(.bool b0), (.slice A0 n0 c0)] (z0), (Rel.intA).fact [(.bool b1), (.slice A1 n1 c1)] (z1), (Rel.natA).fact [(.slice A0 n0 c0)] (z0.natAbs), (Rel.natA).fact [(.slice A1 n1 c1)] (z1.natAbs)]) Tryz.func312 rfl Tryz.ntmps312 rfl (fun _ h => h) hO (by simp only [List.mem_cons, List.not_mem_nil, or_false, forall_eq_or_imp, forall_eq, false_imp_iff, implies_true]; exact ⟨hx0, hx1, hx2, hx3⟩) fun a h => ?_
  rcases b0 with _ | _
  · have hdv := div_pos_ofSign hz1 hz1p hz0
    refine seq_ ?_
    refine reg_ ?_
    refine st_box h rfl rfl fun g1 w a h => ?_
    refine st_box h rfl rfl fun g2 w a h => ?_
    refine st_alloc h Tryz.zeroValue55 rfl fun g3 w a h => ?_
    refine st_alloc h Tryz.zeroValue55 rfl fun g4 w a h => ?_
    refine st_assign h rfl rfl fun a h => ?_
    refine wpList_nil ?_
    refine seq_ ?_
    refine reg_ ?_
    refine st_fieldAddr h rfl (fa_55_1) rfl fun a h => ?_
    refine st_loadO h 3 rfl rfl Tryz.isAgg53 rfl rfl fun a h => ?_
    refine st_fieldAddr h rfl (fa_55_1) rfl fun a h => ?_
    refine st_loadO h 2 rfl rfl Tryz.isAgg53 rfl rfl fun a h => ?_
    refine st_call h Tryz.func311 rfl rfl rfl (limb_DivMod _ _ (fun b => h.owns_lt) (h.fact 2 rfl) (h.fact 3 rfl) (by omega) (by omega) (by omega)) rfl fun r w a hg hF h => ?_
    obtain ⟨y5, y6, y7, e8, t9, t10, t11⟩ := hF
    obtain ⟨A12, n13, c14, e16, f15⟩ := t9
    subst e16
    obtain ⟨A17, n18, c19, e21, f20⟩ := t10
    subst e21
    obtain rfl := t11
    subst e8
    have h := h.add (f := (Rel.natN).fact [(.slice A12 n13 c14)] ((z0.natAbs) / (z1.natAbs))) f15
    have h := h.add (f := (Rel.natN).fact [(.slice A17 n18 c19)] ((z0.natAbs) % (z1.natAbs))) f20
    refine st_move h rfl rfl fun a h => ?_
    refine st_extract (vs := [(.slice A12 n13 c14), (.slice A17 n18 c19), (.int .i64 0)]) h rfl rfl rfl fun a h => ?_
    refine st_extract (vs := [(.slice A12 n13 c14), (.slice A17 n18 c19), (.int .i64 0)]) h rfl rfl rfl fun a h => ?_
    refine st_extract (vs := [(.slice A12 n13 c14), (.slice A17 n18 c19), (.int .i64 0)]) h rfl rfl rfl fun a h => ?_
    refine st_assign h rfl rfl fun a h => ?_
    refine st_assign h rfl rfl fun a h => ?_
    refine st_assign h rfl rfl fun a h => ?_
    refine wpList_nil ?_
    refine seq_ ?_
    refine seq_ ?_
    refine reg_ ?_
    refine st_move h rfl rfl fun a h => ?_
    refine st_cmp h rfl rfl rfl rfl fun a h => ?_
    refine wpList_nil ?_
    refine cond_f h rfl (rfl) ?_
    refine wp_skip ?_
    refine seq_ ?_
    refine reg_ ?_
    refine st_move h rfl rfl fun a h => ?_
    refine st_fieldAddr h rfl (fa_55_0) rfl fun a h => ?_
    refine st_loadO h 3 rfl rfl Tryz.isAgg4 rfl rfl fun a h => ?_
    refine st_fieldAddr h rfl (fa_55_0) rfl fun a h => ?_
    refine st_loadO h 2 rfl rfl Tryz.isAgg4 rfl rfl fun a h => ?_
    refine st_neb h rfl rfl Tryz.underlying4 rfl fun a h => ?_
    refine st_call h Tryz.func249 rfl rfl rfl (whole_made _ _ (fun b => h.owns_lt) (h.fact 1 rfl)) rfl fun r w a hg hF h => ?_
    obtain ⟨cs22, e24, f23⟩ := hF
    obtain ⟨b25, A26, n27, c28, rfl⟩ := intN_shape f23
    subst e24
    have h := h.add (f := (Rel.intN).fact [(.bool b25), (.slice A26 n27 c28)] (ofSign (!(false == b1)) ((z0.natAbs) / (z1.natAbs)))) f23
    refine st_move h rfl rfl fun a h => ?_
    refine st_call h Tryz.func249 rfl rfl rfl (whole_made _ _ (fun b => h.owns_lt) (h.fact 1 rfl)) rfl fun r w a hg hF h => ?_
    obtain ⟨cs29, e31, f30⟩ := hF
    obtain ⟨b32, A33, n34, c35, rfl⟩ := intN_shape f30
    subst e31
    have h := h.add (f := (Rel.intN).fact [(.bool b32), (.slice A33 n34 c35)] (ofSign false ((z0.natAbs) % (z1.natAbs)))) f30
    refine st_store h 1 rfl rfl rfl Tryz.sizeOf55 rfl rfl rfl rfl fun w h => ?_
    refine st_store h 0 rfl rfl rfl Tryz.sizeOf55 rfl rfl rfl rfl fun w h => ?_
    refine wpList_nil ?_
    refine seq_ ?_
    refine seq_ ?_
    refine reg_ ?_
    refine st_fieldAddr h rfl (fa_55_0) rfl fun a h => ?_
    refine st_loadO h 3 rfl rfl Tryz.isAgg4 rfl rfl fun a h => ?_
    refine st_move h rfl rfl fun a h => ?_
    refine guard_skip h rfl rfl (rfl) rfl fun a h => ?_
    refine guard_skip h rfl rfl (rfl) rfl fun a h => ?_
    refine guard_skip h rfl rfl (rfl) rfl fun a h => ?_
    refine st_pickF h rfl (rfl) rfl rfl fun a h => ?_
    refine wpList_nil ?_
    refine cond_f h rfl (rfl) ?_
    refine wp_skip ?_
    refine seq_ ?_
    refine draw_ mixed_ 3 [some 58, some 59, none] [[], [], [0]] [(eqF (.agg #[(.bool b25), (.slice A26 n27 c28)])), (eqF (.agg #[(.bool b32), (.slice A33 n34 c35)])), noF] (fun _ _ => [(g4, 55, [(.bool b32), (.slice A33 n34 c35)]), (g3, 55, [(.bool b25), (.slice A26 n27 c28)]), (g2, 55, [(.bool b1), (.slice A1 n1 c1)]), (g1, 55, [(.bool false), (.slice A0 n0 c0)])]) rfl h (fun _ => rfl) rfl ⟨?_, ?_, ?_, trivial⟩ ?_
    · intro dp hdp0 hdp dv Fx a w h
      refine st_loadOS h 1 rfl rfl Tryz.isAgg55 Tryz.sizeOf55 rfl rfl fun a h => ?_
      refine wpList_nil ⟨rfl, ?_⟩
      exact ⟨_, h.drawEnd (F' := []) rfl rfl⟩
    · intro dp hdp0 hdp dv Fx a w h
      refine st_loadOS h 0 rfl rfl Tryz.isAgg55 Tryz.sizeOf55 rfl rfl fun a h => ?_
      refine wpList_nil ⟨rfl, ?_⟩
      exact ⟨_, h.drawEnd (F' := []) rfl rfl⟩
    · intro dp hdp0 hdp dv Fx a w h
      skip
      have e36 : dv 0 = (.agg #[(.bool b25), (.slice A26 n27 c28)]) := h.fact 0 rfl
      replace h := (h.spellE (t := 58) e36 rfl h)
      refine st_store h 1 rfl rfl rfl Tryz.sizeOf55 rfl rfl rfl rfl fun w h => ?_
      refine wpList_nil ⟨rfl, ?_⟩
      exact ⟨undef, h.drawEnd0 (F' := [_]) trivial⟩
    intro dp hdp dv a w h
    have hdp2 := hdp 2 (by omega)
    try simp only [hdp2, cond_true] at h
    have e37 : dv 1 = (.agg #[(.bool b32), (.slice A33 n34 c35)]) := h.fact 1 rfl
    have h2 := (h.spellE (t := 59) e37 rfl (h.consL (t := 38) rfl (h.consL (t := 19) rfl (h.consL (t := 8) rfl (h.consL (t := 7) rfl (h.consL (t := 6) rfl (h.consL (t := 5) rfl (h.consL (t := 4) rfl (h.consL (t := 3) rfl (h.consL (t := 2) rfl (h.consL (t := 1) rfl (h.consL (t := 0) rfl h.nilL))))))))))))
    have h3 := h2.noFacts
    have h3 := h3.add (h2.fact 10 rfl)
    have h3 := h3.add (h2.fact 9 rfl)
    have h3 := h3.add (h2.fact 8 rfl)
    have h3 := h3.add (h2.fact 7 rfl)
    have h3 := h3.add (h2.fact 6 rfl)
    have h3 := h3.add (h2.fact 5 rfl)
    have h3 := h3.add (h2.fact 4 rfl)
    have h3 := h3.add (h2.fact 3 rfl)
    clear h2
    replace h := h3
    clear h3
    refine st_store h 0 rfl rfl rfl Tryz.sizeOf55 rfl rfl rfl rfl fun w h => ?_
    refine st_assign h rfl rfl fun a h => ?_
    refine wpList_nil ?_
    refine wp_ret ?_
    repeat refine then_ret ?_
    refine ret3 Tryz.results312 h (resv_agg h 1 rfl rfl Tryz.isAgg55 Tryz.sizeOf55 rfl) (resv_agg h 0 rfl rfl Tryz.isAgg55 Tryz.sizeOf55 rfl) (resv_tmp h rfl) ?_
    exact ⟨_, rfl, h.grow0, _, _, _, rfl, ⟨_, rfl, (by rw [show z0 / z1 = ofSign (!(false == b1)) ((z0.natAbs) / (z1.natAbs)) from hdv.1]; exact h.out 1 rfl)⟩, ⟨_, rfl, (by rw [show z0 % z1 = ofSign false ((z0.natAbs) % (z1.natAbs)) from hdv.2]; exact h.out 0 rfl)⟩, rfl⟩
  · rcases Nat.eq_zero_or_pos (z0.natAbs % z1.natAbs) with hm0 | hm0
    · have hdv := div_zero_ofSign hz1 hz1p hz0 hm0
      refine seq_ ?_
      refine reg_ ?_
      refine st_box h rfl rfl fun g38 w a h => ?_
      refine st_box h rfl rfl fun g39 w a h => ?_
      refine st_alloc h Tryz.zeroValue55 rfl fun g40 w a h => ?_
      refine st_alloc h Tryz.zeroValue55 rfl fun g41 w a h => ?_
      refine st_assign h rfl rfl fun a h => ?_
      refine wpList_nil ?_
      refine seq_ ?_
      refine reg_ ?_
      refine st_fieldAddr h rfl (fa_55_1) rfl fun a h => ?_
      refine st_loadO h 3 rfl rfl Tryz.isAgg53 rfl rfl fun a h => ?_
      refine st_fieldAddr h rfl (fa_55_1) rfl fun a h => ?_
      refine st_loadO h 2 rfl rfl Tryz.isAgg53 rfl rfl fun a h => ?_
      refine st_call h Tryz.func311 rfl rfl rfl (limb_DivMod _ _ (fun b => h.owns_lt) (h.fact 2 rfl) (h.fact 3 rfl) (by omega) (by omega) (by omega)) rfl fun r w a hg hF h => ?_
      obtain ⟨y42, y43, y44, e45, t46, t47, t48⟩ := hF
      obtain ⟨A49, n50, c51, e53, f52⟩ := t46
      subst e53
      obtain ⟨A54, n55, c56, e58, f57⟩ := t47
      subst e58
      obtain rfl := t48
      subst e45
      have h := h.add (f := (Rel.natN).fact [(.slice A49 n50 c51)] ((z0.natAbs) / (z1.natAbs))) f52
      have h := h.add (f := (Rel.natN).fact [(.slice A54 n55 c56)] ((z0.natAbs) % (z1.natAbs))) f57
      refine st_move h rfl rfl fun a h => ?_
      refine st_extract (vs := [(.slice A49 n50 c51), (.slice A54 n55 c56), (.int .i64 0)]) h rfl rfl rfl fun a h => ?_
      refine st_extract (vs := [(.slice A49 n50 c51), (.slice A54 n55 c56), (.int .i64 0)]) h rfl rfl rfl fun a h => ?_
      refine st_extract (vs := [(.slice A49 n50 c51), (.slice A54 n55 c56), (.int .i64 0)]) h rfl rfl rfl fun a h => ?_
      refine st_assign h rfl rfl fun a h => ?_
      refine st_assign h rfl rfl fun a h => ?_
      refine st_assign h rfl rfl fun a h => ?_
      refine wpList_nil ?_
      refine seq_ ?_
      refine seq_ ?_
      refine reg_ ?_
      refine st_move h rfl rfl fun a h => ?_
      refine st_cmp h rfl rfl rfl rfl fun a h => ?_
      refine wpList_nil ?_
      refine cond_f h rfl (rfl) ?_
      refine wp_skip ?_
      refine seq_ ?_
      refine reg_ ?_
      refine st_move h rfl rfl fun a h => ?_
      refine st_fieldAddr h rfl (fa_55_0) rfl fun a h => ?_
      refine st_loadO h 3 rfl rfl Tryz.isAgg4 rfl rfl fun a h => ?_
      refine st_fieldAddr h rfl (fa_55_0) rfl fun a h => ?_
      refine st_loadO h 2 rfl rfl Tryz.isAgg4 rfl rfl fun a h => ?_
      refine st_neb h rfl rfl Tryz.underlying4 rfl fun a h => ?_
      refine st_call h Tryz.func249 rfl rfl rfl (whole_made _ _ (fun b => h.owns_lt) (h.fact 1 rfl)) rfl fun r w a hg hF h => ?_
      obtain ⟨cs59, e61, f60⟩ := hF
      obtain ⟨b62, A63, n64, c65, rfl⟩ := intN_shape f60
      subst e61
      have h := h.add (f := (Rel.intN).fact [(.bool b62), (.slice A63 n64 c65)] (ofSign (!(true == b1)) ((z0.natAbs) / (z1.natAbs)))) f60
      refine st_move h rfl rfl fun a h => ?_
      refine st_call h Tryz.func249 rfl rfl rfl (whole_made _ _ (fun b => h.owns_lt) (h.fact 1 rfl)) rfl fun r w a hg hF h => ?_
      obtain ⟨cs66, e68, f67⟩ := hF
      obtain ⟨b69, A70, n71, c72, rfl⟩ := intN_shape f67
      subst e68
      have h := h.add (f := (Rel.intN).fact [(.bool b69), (.slice A70 n71 c72)] (ofSign false ((z0.natAbs) % (z1.natAbs)))) f67
      refine st_store h 1 rfl rfl rfl Tryz.sizeOf55 rfl rfl rfl rfl fun w h => ?_
      refine st_store h 0 rfl rfl rfl Tryz.sizeOf55 rfl rfl rfl rfl fun w h => ?_
      refine wpList_nil ?_
      refine seq_ ?_
      refine seq_ ?_
      refine reg_ ?_
      refine st_fieldAddr h rfl (fa_55_0) rfl fun a h => ?_
      refine st_loadO h 3 rfl rfl Tryz.isAgg4 rfl rfl fun a h => ?_
      refine st_move h rfl rfl fun a h => ?_
      refine guard_run h rfl rfl (rfl) ?_
      refine st_move h rfl rfl fun a h => ?_
      refine guard_run h rfl rfl (rfl) ?_
      refine st_len h rfl Tryz.runUnderlying53 rfl fun a h => ?_
      refine guard_run h rfl rfl (rfl) ?_
      have hrl := (natN_len (h.fact 2 rfl)).1
      refine st_cmp h rfl rfl rfl rfl fun a h => ?_
      refine st_pickT h rfl (rfl) rfl rfl fun a h => ?_
      refine wpList_nil ?_
      refine cond_f h rfl (by simp; omega) ?_
      refine wp_skip ?_
      refine seq_ ?_
      refine draw_ mixed_ 3 [some 58, some 59, none] [[], [], [0]] [(eqF (.agg #[(.bool b62), (.slice A63 n64 c65)])), (eqF (.agg #[(.bool b69), (.slice A70 n71 c72)])), noF] (fun _ _ => [(g41, 55, [(.bool b69), (.slice A70 n71 c72)]), (g40, 55, [(.bool b62), (.slice A63 n64 c65)]), (g39, 55, [(.bool b1), (.slice A1 n1 c1)]), (g38, 55, [(.bool true), (.slice A0 n0 c0)])]) rfl h (fun _ => rfl) rfl ⟨?_, ?_, ?_, trivial⟩ ?_
      · intro dp hdp0 hdp dv Fx a w h
        refine st_loadOS h 1 rfl rfl Tryz.isAgg55 Tryz.sizeOf55 rfl rfl fun a h => ?_
        refine wpList_nil ⟨rfl, ?_⟩
        exact ⟨_, h.drawEnd (F' := []) rfl rfl⟩
      · intro dp hdp0 hdp dv Fx a w h
        refine st_loadOS h 0 rfl rfl Tryz.isAgg55 Tryz.sizeOf55 rfl rfl fun a h => ?_
        refine wpList_nil ⟨rfl, ?_⟩
        exact ⟨_, h.drawEnd (F' := []) rfl rfl⟩
      · intro dp hdp0 hdp dv Fx a w h
        skip
        have e73 : dv 0 = (.agg #[(.bool b62), (.slice A63 n64 c65)]) := h.fact 0 rfl
        replace h := (h.spellE (t := 58) e73 rfl h)
        refine st_store h 1 rfl rfl rfl Tryz.sizeOf55 rfl rfl rfl rfl fun w h => ?_
        refine wpList_nil ⟨rfl, ?_⟩
        exact ⟨undef, h.drawEnd0 (F' := [_]) trivial⟩
      intro dp hdp dv a w h
      have hdp2 := hdp 2 (by omega)
      try simp only [hdp2, cond_true] at h
      have e74 : dv 1 = (.agg #[(.bool b69), (.slice A70 n71 c72)]) := h.fact 1 rfl
      have h2 := (h.spellE (t := 59) e74 rfl (h.consL (t := 38) rfl (h.consL (t := 19) rfl (h.consL (t := 8) rfl (h.consL (t := 7) rfl (h.consL (t := 6) rfl (h.consL (t := 5) rfl (h.consL (t := 4) rfl (h.consL (t := 3) rfl (h.consL (t := 2) rfl (h.consL (t := 1) rfl (h.consL (t := 0) rfl h.nilL))))))))))))
      have h3 := h2.noFacts
      have h3 := h3.add (h2.fact 10 rfl)
      have h3 := h3.add (h2.fact 9 rfl)
      have h3 := h3.add (h2.fact 8 rfl)
      have h3 := h3.add (h2.fact 7 rfl)
      have h3 := h3.add (h2.fact 6 rfl)
      have h3 := h3.add (h2.fact 5 rfl)
      have h3 := h3.add (h2.fact 4 rfl)
      have h3 := h3.add (h2.fact 3 rfl)
      clear h2
      replace h := h3
      clear h3
      refine st_store h 0 rfl rfl rfl Tryz.sizeOf55 rfl rfl rfl rfl fun w h => ?_
      refine st_assign h rfl rfl fun a h => ?_
      refine wpList_nil ?_
      refine wp_ret ?_
      repeat refine then_ret ?_
      refine ret3 Tryz.results312 h (resv_agg h 1 rfl rfl Tryz.isAgg55 Tryz.sizeOf55 rfl) (resv_agg h 0 rfl rfl Tryz.isAgg55 Tryz.sizeOf55 rfl) (resv_tmp h rfl) ?_
      exact ⟨_, rfl, h.grow0, _, _, _, rfl, ⟨_, rfl, (by rw [show z0 / z1 = ofSign (!(true == b1)) ((z0.natAbs) / (z1.natAbs)) from hdv.1]; exact h.out 1 rfl)⟩, ⟨_, rfl, (by rw [show z0 % z1 = ofSign false ((z0.natAbs) % (z1.natAbs)) from hdv.2]; exact h.out 0 rfl)⟩, rfl⟩
    · have hdv := div_neg_ofSign hz1 hz1p hz0 hm0
      refine seq_ ?_
      refine reg_ ?_
      refine st_box h rfl rfl fun g75 w a h => ?_
      refine st_box h rfl rfl fun g76 w a h => ?_
      refine st_alloc h Tryz.zeroValue55 rfl fun g77 w a h => ?_
      refine st_alloc h Tryz.zeroValue55 rfl fun g78 w a h => ?_
      refine st_assign h rfl rfl fun a h => ?_
      refine wpList_nil ?_
      refine seq_ ?_
      refine reg_ ?_
      refine st_fieldAddr h rfl (fa_55_1) rfl fun a h => ?_
      refine st_loadO h 3 rfl rfl Tryz.isAgg53 rfl rfl fun a h => ?_
      refine st_fieldAddr h rfl (fa_55_1) rfl fun a h => ?_
      refine st_loadO h 2 rfl rfl Tryz.isAgg53 rfl rfl fun a h => ?_
      refine st_call h Tryz.func311 rfl rfl rfl (limb_DivMod _ _ (fun b => h.owns_lt) (h.fact 2 rfl) (h.fact 3 rfl) (by omega) (by omega) (by omega)) rfl fun r w a hg hF h => ?_
      obtain ⟨y79, y80, y81, e82, t83, t84, t85⟩ := hF
      obtain ⟨A86, n87, c88, e90, f89⟩ := t83
      subst e90
      obtain ⟨A91, n92, c93, e95, f94⟩ := t84
      subst e95
      obtain rfl := t85
      subst e82
      have h := h.add (f := (Rel.natN).fact [(.slice A86 n87 c88)] ((z0.natAbs) / (z1.natAbs))) f89
      have h := h.add (f := (Rel.natN).fact [(.slice A91 n92 c93)] ((z0.natAbs) % (z1.natAbs))) f94
      refine st_move h rfl rfl fun a h => ?_
      refine st_extract (vs := [(.slice A86 n87 c88), (.slice A91 n92 c93), (.int .i64 0)]) h rfl rfl rfl fun a h => ?_
      refine st_extract (vs := [(.slice A86 n87 c88), (.slice A91 n92 c93), (.int .i64 0)]) h rfl rfl rfl fun a h => ?_
      refine st_extract (vs := [(.slice A86 n87 c88), (.slice A91 n92 c93), (.int .i64 0)]) h rfl rfl rfl fun a h => ?_
      refine st_assign h rfl rfl fun a h => ?_
      refine st_assign h rfl rfl fun a h => ?_
      refine st_assign h rfl rfl fun a h => ?_
      refine wpList_nil ?_
      refine seq_ ?_
      refine seq_ ?_
      refine reg_ ?_
      refine st_move h rfl rfl fun a h => ?_
      refine st_cmp h rfl rfl rfl rfl fun a h => ?_
      refine wpList_nil ?_
      refine cond_f h rfl (rfl) ?_
      refine wp_skip ?_
      refine seq_ ?_
      refine reg_ ?_
      refine st_move h rfl rfl fun a h => ?_
      refine st_fieldAddr h rfl (fa_55_0) rfl fun a h => ?_
      refine st_loadO h 3 rfl rfl Tryz.isAgg4 rfl rfl fun a h => ?_
      refine st_fieldAddr h rfl (fa_55_0) rfl fun a h => ?_
      refine st_loadO h 2 rfl rfl Tryz.isAgg4 rfl rfl fun a h => ?_
      refine st_neb h rfl rfl Tryz.underlying4 rfl fun a h => ?_
      refine st_call h Tryz.func249 rfl rfl rfl (whole_made _ _ (fun b => h.owns_lt) (h.fact 1 rfl)) rfl fun r w a hg hF h => ?_
      obtain ⟨cs96, e98, f97⟩ := hF
      obtain ⟨b99, A100, n101, c102, rfl⟩ := intN_shape f97
      subst e98
      have h := h.add (f := (Rel.intN).fact [(.bool b99), (.slice A100 n101 c102)] (ofSign (!(true == b1)) ((z0.natAbs) / (z1.natAbs)))) f97
      refine st_move h rfl rfl fun a h => ?_
      refine st_call h Tryz.func249 rfl rfl rfl (whole_made _ _ (fun b => h.owns_lt) (h.fact 1 rfl)) rfl fun r w a hg hF h => ?_
      obtain ⟨cs103, e105, f104⟩ := hF
      obtain ⟨b106, A107, n108, c109, rfl⟩ := intN_shape f104
      subst e105
      have h := h.add (f := (Rel.intN).fact [(.bool b106), (.slice A107 n108 c109)] (ofSign false ((z0.natAbs) % (z1.natAbs)))) f104
      refine st_store h 1 rfl rfl rfl Tryz.sizeOf55 rfl rfl rfl rfl fun w h => ?_
      refine st_store h 0 rfl rfl rfl Tryz.sizeOf55 rfl rfl rfl rfl fun w h => ?_
      refine wpList_nil ?_
      refine seq_ ?_
      refine seq_ ?_
      refine reg_ ?_
      refine st_fieldAddr h rfl (fa_55_0) rfl fun a h => ?_
      refine st_loadO h 3 rfl rfl Tryz.isAgg4 rfl rfl fun a h => ?_
      refine st_move h rfl rfl fun a h => ?_
      refine guard_run h rfl rfl (rfl) ?_
      refine st_move h rfl rfl fun a h => ?_
      refine guard_run h rfl rfl (rfl) ?_
      refine st_len h rfl Tryz.runUnderlying53 rfl fun a h => ?_
      refine guard_run h rfl rfl (rfl) ?_
      have hrl := (natN_len (h.fact 2 rfl)).1
      refine st_cmp h rfl rfl rfl rfl fun a h => ?_
      refine st_pickT h rfl (rfl) rfl rfl fun a h => ?_
      refine wpList_nil ?_
      refine cond_t h rfl (by simp; omega) ?_
      refine seq_ ?_
      refine reg_ ?_
      refine st_move h rfl rfl fun a h => ?_
      refine st_buildSlice h rfl (buildSlice_run (zs := [(.int .u32 0)]) Tryz.runUnderlying53 Tryz.sizeOf276 Tryz.zeroValue276 rfl rfl (by decide) (by decide) (by decide) rfl) rfl fun g110 w a h => ?_
      have hl1x : ∀ z ∈ [1], z < 4294967296 := by intro z hz; simp at hz; subst hz; decide
      have hrow := own_row32 (r := [1]) 1 h (fun i hi => by rcases i with _ | i <;> first | rfl | (simp at hi)) hl1x (show 1 < 2 ^ 47 by decide) (Nat.le_refl _) (by decide)
      replace h := h.publish
      have h := h.add (f := (Rel.natA).fact [.slice (some ⟨g110, 0, none⟩) 1 1] (1)) (⟨_, hrow, hl1x, by simp [val]⟩)
      refine st_call h Tryz.func320 rfl rfl rfl (limb_Add _ _ (fun b => h.owns_lt) (natA_of_natN (h.fact 4 rfl)) (h.fact 0 rfl) (by omega) (by omega)) rfl fun r w a hg hF h => ?_
      obtain ⟨A111, n112, c113, e115, f114⟩ := hF
      subst e115
      have h := h.add (f := (Rel.natN).fact [(.slice A111 n112 c113)] (((z0.natAbs) / (z1.natAbs)) + (1))) f114
      refine st_assign h rfl rfl fun a h => ?_
      refine wpList_nil ?_
      refine seq_ ?_
      refine reg_ ?_
      refine st_fieldAddr h rfl (fa_55_1) rfl fun a h => ?_
      refine st_loadO h 2 rfl rfl Tryz.isAgg53 rfl rfl fun a h => ?_
      refine st_move h rfl rfl fun a h => ?_
      refine st_call h Tryz.func321 rfl rfl rfl (limb_Sub_le _ _ (fun b => h.owns_lt) (h.fact 9 rfl) (natA_of_natN (h.fact 4 rfl)) (by omega) (by omega)) rfl fun r w a hg hF h => ?_
      obtain ⟨y116, y117, e118, t119, t120⟩ := hF
      obtain ⟨A121, n122, c123, e125, f124⟩ := t119
      subst e125
      obtain rfl := t120
      subst e118
      have h := h.add (f := (Rel.natN).fact [(.slice A121 n122 c123)] ((z1.natAbs) - ((z0.natAbs) % (z1.natAbs)))) f124
      refine st_move h rfl rfl fun a h => ?_
      refine st_extract (vs := [(.slice A121 n122 c123), (.bool true)]) h rfl rfl rfl fun a h => ?_
      refine st_extract (vs := [(.slice A121 n122 c123), (.bool true)]) h rfl rfl rfl fun a h => ?_
      refine st_assign h rfl rfl fun a h => ?_
      refine wpList_nil ?_
      refine reg_ ?_
      refine st_move h rfl rfl fun a h => ?_
      refine st_fieldAddr h rfl (fa_55_0) rfl fun a h => ?_
      refine st_loadO h 3 rfl rfl Tryz.isAgg4 rfl rfl fun a h => ?_
      refine st_fieldAddr h rfl (fa_55_0) rfl fun a h => ?_
      refine st_loadO h 2 rfl rfl Tryz.isAgg4 rfl rfl fun a h => ?_
      refine st_neb h rfl rfl Tryz.underlying4 rfl fun a h => ?_
      refine st_call h Tryz.func249 rfl rfl rfl (whole_made _ _ (fun b => h.owns_lt) (h.fact 1 rfl)) rfl fun r w a hg hF h => ?_
      obtain ⟨cs126, e128, f127⟩ := hF
      obtain ⟨b129, A130, n131, c132, rfl⟩ := intN_shape f127
      subst e128
      have h := h.add (f := (Rel.intN).fact [(.bool b129), (.slice A130 n131 c132)] (ofSign (!(true == b1)) (((z0.natAbs) / (z1.natAbs)) + (1)))) f127
      refine st_move h rfl rfl fun a h => ?_
      refine st_call h Tryz.func249 rfl rfl rfl (whole_made _ _ (fun b => h.owns_lt) (h.fact 1 rfl)) rfl fun r w a hg hF h => ?_
      obtain ⟨cs133, e135, f134⟩ := hF
      obtain ⟨b136, A137, n138, c139, rfl⟩ := intN_shape f134
      subst e135
      have h := h.add (f := (Rel.intN).fact [(.bool b136), (.slice A137 n138 c139)] (ofSign false ((z1.natAbs) - ((z0.natAbs) % (z1.natAbs))))) f134
      refine st_store h 1 rfl rfl rfl Tryz.sizeOf55 rfl rfl rfl rfl fun w h => ?_
      refine st_store h 0 rfl rfl rfl Tryz.sizeOf55 rfl rfl rfl rfl fun w h => ?_
      refine wpList_nil ?_
      refine seq_ ?_
      refine draw_ mixed_ 3 [some 58, some 59, none] [[], [], [0]] [(eqF (.agg #[(.bool b129), (.slice A130 n131 c132)])), (eqF (.agg #[(.bool b136), (.slice A137 n138 c139)])), noF] (fun _ _ => [(g78, 55, [(.bool b136), (.slice A137 n138 c139)]), (g77, 55, [(.bool b129), (.slice A130 n131 c132)]), (g76, 55, [(.bool b1), (.slice A1 n1 c1)]), (g75, 55, [(.bool true), (.slice A0 n0 c0)])]) rfl h (fun _ => rfl) rfl ⟨?_, ?_, ?_, trivial⟩ ?_
      · intro dp hdp0 hdp dv Fx a w h
        refine st_loadOS h 1 rfl rfl Tryz.isAgg55 Tryz.sizeOf55 rfl rfl fun a h => ?_
        refine wpList_nil ⟨rfl, ?_⟩
        exact ⟨_, h.drawEnd (F' := []) rfl rfl⟩
      · intro dp hdp0 hdp dv Fx a w h
        refine st_loadOS h 0 rfl rfl Tryz.isAgg55 Tryz.sizeOf55 rfl rfl fun a h => ?_
        refine wpList_nil ⟨rfl, ?_⟩
        exact ⟨_, h.drawEnd (F' := []) rfl rfl⟩
      · intro dp hdp0 hdp dv Fx a w h
        skip
        have e140 : dv 0 = (.agg #[(.bool b129), (.slice A130 n131 c132)]) := h.fact 0 rfl
        replace h := (h.spellE (t := 58) e140 rfl h)
        refine st_store h 1 rfl rfl rfl Tryz.sizeOf55 rfl rfl rfl rfl fun w h => ?_
        refine wpList_nil ⟨rfl, ?_⟩
        exact ⟨undef, h.drawEnd0 (F' := [_]) trivial⟩
      intro dp hdp dv a w h
      have hdp2 := hdp 2 (by omega)
      try simp only [hdp2, cond_true] at h
      have e141 : dv 1 = (.agg #[(.bool b136), (.slice A137 n138 c139)]) := h.fact 1 rfl
      have h2 := (h.spellE (t := 59) e141 rfl (h.consL (t := 38) rfl (h.consL (t := 19) rfl (h.consL (t := 8) rfl (h.consL (t := 7) rfl (h.consL (t := 6) rfl (h.consL (t := 5) rfl (h.consL (t := 4) rfl (h.consL (t := 3) rfl (h.consL (t := 2) rfl (h.consL (t := 1) rfl (h.consL (t := 0) rfl h.nilL))))))))))))
      have h3 := h2.noFacts
      have h3 := h3.add (h2.fact 15 rfl)
      have h3 := h3.add (h2.fact 14 rfl)
      have h3 := h3.add (h2.fact 13 rfl)
      have h3 := h3.add (h2.fact 12 rfl)
      have h3 := h3.add (h2.fact 11 rfl)
      have h3 := h3.add (h2.fact 10 rfl)
      have h3 := h3.add (h2.fact 9 rfl)
      have h3 := h3.add (h2.fact 8 rfl)
      have h3 := h3.add (h2.fact 7 rfl)
      have h3 := h3.add (h2.fact 6 rfl)
      have h3 := h3.add (h2.fact 5 rfl)
      have h3 := h3.add (h2.fact 4 rfl)
      have h3 := h3.add (h2.fact 3 rfl)
      clear h2
      replace h := h3
      clear h3
      refine st_store h 0 rfl rfl rfl Tryz.sizeOf55 rfl rfl rfl rfl fun w h => ?_
      refine st_assign h rfl rfl fun a h => ?_
      refine wpList_nil ?_
      refine wp_ret ?_
      repeat refine then_ret ?_
      refine ret3 Tryz.results312 h (resv_agg h 1 rfl rfl Tryz.isAgg55 Tryz.sizeOf55 rfl) (resv_agg h 0 rfl rfl Tryz.isAgg55 Tryz.sizeOf55 rfl) (resv_tmp h rfl) ?_
      exact ⟨_, rfl, h.grow0, _, _, _, rfl, ⟨_, rfl, (by rw [show z0 / z1 = ofSign (!(true == b1)) (((z0.natAbs) / (z1.natAbs)) + (1)) from hdv.1]; exact h.out 1 rfl)⟩, ⟨_, rfl, (by rw [show z0 % z1 = ofSign false ((z1.natAbs) - ((z0.natAbs) % (z1.natAbs))) from hdv.2]; exact h.out 0 rfl)⟩, rfl⟩

set_option maxHeartbeats 1000000 in
theorem whole_Exact (hO : ∀ b, Ob b → b < W.heap.size) {b0 : Bool} {A0 : Option Addr} {n0 c0 : Nat} {z0 : Int} {b1 : Bool} {A1 : Option Addr} {n1 c1 : Nat} {z1 : Int} (hx0 : Rel.intA.at_ W Ob [.bool b0, .slice A0 n0 c0] z0) (hx1 : Rel.intA.at_ W Ob [.bool b1, .slice A1 n1 c1] z1) (hs0 : isz z0 ≤ 4294967295) (hs1 : isz z1 ≤ 4294967295) (hz : z1 ≠ 0) (hdv : z0 % z1 = 0) :
    Calls Tryz.prog 265 #[.agg #[.bool b0, .slice A0 n0 c0], .agg #[.bool b1, .slice A1 n1 c1]] W (Ret W Ob (tup2 (Rel.intN.aggF (z0 / z1)) (eqF (.int .i64 0)))) := by
  obtain ⟨hx2, hz0⟩ := intA_open hx0
  obtain ⟨hx3, hz1⟩ := intA_open hx1
  have hs0' : sz z0.natAbs ≤ 4294967295 := hs0
  have hs1' : sz z1.natAbs ≤ 4294967295 := hs1
  refine enter (vs := [(.agg #[(.bool b0), (.slice A0 n0 c0)]), (.agg #[(.bool b1), (.slice A1 n1 c1)])]) (Ob := Ob) (K := fun b => b < W.heap.size) (Fs := [(Rel.intA).fact [(.bool b0), (.slice A0 n0 c0)] (z0), (Rel.intA).fact [(.bool b1), (.slice A1 n1 c1)] (z1), (Rel.natA).fact [(.slice A0 n0 c0)] (z0.natAbs), (Rel.natA).fact [(.slice A1 n1 c1)] (z1.natAbs)]) Tryz.func265 rfl Tryz.ntmps265 rfl (fun _ h => h) hO (by simp only [List.mem_cons, List.not_mem_nil, or_false, forall_eq_or_imp, forall_eq, false_imp_iff, implies_true]; exact ⟨hx0, hx1, hx2, hx3⟩) fun a h => ?_
  refine seq_ ?_
  refine reg_ ?_
  refine st_box h rfl rfl fun g1 w a h => ?_
  refine st_box h rfl rfl fun g2 w a h => ?_
  refine st_alloc h Tryz.zeroValue55 rfl fun g3 w a h => ?_
  refine st_assign h rfl rfl fun a h => ?_
  refine wpList_nil ?_
  refine seq_ ?_
  refine reg_ ?_
  refine st_loadOS h 2 rfl rfl Tryz.isAgg55 Tryz.sizeOf55 rfl rfl fun a h => ?_
  refine st_loadOS h 1 rfl rfl Tryz.isAgg55 Tryz.sizeOf55 rfl rfl fun a h => ?_
  refine st_call h Tryz.func312 rfl rfl rfl (whole_DivMod _ _ (fun b => h.owns_lt) (h.fact 0 rfl) (h.fact 1 rfl) (by omega) (by omega) (by omega)) rfl fun r w a hg hF h => ?_
  obtain ⟨y4, y5, y6, e7, t8, t9, t10⟩ := hF
  obtain ⟨cs11, e13, f12⟩ := t8
  obtain ⟨b14, A15, n16, c17, rfl⟩ := intN_shape f12
  subst e13
  obtain ⟨cs18, e20, f19⟩ := t9
  obtain ⟨b21, A22, n23, c24, rfl⟩ := intN_shape f19
  subst e20
  obtain rfl := t10
  subst e7
  have h := h.add (f := (Rel.intN).fact [(.bool b14), (.slice A15 n16 c17)] ((z0) / (z1))) f12
  have h := h.add (f := (Rel.intN).fact [(.bool b21), (.slice A22 n23 c24)] ((z0) % (z1))) f19
  refine st_move h rfl rfl fun a h => ?_
  refine st_extract (vs := [(.agg #[(.bool b14), (.slice A15 n16 c17)]), (.agg #[(.bool b21), (.slice A22 n23 c24)]), (.int .i64 0)]) h rfl rfl rfl fun a h => ?_
  refine st_extract (vs := [(.agg #[(.bool b14), (.slice A15 n16 c17)]), (.agg #[(.bool b21), (.slice A22 n23 c24)]), (.int .i64 0)]) h rfl rfl rfl fun a h => ?_
  refine st_extract (vs := [(.agg #[(.bool b14), (.slice A15 n16 c17)]), (.agg #[(.bool b21), (.slice A22 n23 c24)]), (.int .i64 0)]) h rfl rfl rfl fun a h => ?_
  refine st_alloc h Tryz.zeroValue55 rfl fun g25 w a h => ?_
  refine st_alloc h Tryz.zeroValue55 rfl fun g26 w a h => ?_
  refine st_store h 1 rfl rfl rfl Tryz.sizeOf55 rfl rfl rfl rfl fun w h => ?_
  refine st_store h 0 rfl rfl rfl Tryz.sizeOf55 rfl rfl rfl rfl fun w h => ?_
  refine st_assign h rfl rfl fun a h => ?_
  refine wpList_nil ?_
  refine seq_ ?_
  refine seq_ ?_
  refine reg_ ?_
  refine st_move h rfl rfl fun a h => ?_
  refine st_cmp h rfl rfl rfl rfl fun a h => ?_
  refine wpList_nil ?_
  refine cond_f h rfl (rfl) ?_
  refine wp_skip ?_
  refine seq_ ?_
  refine seq_ ?_
  refine reg_ ?_
  refine st_fieldAddr h rfl (fa_55_1) rfl fun a h => ?_
  refine st_loadO h 0 rfl rfl Tryz.isAgg53 rfl rfl fun a h => ?_
  refine st_len h rfl Tryz.runUnderlying53 rfl fun a h => ?_
  have hrl := (natN_len (intN_open (h.fact 0 rfl)).1).1
  rw [hdv] at hrl
  refine st_cmp h rfl rfl rfl rfl fun a h => ?_
  refine wpList_nil ?_
  refine cond_f h rfl (by simp; omega) ?_
  refine wp_skip ?_
  refine seq_ ?_
  refine reg_ ?_
  refine st_loadOS h 1 rfl rfl Tryz.isAgg55 Tryz.sizeOf55 rfl rfl fun a h => ?_
  refine st_store h 2 rfl rfl rfl Tryz.sizeOf55 rfl rfl rfl rfl fun w h => ?_
  refine st_assign h rfl rfl fun a h => ?_
  refine wpList_nil ?_
  refine wp_ret ?_
  repeat refine then_ret ?_
  refine ret2 Tryz.results265 h (resv_agg h 2 rfl rfl Tryz.isAgg55 Tryz.sizeOf55 rfl) (resv_tmp h rfl) ?_
  exact ⟨_, rfl, h.grow0, _, _, rfl, ⟨_, rfl, h.out 1 rfl⟩, rfl⟩

set_option maxHeartbeats 1000000 in
theorem whole_Gcd (hO : ∀ b, Ob b → b < W.heap.size) {A : Option Addr} {n c : Nat} {l : List Int} (hx0 : Rel.intA.slice.at_ W Ob [.slice A n c] l) (hs : ∀ z ∈ l, isz z ≤ 4294967295) :
    Calls Tryz.prog 264 #[.slice A n c] W (Ret W Ob (Rel.intN.aggF ((gcdL l : Nat) : Int))) := by
  obtain ⟨en, _, _, _⟩ := srow_open hx0
  refine enter (vs := [(.slice A n c)]) (Ob := Ob) (K := fun b => b < W.heap.size) (Fs := [((Rel.intA.slice)).fact [.slice A n c] (l)]) Tryz.func264 rfl Tryz.ntmps264 rfl (fun _ h => h) hO (by simp only [List.mem_cons, List.not_mem_nil, or_false, forall_eq_or_imp, forall_eq, false_imp_iff, implies_true]; exact hx0) fun a h => ?_
  refine seq_ ?_
  refine reg_ ?_
  refine st_alloc h Tryz.zeroValue55 rfl fun g1 w a h => ?_
  refine wpList_nil ?_
  refine seq_ ?_
  refine reg_ ?_
  refine st_assign h rfl rfl fun a h => ?_
  refine wpList_nil ?_
  refine seq_ ?_
  refine seq_ ?_
  refine reg_ ?_
  refine st_move h rfl rfl fun a h => ?_
  refine st_len h rfl Tryz.runUnderlying51 rfl fun a h => ?_
  refine st_move h rfl rfl fun a h => ?_
  refine wpList_nil ?_
  refine blk_cut (fun a w' => ∃ G gn gc gv, gv = gcdL l ∧ sz gv ≤ 4294967295 ∧ St (fun b => b < W.heap.size) Ob W w' a 44 [(2, (.pointer (some ⟨g1, 0, none⟩))), (3, (.slice G gn gc))] [(Rel.natN).fact [.slice G gn gc] (gv)] [(g1, 55, [(.bool false), (.slice none 0 0)])]) ?_ ?_
  · skip
    refine wp_block ?_
    refine loop_ (fun m a w' => ∃ i G gn gc gv, i ≤ n ∧ gv = gcdL (l.take i) ∧ sz gv ≤ 4294967295 ∧ m = n - i ∧ St (fun b => b < W.heap.size) Ob W w' a 44 [(0, (.slice A n c)), (2, (.pointer (some ⟨g1, 0, none⟩))), (3, (.slice G gn gc)), (10, (.slice A n c)), (11, (.int .i64 (n : Int))), (12, (.int .i64 (i : Int)))] [(Rel.natN).fact [.slice G gn gc] (gv), ((Rel.intA.slice)).fact [.slice A n c] (l)] [(g1, 55, [(.bool false), (.slice none 0 0)])]) (m := _) (⟨0, none, 0, 0, 0, by omega, rfl, by decide, rfl, (((h.consL (t := 0) rfl (h.consL (t := 2) rfl (h.consL (t := 3) rfl (h.consL (t := 10) rfl (h.consL (t := 11) rfl (h.consL (t := 12) rfl h.nilL)))))).noFacts.add (h.fact 0 rfl)).add (natN_nil))⟩) ?_
    clear h
    rintro m a w ⟨i, G, gn, gc, gv, hp0, hp1, hp2, hm, h⟩
    by_cases hlt : i < n
    · obtain ⟨b1, o1, rfl, _⟩ := srow_get (h.fact 1 rfl) (by omega)
      obtain ⟨z, hz⟩ : ∃ z, l[i]? = some z := ⟨_, List.getElem?_eq_getElem (by omega)⟩
      have hzs := hs _ (List.mem_of_getElem? hz)
      have hzs' : sz z.natAbs ≤ 4294967295 := hzs
      refine seq_ ?_
      refine reg_ ?_
      refine st_cmp h rfl rfl rfl rfl fun a h => ?_
      refine wpList_nil ?_
      refine seq_ ?_
      refine cond_t h rfl (by simp; omega) ?_
      refine wp_skip ?_
      refine seq_ ?_
      refine wp_block ?_
      refine seq_ ?_
      refine reg_ ?_
      refine st_indexI (i) h rfl rfl Tryz.runUnderlying51 Tryz.sizeOf55 (rfl) (by omega) rfl fun a h => ?_
      obtain ⟨cs, hcs, hcell⟩ := srow_cells (h.fact 1 rfl) hz
      obtain ⟨zb, Z, zn, zc, rfl⟩ := intA_shape hcs
      have h := h.add (f := Rel.intA.fact [.bool zb, .slice Z zn zc] z) hcs
      have h := h.add (f := Rel.natA.fact [.slice Z zn zc] z.natAbs) (intA_open hcs).1
      refine st_loadS (vs := [(.bool zb), (.slice Z zn zc)]) h rfl Tryz.isAgg55 Tryz.sizeOf55 rfl (hcell) rfl fun a h => ?_
      refine st_alloc h Tryz.zeroValue55 rfl fun g2 w a h => ?_
      refine st_store h 0 rfl rfl rfl Tryz.sizeOf55 rfl rfl rfl rfl fun w h => ?_
      refine wpList_nil ?_
      refine seq_ ?_
      refine reg_ ?_
      refine st_fieldAddr h rfl (fa_55_1) rfl fun a h => ?_
      refine st_loadO h 0 rfl rfl Tryz.isAgg53 rfl rfl fun a h => ?_
      refine st_call h Tryz.func267 rfl rfl rfl (limb_Norm _ _ (fun b => h.owns_lt) (h.fact 0 rfl) (by omega)) rfl fun r w a hg hF h => ?_
      obtain ⟨A3, n4, c5, e7, f6⟩ := hF
      subst e7
      have h := h.add (f := (Rel.natN).fact [(.slice A3 n4 c5)] (z.natAbs)) f6
      refine st_assign h rfl rfl fun a h => ?_
      refine wpList_nil ?_
      refine seq_ ?_
      refine wp_block ?_
      replace h := h.publish
      refine loop_ (fun m a w' => ∃ G' gn' gc' gv' X xn xc xv, Nat.gcd gv' xv = Nat.gcd gv z.natAbs ∧ sz gv' ≤ 4294967295 ∧ sz xv ≤ 4294967295 ∧ m = xv ∧ St (fun b => b < W.heap.size) Ob W w' a 44 [(0, (.slice (some ⟨b1, o1, none⟩) n c)), (2, (.pointer (some ⟨g1, 0, none⟩))), (10, (.slice (some ⟨b1, o1, none⟩) n c)), (11, (.int .i64 (n : Int))), (12, (.int .i64 (i : Int))), (3, (.slice G' gn' gc')), (6, (.slice X xn xc))] [(Rel.natN).fact [(.slice G' gn' gc')] (gv'), (Rel.natN).fact [.slice X xn xc] (xv), ((Rel.intA.slice)).fact [(.slice (some ⟨b1, o1, none⟩) n c)] (l)] [(g1, 55, [(.bool false), (.slice none 0 0)])]) (m := _) (⟨_, _, _, _, _, _, _, _, rfl, hp2, hzs', rfl, ((((h.consL (t := 0) rfl (h.consL (t := 2) rfl (h.consL (t := 10) rfl (h.consL (t := 11) rfl (h.consL (t := 12) rfl (h.consL (t := 3) rfl (h.consL (t := 6) rfl h.nilL))))))).noFacts.add (h.fact 4 rfl)).add (h.fact 0 rfl)).add (h.fact 3 rfl))⟩) ?_
      clear h
      rintro m a w ⟨G', gn', gc', gv', X, xn, xc, xv, hp20, hp21, hp22, hm, h⟩
      have hxl := (natN_len (h.fact 1 rfl)).1
      by_cases hx0 : 0 < xv
      · skip
        refine seq_ ?_
        refine seq_ ?_
        refine reg_ ?_
        refine st_move h rfl rfl fun a h => ?_
        refine st_len h rfl Tryz.runUnderlying53 rfl fun a h => ?_
        refine st_cmp h rfl rfl rfl rfl fun a h => ?_
        refine wpList_nil ?_
        refine cond_t h rfl (by simp; omega) ?_
        refine wp_skip ?_
        refine wp_block ?_
        refine seq_ ?_
        refine reg_ ?_
        refine st_move h rfl rfl fun a h => ?_
        refine st_move h rfl rfl fun a h => ?_
        refine st_call h Tryz.func311 rfl rfl rfl (limb_DivMod _ _ (fun b => h.owns_lt) (natA_of_natN (h.fact 0 rfl)) (natA_of_natN (h.fact 1 rfl)) (by omega) (by omega) (by omega)) rfl fun r w a hg hF h => ?_
        obtain ⟨y8, y9, y10, e11, t12, t13, t14⟩ := hF
        obtain ⟨A15, n16, c17, e19, f18⟩ := t12
        subst e19
        obtain ⟨A20, n21, c22, e24, f23⟩ := t13
        subst e24
        obtain rfl := t14
        subst e11
        have h := h.add (f := (Rel.natN).fact [(.slice A15 n16 c17)] ((gv') / (xv))) f18
        have h := h.add (f := (Rel.natN).fact [(.slice A20 n21 c22)] ((gv') % (xv))) f23
        refine st_move h rfl rfl fun a h => ?_
        refine st_extract (vs := [(.slice A15 n16 c17), (.slice A20 n21 c22), (.int .i64 0)]) h rfl rfl rfl fun a h => ?_
        refine st_extract (vs := [(.slice A15 n16 c17), (.slice A20 n21 c22), (.int .i64 0)]) h rfl rfl rfl fun a h => ?_
        refine st_extract (vs := [(.slice A15 n16 c17), (.slice A20 n21 c22), (.int .i64 0)]) h rfl rfl rfl fun a h => ?_
        refine st_assign h rfl rfl fun a h => ?_
        refine st_assign h rfl rfl fun a h => ?_
        refine st_assign h rfl rfl fun a h => ?_
        refine wpList_nil ?_
        refine reg_ ?_
        refine st_move h rfl rfl fun a h => ?_
        refine st_move h rfl rfl fun a h => ?_
        refine st_assign h rfl rfl fun a h => ?_
        refine st_assign h rfl rfl fun a h => ?_
        refine wpList_nil ?_
        refine ⟨_, ?_, _, _, _, _, _, _, _, _, by rw [← hp20]; exact (gcd_mod gv' xv), hp22, Nat.le_trans (sz_mono (Nat.le_of_lt (Nat.mod_lt _ hx0))) hp22, rfl, ((((h.consL (t := 0) rfl (h.consL (t := 2) rfl (h.consL (t := 10) rfl (h.consL (t := 11) rfl (h.consL (t := 12) rfl (h.consL (t := 3) rfl (h.consL (t := 6) rfl h.nilL))))))).noFacts.add (h.fact 4 rfl)).add (h.fact 0 rfl)).add (h.fact 3 rfl))⟩
        rw [hm]; exact Nat.mod_lt _ hx0
      · skip
        refine seq_ ?_
        refine seq_ ?_
        refine reg_ ?_
        refine st_move h rfl rfl fun a h => ?_
        refine st_len h rfl Tryz.runUnderlying53 rfl fun a h => ?_
        refine st_cmp h rfl rfl rfl rfl fun a h => ?_
        refine wpList_nil ?_
        refine cond_f h rfl (by simp; omega) ?_
        refine wp_exit ?_
        repeat refine then_exit ?_
        refine inBlock_exit ?_
        refine seq_ ?_
        refine reg_ ?_
        refine st_move h rfl rfl fun a h => ?_
        refine st_len h rfl Tryz.runUnderlying53 rfl fun a h => ?_
        have hgv : gv' = gcdL (l.take (i + 1)) := by rw [gcdL_snoc hz, ← hp1, ← hp20, show xv = 0 from by omega, Nat.gcd_zero_right]
        by_cases h1 : gn' = 1
        · obtain ⟨ly, hly1, hly2, hly3⟩ := h.fact 0 rfl
          obtain ⟨ey, _, _⟩ := row_open hly1
          obtain ⟨b2, o2, rfl, _, _, _⟩ := row_get hly1 (i := 0) (by omega)
          obtain ⟨y, hy⟩ : ∃ y, ly[0]? = some y := ⟨_, List.getElem?_eq_getElem (by omega)⟩
          have hyv : gv' = y := by rw [← hly3, val_top1 (l := ly) (k := 0) (by omega) hy]; simp [val]
          have h := h.add (f := Rel.row32.fact [(.slice (some ⟨b2, o2, none⟩) gn' gc')] ly) hly1
          refine st_cmp h rfl rfl rfl rfl fun a h => ?_
          refine st_move h rfl rfl fun a h => ?_
          refine guard_run h rfl rfl (by simp; omega) ?_
          refine st_move h rfl rfl fun a h => ?_
          refine guard_run h rfl rfl (by simp; omega) ?_
          refine st_indexI (0) h rfl rfl Tryz.runUnderlying53 Tryz.sizeOf276 (rfl) (by omega) rfl fun a h => ?_
          refine guard_run h rfl rfl (by simp; omega) ?_
          refine st_load h rfl Tryz.isAgg276 (row_cell (h.fact 0 rfl) hy) rfl fun a h => ?_
          refine guard_run h rfl rfl (by simp; omega) ?_
          refine st_cmp h rfl rfl rfl rfl fun a h => ?_
          refine st_pickT h rfl (by simp; omega) rfl rfl fun a h => ?_
          refine wpList_nil ?_
          refine cond_ h rfl (fun hb_if3 => ?_) (fun hb_if3 => ?_)
          · try simp only [decide_eq_true_eq, decide_eq_false_iff_not, Bool.not_eq_true', Bool.not_eq_false'] at hb_if3
            have hg1 := (gcdL_one (l := l) (i := i + 1) (by omega)).symm
            rw [show (1 : Nat) = gv' from by omega] at hg1
            refine wp_exit ?_
            repeat refine then_exit ?_
            refine inBlock_other rfl ?_
            repeat refine then_exit ?_
            refine inBlock_exit ?_
            exact ⟨_, _, _, _, hg1, hp21, ((h.consL (t := 2) rfl (h.consL (t := 3) rfl h.nilL)).noFacts.add (h.fact 1 rfl))⟩
          · try simp only [decide_eq_true_eq, decide_eq_false_iff_not, Bool.not_eq_true', Bool.not_eq_false'] at hb_if3
            refine wp_skip ?_
            refine reg_ ?_
            refine st_addI h rfl rfl (by omega) rfl fun a h => ?_
            refine st_move h rfl rfl fun a h => ?_
            refine wpList_nil ?_
            refine ⟨_, ?_, i + 1, _, _, _, _, by omega, hgv, hp21, rfl, (((h.consL (t := 0) rfl (h.consL (t := 2) rfl (h.consL (t := 3) rfl (h.consL (t := 10) rfl (h.consL (t := 11) rfl (h.consL (t := 12) rfl h.nilL)))))).noFacts.add (h.fact 3 rfl)).add (h.fact 1 rfl))⟩
            omega
        · skip
          refine st_cmp h rfl rfl rfl rfl fun a h => ?_
          refine st_move h rfl rfl fun a h => ?_
          refine guard_skip h rfl rfl (by simp; omega) rfl fun a h => ?_
          refine guard_skip h rfl rfl (by simp; omega) rfl fun a h => ?_
          refine guard_skip h rfl rfl (by simp; omega) rfl fun a h => ?_
          refine guard_skip h rfl rfl (by simp; omega) rfl fun a h => ?_
          refine st_pickF h rfl (by simp; omega) rfl rfl fun a h => ?_
          refine wpList_nil ?_
          refine cond_f h rfl (rfl) ?_
          refine wp_skip ?_
          refine reg_ ?_
          refine st_addI h rfl rfl (by omega) rfl fun a h => ?_
          refine st_move h rfl rfl fun a h => ?_
          refine wpList_nil ?_
          refine ⟨_, ?_, i + 1, _, _, _, _, by omega, hgv, hp21, rfl, (((h.consL (t := 0) rfl (h.consL (t := 2) rfl (h.consL (t := 3) rfl (h.consL (t := 10) rfl (h.consL (t := 11) rfl (h.consL (t := 12) rfl h.nilL)))))).noFacts.add (h.fact 2 rfl)).add (h.fact 0 rfl))⟩
          omega
    · skip
      refine seq_ ?_
      refine reg_ ?_
      refine st_cmp h rfl rfl rfl rfl fun a h => ?_
      refine wpList_nil ?_
      refine seq_ ?_
      refine cond_f h rfl (by simp; omega) ?_
      refine wp_exit ?_
      repeat refine then_exit ?_
      refine inBlock_exit ?_
      exact ⟨_, _, _, _, by rw [hp1, List.take_of_length_le (by omega)], hp2, ((h.consL (t := 2) rfl (h.consL (t := 3) rfl h.nilL)).noFacts.add (h.fact 0 rfl))⟩
  · clear h
    rintro a w ⟨G, gn, gc, gv, hp0, hp1, h⟩
    refine seq_ ?_
    refine reg_ ?_
    refine st_move h rfl rfl fun a h => ?_
    refine st_call h Tryz.func267 rfl rfl rfl (limb_Norm _ _ (fun b => h.owns_lt) (natA_of_natN (h.fact 0 rfl)) (by omega)) rfl fun r w a hg hF h => ?_
    obtain ⟨A25, n26, c27, e29, f28⟩ := hF
    subst e29
    have h := h.add (f := (Rel.natN).fact [(.slice A25 n26 c27)] (gv)) f28
    refine st_call h Tryz.func249 rfl rfl rfl (whole_made _ _ (fun b => h.owns_lt) (h.fact 0 rfl)) rfl fun r w a hg hF h => ?_
    obtain ⟨cs30, e32, f31⟩ := hF
    obtain ⟨b33, A34, n35, c36, rfl⟩ := intN_shape f31
    subst e32
    have h := h.add (f := (Rel.intN).fact [(.bool b33), (.slice A34 n35 c36)] (ofSign false (gv))) f31
    refine st_store h 0 rfl rfl rfl Tryz.sizeOf55 rfl rfl rfl rfl fun w h => ?_
    refine wpList_nil ?_
    refine wp_ret ?_
    repeat refine then_ret ?_
    refine ret1 Tryz.results264 h (resv_agg h 0 rfl rfl Tryz.isAgg55 Tryz.sizeOf55 rfl) ?_
    exact ⟨_, rfl, h.grow0, _, rfl, (by rw [show ((gcdL l : Nat) : Int) = ofSign false (gv) from by rw [← hp0]; rfl]; exact h.out 0 rfl)⟩

end Orr

namespace Orr
open Go Go.Proofs
theorem d_whole_Norm {x y : LV} {z : Int} (hi : IsInt x y z) (hs1 : isz z ≤ 4294967295) : Does Tryz.prog 251 [.agg [x, y]] (.agg (ofI z)) :=
  does_int1 hi fun Ob W b A n c hO h => ⟨_, whole_Norm Ob W hO h hs1, fun w v => aggF_a v⟩
theorem d_whole_Neg {x y : LV} {z : Int} (hi : IsInt x y z) (hs1 : isz z ≤ 4294967295) : Does Tryz.prog 194 [.agg [x, y]] (.agg (ofI (-z))) :=
  does_int1 hi fun Ob W b A n c hO h => ⟨_, whole_Neg Ob W hO h hs1, fun w v => aggF_a v⟩
theorem d_whole_Mul {x y x' y' : LV} {z z' : Int} (hi : IsInt x y z) (hi' : IsInt x' y' z') (hs1 : isz z ≤ 4294967295) (hs2 : isz z' ≤ 4294967295)  : Does Tryz.prog 169 [.agg [x, y], .agg [x', y']] (.agg (ofI (z * z'))) :=
  does_int2 hi hi' fun Ob W b A n c b' A' n' c' hO h h' => ⟨_, whole_Mul Ob W hO h h' hs1 hs2 , fun w v => aggF_a v⟩
theorem d_whole_Add {x y x' y' : LV} {z z' : Int} (hi : IsInt x y z) (hi' : IsInt x' y' z') (hs1 : isz z ≤ 4294967295) (hs2 : isz z' ≤ 4294967295)  : Does Tryz.prog 295 [.agg [x, y], .agg [x', y']] (.agg (ofI (z + z'))) :=
  does_int2 hi hi' fun Ob W b A n c b' A' n' c' hO h h' => ⟨_, whole_Add Ob W hO h h' hs1 hs2 , fun w v => aggF_a v⟩
theorem d_whole_Sub {x y x' y' : LV} {z z' : Int} (hi : IsInt x y z) (hi' : IsInt x' y' z') (hs1 : isz z ≤ 4294967295) (hs2 : isz z' ≤ 4294967295)  : Does Tryz.prog 256 [.agg [x, y], .agg [x', y']] (.agg (ofI (z - z'))) :=
  does_int2 hi hi' fun Ob W b A n c b' A' n' c' hO h h' => ⟨_, whole_Sub Ob W hO h h' hs1 hs2 , fun w v => aggF_a v⟩
theorem d_whole_Cmp {x y x' y' : LV} {z z' : Int} (hi : IsInt x y z) (hi' : IsInt x' y' z') (hs1 : isz z ≤ 4294967295) (hs2 : isz z' ≤ 4294967295)  : Does Tryz.prog 291 [.agg [x, y], .agg [x', y']] (.one (.int .i64 (cmpZ z z'))) :=
  does_int2 hi hi' fun Ob W b A n c b' A' n' c' hO h h' => ⟨_, whole_Cmp Ob W hO h h' hs1 hs2 , fun w v => eqF_a rfl v⟩
theorem d_whole_Exact {x y x' y' : LV} {z z' : Int} (hi : IsInt x y z) (hi' : IsInt x' y' z') (hs1 : isz z ≤ 4294967295) (hs2 : isz z' ≤ 4294967295) (hz : z' ≠ 0) (hdv : z % z' = 0) : Does Tryz.prog 265 [.agg [x, y], .agg [x', y']] (.tup [.agg (ofI (z / z')), .one (.int .i64 0)]) :=
  does_int2 hi hi' fun Ob W b A n c b' A' n' c' hO h h' => ⟨_, whole_Exact Ob W hO h h' hs1 hs2 hz hdv, fun w v => tup2_a (fun v h => intN_to h) eqF_t v⟩
theorem d_whole_Of {z : Int} (h1 : -9223372036854775808 ≤ z ∧ z ≤ 9223372036854775807) : Does Tryz.prog 191 [.one (.int .i64 z)] (.agg (ofI z)) :=
  does_of fun Ob W vs hO hargs => by
    rcases vs with _ | ⟨v, _ | ⟨v2, vs⟩⟩
    · exact hargs.elim
    · have hr : LRep W Ob v (.int .i64 z) := hargs.1
      cases hr
      exact ⟨_, whole_Of Ob W hO h1.1 h1.2, fun w v => aggF_a v⟩
    · exact hargs.2.elim
theorem d_whole_Gcd {l : List (List LV)} {p : List Int} (hi : IsInts l p) (hs : ∀ z ∈ p, isz z ≤ 4294967295) : Does Tryz.prog 264 [.one (.row l)] (.agg (ofI ((gcdL p : Nat) : Int))) :=
  does_ints hi fun Ob W A n c hO h => ⟨_, whole_Gcd Ob W hO h hs, fun w v => aggF_a v⟩
end Orr

namespace Orr
/-- all coefficients have at most s binary digits -/
def Bd (s : Nat) (p : List Int) : Prop := ∀ z ∈ p, isz z ≤ s
theorem isz_zero : isz 0 = 0 := rfl
theorem bd_get {s : Nat} {p : List Int} (h : Bd s p) {i : Nat} {z : Int} (hz : p[i]? = some z) : isz z ≤ s := h z (List.mem_of_getElem? hz)
theorem bd_getD {s : Nat} {p : List Int} (h : Bd s p) (k : Nat) : isz (p.getD k 0) ≤ s := by
  rw [List.getD_eq_getElem?_getD]
  cases hk : p[k]? with
  | none => rw [Option.getD_none, isz_zero]; exact Nat.zero_le _
  | some z => exact bd_get h hk
theorem bd_mono {s t : Nat} {p : List Int} (h : Bd s p) (ht : s ≤ t) : Bd t p := fun z hz => Nat.le_trans (h z hz) ht
theorem bd_nil {s : Nat} : Bd s [] := fun z hz => by cases hz
theorem bd_map {s : Nat} {n : Nat} {g : Nat → Int} (h : ∀ k, k < n → isz (g k) ≤ s) : Bd s ((List.range n).map g) := fun z hz => by
  obtain ⟨k, hk, rfl⟩ := List.mem_map.1 hz
  exact h k (List.mem_range.1 hk)
theorem trim_sub : ∀ (l : List Int), ∀ z ∈ trim l, z ∈ l
  | [], z, h => by cases h
  | x :: l, z, h => by
    have ih := trim_sub l
    cases hl : trim l with
    | nil =>
      simp only [trim, hl] at h
      split at h
      · cases h
      · rw [List.mem_singleton] at h; rw [h]; exact List.mem_cons_self ..
    | cons y k =>
      simp only [trim, hl] at h
      rcases List.mem_cons.1 h with rfl | h
      · exact List.mem_cons_self ..
      · exact List.mem_cons_of_mem _ (ih z (by rw [hl]; exact h))
theorem trim_len (l : List Int) : (trim l).length ≤ l.length := by
  induction l with
  | nil => exact Nat.le_refl _
  | cons x l ih =>
    cases hl : trim l with
    | nil => simp only [trim, hl]; split <;> simp
    | cons y k => simp only [trim, hl]; rw [hl] at ih; simp at ih ⊢; exact ih
theorem bd_trim {s : Nat} {p : List Int} (h : Bd s p) : Bd s (trim p) := fun z hz => h z (trim_sub p z hz)
/-- the coefficients g 0, g 1, .., cut -/
def each (n : Nat) (g : Nat → Int) : List Int := trim ((List.range n).map g)
theorem each_trim (n : Nat) (g : Nat → Int) : Trim (each n g) := trim_trim _
theorem each_len (n : Nat) (g : Nat → Int) : (each n g).length ≤ n := Nat.le_trans (trim_len _) (by simp)
theorem bd_each {s n : Nat} {g : Nat → Int} (h : ∀ k, k < n → isz (g k) ≤ s) : Bd s (each n g) := bd_trim (bd_map h)
def padd (p q : List Int) : List Int := each (max p.length q.length) fun k => p.getD k 0 + q.getD k 0
def psub (p q : List Int) : List Int := each (max p.length q.length) fun k => p.getD k 0 - q.getD k 0
def pscale (p : List Int) (c : Int) : List Int := each p.length fun k => p.getD k 0 * c
def pder (p : List Int) : List Int := each (p.length - 1) fun k => p.getD (k + 1) 0 * ((k + 1 : Nat) : Int)
theorem bd_padd {s t : Nat} {p q : List Int} (h : Bd s p) (h' : Bd t q) : Bd (max s t + 1) (padd p q) := bd_each fun k _ => Nat.le_trans (isz_add _ _) (by have := bd_getD h k; have := bd_getD h' k; omega)
theorem bd_psub {s t : Nat} {p q : List Int} (h : Bd s p) (h' : Bd t q) : Bd (max s t + 1) (psub p q) := bd_each fun k _ => Nat.le_trans (isz_sub _ _) (by have := bd_getD h k; have := bd_getD h' k; omega)
theorem bd_pscale {s t : Nat} {p : List Int} {c : Int} (h : Bd s p) (hc : isz c ≤ t) : Bd (s + t) (pscale p c) := bd_each fun k _ => Nat.le_trans (isz_mul _ _) (by have := bd_getD h k; omega)
theorem len_padd (p q : List Int) : (padd p q).length ≤ max p.length q.length := each_len _ _
theorem len_psub (p q : List Int) : (psub p q).length ≤ max p.length q.length := each_len _ _
theorem len_pscale (p : List Int) (c : Int) : (pscale p c).length ≤ p.length := each_len _ _
theorem len_pder (p : List Int) : (pder p).length ≤ p.length - 1 := each_len _ _
theorem isz_nat {k t : Nat} (h : k < 2 ^ t) : isz (k : Int) ≤ t := by rw [isz_le]; simpa using h
theorem isz_nat38 {k : Nat} (h : k < 274877906944) : isz (k : Int) ≤ 4294967295 := Nat.le_trans (isz_nat (t := 38) (Nat.lt_of_lt_of_eq h (by decide))) (by omega)
theorem bd_pder {s t : Nat} {p : List Int} (h : Bd s p) (hl : p.length ≤ 2 ^ t) : Bd (s + t) (pder p) := bd_each fun k hk => Nat.le_trans (isz_mul _ _) (by
  have := bd_getD h (k + 1)
  have := isz_nat (k := k + 1) (t := t) (by omega)
  omega)
/-! ### products -/
def mulk (x : Int) (b : List Int) (i : Nat) (o : List Int) : Nat → List Int
  | 0 => o
  | k + 1 => (mulk x b i o k).set (i + k) ((mulk x b i o k).getD (i + k) 0 + x * b.getD k 0)
def muli (a b o : List Int) : Nat → List Int
  | 0 => o
  | i + 1 => mulk (a.getD i 0) b i (muli a b o i) b.length
/-- the product of normal polynomials -/
def pmul (a b : List Int) : List Int := if a.length = 0 ∨ b.length = 0 then [] else trim (muli a b (List.replicate (a.length + b.length - 1) 0) a.length)
theorem mulk_len (x : Int) (b : List Int) (i : Nat) (o : List Int) (k : Nat) : (mulk x b i o k).length = o.length := by
  induction k with
  | zero => rfl
  | succ k ih => simp [mulk, ih]
theorem muli_len (a b o : List Int) (i : Nat) : (muli a b o i).length = o.length := by
  induction i with
  | zero => rfl
  | succ i ih => simp [muli, mulk_len, ih]
theorem getD_set (l : List Int) (i m : Nat) (v : Int) (h : i < l.length) : (l.set i v).getD m 0 = if m = i then v else l.getD m 0 := by
  rw [List.getD_eq_getElem?_getD, List.getElem?_set, List.getD_eq_getElem?_getD]
  by_cases e : i = m
  · subst e; simp [h]
  · rw [if_neg e, if_neg (fun h => e h.symm)]
theorem mulk_getD (x : Int) (b : List Int) (i : Nat) (o : List Int) (k m : Nat) (h : i + k ≤ o.length) : (mulk x b i o k).getD m 0 = if i ≤ m ∧ m < i + k then o.getD m 0 + x * b.getD (m - i) 0 else o.getD m 0 := by
  induction k with
  | zero => simp only [mulk]; rw [if_neg (by omega)]
  | succ k ih =>
    have ih := ih (by omega)
    simp only [mulk]
    rw [getD_set _ _ _ _ (by rw [mulk_len]; omega)]
    by_cases e : m = i + k
    · subst e
      rw [if_pos rfl, if_pos (by omega), show i + k - i = k from by omega]
      rw [ih, if_neg (by omega)]
    · rw [if_neg e, ih]
      by_cases h1 : i ≤ m ∧ m < i + k
      · rw [if_pos h1, if_pos (by omega)]
      · rw [if_neg h1, if_neg (by omega)]
theorem natAbs_mul_bd {x y : Int} {s t : Nat} (hx : isz x ≤ s) (hy : isz y ≤ t) : (x * y).natAbs ≤ 2 ^ (s + t) := by
  have h := Nat.le_trans (isz_mul x y) (show _ ≤ s + t by omega)
  rw [isz_le] at h; omega
theorem mulk_bd {x : Int} {b : List Int} {i : Nat} {o : List Int} {k M : Nat} (h : i + k ≤ o.length) (ho : ∀ m, (o.getD m 0).natAbs ≤ i * M) (hx : ∀ j, (x * b.getD j 0).natAbs ≤ M) (m : Nat) : ((mulk x b i o k).getD m 0).natAbs ≤ (i + 1) * M := by
  rw [mulk_getD x b i o k m h, Nat.succ_mul]
  have h1 := ho m
  split
  · have h2 := hx (m - i)
    generalize i * M = q at *
    omega
  · omega
theorem muli_bd {a b o : List Int} {i M : Nat} (h : ∀ j, j < i → j + b.length ≤ o.length) (ho : ∀ m, o.getD m 0 = 0) (hx : ∀ i j, (a.getD i 0 * b.getD j 0).natAbs ≤ M) (m : Nat) : ((muli a b o i).getD m 0).natAbs ≤ i * M := by
  induction i generalizing m with
  | zero => simp only [muli]; rw [ho]; simp
  | succ i ih =>
    simp only [muli]
    exact mulk_bd (by rw [muli_len]; exact h i (by omega)) (ih fun j hj => h j (by omega)) (hx i) m
theorem isz_of_natAbs {z : Int} {i s t : Nat} (h : z.natAbs ≤ i * 2 ^ s) (hi : i < 2 ^ t) : isz z ≤ s + t := by
  rw [isz_le]
  have h1 : i * 2 ^ s < 2 ^ t * 2 ^ s := Nat.mul_lt_mul_of_pos_right hi (Nat.pow_pos (by decide))
  rw [← Nat.pow_add, Nat.add_comm t s] at h1
  omega
theorem getD_replicate (n m : Nat) : (List.replicate n (0 : Int)).getD m 0 = 0 := by
  rw [List.getD_eq_getElem?_getD, List.getElem?_replicate]; split <;> rfl
theorem bd_of_getD {s : Nat} {p : List Int} (h : ∀ m, isz (p.getD m 0) ≤ s) : Bd s p := fun z hz => by
  obtain ⟨i, hi⟩ := List.mem_iff_getElem?.1 hz
  have := h i
  rw [List.getD_eq_getElem?_getD, hi] at this
  exact this
theorem len_pmul (a b : List Int) : (pmul a b).length ≤ a.length + b.length - 1 := by
  unfold pmul
  split
  · simp
  · refine Nat.le_trans (trim_len _) ?_
    rw [muli_len]; simp
theorem bd_pmul {s t u : Nat} {a b : List Int} (ha : Bd s a) (hb : Bd t b) (hl : a.length < 2 ^ u) : Bd (s + t + u) (pmul a b) := by
  unfold pmul
  split
  · exact bd_nil
  · refine bd_trim (bd_of_getD fun m => ?_)
    exact isz_of_natAbs (muli_bd (M := 2 ^ (s + t)) (fun j hj => by simp; omega) (getD_replicate _) (fun i j => natAbs_mul_bd (bd_getD ha i) (bd_getD hb j)) m) hl
/-! ### values -/
/-- what poly.value reckons, from the last coefficient down: v and the power, k of them left -/
def valk (a : List Int) (n d : Int) : Nat → Int × Int
  | 0 => (0, 1)
  | k + 1 => ((valk a n d k).1 * n + a.getD (a.length - 1 - k) 0 * (valk a n d k).2, (valk a n d k).2 * d)
def pval (a : List Int) (n d : Int) : Int := (valk a n d a.length).1
theorem valk_bd {a : List Int} {n d : Int} {s t k : Nat} (ha : Bd s a) (hn : isz n ≤ t) (hd : isz d ≤ t) : isz (valk a n d k).1 ≤ s + 2 + k * (t + 1) ∧ isz (valk a n d k).2 ≤ 1 + k * t := by
  induction k with
  | zero => exact ⟨by simp [valk, isz_zero], by simp [valk]; decide⟩
  | succ k ih =>
    obtain ⟨h1, h2⟩ := ih
    have h3 := bd_getD ha (a.length - 1 - k)
    have e1 : k * (t + 1) = k * t + k := by rw [Nat.mul_add, Nat.mul_one]
    rw [Nat.succ_mul, Nat.succ_mul]
    refine ⟨?_, ?_⟩
    · simp only [valk]
      refine Nat.le_trans (isz_add _ _) ?_
      have h4 := isz_mul (valk a n d k).1 n
      have h5 := isz_mul (a.getD (a.length - 1 - k) 0) (valk a n d k).2
      generalize k * t = q at *
      rw [e1] at h1 ⊢
      omega
    · simp only [valk]
      have h4 := isz_mul (valk a n d k).2 d
      generalize k * t = q at *
      omega
end Orr
namespace Orr
theorem getD_some {l : List Int} {i : Nat} (h : i < l.length) : l[i]? = some (l.getD i 0) := by
  rw [List.getD_eq_getElem?_getD, List.getElem?_eq_getElem h]; rfl
theorem cmpZ_eq {x y : Int} : cmpZ x y = 0 ↔ x = y := by
  unfold cmpZ
  constructor
  · intro h
    split at h
    · omega
    · split at h <;> omega
  · rintro rfl; simp
end Orr
namespace Orr
theorem map_getD (p : List Int) : (List.range p.length).map (fun k => p.getD k 0) = p := by
  apply List.ext_getElem?
  intro i
  rw [List.getElem?_map]
  rcases Nat.lt_or_ge i p.length with h | h
  · rw [List.getElem?_range h]
    simp [List.getElem?_eq_getElem h]
  · rw [List.getElem?_eq_none (by simpa using h), List.getElem?_eq_none h]; rfl
theorem eq_of_getD {p q : List Int} (hl : p.length = q.length) (h : ∀ j, j < p.length → p.getD j 0 = q.getD j 0) : p = q := by
  rw [← map_getD p, ← map_getD q, ← hl]
  exact List.map_congr_left fun j hj => h j (List.mem_range.1 hj)
end Orr
