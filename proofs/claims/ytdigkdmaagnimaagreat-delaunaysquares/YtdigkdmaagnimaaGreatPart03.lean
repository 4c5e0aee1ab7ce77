/- Limb Bits Whole -/
import Derived.Test.YtdigkdmaagnimaaGreatPart01
import Derived.Test.YtdigkdmaagnimaaGreatPart00
set_option linter.all false

namespace Orr
open Go Go.Proofs
variable (Ob : Nat → Prop) (W : World)
set_option maxHeartbeats 1000000 in
theorem limb_cut_ok (hO : ∀ b, Ob b → b < W.heap.size) (A : Option Addr) (c : Nat) (l : List Nat) (hx0 : Rel.row32.at_ W Ob [.slice A l.length c] l) :
  Calls Tryz.prog 67 #[.slice A l.length c] W fun e w' => ∃ r, e = .returned r ∧ Grow W w' ∧ ∃ A' m c', Cut l m ∧ r = .slice A' m c' ∧ Rel.row32.at_ w' Ob [.slice A' m c'] (l.take m) := by
 obtain ⟨_, hlc, hc47⟩ := row_open hx0
 refine enter (vs := [(.slice A l.length c)]) (Ob := Ob) (K := fun b => b < W.heap.size) (Fs := [(Rel.row32).fact [.slice A l.length c] (l)]) Tryz.func67 rfl Tryz.ntmps67 rfl (fun _ h => h) hO (by simp only [List.mem_cons, List.not_mem_nil, or_false, forall_eq_or_imp, forall_eq, false_imp_iff, implies_true]; exact hx0) fun a h => ?_
 refine seq_ (reg_ ?_)
 refine st_assign h rfl rfl fun a h => ?_
 refine wpList_nil ?_
 refine seq_ (reg_ ?_)
 refine st_move h rfl rfl fun a h => ?_
 refine st_len h rfl Tryz.runUnderlying28 rfl fun a h => ?_
 refine st_assign h rfl rfl fun a h => ?_
 refine wpList_nil ?_
 refine seq_ ?_
 refine wp_block ?_
 refine loop_ (fun m a w' => m ≤ l.length ∧ (∀ j, m ≤ j → j < l.length → l[j]? = some 0) ∧ St (fun b => b < W.heap.size) Ob W w' a 21 [(0, .slice A l.length c), (3, .int .i64 (m : Int))] [Rel.row32.fact [.slice A l.length c] l] []) (m := l.length) (⟨Nat.le_refl _, fun j h1 h2 => absurd h2 (by omega), h.consL (t := 0) rfl (h.consL (t := 3) rfl h.nilL)⟩) ?_
 clear h
 rintro m a w ⟨hm, hz, h⟩
 by_cases h0 : 0 < m
 ·obtain ⟨b, o, rfl, _, _, hc⟩ := row_get (h.fact 0 rfl) (i := m - 1) (by omega)
  have hx1 : l[m - 1]? = some (l[m - 1]'(by omega)) := List.getElem?_eq_getElem (by omega)
  refine seq_ (seq_ (reg_ ?_))
  refine st_move h rfl rfl fun a h => ?_
  refine st_cmp h rfl rfl rfl rfl fun a h => ?_
  refine st_move h rfl rfl fun a h => ?_
  refine guard_run h rfl rfl (by simpa using h0) ?_
  refine st_move h rfl rfl fun a h => ?_
  refine guard_run h rfl rfl (by simpa using h0) ?_
  refine st_move h rfl rfl fun a h => ?_
  refine guard_run h rfl rfl (by simpa using h0) ?_
  refine st_subI h rfl rfl (by omega) rfl fun a h => ?_
  refine guard_run h rfl rfl (by simpa using h0) ?_
  refine st_indexI (m - 1) h rfl rfl Tryz.runUnderlying28 Tryz.sizeOf104 (by omega) (by omega) rfl fun a h => ?_
  refine guard_run h rfl rfl (by simpa using h0) ?_
  refine st_load h rfl Tryz.isAgg104 (hc _ _ hx1) rfl fun a h => ?_
  refine guard_run h rfl rfl (by simpa using h0) ?_
  refine st_cmp h rfl rfl rfl rfl fun a h => ?_
  refine st_pickT h rfl (by simpa using h0) rfl rfl fun a h => ?_
  refine wpList_nil ?_
  refine cond_ h rfl (fun hb_if1 => ?_) (fun hb_if1 => ?_)
  ·try simp only [decide_eq_true_eq, decide_eq_false_iff_not, Bool.not_eq_true', Bool.not_eq_false'] at hb_if1
   refine wp_skip ?_
   refine wp_block ?_
   refine reg_ ?_
   refine st_move h rfl rfl fun a h => ?_
   refine st_subI h rfl rfl (by omega) rfl fun a h => ?_
   refine st_assign h rfl rfl fun a h => ?_
   refine wpList_nil ?_
   refine ⟨m - 1, by omega, by omega, fun j h1 h2 => ?_, h.consL (t := 0) rfl ((h.consL (t := 3) rfl h.nilL).respell (by congr 1; omega))⟩
   by_cases e : j = m - 1
   ·rw [e, hx1]; congr 1; omega
   exact hz j (by omega) h2
  try simp only [decide_eq_true_eq, decide_eq_false_iff_not, Bool.not_eq_true', Bool.not_eq_false'] at hb_if1
  have hne : l[m - 1]'(by omega) ≠ 0 := by omega
  refine wp_exit ?_
  repeat refine then_exit ?_
  refine inBlock_exit ?_
  refine seq_ (reg_ ?_)
  refine st_move h rfl rfl fun a h => ?_
  refine st_move h rfl rfl fun a h => ?_
  refine st_cutHi (i := m) h rfl rfl Tryz.runUnderlying28 Tryz.sizeOf104 (by omega) rfl fun a h => ?_
  refine st_assign h rfl rfl fun a h => ?_
  refine wpList_nil ?_
  refine wp_ret ?_
  refine ret1 Tryz.results67 h (resv_tmp h rfl) ⟨_, rfl, h.grow0, _, m, c, ⟨hm, hz, fun hp => ?_⟩, rfl, row_take (h.out 0 rfl) m hm⟩
  first | exact ⟨_, hx1, hne⟩ | omega
 skip
 refine seq_ (seq_ (reg_ ?_))
 refine st_move h rfl rfl fun a h => ?_
 refine st_cmp h rfl rfl rfl rfl fun a h => ?_
 refine st_move h rfl rfl fun a h => ?_
 refine guard_skip h rfl rfl (by simpa using h0) rfl fun a h => ?_
 refine guard_skip h rfl rfl (by simpa using h0) rfl fun a h => ?_
 refine guard_skip h rfl rfl (by simpa using h0) rfl fun a h => ?_
 refine guard_skip h rfl rfl (by simpa using h0) rfl fun a h => ?_
 refine guard_skip h rfl rfl (by simpa using h0) rfl fun a h => ?_
 refine guard_skip h rfl rfl (by simpa using h0) rfl fun a h => ?_
 refine st_pickF h rfl (by simpa using h0) rfl rfl fun a h => ?_
 refine wpList_nil ?_
 refine cond_f h rfl (rfl) ?_
 refine wp_exit ?_
 repeat refine then_exit ?_
 refine inBlock_exit ?_
 refine seq_ (reg_ ?_)
 refine st_move h rfl rfl fun a h => ?_
 refine st_move h rfl rfl fun a h => ?_
 refine st_cutHi (i := m) h rfl rfl Tryz.runUnderlying28 Tryz.sizeOf104 (by omega) rfl fun a h => ?_
 refine st_assign h rfl rfl fun a h => ?_
 refine wpList_nil ?_
 refine wp_ret ?_
 refine ret1 Tryz.results67 h (resv_tmp h rfl) ⟨_, rfl, h.grow0, _, m, c, ⟨hm, hz, fun hp => ?_⟩, rfl, row_take (h.out 0 rfl) m hm⟩
 first | exact ⟨_, hx1, hne⟩ | omega
theorem limb_cut (hO : ∀ b, Ob b → b < W.heap.size) {A : Option Addr} {n c x : Nat} (hx0 : Rel.natA.at_ W Ob [.slice A n c] x) :
  Calls Tryz.prog 67 #[.slice A n c] W (Ret W Ob (Rel.natN.sliceF x)) := by
 obtain ⟨l, h1, h2, rfl⟩ := hx0
 obtain ⟨rfl, _, _⟩ := row_open h1
 refine (limb_cut_ok Ob W hO A c l h1).mono fun e w' ⟨r, he, hg, A', m, c', hc, hr, hrow⟩ => ?_
 exact ⟨r, he, hg, A', m, c', hr, l.take m, hrow, cut_nrm hc h2, cut_val hc⟩
set_option maxHeartbeats 1000000 in
theorem limb_Norm (hO : ∀ b, Ob b → b < W.heap.size) {A : Option Addr} {n c x : Nat} (hx0 : Rel.natA.at_ W Ob [.slice A n c] x) (hs : sz x ≤ 4294967296) :
  Calls Tryz.prog 40 #[.slice A n c] W (Ret W Ob (Rel.natN.sliceF x)) := by
 refine enter (vs := [(.slice A n c)]) (Ob := Ob) (K := fun b => b < W.heap.size) (Fs := [(Rel.natA).fact [.slice A n c] (x)]) Tryz.func40 rfl Tryz.ntmps40 rfl (fun _ h => h) hO (by simp only [List.mem_cons, List.not_mem_nil, or_false, forall_eq_or_imp, forall_eq, false_imp_iff, implies_true]; exact hx0) fun a h => ?_
 refine seq_ (reg_ ?_)
 refine st_assign h rfl rfl fun a h => ?_
 refine wpList_nil ?_
 refine seq_ (reg_ ?_)
 refine st_move h rfl rfl fun a h => ?_
 refine st_call h Tryz.func67 rfl rfl rfl (limb_cut _ _ (fun b => h.owns_lt) (h.fact 0 rfl)) rfl fun r w a hg hF h => ?_
 obtain ⟨A1, n2, c3, e5, f4⟩ := hF
 subst e5
 have h := h.add (f := (Rel.natN).fact [(.slice A1 n2 c3)] (x)) f4
 obtain ⟨l, hl1, hl2, hl3⟩ := h.fact 0 rfl
 obtain ⟨en, _, _⟩ := row_open hl1
 have hlen := nrm_len hl2
 have h33 : (2 : Nat) ^ 33 = 8589934592 := by decide
 have h47 : (2 : Nat) ^ 47 = 140737488355328 := by decide
 refine st_append (Bo := []) (zs := [.int .u32 0]) (m := 0) (cs := []) h rfl rfl Tryz.runUnderlying28 Tryz.typeInfo104 rfl rfl Tryz.sizeOf104 Tryz.zeroValue104 rfl rfl ⟨rfl, .inl ⟨rfl, rfl, rfl⟩⟩ (src_row32 hl1) (u32s_one l) (by rw [hl3] at hlen; omega) rfl fun v1 w Bo a ho h => ?_
 obtain ⟨A1, c1, ev, hrow⟩ := ownRow_row32 h ho hl2.1 (by rw [hl3] at hlen; omega)
 subst ev
 replace h := h.tailB
 have h := h.add (f := Rel.natN.fact [.slice A1 l.length c1] x) ⟨l, hrow, hl2, hl3⟩
 refine st_assign h rfl rfl fun a h => ?_
 refine wpList_nil ?_
 refine wp_ret ?_
 exact ret1 Tryz.results40 h (resv_tmp h rfl) ⟨_, rfl, h.grow0, _, _, _, rfl, h.out 0 rfl⟩
set_option maxHeartbeats 1000000 in
theorem limb_Cmp (hO : ∀ b, Ob b → b < W.heap.size) {A : Option Addr} {n c x : Nat} {A' : Option Addr} {n' c' y : Nat} (hx0 : Rel.natA.at_ W Ob [.slice A n c] x) (hx1 : Rel.natA.at_ W Ob [.slice A' n' c'] y) :
  Calls Tryz.prog 104 #[.slice A n c, .slice A' n' c'] W (Ret W Ob (eqF (.int .i64 (cmpN x y)))) := by
 refine enter (vs := [(.slice A n c), (.slice A' n' c')]) (Ob := Ob) (K := fun b => b < W.heap.size) (Fs := [(Rel.natA).fact [.slice A n c] (x), (Rel.natA).fact [(.slice A' n' c')] (y)]) Tryz.func104 rfl Tryz.ntmps104 rfl (fun _ h => h) hO (by simp only [List.mem_cons, List.not_mem_nil, or_false, forall_eq_or_imp, forall_eq, false_imp_iff, implies_true]; exact ⟨hx0, hx1⟩) fun a h => ?_
 refine seq_ (reg_ ?_)
 refine st_assign h rfl rfl fun a h => ?_
 refine wpList_nil ?_
 refine seq_ (reg_ ?_)
 refine st_move h rfl rfl fun a h => ?_
 refine st_call h Tryz.func67 rfl rfl rfl (limb_cut _ _ (fun b => h.owns_lt) (h.fact 0 rfl)) rfl fun r w a hg hF h => ?_
 obtain ⟨A1, n2, c3, e5, f4⟩ := hF
 subst e5
 have h := h.add (f := (Rel.natN).fact [(.slice A1 n2 c3)] (x)) f4
 refine st_move h rfl rfl fun a h => ?_
 refine st_call h Tryz.func67 rfl rfl rfl (limb_cut _ _ (fun b => h.owns_lt) (h.fact 2 rfl)) rfl fun r w a hg hF h => ?_
 obtain ⟨A6, n7, c8, e10, f9⟩ := hF
 subst e10
 have h := h.add (f := (Rel.natN).fact [(.slice A6 n7 c8)] (y)) f9
 refine st_assign h rfl rfl fun a h => ?_
 refine st_assign h rfl rfl fun a h => ?_
 refine wpList_nil ?_
 refine seq_ (seq_ (reg_ ?_))
 refine st_move h rfl rfl fun a h => ?_
 refine st_len h rfl Tryz.runUnderlying28 rfl fun a h => ?_
 refine st_move h rfl rfl fun a h => ?_
 refine st_len h rfl Tryz.runUnderlying28 rfl fun a h => ?_
 obtain ⟨l, hl1, hl2, hl3⟩ := h.fact 1 rfl
 obtain ⟨r, hr1, hr2, hr3⟩ := h.fact 0 rfl
 have h := h.add (f := Rel.row32.fact [(.slice A1 n2 c3)] l) hl1
 obtain ⟨el, _, _⟩ := row_open hl1
 have h := h.add (f := Rel.row32.fact [(.slice A6 n7 c8)] r) hr1
 obtain ⟨er, _, _⟩ := row_open hr1
 refine st_cmp h rfl rfl rfl rfl fun a h => ?_
 refine wpList_nil ?_
 refine cond_ h rfl (fun hb_if1 => ?_) (fun hb_if1 => ?_)
 ·try simp only [decide_eq_true_eq, decide_eq_false_iff_not, Bool.not_eq_true', Bool.not_eq_false'] at hb_if1
  refine seq_ (seq_ (reg_ ?_))
  refine st_move h rfl rfl fun a h => ?_
  refine st_len h rfl Tryz.runUnderlying28 rfl fun a h => ?_
  refine st_move h rfl rfl fun a h => ?_
  refine st_len h rfl Tryz.runUnderlying28 rfl fun a h => ?_
  refine st_cmp h rfl rfl rfl rfl fun a h => ?_
  refine wpList_nil ?_
  refine cond_ h rfl (fun hb_if2 => ?_) (fun hb_if2 => ?_)
  ·try simp only [decide_eq_true_eq, decide_eq_false_iff_not, Bool.not_eq_true', Bool.not_eq_false'] at hb_if2
   refine seq_ (reg_ ?_)
   refine st_assign h rfl rfl fun a h => ?_
   refine wpList_nil ?_
   refine wp_ret ?_
   exact ret1 Tryz.results104 h (resv_tmp h rfl) ⟨_, rfl, h.grow0, congrArg _ ((cmpN_lt (hl3 ▸ hr3 ▸ nrm_lt_of_len hl2 hr2 (by omega))).symm)⟩
  try simp only [decide_eq_true_eq, decide_eq_false_iff_not, Bool.not_eq_true', Bool.not_eq_false'] at hb_if2
  refine wp_skip ?_
  refine seq_ (reg_ ?_)
  refine st_assign h rfl rfl fun a h => ?_
  refine wpList_nil ?_
  refine wp_ret ?_
  exact ret1 Tryz.results104 h (resv_tmp h rfl) ⟨_, rfl, h.grow0, congrArg _ ((cmpN_gt (hl3 ▸ hr3 ▸ nrm_lt_of_len hr2 hl2 (by omega))).symm)⟩
 try simp only [decide_eq_true_eq, decide_eq_false_iff_not, Bool.not_eq_true', Bool.not_eq_false'] at hb_if1
 refine wp_skip ?_
 refine seq_ (seq_ (reg_ ?_))
 refine st_move h rfl rfl fun a h => ?_
 refine st_len h rfl Tryz.runUnderlying28 rfl fun a h => ?_
 refine st_subI h rfl rfl (by omega) rfl fun a h => ?_
 refine st_assign h rfl rfl fun a h => ?_
 refine wpList_nil ?_
 refine wp_block ?_
 refine loop_ (fun m a w' => m ≤ l.length ∧ l.drop m = r.drop m ∧ St (fun b => b < W.heap.size) Ob W w' a 45 [(0, (.slice A1 n2 c3)), (1, (.slice A6 n7 c8)), (5, .int .i64 ((m : Int) - 1))] [Rel.row32.fact [(.slice A6 n7 c8)] r, Rel.row32.fact [(.slice A1 n2 c3)] l] []) (m := n2) (⟨by omega, by rw [List.drop_eq_nil_of_le (by omega), List.drop_eq_nil_of_le (by omega)], ((h.consL (t := 0) rfl (h.consL (t := 1) rfl (h.consL (t := 5) rfl h.nilL))).noFacts.add (h.fact 1 rfl)).add (h.fact 0 rfl)⟩) ?_
 clear h
 rintro m a w ⟨hm, hd, h⟩
 by_cases h0 : 0 < m
 ·obtain ⟨b1, o1, rfl, _, _, hc1⟩ := row_get (h.fact 1 rfl) (i := m - 1) (by omega)
  obtain ⟨b2, o2, rfl, _, _, hc2⟩ := row_get (h.fact 0 rfl) (i := m - 1) (by omega)
  obtain ⟨x1, hx1⟩ : ∃ x, l[m - 1]? = some x := ⟨_, List.getElem?_eq_getElem (by omega)⟩
  obtain ⟨y1, hy1⟩ : ∃ y, r[m - 1]? = some y := ⟨_, List.getElem?_eq_getElem (by omega)⟩
  rw [show m = (m - 1) + 1 from by omega] at hd
  refine seq_ (seq_ (reg_ ?_))
  refine st_move h rfl rfl fun a h => ?_
  refine st_cmp h rfl rfl rfl rfl fun a h => ?_
  refine wpList_nil ?_
  refine cond_t h rfl (by simp; omega) ?_
  refine wp_skip ?_
  refine seq_ ?_
  refine wp_block ?_
  refine seq_ (seq_ ?_)
  refine draw0_ mixed_ 8 [some 27, some 28, some 29, some 30, some 31, some 32, some 33, some 34] [[], [], [0, 1], [2], [], [], [4, 5], [6]] [(eqF (.slice (some ⟨b1, o1, none⟩) n2 c3)), (eqF (.int .i64 ((m : Int) - 1))), (eqF (.pointer (some ⟨b1, (o1 + (m - 1) * 1), none⟩))), (eqF (.int .u32 (x1 : Int))), (eqF (.slice (some ⟨b2, o2, none⟩) n7 c8)), (eqF (.int .i64 ((m : Int) - 1))), (eqF (.pointer (some ⟨b2, (o2 + (m - 1) * 1), none⟩))), (eqF (.int .u32 (y1 : Int)))] rfl h rfl ⟨?_, ?_, ?_, ?_, ?_, ?_, ?_, ?_, trivial⟩ ?_
  ·intro dp hdp0 hdp dv Fx a w h
   refine st_move h rfl rfl fun a h => ?_
   refine wpList_nil ⟨rfl, ?_⟩
   exact ⟨_, h.drawEnd (F' := []) rfl rfl⟩
  ·intro dp hdp0 hdp dv Fx a w h
   refine st_move h rfl rfl fun a h => ?_
   refine wpList_nil ⟨rfl, ?_⟩
   exact ⟨_, h.drawEnd (F' := []) rfl rfl⟩
  ·intro dp hdp0 hdp dv Fx a w h
   have e11 : dv 0 = (.slice (some ⟨b1, o1, none⟩) n2 c3) := h.fact 0 rfl
   have e12 : dv 1 = (.int .i64 ((m : Int) - 1)) := h.fact 1 rfl
   replace h := (h.spellE (t := 28) e12 rfl (h.spellE (t := 27) e11 rfl h))
   refine st_indexI (m - 1) h rfl rfl Tryz.runUnderlying28 Tryz.sizeOf104 (by omega) (by omega) rfl fun a h => ?_
   refine wpList_nil ⟨rfl, ?_⟩
   exact ⟨_, h.drawEnd (F' := [_, _]) rfl rfl⟩
  ·intro dp hdp0 hdp dv Fx a w h
   have e13 : dv 2 = (.pointer (some ⟨b1, (o1 + (m - 1) * 1), none⟩)) := h.fact 0 rfl
   replace h := (h.spellE (t := 29) e13 rfl h)
   refine st_load h rfl Tryz.isAgg104 (row_cell (h.fact 2 rfl) hx1) rfl fun a h => ?_
   refine wpList_nil ⟨rfl, ?_⟩
   exact ⟨_, h.drawEnd (F' := [_]) rfl rfl⟩
  ·intro dp hdp0 hdp dv Fx a w h
   refine st_move h rfl rfl fun a h => ?_
   refine wpList_nil ⟨rfl, ?_⟩
   exact ⟨_, h.drawEnd (F' := []) rfl rfl⟩
  ·intro dp hdp0 hdp dv Fx a w h
   refine st_move h rfl rfl fun a h => ?_
   refine wpList_nil ⟨rfl, ?_⟩
   exact ⟨_, h.drawEnd (F' := []) rfl rfl⟩
  ·intro dp hdp0 hdp dv Fx a w h
   have e14 : dv 4 = (.slice (some ⟨b2, o2, none⟩) n7 c8) := h.fact 0 rfl
   have e15 : dv 5 = (.int .i64 ((m : Int) - 1)) := h.fact 1 rfl
   replace h := (h.spellE (t := 32) e15 rfl (h.spellE (t := 31) e14 rfl h))
   refine st_indexI (m - 1) h rfl rfl Tryz.runUnderlying28 Tryz.sizeOf104 (by omega) (by omega) rfl fun a h => ?_
   refine wpList_nil ⟨rfl, ?_⟩
   exact ⟨_, h.drawEnd (F' := [_, _]) rfl rfl⟩
  ·intro dp hdp0 hdp dv Fx a w h
   have e16 : dv 6 = (.pointer (some ⟨b2, (o2 + (m - 1) * 1), none⟩)) := h.fact 0 rfl
   replace h := (h.spellE (t := 33) e16 rfl h)
   refine st_load h rfl Tryz.isAgg104 (row_cell (h.fact 1 rfl) hy1) rfl fun a h => ?_
   refine wpList_nil ⟨rfl, ?_⟩
   exact ⟨_, h.drawEnd (F' := [_]) rfl rfl⟩
  intro dv a w h
  have e17 : dv 3 = (.int .u32 (x1 : Int)) := h.fact 3 rfl
  have e18 : dv 7 = (.int .u32 (y1 : Int)) := h.fact 7 rfl
  have h2 := (h.spellE (t := 34) e18 rfl (h.spellE (t := 30) e17 rfl (h.consL (t := 24) rfl (h.consL (t := 5) rfl (h.consL (t := 1) rfl (h.consL (t := 0) rfl h.nilL))))))
  have h3 := h2.noFacts
  have h3 := h3.add (h2.fact 9 rfl)
  have h3 := h3.add (h2.fact 8 rfl)
  clear h2
  replace h := h3
  clear h3
  refine st_cmp h rfl rfl rfl rfl fun a h => ?_
  refine wpList_nil ?_
  refine cond_ h rfl (fun hb_if4 => ?_) (fun hb_if4 => ?_)
  ·try simp only [decide_eq_true_eq, decide_eq_false_iff_not, Bool.not_eq_true', Bool.not_eq_false'] at hb_if4
   refine seq_ (reg_ ?_)
   refine st_assign h rfl rfl fun a h => ?_
   refine wpList_nil ?_
   refine wp_ret ?_
   exact ret1 Tryz.results104 h (resv_tmp h rfl) ⟨_, rfl, h.grow0, congrArg _ ((cmpN_lt (hl3 ▸ hr3 ▸ val_top hl2.1 hd hx1 hy1 (by omega))).symm)⟩
  try simp only [decide_eq_true_eq, decide_eq_false_iff_not, Bool.not_eq_true', Bool.not_eq_false'] at hb_if4
  refine wp_skip ?_
  refine seq_ ?_
  refine draw0_ mixed_ 8 [some 36, some 37, some 38, some 39, some 40, some 41, some 42, some 43] [[], [], [0, 1], [2], [], [], [4, 5], [6]] [(eqF (.slice (some ⟨b1, o1, none⟩) n2 c3)), (eqF (.int .i64 ((m : Int) - 1))), (eqF (.pointer (some ⟨b1, (o1 + (m - 1) * 1), none⟩))), (eqF (.int .u32 (x1 : Int))), (eqF (.slice (some ⟨b2, o2, none⟩) n7 c8)), (eqF (.int .i64 ((m : Int) - 1))), (eqF (.pointer (some ⟨b2, (o2 + (m - 1) * 1), none⟩))), (eqF (.int .u32 (y1 : Int)))] rfl h rfl ⟨?_, ?_, ?_, ?_, ?_, ?_, ?_, ?_, trivial⟩ ?_
  ·intro dp hdp0 hdp dv Fx a w h
   refine st_move h rfl rfl fun a h => ?_
   refine wpList_nil ⟨rfl, ?_⟩
   exact ⟨_, h.drawEnd (F' := []) rfl rfl⟩
  ·intro dp hdp0 hdp dv Fx a w h
   refine st_move h rfl rfl fun a h => ?_
   refine wpList_nil ⟨rfl, ?_⟩
   exact ⟨_, h.drawEnd (F' := []) rfl rfl⟩
  ·intro dp hdp0 hdp dv Fx a w h
   have e19 : dv 0 = (.slice (some ⟨b1, o1, none⟩) n2 c3) := h.fact 0 rfl
   have e20 : dv 1 = (.int .i64 ((m : Int) - 1)) := h.fact 1 rfl
   replace h := (h.spellE (t := 37) e20 rfl (h.spellE (t := 36) e19 rfl h))
   refine st_indexI (m - 1) h rfl rfl Tryz.runUnderlying28 Tryz.sizeOf104 (by omega) (by omega) rfl fun a h => ?_
   refine wpList_nil ⟨rfl, ?_⟩
   exact ⟨_, h.drawEnd (F' := [_, _]) rfl rfl⟩
  ·intro dp hdp0 hdp dv Fx a w h
   have e21 : dv 2 = (.pointer (some ⟨b1, (o1 + (m - 1) * 1), none⟩)) := h.fact 0 rfl
   replace h := (h.spellE (t := 38) e21 rfl h)
   refine st_load h rfl Tryz.isAgg104 (row_cell (h.fact 2 rfl) hx1) rfl fun a h => ?_
   refine wpList_nil ⟨rfl, ?_⟩
   exact ⟨_, h.drawEnd (F' := [_]) rfl rfl⟩
  ·intro dp hdp0 hdp dv Fx a w h
   refine st_move h rfl rfl fun a h => ?_
   refine wpList_nil ⟨rfl, ?_⟩
   exact ⟨_, h.drawEnd (F' := []) rfl rfl⟩
  ·intro dp hdp0 hdp dv Fx a w h
   refine st_move h rfl rfl fun a h => ?_
   refine wpList_nil ⟨rfl, ?_⟩
   exact ⟨_, h.drawEnd (F' := []) rfl rfl⟩
  ·intro dp hdp0 hdp dv Fx a w h
   have e22 : dv 4 = (.slice (some ⟨b2, o2, none⟩) n7 c8) := h.fact 0 rfl
   have e23 : dv 5 = (.int .i64 ((m : Int) - 1)) := h.fact 1 rfl
   replace h := (h.spellE (t := 41) e23 rfl (h.spellE (t := 40) e22 rfl h))
   refine st_indexI (m - 1) h rfl rfl Tryz.runUnderlying28 Tryz.sizeOf104 (by omega) (by omega) rfl fun a h => ?_
   refine wpList_nil ⟨rfl, ?_⟩
   exact ⟨_, h.drawEnd (F' := [_, _]) rfl rfl⟩
  ·intro dp hdp0 hdp dv Fx a w h
   have e24 : dv 6 = (.pointer (some ⟨b2, (o2 + (m - 1) * 1), none⟩)) := h.fact 0 rfl
   replace h := (h.spellE (t := 42) e24 rfl h)
   refine st_load h rfl Tryz.isAgg104 (row_cell (h.fact 1 rfl) hy1) rfl fun a h => ?_
   refine wpList_nil ⟨rfl, ?_⟩
   exact ⟨_, h.drawEnd (F' := [_]) rfl rfl⟩
  intro dv a w h
  have e25 : dv 3 = (.int .u32 (x1 : Int)) := h.fact 3 rfl
  have e26 : dv 7 = (.int .u32 (y1 : Int)) := h.fact 7 rfl
  have h2 := (h.spellE (t := 43) e26 rfl (h.spellE (t := 39) e25 rfl (h.consL (t := 35) rfl (h.consL (t := 24) rfl (h.consL (t := 5) rfl (h.consL (t := 1) rfl (h.consL (t := 0) rfl h.nilL)))))))
  have h3 := h2.noFacts
  have h3 := h3.add (h2.fact 9 rfl)
  have h3 := h3.add (h2.fact 8 rfl)
  clear h2
  replace h := h3
  clear h3
  refine st_cmp h rfl rfl rfl rfl fun a h => ?_
  refine wpList_nil ?_
  refine cond_ h rfl (fun hb_if5 => ?_) (fun hb_if5 => ?_)
  ·try simp only [decide_eq_true_eq, decide_eq_false_iff_not, Bool.not_eq_true', Bool.not_eq_false'] at hb_if5
   refine seq_ (reg_ ?_)
   refine st_assign h rfl rfl fun a h => ?_
   refine wpList_nil ?_
   refine wp_ret ?_
   exact ret1 Tryz.results104 h (resv_tmp h rfl) ⟨_, rfl, h.grow0, congrArg _ ((cmpN_gt (hl3 ▸ hr3 ▸ val_top hr2.1 hd.symm hy1 hx1 (by omega))).symm)⟩
  try simp only [decide_eq_true_eq, decide_eq_false_iff_not, Bool.not_eq_true', Bool.not_eq_false'] at hb_if5
  refine wp_skip ?_
  refine reg_ ?_
  refine st_move h rfl rfl fun a h => ?_
  refine st_subI h rfl rfl (by omega) rfl fun a h => ?_
  refine st_assign h rfl rfl fun a h => ?_
  refine wpList_nil ?_
  have e : x1 = y1 := by omega
  subst e
  exact ⟨m - 1, by omega, by omega, drop_same hd hx1 hy1, h.consL (t := 0) rfl (h.consL (t := 1) rfl ((h.consL (t := 5) rfl h.nilL).respell (by congr 1; omega)))⟩
 have hm0 : m = 0 := by omega
 subst hm0
 refine seq_ (seq_ (reg_ ?_))
 refine st_move h rfl rfl fun a h => ?_
 refine st_cmp h rfl rfl rfl rfl fun a h => ?_
 refine wpList_nil ?_
 refine cond_f h rfl (by simp) ?_
 refine wp_exit ?_
 repeat refine then_exit ?_
 refine inBlock_exit ?_
 refine seq_ (reg_ ?_)
 refine st_assign h rfl rfl fun a h => ?_
 refine wpList_nil ?_
 refine wp_ret ?_
 exact ret1 Tryz.results104 h (resv_tmp h rfl) ⟨_, rfl, h.grow0, congrArg _ ((cmpN_eq (hl3 ▸ hr3 ▸ by simp at hd; rw [hd])).symm)⟩
set_option maxHeartbeats 1000000 in
theorem limb_Add (hO : ∀ b, Ob b → b < W.heap.size) {A : Option Addr} {n c x : Nat} {A' : Option Addr} {n' c' y : Nat} (hx0 : Rel.natA.at_ W Ob [.slice A n c] x) (hx1 : Rel.natA.at_ W Ob [.slice A' n' c'] y) (hsx : sz x ≤ 4294967296) (hsy : sz y ≤ 4294967296) :
  Calls Tryz.prog 101 #[.slice A n c, .slice A' n' c'] W (Ret W Ob (Rel.natN.sliceF (x + y))) := by
 refine enter (vs := [(.slice A n c), (.slice A' n' c')]) (Ob := Ob) (K := fun b => b < W.heap.size) (Fs := [(Rel.natA).fact [.slice A n c] (x), (Rel.natA).fact [(.slice A' n' c')] (y)]) Tryz.func101 rfl Tryz.ntmps101 rfl (fun _ h => h) hO (by simp only [List.mem_cons, List.not_mem_nil, or_false, forall_eq_or_imp, forall_eq, false_imp_iff, implies_true]; exact ⟨hx0, hx1⟩) fun a h => ?_
 refine seq_ (reg_ ?_)
 refine st_assign h rfl rfl fun a h => ?_
 refine wpList_nil ?_
 refine seq_ (reg_ ?_)
 refine st_move h rfl rfl fun a h => ?_
 refine st_call h Tryz.func67 rfl rfl rfl (limb_cut _ _ (fun b => h.owns_lt) (h.fact 0 rfl)) rfl fun r w a hg hF h => ?_
 obtain ⟨A1, n2, c3, e5, f4⟩ := hF
 subst e5
 have h := h.add (f := (Rel.natN).fact [(.slice A1 n2 c3)] (x)) f4
 refine st_move h rfl rfl fun a h => ?_
 refine st_call h Tryz.func67 rfl rfl rfl (limb_cut _ _ (fun b => h.owns_lt) (h.fact 2 rfl)) rfl fun r w a hg hF h => ?_
 obtain ⟨A6, n7, c8, e10, f9⟩ := hF
 subst e10
 have h := h.add (f := (Rel.natN).fact [(.slice A6 n7 c8)] (y)) f9
 refine st_assign h rfl rfl fun a h => ?_
 refine st_assign h rfl rfl fun a h => ?_
 refine wpList_nil ?_
 refine seq_ (seq_ (reg_ ?_))
 refine st_move h rfl rfl fun a h => ?_
 refine st_len h rfl Tryz.runUnderlying28 rfl fun a h => ?_
 refine st_move h rfl rfl fun a h => ?_
 refine st_len h rfl Tryz.runUnderlying28 rfl fun a h => ?_
 obtain ⟨l, hl1, hl2, hl3⟩ := h.fact 1 rfl
 obtain ⟨r, hr1, hr2, hr3⟩ := h.fact 0 rfl
 have h := h.add (f := Rel.row32.fact [(.slice A1 n2 c3)] l) hl1
 obtain ⟨el, _, _⟩ := row_open hl1
 have h := h.add (f := Rel.row32.fact [(.slice A6 n7 c8)] r) hr1
 obtain ⟨er, _, _⟩ := row_open hr1
 have hszl := nrm_len hl2
 have hszr := nrm_len hr2
 rw [hl3] at hszl
 rw [hr3] at hszr
 have h38 : (2 : Nat) ^ 38 = 274877906944 := by decide
 have h47 : (2 : Nat) ^ 47 = 140737488355328 := by decide
 have h63 : (2 : Nat) ^ 63 = 9223372036854775808 := by decide
 refine st_cmp h rfl rfl rfl rfl fun a h => ?_
 refine wpList_nil ?_
 refine cond_ h rfl (fun hb_if1 => ?_) (fun hb_if1 => ?_)
 ·try simp only [decide_eq_true_eq, decide_eq_false_iff_not, Bool.not_eq_true', Bool.not_eq_false'] at hb_if1
  refine reg_ ?_
  refine st_move h rfl rfl fun a h => ?_
  refine st_move h rfl rfl fun a h => ?_
  refine st_assign h rfl rfl fun a h => ?_
  refine st_assign h rfl rfl fun a h => ?_
  refine wpList_nil ?_
  refine seq_ (reg_ ?_)
  refine st_move h rfl rfl fun a h => ?_
  refine st_len h rfl Tryz.runUnderlying28 rfl fun a h => ?_
  refine st_addI h rfl rfl (by omega) rfl fun a h => ?_
  refine st_make (m := (n7 + 1)) (zs := [(.int .u32 0)]) h (rfl) (rfl) Tryz.runUnderlying28 Tryz.typeInfo104 rfl Tryz.sizeOf104 Tryz.zeroValue104 rfl rfl (by omega) rfl fun g11 w a h => ?_
  replace h := h.respellB (reps_u32s _)
  refine st_assign h rfl rfl fun a h => ?_
  refine wpList_nil ?_
  refine seq_ (reg_ ?_)
  refine st_assign h rfl rfl fun a h => ?_
  refine wpList_nil ?_
  refine seq_ (seq_ (reg_ ?_))
  refine st_move h rfl rfl fun a h => ?_
  refine st_len h rfl Tryz.runUnderlying28 rfl fun a h => ?_
  refine st_move h rfl rfl fun a h => ?_
  refine wpList_nil ?_
  refine wp_block ?_
  refine loop_ (fun m a w' => ∃ i o cy, i ≤ n7 ∧ m = n7 - i ∧ o.length = n7 + 1 ∧ cy ≤ 1 ∧ (∀ x ∈ o, x < 4294967296) ∧ val (o.take i) + cy * 4294967296 ^ i = val (r.take i) + val (l.take i) ∧ St (fun b => b < W.heap.size) Ob W w' a 63 [(0, (.slice A6 n7 c8)), (1, (.slice A1 n2 c3)), (5, .slice (some ⟨g11, 0, none⟩) (n7 + 1) (n7 + 1)), (6, .int .u64 ((cy : Nat) : Int)), (25, (.slice A6 n7 c8)), (26, .int .i64 (n7 : Int)), (27, .int .i64 (i : Int))] [Rel.row32.fact [(.slice A6 n7 c8)] r, Rel.row32.fact [(.slice A1 n2 c3)] l] [(g11, 104, u32s o)]) (m := _) (⟨0, List.replicate (n7 + 1) 0, 0, by omega, rfl, by simp, by omega, by simp, by simp [val], (((h.consL (t := 0) rfl (h.consL (t := 1) rfl (h.consL (t := 5) rfl (h.consL (t := 6) rfl (h.consL (t := 25) rfl (h.consL (t := 26) rfl (h.consL (t := 27) rfl h.nilL))))))).noFacts.add (h.fact 1 rfl)).add (h.fact 0 rfl))⟩) ?_
  clear h
  rintro m a w ⟨i, o, cy, hi, hm, hol, hcy, ho, heq, h⟩
  by_cases hlt : i < n7
  ·obtain ⟨b1, o1, rfl, _, _, _⟩ := row_get (h.fact 0 rfl) (i := i) (by omega)
   obtain ⟨x1, hx1⟩ : ∃ x, r[i]? = some x := ⟨_, List.getElem?_eq_getElem (by omega)⟩
   have hx1b := row_lt (h.fact 0 rfl) _ (List.mem_of_getElem? hx1)
   refine seq_ (reg_ ?_)
   refine st_cmp h rfl rfl rfl rfl fun a h => ?_
   refine wpList_nil ?_
   refine seq_ ?_
   refine cond_t h rfl (by simp; omega) ?_
   refine wp_skip ?_
   refine seq_ ?_
   refine wp_block ?_
   refine seq_ (reg_ ?_)
   refine st_move h rfl rfl fun a h => ?_
   refine st_indexI (i) h rfl rfl Tryz.runUnderlying28 Tryz.sizeOf104 (rfl) (by omega) rfl fun a h => ?_
   refine st_load h rfl Tryz.isAgg104 (row_cell (h.fact 0 rfl) hx1) rfl fun a h => ?_
   refine st_assign h rfl rfl fun a h => ?_
   refine st_assign h rfl rfl fun a h => ?_
   refine wpList_nil ?_
   refine seq_ (reg_ ?_)
   refine st_move h rfl rfl fun a h => ?_
   refine st_to64 (p := x1) h rfl (by omega) Tryz.runUnderlying104 Tryz.runUnderlying101 rfl fun a h => ?_
   refine st_move h rfl rfl fun a h => ?_
   refine st_addN (p := x1) (q := cy) h rfl rfl (by omega) rfl fun a h => ?_
   refine st_assign h rfl rfl fun a h => ?_
   refine wpList_nil ?_
   refine seq_ (seq_ (reg_ ?_))
   refine st_move h rfl rfl fun a h => ?_
   refine st_move h rfl rfl fun a h => ?_
   refine st_len h rfl Tryz.runUnderlying28 rfl fun a h => ?_
   refine st_cmp h rfl rfl rfl rfl fun a h => ?_
   refine wpList_nil ?_
   refine cond_ h rfl (fun hb_if3 => ?_) (fun hb_if3 => ?_)
   ·try simp only [decide_eq_true_eq, decide_eq_false_iff_not, Bool.not_eq_true', Bool.not_eq_false'] at hb_if3
    obtain ⟨b2, o2, rfl, _, _, _⟩ := row_get (h.fact 1 rfl) (i := i) (by omega)
    obtain ⟨y1, hy1⟩ : ∃ y, l[i]? = some y := ⟨_, List.getElem?_eq_getElem (by omega)⟩
    have hy1b := row_lt (h.fact 1 rfl) _ (List.mem_of_getElem? hy1)
    refine reg_ ?_
    refine st_move h rfl rfl fun a h => ?_
    refine st_move h rfl rfl fun a h => ?_
    refine st_move h rfl rfl fun a h => ?_
    refine st_indexI (i) h rfl rfl Tryz.runUnderlying28 Tryz.sizeOf104 (rfl) (by omega) rfl fun a h => ?_
    refine st_load h rfl Tryz.isAgg104 (row_cell (h.fact 1 rfl) hy1) rfl fun a h => ?_
    refine st_to64 (p := y1) h rfl (by omega) Tryz.runUnderlying104 Tryz.runUnderlying101 rfl fun a h => ?_
    refine st_addN (p := x1 + cy) (q := y1) h rfl rfl (by omega) rfl fun a h => ?_
    refine st_assign h rfl rfl fun a h => ?_
    refine wpList_nil ?_
    refine reg_ ?_
    refine st_move h rfl rfl fun a h => ?_
    refine st_move h rfl rfl fun a h => ?_
    refine st_move h rfl rfl fun a h => ?_
    refine st_to32 (p := (x1 + cy) + y1) h rfl Tryz.runUnderlying101 Tryz.runUnderlying104 rfl fun a h => ?_
    refine st_move h rfl rfl fun a h => ?_
    refine st_shrN (p := (x1 + cy) + y1) (m := 32) h rfl rfl (by omega) rfl fun a h => ?_
    refine st_indexI (i) h rfl rfl Tryz.runUnderlying28 Tryz.sizeOf104 (rfl) (by omega) rfl fun a h => ?_
    refine st_storeU (i := i) h rfl rfl Tryz.sizeOf104 (by omega) fun w h => ?_
    refine st_assign h rfl rfl fun a h => ?_
    refine wpList_nil ?_
    refine reg_ ?_
    refine st_addI h rfl rfl (by omega) rfl fun a h => ?_
    refine st_move h rfl rfl fun a h => ?_
    refine wpList_nil ?_
    have hstep := add_step (o := o) (l := r) (r := l) (i := i) (x := x1) (y := y1) (s := (x1 + cy) + y1) (cy := cy) (by omega) hx1 (.inl hy1) heq (by omega)
    refine ⟨_, by omega, i + 1, o.set i (((x1 + cy) + y1) % 4294967296), ((x1 + cy) + y1) / 4294967296, by omega, rfl, by rw [List.length_set]; omega, by omega, set_lt ho _ _ (by omega), hstep, (h.consL (t := 0) rfl (h.consL (t := 1) rfl (h.consL (t := 5) rfl (h.consL (t := 6) rfl (h.consL (t := 25) rfl (h.consL (t := 26) rfl (h.consL (t := 27) rfl h.nilL)))))))⟩
   try simp only [decide_eq_true_eq, decide_eq_false_iff_not, Bool.not_eq_true', Bool.not_eq_false'] at hb_if3
   refine wp_skip ?_
   refine reg_ ?_
   refine st_move h rfl rfl fun a h => ?_
   refine st_move h rfl rfl fun a h => ?_
   refine st_move h rfl rfl fun a h => ?_
   refine st_to32 (p := x1 + cy) h rfl Tryz.runUnderlying101 Tryz.runUnderlying104 rfl fun a h => ?_
   refine st_move h rfl rfl fun a h => ?_
   refine st_shrN (p := x1 + cy) (m := 32) h rfl rfl (by omega) rfl fun a h => ?_
   refine st_indexI (i) h rfl rfl Tryz.runUnderlying28 Tryz.sizeOf104 (rfl) (by omega) rfl fun a h => ?_
   refine st_storeU (i := i) h rfl rfl Tryz.sizeOf104 (by omega) fun w h => ?_
   refine st_assign h rfl rfl fun a h => ?_
   refine wpList_nil ?_
   refine reg_ ?_
   refine st_addI h rfl rfl (by omega) rfl fun a h => ?_
   refine st_move h rfl rfl fun a h => ?_
   refine wpList_nil ?_
   have hstep := add_step (o := o) (l := r) (r := l) (i := i) (x := x1) (y := 0) (s := x1 + cy) (cy := cy) (by omega) hx1 (.inr ⟨by omega, rfl⟩) heq (by omega)
   refine ⟨_, by omega, i + 1, o.set i ((x1 + cy) % 4294967296), (x1 + cy) / 4294967296, by omega, rfl, by rw [List.length_set]; omega, by omega, set_lt ho _ _ (by omega), hstep, (h.consL (t := 0) rfl (h.consL (t := 1) rfl (h.consL (t := 5) rfl (h.consL (t := 6) rfl (h.consL (t := 25) rfl (h.consL (t := 26) rfl (h.consL (t := 27) rfl h.nilL)))))))⟩
  skip
  refine seq_ (reg_ ?_)
  refine st_cmp h rfl rfl rfl rfl fun a h => ?_
  refine wpList_nil ?_
  refine seq_ ?_
  refine cond_f h rfl (by simp; omega) ?_
  refine wp_exit ?_
  repeat refine then_exit ?_
  refine inBlock_exit ?_
  refine seq_ (reg_ ?_)
  refine st_move h rfl rfl fun a h => ?_
  refine st_move h rfl rfl fun a h => ?_
  refine st_len h rfl Tryz.runUnderlying28 rfl fun a h => ?_
  refine st_move h rfl rfl fun a h => ?_
  refine st_to32 (p := cy) h rfl Tryz.runUnderlying101 Tryz.runUnderlying104 rfl fun a h => ?_
  refine st_indexI (n7) h rfl rfl Tryz.runUnderlying28 Tryz.sizeOf104 (rfl) (by omega) rfl fun a h => ?_
  refine st_storeU (i := n7) h rfl rfl Tryz.sizeOf104 (by omega) fun w h => ?_
  have hfin : val (o.set n7 (cy % 4294967296)) = x + y := by
   have hie : i = n7 := by omega
   subst hie
   have h1 := val_set o i (cy % 4294967296) (by omega)
   rw [show i + 1 = (o.set i (cy % 4294967296)).length from by rw [List.length_set]; omega, List.take_length] at h1
   rw [List.take_of_length_le (l := r) (by omega), List.take_of_length_le (l := l) (by omega)] at heq
   rw [h1, show cy % 4294967296 = cy from by omega, Nat.mul_comm, heq, hr3, hl3]
   exact Nat.add_comm _ _
  have hrow := own_row32 (r := o.set n7 (cy % 4294967296)) (n7 + 1) h (fun _ _ => rfl) (set_lt ho _ _ (by omega)) (by rw [List.length_set, hol]; omega) (by rw [List.length_set, hol]; exact Nat.le_refl _) (by omega)
  rw [List.length_set, hol] at hrow
  replace h := h.publish
  have h := h.add (f := Rel.natA.fact [.slice (some ⟨g11, 0, none⟩) (n7 + 1) (n7 + 1)] (x + y)) ⟨_, hrow, set_lt ho _ _ (by omega), hfin⟩
  refine wpList_nil ?_
  refine seq_ (reg_ ?_)
  refine st_move h rfl rfl fun a h => ?_
  refine st_call h Tryz.func67 rfl rfl rfl (limb_cut _ _ (fun b => h.owns_lt) (h.fact 0 rfl)) rfl fun r w a hg hF h => ?_
  obtain ⟨A12, n13, c14, e16, f15⟩ := hF
  subst e16
  have h := h.add (f := (Rel.natN).fact [(.slice A12 n13 c14)] ((x + y))) f15
  refine st_assign h rfl rfl fun a h => ?_
  refine wpList_nil ?_
  refine wp_ret ?_
  exact ret1 Tryz.results101 h (resv_tmp h rfl) ⟨_, rfl, h.grow0, _, _, _, rfl, h.out 0 rfl⟩
 try simp only [decide_eq_true_eq, decide_eq_false_iff_not, Bool.not_eq_true', Bool.not_eq_false'] at hb_if1
 refine wp_skip ?_
 refine seq_ (reg_ ?_)
 refine st_move h rfl rfl fun a h => ?_
 refine st_len h rfl Tryz.runUnderlying28 rfl fun a h => ?_
 refine st_addI h rfl rfl (by omega) rfl fun a h => ?_
 refine st_make (m := (n2 + 1)) (zs := [(.int .u32 0)]) h (rfl) (rfl) Tryz.runUnderlying28 Tryz.typeInfo104 rfl Tryz.sizeOf104 Tryz.zeroValue104 rfl rfl (by omega) rfl fun g17 w a h => ?_
 replace h := h.respellB (reps_u32s _)
 refine st_assign h rfl rfl fun a h => ?_
 refine wpList_nil ?_
 refine seq_ (reg_ ?_)
 refine st_assign h rfl rfl fun a h => ?_
 refine wpList_nil ?_
 refine seq_ (seq_ (reg_ ?_))
 refine st_move h rfl rfl fun a h => ?_
 refine st_len h rfl Tryz.runUnderlying28 rfl fun a h => ?_
 refine st_move h rfl rfl fun a h => ?_
 refine wpList_nil ?_
 refine wp_block ?_
 refine loop_ (fun m a w' => ∃ i o cy, i ≤ n2 ∧ m = n2 - i ∧ o.length = n2 + 1 ∧ cy ≤ 1 ∧ (∀ x ∈ o, x < 4294967296) ∧ val (o.take i) + cy * 4294967296 ^ i = val (l.take i) + val (r.take i) ∧ St (fun b => b < W.heap.size) Ob W w' a 63 [(0, (.slice A1 n2 c3)), (1, (.slice A6 n7 c8)), (5, .slice (some ⟨g17, 0, none⟩) (n2 + 1) (n2 + 1)), (6, .int .u64 ((cy : Nat) : Int)), (25, (.slice A1 n2 c3)), (26, .int .i64 (n2 : Int)), (27, .int .i64 (i : Int))] [Rel.row32.fact [(.slice A1 n2 c3)] l, Rel.row32.fact [(.slice A6 n7 c8)] r] [(g17, 104, u32s o)]) (m := _) (⟨0, List.replicate (n2 + 1) 0, 0, by omega, rfl, by simp, by omega, by simp, by simp [val], (((h.consL (t := 0) rfl (h.consL (t := 1) rfl (h.consL (t := 5) rfl (h.consL (t := 6) rfl (h.consL (t := 25) rfl (h.consL (t := 26) rfl (h.consL (t := 27) rfl h.nilL))))))).noFacts.add (h.fact 0 rfl)).add (h.fact 1 rfl))⟩) ?_
 clear h
 rintro m a w ⟨i, o, cy, hi, hm, hol, hcy, ho, heq, h⟩
 by_cases hlt : i < n2
 ·obtain ⟨b1, o1, rfl, _, _, _⟩ := row_get (h.fact 0 rfl) (i := i) (by omega)
  obtain ⟨x1, hx1⟩ : ∃ x, l[i]? = some x := ⟨_, List.getElem?_eq_getElem (by omega)⟩
  have hx1b := row_lt (h.fact 0 rfl) _ (List.mem_of_getElem? hx1)
  refine seq_ (reg_ ?_)
  refine st_cmp h rfl rfl rfl rfl fun a h => ?_
  refine wpList_nil ?_
  refine seq_ ?_
  refine cond_t h rfl (by simp; omega) ?_
  refine wp_skip ?_
  refine seq_ ?_
  refine wp_block ?_
  refine seq_ (reg_ ?_)
  refine st_move h rfl rfl fun a h => ?_
  refine st_indexI (i) h rfl rfl Tryz.runUnderlying28 Tryz.sizeOf104 (rfl) (by omega) rfl fun a h => ?_
  refine st_load h rfl Tryz.isAgg104 (row_cell (h.fact 0 rfl) hx1) rfl fun a h => ?_
  refine st_assign h rfl rfl fun a h => ?_
  refine st_assign h rfl rfl fun a h => ?_
  refine wpList_nil ?_
  refine seq_ (reg_ ?_)
  refine st_move h rfl rfl fun a h => ?_
  refine st_to64 (p := x1) h rfl (by omega) Tryz.runUnderlying104 Tryz.runUnderlying101 rfl fun a h => ?_
  refine st_move h rfl rfl fun a h => ?_
  refine st_addN (p := x1) (q := cy) h rfl rfl (by omega) rfl fun a h => ?_
  refine st_assign h rfl rfl fun a h => ?_
  refine wpList_nil ?_
  refine seq_ (seq_ (reg_ ?_))
  refine st_move h rfl rfl fun a h => ?_
  refine st_move h rfl rfl fun a h => ?_
  refine st_len h rfl Tryz.runUnderlying28 rfl fun a h => ?_
  refine st_cmp h rfl rfl rfl rfl fun a h => ?_
  refine wpList_nil ?_
  refine cond_ h rfl (fun hb_if3 => ?_) (fun hb_if3 => ?_)
  ·try simp only [decide_eq_true_eq, decide_eq_false_iff_not, Bool.not_eq_true', Bool.not_eq_false'] at hb_if3
   obtain ⟨b2, o2, rfl, _, _, _⟩ := row_get (h.fact 1 rfl) (i := i) (by omega)
   obtain ⟨y1, hy1⟩ : ∃ y, r[i]? = some y := ⟨_, List.getElem?_eq_getElem (by omega)⟩
   have hy1b := row_lt (h.fact 1 rfl) _ (List.mem_of_getElem? hy1)
   refine reg_ ?_
   refine st_move h rfl rfl fun a h => ?_
   refine st_move h rfl rfl fun a h => ?_
   refine st_move h rfl rfl fun a h => ?_
   refine st_indexI (i) h rfl rfl Tryz.runUnderlying28 Tryz.sizeOf104 (rfl) (by omega) rfl fun a h => ?_
   refine st_load h rfl Tryz.isAgg104 (row_cell (h.fact 1 rfl) hy1) rfl fun a h => ?_
   refine st_to64 (p := y1) h rfl (by omega) Tryz.runUnderlying104 Tryz.runUnderlying101 rfl fun a h => ?_
   refine st_addN (p := x1 + cy) (q := y1) h rfl rfl (by omega) rfl fun a h => ?_
   refine st_assign h rfl rfl fun a h => ?_
   refine wpList_nil ?_
   refine reg_ ?_
   refine st_move h rfl rfl fun a h => ?_
   refine st_move h rfl rfl fun a h => ?_
   refine st_move h rfl rfl fun a h => ?_
   refine st_to32 (p := (x1 + cy) + y1) h rfl Tryz.runUnderlying101 Tryz.runUnderlying104 rfl fun a h => ?_
   refine st_move h rfl rfl fun a h => ?_
   refine st_shrN (p := (x1 + cy) + y1) (m := 32) h rfl rfl (by omega) rfl fun a h => ?_
   refine st_indexI (i) h rfl rfl Tryz.runUnderlying28 Tryz.sizeOf104 (rfl) (by omega) rfl fun a h => ?_
   refine st_storeU (i := i) h rfl rfl Tryz.sizeOf104 (by omega) fun w h => ?_
   refine st_assign h rfl rfl fun a h => ?_
   refine wpList_nil ?_
   refine reg_ ?_
   refine st_addI h rfl rfl (by omega) rfl fun a h => ?_
   refine st_move h rfl rfl fun a h => ?_
   refine wpList_nil ?_
   have hstep := add_step (o := o) (l := l) (r := r) (i := i) (x := x1) (y := y1) (s := (x1 + cy) + y1) (cy := cy) (by omega) hx1 (.inl hy1) heq (by omega)
   refine ⟨_, by omega, i + 1, o.set i (((x1 + cy) + y1) % 4294967296), ((x1 + cy) + y1) / 4294967296, by omega, rfl, by rw [List.length_set]; omega, by omega, set_lt ho _ _ (by omega), hstep, (h.consL (t := 0) rfl (h.consL (t := 1) rfl (h.consL (t := 5) rfl (h.consL (t := 6) rfl (h.consL (t := 25) rfl (h.consL (t := 26) rfl (h.consL (t := 27) rfl h.nilL)))))))⟩
  try simp only [decide_eq_true_eq, decide_eq_false_iff_not, Bool.not_eq_true', Bool.not_eq_false'] at hb_if3
  refine wp_skip ?_
  refine reg_ ?_
  refine st_move h rfl rfl fun a h => ?_
  refine st_move h rfl rfl fun a h => ?_
  refine st_move h rfl rfl fun a h => ?_
  refine st_to32 (p := x1 + cy) h rfl Tryz.runUnderlying101 Tryz.runUnderlying104 rfl fun a h => ?_
  refine st_move h rfl rfl fun a h => ?_
  refine st_shrN (p := x1 + cy) (m := 32) h rfl rfl (by omega) rfl fun a h => ?_
  refine st_indexI (i) h rfl rfl Tryz.runUnderlying28 Tryz.sizeOf104 (rfl) (by omega) rfl fun a h => ?_
  refine st_storeU (i := i) h rfl rfl Tryz.sizeOf104 (by omega) fun w h => ?_
  refine st_assign h rfl rfl fun a h => ?_
  refine wpList_nil ?_
  refine reg_ ?_
  refine st_addI h rfl rfl (by omega) rfl fun a h => ?_
  refine st_move h rfl rfl fun a h => ?_
  refine wpList_nil ?_
  have hstep := add_step (o := o) (l := l) (r := r) (i := i) (x := x1) (y := 0) (s := x1 + cy) (cy := cy) (by omega) hx1 (.inr ⟨by omega, rfl⟩) heq (by omega)
  refine ⟨_, by omega, i + 1, o.set i ((x1 + cy) % 4294967296), (x1 + cy) / 4294967296, by omega, rfl, by rw [List.length_set]; omega, by omega, set_lt ho _ _ (by omega), hstep, (h.consL (t := 0) rfl (h.consL (t := 1) rfl (h.consL (t := 5) rfl (h.consL (t := 6) rfl (h.consL (t := 25) rfl (h.consL (t := 26) rfl (h.consL (t := 27) rfl h.nilL)))))))⟩
 skip
 refine seq_ (reg_ ?_)
 refine st_cmp h rfl rfl rfl rfl fun a h => ?_
 refine wpList_nil ?_
 refine seq_ ?_
 refine cond_f h rfl (by simp; omega) ?_
 refine wp_exit ?_
 repeat refine then_exit ?_
 refine inBlock_exit ?_
 refine seq_ (reg_ ?_)
 refine st_move h rfl rfl fun a h => ?_
 refine st_move h rfl rfl fun a h => ?_
 refine st_len h rfl Tryz.runUnderlying28 rfl fun a h => ?_
 refine st_move h rfl rfl fun a h => ?_
 refine st_to32 (p := cy) h rfl Tryz.runUnderlying101 Tryz.runUnderlying104 rfl fun a h => ?_
 refine st_indexI (n2) h rfl rfl Tryz.runUnderlying28 Tryz.sizeOf104 (rfl) (by omega) rfl fun a h => ?_
 refine st_storeU (i := n2) h rfl rfl Tryz.sizeOf104 (by omega) fun w h => ?_
 have hfin : val (o.set n2 (cy % 4294967296)) = x + y := by
  have hie : i = n2 := by omega
  subst hie
  have h1 := val_set o i (cy % 4294967296) (by omega)
  rw [show i + 1 = (o.set i (cy % 4294967296)).length from by rw [List.length_set]; omega, List.take_length] at h1
  rw [List.take_of_length_le (l := l) (by omega), List.take_of_length_le (l := r) (by omega)] at heq
  rw [h1, show cy % 4294967296 = cy from by omega, Nat.mul_comm, heq, hl3, hr3]
 have hrow := own_row32 (r := o.set n2 (cy % 4294967296)) (n2 + 1) h (fun _ _ => rfl) (set_lt ho _ _ (by omega)) (by rw [List.length_set, hol]; omega) (by rw [List.length_set, hol]; exact Nat.le_refl _) (by omega)
 rw [List.length_set, hol] at hrow
 replace h := h.publish
 have h := h.add (f := Rel.natA.fact [.slice (some ⟨g17, 0, none⟩) (n2 + 1) (n2 + 1)] (x + y)) ⟨_, hrow, set_lt ho _ _ (by omega), hfin⟩
 refine wpList_nil ?_
 refine seq_ (reg_ ?_)
 refine st_move h rfl rfl fun a h => ?_
 refine st_call h Tryz.func67 rfl rfl rfl (limb_cut _ _ (fun b => h.owns_lt) (h.fact 0 rfl)) rfl fun r w a hg hF h => ?_
 obtain ⟨A18, n19, c20, e22, f21⟩ := hF
 subst e22
 have h := h.add (f := (Rel.natN).fact [(.slice A18 n19 c20)] ((x + y))) f21
 refine st_assign h rfl rfl fun a h => ?_
 refine wpList_nil ?_
 refine wp_ret ?_
 exact ret1 Tryz.results101 h (resv_tmp h rfl) ⟨_, rfl, h.grow0, _, _, _, rfl, h.out 0 rfl⟩
set_option maxHeartbeats 1000000 in
theorem limb_Sub (hO : ∀ b, Ob b → b < W.heap.size) {A : Option Addr} {n c x : Nat} {A' : Option Addr} {n' c' y : Nat} (hx0 : Rel.natA.at_ W Ob [.slice A n c] x) (hx1 : Rel.natA.at_ W Ob [.slice A' n' c'] y) (hsx : sz x ≤ 4294967296) :
  Calls Tryz.prog 102 #[.slice A n c, .slice A' n' c'] W (Ret W Ob (if y ≤ x then tup2 (Rel.natN.sliceF (x - y)) (eqF (.bool true)) else tup2 (eqF (.slice none 0 0)) (eqF (.bool false)))) := by
 refine enter (vs := [(.slice A n c), (.slice A' n' c')]) (Ob := Ob) (K := fun b => b < W.heap.size) (Fs := [(Rel.natA).fact [.slice A n c] (x), (Rel.natA).fact [(.slice A' n' c')] (y)]) Tryz.func102 rfl Tryz.ntmps102 rfl (fun _ h => h) hO (by simp only [List.mem_cons, List.not_mem_nil, or_false, forall_eq_or_imp, forall_eq, false_imp_iff, implies_true]; exact ⟨hx0, hx1⟩) fun a h => ?_
 refine seq_ (reg_ ?_)
 refine st_assign h rfl rfl fun a h => ?_
 refine st_assign h rfl rfl fun a h => ?_
 refine wpList_nil ?_
 refine seq_ (reg_ ?_)
 refine st_move h rfl rfl fun a h => ?_
 refine st_call h Tryz.func67 rfl rfl rfl (limb_cut _ _ (fun b => h.owns_lt) (h.fact 0 rfl)) rfl fun r w a hg hF h => ?_
 obtain ⟨A1, n2, c3, e5, f4⟩ := hF
 subst e5
 have h := h.add (f := (Rel.natN).fact [(.slice A1 n2 c3)] (x)) f4
 refine st_move h rfl rfl fun a h => ?_
 refine st_call h Tryz.func67 rfl rfl rfl (limb_cut _ _ (fun b => h.owns_lt) (h.fact 2 rfl)) rfl fun r w a hg hF h => ?_
 obtain ⟨A6, n7, c8, e10, f9⟩ := hF
 subst e10
 have h := h.add (f := (Rel.natN).fact [(.slice A6 n7 c8)] (y)) f9
 refine st_assign h rfl rfl fun a h => ?_
 refine st_assign h rfl rfl fun a h => ?_
 refine wpList_nil ?_
 refine seq_ (seq_ (reg_ ?_))
 refine st_move h rfl rfl fun a h => ?_
 refine st_move h rfl rfl fun a h => ?_
 refine st_call h Tryz.func104 rfl rfl rfl (limb_Cmp _ _ (fun b => h.owns_lt) (natA_of_natN (h.fact 1 rfl)) (natA_of_natN (h.fact 0 rfl))) rfl fun r w a hg hF h => ?_
 obtain rfl := hF
 refine st_cmp h rfl rfl rfl rfl fun a h => ?_
 refine wpList_nil ?_
 refine cond_ h rfl (fun hb_if1 => ?_) (fun hb_if1 => ?_)
 ·try simp only [decide_eq_true_eq, decide_eq_false_iff_not, Bool.not_eq_true', Bool.not_eq_false'] at hb_if1
  refine seq_ (reg_ ?_)
  refine st_assign h rfl rfl fun a h => ?_
  refine st_assign h rfl rfl fun a h => ?_
  refine wpList_nil ?_
  refine wp_ret ?_
  rw [if_neg (by unfold cmpN at hb_if1; split at hb_if1 <;> omega)]
  exact ret2 Tryz.results102 h (resv_tmp h rfl) (resv_tmp h rfl) ⟨_, rfl, h.grow0, _, _, rfl, rfl, rfl⟩
 try simp only [decide_eq_true_eq, decide_eq_false_iff_not, Bool.not_eq_true', Bool.not_eq_false'] at hb_if1
 refine wp_skip ?_
 refine seq_ (reg_ ?_)
 refine st_move h rfl rfl fun a h => ?_
 refine st_len h rfl Tryz.runUnderlying28 rfl fun a h => ?_
 obtain ⟨l, hl1, hl2, hl3⟩ := h.fact 1 rfl
 obtain ⟨r, hr1, hr2, hr3⟩ := h.fact 0 rfl
 have h := h.add (f := Rel.row32.fact [(.slice A1 n2 c3)] l) hl1
 obtain ⟨el, _, _⟩ := row_open hl1
 have h := h.add (f := Rel.row32.fact [(.slice A6 n7 c8)] r) hr1
 obtain ⟨er, _, _⟩ := row_open hr1
 have hszl := nrm_len hl2
 have hszr := nrm_len hr2
 rw [hl3] at hszl
 rw [hr3] at hszr
 have h38 : (2 : Nat) ^ 38 = 274877906944 := by decide
 have h47 : (2 : Nat) ^ 47 = 140737488355328 := by decide
 have h63 : (2 : Nat) ^ 63 = 9223372036854775808 := by decide
 refine st_make (m := n2) (zs := [(.int .u32 0)]) h (rfl) (rfl) Tryz.runUnderlying28 Tryz.typeInfo104 rfl Tryz.sizeOf104 Tryz.zeroValue104 rfl rfl (by omega) rfl fun g11 w a h => ?_
 replace h := h.respellB (reps_u32s _)
 refine st_assign h rfl rfl fun a h => ?_
 refine wpList_nil ?_
 refine seq_ (reg_ ?_)
 refine st_assign h rfl rfl fun a h => ?_
 refine wpList_nil ?_
 refine seq_ (seq_ (reg_ ?_))
 refine st_move h rfl rfl fun a h => ?_
 refine st_len h rfl Tryz.runUnderlying28 rfl fun a h => ?_
 refine st_move h rfl rfl fun a h => ?_
 refine wpList_nil ?_
 refine wp_block ?_
 refine loop_ (fun m a w' => ∃ i o cy, i ≤ n2 ∧ o.length = n2 ∧ cy ≤ 1 ∧ (∀ x ∈ o, x < 4294967296) ∧ val (o.take i) + val (r.take i) = val (l.take i) + cy * 4294967296 ^ i ∧ m = n2 - i ∧ St (fun b => b < W.heap.size) Ob W w' a 54 [(0, (.slice A1 n2 c3)), (1, (.slice A6 n7 c8)), (6, (.slice (some ⟨g11, 0, none⟩) n2 n2)), (7, (.int .u64 ((cy : Nat) : Int))), (22, (.slice A1 n2 c3)), (23, (.int .i64 (n2 : Int))), (24, (.int .i64 (i : Int)))] [(Rel.row32).fact [(.slice A1 n2 c3)] (l), (Rel.row32).fact [(.slice A6 n7 c8)] (r)] [(g11, 104, u32s o)]) (m := _) (⟨0, List.replicate n2 0, 0, by omega, by simp, by omega, by simp, by simp [val], rfl, (((h.consL (t := 0) rfl (h.consL (t := 1) rfl (h.consL (t := 6) rfl (h.consL (t := 7) rfl (h.consL (t := 22) rfl (h.consL (t := 23) rfl (h.consL (t := 24) rfl h.nilL))))))).noFacts.add (h.fact 0 rfl)).add (h.fact 1 rfl))⟩) ?_
 clear h
 rintro m a w ⟨i, o, cy, hp0, hp1, hp2, hp3, hp4, hm, h⟩
 by_cases hlt : i < n2
 ·obtain ⟨b1, o1, rfl, _, _, _⟩ := row_get (h.fact 0 rfl) (i := i) (by omega)
  obtain ⟨x1, hx1⟩ : ∃ x, l[i]? = some x := ⟨_, List.getElem?_eq_getElem (by omega)⟩
  have hx1b := row_lt (h.fact 0 rfl) _ (List.mem_of_getElem? hx1)
  refine seq_ (reg_ ?_)
  refine st_cmp h rfl rfl rfl rfl fun a h => ?_
  refine wpList_nil ?_
  refine seq_ ?_
  refine cond_t h rfl (by simp; omega) ?_
  refine wp_skip ?_
  refine seq_ ?_
  refine wp_block ?_
  refine seq_ (reg_ ?_)
  refine st_move h rfl rfl fun a h => ?_
  refine st_indexI (i) h rfl rfl Tryz.runUnderlying28 Tryz.sizeOf104 (rfl) (by omega) rfl fun a h => ?_
  refine st_load h rfl Tryz.isAgg104 (row_cell (h.fact 0 rfl) hx1) rfl fun a h => ?_
  refine st_assign h rfl rfl fun a h => ?_
  refine st_assign h rfl rfl fun a h => ?_
  refine wpList_nil ?_
  refine seq_ (reg_ ?_)
  refine st_move h rfl rfl fun a h => ?_
  refine st_to64 (p := x1) h rfl (by omega) Tryz.runUnderlying104 Tryz.runUnderlying101 rfl fun a h => ?_
  refine st_move h rfl rfl fun a h => ?_
  refine st_subN (p := x1) (q := cy) h rfl rfl (by omega) rfl fun a h => ?_
  refine st_assign h rfl rfl fun a h => ?_
  refine wpList_nil ?_
  refine seq_ (seq_ (reg_ ?_))
  refine st_move h rfl rfl fun a h => ?_
  refine st_move h rfl rfl fun a h => ?_
  refine st_len h rfl Tryz.runUnderlying28 rfl fun a h => ?_
  refine st_cmp h rfl rfl rfl rfl fun a h => ?_
  refine wpList_nil ?_
  refine cond_ h rfl (fun hb_if3 => ?_) (fun hb_if3 => ?_)
  ·try simp only [decide_eq_true_eq, decide_eq_false_iff_not, Bool.not_eq_true', Bool.not_eq_false'] at hb_if3
   obtain ⟨b2, o2, rfl, _, _, _⟩ := row_get (h.fact 1 rfl) (i := i) (by omega)
   obtain ⟨y1, hy1⟩ : ∃ y, r[i]? = some y := ⟨_, List.getElem?_eq_getElem (by omega)⟩
   have hy1b := row_lt (h.fact 1 rfl) _ (List.mem_of_getElem? hy1)
   refine reg_ ?_
   refine st_move h rfl rfl fun a h => ?_
   refine st_move h rfl rfl fun a h => ?_
   refine st_move h rfl rfl fun a h => ?_
   refine st_indexI (i) h rfl rfl Tryz.runUnderlying28 Tryz.sizeOf104 (rfl) (by omega) rfl fun a h => ?_
   refine st_load h rfl Tryz.isAgg104 (row_cell (h.fact 1 rfl) hy1) rfl fun a h => ?_
   refine st_to64 (p := y1) h rfl (by omega) Tryz.runUnderlying104 Tryz.runUnderlying101 rfl fun a h => ?_
   refine st_subN (p := (x1 + 18446744073709551616 - (cy)) % 18446744073709551616) (q := y1) h rfl rfl (by omega) rfl fun a h => ?_
   refine st_assign h rfl rfl fun a h => ?_
   refine wpList_nil ?_
   refine reg_ ?_
   refine st_move h rfl rfl fun a h => ?_
   refine st_move h rfl rfl fun a h => ?_
   refine st_move h rfl rfl fun a h => ?_
   refine st_to32 (p := ((x1 + 18446744073709551616 - (cy)) % 18446744073709551616 + 18446744073709551616 - (y1)) % 18446744073709551616) h rfl Tryz.runUnderlying101 Tryz.runUnderlying104 rfl fun a h => ?_
   refine st_move h rfl rfl fun a h => ?_
   refine st_shrN (p := ((x1 + 18446744073709551616 - (cy)) % 18446744073709551616 + 18446744073709551616 - (y1)) % 18446744073709551616) (m := 63) h rfl rfl (by omega) rfl fun a h => ?_
   refine st_indexI (i) h rfl rfl Tryz.runUnderlying28 Tryz.sizeOf104 (rfl) (by omega) rfl fun a h => ?_
   refine st_storeU (i := i) h rfl rfl Tryz.sizeOf104 (by omega) fun w h => ?_
   refine st_assign h rfl rfl fun a h => ?_
   refine wpList_nil ?_
   refine reg_ ?_
   refine st_addI h rfl rfl (by omega) rfl fun a h => ?_
   refine st_move h rfl rfl fun a h => ?_
   refine wpList_nil ?_
   have hstep := sub_step (o := o) (l := l) (r := r) (i := i) (x := x1) (y := y1) (s := ((x1 + 18446744073709551616 - (cy)) % 18446744073709551616 + 18446744073709551616 - (y1)) % 18446744073709551616) (b := cy) (by omega) hx1 (.inl hy1) hx1b (by omega) hp2 hp4 (by omega)
   rw [show (9223372036854775808 : Nat) = 2 ^ 63 from by decide] at hstep
   refine ⟨_, ?_, i + 1, o.set i ((((x1 + 18446744073709551616 - (cy)) % 18446744073709551616 + 18446744073709551616 - (y1)) % 18446744073709551616) % 4294967296), (((x1 + 18446744073709551616 - (cy)) % 18446744073709551616 + 18446744073709551616 - (y1)) % 18446744073709551616) / 2 ^ 63, by omega, by rw [List.length_set]; omega, hstep.2, set_lt hp3 _ _ (by omega), hstep.1, rfl, (((h.consL (t := 0) rfl (h.consL (t := 1) rfl (h.consL (t := 6) rfl (h.consL (t := 7) rfl (h.consL (t := 22) rfl (h.consL (t := 23) rfl (h.consL (t := 24) rfl h.nilL))))))).noFacts.add (h.fact 1 rfl)).add (h.fact 0 rfl))⟩
   omega
  try simp only [decide_eq_true_eq, decide_eq_false_iff_not, Bool.not_eq_true', Bool.not_eq_false'] at hb_if3
  refine wp_skip ?_
  refine reg_ ?_
  refine st_move h rfl rfl fun a h => ?_
  refine st_move h rfl rfl fun a h => ?_
  refine st_move h rfl rfl fun a h => ?_
  refine st_to32 (p := (x1 + 18446744073709551616 - (cy)) % 18446744073709551616) h rfl Tryz.runUnderlying101 Tryz.runUnderlying104 rfl fun a h => ?_
  refine st_move h rfl rfl fun a h => ?_
  refine st_shrN (p := (x1 + 18446744073709551616 - (cy)) % 18446744073709551616) (m := 63) h rfl rfl (by omega) rfl fun a h => ?_
  refine st_indexI (i) h rfl rfl Tryz.runUnderlying28 Tryz.sizeOf104 (rfl) (by omega) rfl fun a h => ?_
  refine st_storeU (i := i) h rfl rfl Tryz.sizeOf104 (by omega) fun w h => ?_
  refine st_assign h rfl rfl fun a h => ?_
  refine wpList_nil ?_
  refine reg_ ?_
  refine st_addI h rfl rfl (by omega) rfl fun a h => ?_
  refine st_move h rfl rfl fun a h => ?_
  refine wpList_nil ?_
  have hstep := sub_step (o := o) (l := l) (r := r) (i := i) (x := x1) (y := 0) (s := (x1 + 18446744073709551616 - (cy)) % 18446744073709551616) (b := cy) (by omega) hx1 (.inr ⟨by omega, rfl⟩) hx1b (by omega) hp2 hp4 (by omega)
  rw [show (9223372036854775808 : Nat) = 2 ^ 63 from by decide] at hstep
  refine ⟨_, ?_, i + 1, o.set i (((x1 + 18446744073709551616 - (cy)) % 18446744073709551616) % 4294967296), ((x1 + 18446744073709551616 - (cy)) % 18446744073709551616) / 2 ^ 63, by omega, by rw [List.length_set]; omega, hstep.2, set_lt hp3 _ _ (by omega), hstep.1, rfl, (((h.consL (t := 0) rfl (h.consL (t := 1) rfl (h.consL (t := 6) rfl (h.consL (t := 7) rfl (h.consL (t := 22) rfl (h.consL (t := 23) rfl (h.consL (t := 24) rfl h.nilL))))))).noFacts.add (h.fact 1 rfl)).add (h.fact 0 rfl))⟩
  omega
 skip
 refine seq_ (reg_ ?_)
 refine st_cmp h rfl rfl rfl rfl fun a h => ?_
 refine wpList_nil ?_
 refine seq_ ?_
 refine cond_f h rfl (by simp; omega) ?_
 refine wp_exit ?_
 repeat refine then_exit ?_
 refine inBlock_exit ?_
 refine seq_ (reg_ ?_)
 refine st_move h rfl rfl fun a h => ?_
 have hie : i = n2 := by omega
 have hlo := val_lt o hp3
 have hlr := val_lt r hr2.1
 have hll := val_lt l hl2.1
 have hle : y ≤ x := by unfold cmpN at hb_if1; split at hb_if1 <;> omega
 have hnl : r.length ≤ l.length := by
  apply Classical.byContradiction; intro hno
  have := nrm_lt_of_len hl2 hr2 (by omega); omega
 have hfin : val o = x - y := by
  rw [List.take_of_length_le (l := o) (by omega), List.take_of_length_le (l := l) (by omega), List.take_of_length_le (l := r) (by omega), hl3, hr3] at hp4
  have hc : cy = 0 := by
   apply Classical.byContradiction; intro hc
   have hc1 : cy = 1 := by omega
   rw [hc1, hie, show n2 = o.length from by omega, Nat.one_mul] at hp4
   omega
  rw [hc, Nat.zero_mul] at hp4; omega
 have hrow := own_row32 (r := o) n2 h (fun _ _ => rfl) hp3 (by omega) (by omega) (by omega)
 rw [hp1] at hrow
 replace h := h.publish
 have h := h.add (f := Rel.natA.fact [.slice (some ⟨g11, 0, none⟩) n2 n2] (x - y)) ⟨_, hrow, hp3, hfin⟩
 refine st_call h Tryz.func67 rfl rfl rfl (limb_cut _ _ (fun b => h.owns_lt) (h.fact 0 rfl)) rfl fun r w a hg hF h => ?_
 obtain ⟨A12, n13, c14, e16, f15⟩ := hF
 subst e16
 have h := h.add (f := (Rel.natN).fact [(.slice A12 n13 c14)] ((x - y))) f15
 refine st_assign h rfl rfl fun a h => ?_
 refine st_assign h rfl rfl fun a h => ?_
 refine wpList_nil ?_
 refine wp_ret ?_
 rw [if_pos hle]
 exact ret2 Tryz.results102 h (resv_tmp h rfl) (resv_tmp h rfl) ⟨_, rfl, h.grow0, _, _, rfl, ⟨_, _, _, rfl, h.out 0 rfl⟩, rfl⟩
set_option maxHeartbeats 1000000 in
theorem limb_Mul (hO : ∀ b, Ob b → b < W.heap.size) {A : Option Addr} {n c x : Nat} {A' : Option Addr} {n' c' y : Nat} (hx0 : Rel.natA.at_ W Ob [.slice A n c] x) (hx1 : Rel.natA.at_ W Ob [.slice A' n' c'] y) (hsx : sz x ≤ 4294967296) (hsy : sz y ≤ 4294967296) :
  Calls Tryz.prog 122 #[.slice A n c, .slice A' n' c'] W (Ret W Ob (Rel.natN.sliceF (x * y))) := by
 refine enter (vs := [(.slice A n c), (.slice A' n' c')]) (Ob := Ob) (K := fun b => b < W.heap.size) (Fs := [(Rel.natA).fact [.slice A n c] (x), (Rel.natA).fact [(.slice A' n' c')] (y)]) Tryz.func122 rfl Tryz.ntmps122 rfl (fun _ h => h) hO (by simp only [List.mem_cons, List.not_mem_nil, or_false, forall_eq_or_imp, forall_eq, false_imp_iff, implies_true]; exact ⟨hx0, hx1⟩) fun a h => ?_
 refine seq_ (reg_ ?_)
 refine st_assign h rfl rfl fun a h => ?_
 refine wpList_nil ?_
 refine seq_ (reg_ ?_)
 refine st_move h rfl rfl fun a h => ?_
 refine st_call h Tryz.func67 rfl rfl rfl (limb_cut _ _ (fun b => h.owns_lt) (h.fact 0 rfl)) rfl fun r w a hg hF h => ?_
 obtain ⟨A1, n2, c3, e5, f4⟩ := hF
 subst e5
 have h := h.add (f := (Rel.natN).fact [(.slice A1 n2 c3)] (x)) f4
 refine st_move h rfl rfl fun a h => ?_
 refine st_call h Tryz.func67 rfl rfl rfl (limb_cut _ _ (fun b => h.owns_lt) (h.fact 2 rfl)) rfl fun r w a hg hF h => ?_
 obtain ⟨A6, n7, c8, e10, f9⟩ := hF
 subst e10
 have h := h.add (f := (Rel.natN).fact [(.slice A6 n7 c8)] (y)) f9
 refine st_assign h rfl rfl fun a h => ?_
 refine st_assign h rfl rfl fun a h => ?_
 refine wpList_nil ?_
 refine seq_ (reg_ ?_)
 refine st_move h rfl rfl fun a h => ?_
 refine st_len h rfl Tryz.runUnderlying28 rfl fun a h => ?_
 refine st_move h rfl rfl fun a h => ?_
 refine st_len h rfl Tryz.runUnderlying28 rfl fun a h => ?_
 obtain ⟨l, hl1, hl2, hl3⟩ := h.fact 1 rfl
 obtain ⟨r, hr1, hr2, hr3⟩ := h.fact 0 rfl
 have h := h.add (f := Rel.row32.fact [(.slice A1 n2 c3)] l) hl1
 obtain ⟨el, _, _⟩ := row_open hl1
 have h := h.add (f := Rel.row32.fact [(.slice A6 n7 c8)] r) hr1
 obtain ⟨er, _, _⟩ := row_open hr1
 have hszl := nrm_len hl2
 have hszr := nrm_len hr2
 rw [hl3] at hszl
 rw [hr3] at hszr
 have h38 : (2 : Nat) ^ 38 = 274877906944 := by decide
 have h47 : (2 : Nat) ^ 47 = 140737488355328 := by decide
 have h63 : (2 : Nat) ^ 63 = 9223372036854775808 := by decide
 refine st_addI h rfl rfl (by omega) rfl fun a h => ?_
 refine st_make (m := (n2 + n7)) (zs := [(.int .u32 0)]) h (rfl) (rfl) Tryz.runUnderlying28 Tryz.typeInfo104 rfl Tryz.sizeOf104 Tryz.zeroValue104 rfl rfl (by omega) rfl fun g11 w a h => ?_
 replace h := h.respellB (reps_u32s _)
 refine st_assign h rfl rfl fun a h => ?_
 refine wpList_nil ?_
 refine seq_ (seq_ (reg_ ?_))
 refine st_move h rfl rfl fun a h => ?_
 refine st_len h rfl Tryz.runUnderlying28 rfl fun a h => ?_
 refine st_move h rfl rfl fun a h => ?_
 refine wpList_nil ?_
 refine wp_block ?_
 refine loop_ (fun m a w' => ∃ i o, i ≤ n2 ∧ o.length = (n2 + n7) ∧ (∀ x ∈ o, x < 4294967296) ∧ (∀ j, i + n7 ≤ j → j < (n2 + n7) → o[j]? = some 0) ∧ val o = val (l.take i) * val r ∧ m = n2 - i ∧ St (fun b => b < W.heap.size) Ob W w' a 75 [(0, (.slice A1 n2 c3)), (1, (.slice A6 n7 c8)), (5, (.slice (some ⟨g11, 0, none⟩) (n2 + n7) (n2 + n7))), (22, (.slice A1 n2 c3)), (23, (.int .i64 (n2 : Int))), (24, (.int .i64 (i : Int)))] [(Rel.row32).fact [(.slice A1 n2 c3)] (l), (Rel.row32).fact [(.slice A6 n7 c8)] (r)] [(g11, 104, u32s o)]) (m := _) (⟨0, List.replicate (n2 + n7) 0, by omega, by simp, by simp, fun j h1 h2 => by rw [List.getElem?_replicate, if_pos h2], by simp [val, val_zeros], rfl, (((h.consL (t := 0) rfl (h.consL (t := 1) rfl (h.consL (t := 5) rfl (h.consL (t := 22) rfl (h.consL (t := 23) rfl (h.consL (t := 24) rfl h.nilL)))))).noFacts.add (h.fact 0 rfl)).add (h.fact 1 rfl))⟩) ?_
 clear h
 rintro m a w ⟨i, o, hp0, hp1, hp2, hp3, hp4, hm, h⟩
 by_cases hlt : i < n2
 ·obtain ⟨b1, o1, rfl, _, _, _⟩ := row_get (h.fact 0 rfl) (i := i) (by omega)
  obtain ⟨x1, hx1⟩ : ∃ x, l[i]? = some x := ⟨_, List.getElem?_eq_getElem (by omega)⟩
  have hx1b := row_lt (h.fact 0 rfl) _ (List.mem_of_getElem? hx1)
  refine seq_ (reg_ ?_)
  refine st_cmp h rfl rfl rfl rfl fun a h => ?_
  refine wpList_nil ?_
  refine seq_ ?_
  refine cond_t h rfl (by simp; omega) ?_
  refine wp_skip ?_
  refine seq_ ?_
  refine wp_block ?_
  refine seq_ (reg_ ?_)
  refine st_move h rfl rfl fun a h => ?_
  refine st_indexI (i) h rfl rfl Tryz.runUnderlying28 Tryz.sizeOf104 (rfl) (by omega) rfl fun a h => ?_
  refine st_load h rfl Tryz.isAgg104 (row_cell (h.fact 0 rfl) hx1) rfl fun a h => ?_
  refine st_assign h rfl rfl fun a h => ?_
  refine st_assign h rfl rfl fun a h => ?_
  refine wpList_nil ?_
  refine seq_ (reg_ ?_)
  refine st_assign h rfl rfl fun a h => ?_
  refine wpList_nil ?_
  refine seq_ (seq_ (reg_ ?_))
  refine st_move h rfl rfl fun a h => ?_
  refine st_len h rfl Tryz.runUnderlying28 rfl fun a h => ?_
  refine st_move h rfl rfl fun a h => ?_
  refine wpList_nil ?_
  refine wp_block ?_
  refine loop_ (fun m a w' => ∃ k o' cy, k ≤ n7 ∧ o'.length = (n2 + n7) ∧ cy < 4294967296 ∧ (∀ x ∈ o', x < 4294967296) ∧ (∀ j, i + n7 ≤ j → j < (n2 + n7) → o'[j]? = some 0) ∧ val o' + cy * 4294967296 ^ (i + k) = val (l.take i) * val r + 4294967296 ^ i * x1 * val (r.take k) ∧ m = n7 - k ∧ St (fun b => b < W.heap.size) Ob W w' a 75 [(0, (.slice (some ⟨b1, o1, none⟩) n2 c3)), (1, (.slice A6 n7 c8)), (5, (.slice (some ⟨g11, 0, none⟩) (n2 + n7) (n2 + n7))), (22, (.slice (some ⟨b1, o1, none⟩) n2 c3)), (23, (.int .i64 (n2 : Int))), (24, (.int .i64 (i : Int))), (6, (.int .i64 (i : Int))), (7, (.int .u32 (x1 : Int))), (8, (.int .u64 ((cy : Nat) : Int))), (29, (.slice A6 n7 c8)), (30, (.int .i64 (n7 : Int))), (31, (.int .i64 (k : Int)))] [(Rel.row32).fact [(.slice (some ⟨b1, o1, none⟩) n2 c3)] (l), (Rel.row32).fact [(.slice A6 n7 c8)] (r)] [(g11, 104, u32s o')]) (m := _) (⟨0, o, 0, by omega, hp1, by omega, hp2, hp3, by simp [hp4, val], rfl, (((h.consL (t := 0) rfl (h.consL (t := 1) rfl (h.consL (t := 5) rfl (h.consL (t := 22) rfl (h.consL (t := 23) rfl (h.consL (t := 24) rfl (h.consL (t := 6) rfl (h.consL (t := 7) rfl (h.consL (t := 8) rfl (h.consL (t := 29) rfl (h.consL (t := 30) rfl (h.consL (t := 31) rfl h.nilL)))))))))))).noFacts.add (h.fact 1 rfl)).add (h.fact 0 rfl))⟩) ?_
  clear h
  rintro m a w ⟨k, o', cy, hq0, hq1, hq2, hq3, hq4, hq5, hm2, h⟩
  by_cases hlt2 : k < n7
  ·obtain ⟨b2, o2, rfl, _, _, _⟩ := row_get (h.fact 1 rfl) (i := k) (by omega)
   obtain ⟨y1, hy1⟩ : ∃ y, r[k]? = some y := ⟨_, List.getElem?_eq_getElem (by omega)⟩
   have hy1b := row_lt (h.fact 1 rfl) _ (List.mem_of_getElem? hy1)
   obtain ⟨z1, hz1⟩ : ∃ z, o'[i + k]? = some z := ⟨_, List.getElem?_eq_getElem (by omega)⟩
   have hz1b := hq3 _ (List.mem_of_getElem? hz1)
   have hxy := mul_le_limb hx1b hy1b
   refine seq_ (reg_ ?_)
   refine st_cmp h rfl rfl rfl rfl fun a h => ?_
   refine wpList_nil ?_
   refine seq_ ?_
   refine cond_t h rfl (by simp; omega) ?_
   refine wp_skip ?_
   refine seq_ ?_
   refine wp_block ?_
   refine seq_ (reg_ ?_)
   refine st_move h rfl rfl fun a h => ?_
   refine st_indexI (k) h rfl rfl Tryz.runUnderlying28 Tryz.sizeOf104 (rfl) (by omega) rfl fun a h => ?_
   refine st_load h rfl Tryz.isAgg104 (row_cell (h.fact 1 rfl) hy1) rfl fun a h => ?_
   refine st_assign h rfl rfl fun a h => ?_
   refine st_assign h rfl rfl fun a h => ?_
   refine wpList_nil ?_
   refine seq_ (reg_ ?_)
   refine st_move h rfl rfl fun a h => ?_
   refine st_to64 (p := x1) h rfl (by omega) Tryz.runUnderlying104 Tryz.runUnderlying101 rfl fun a h => ?_
   refine st_move h rfl rfl fun a h => ?_
   refine st_to64 (p := y1) h rfl (by omega) Tryz.runUnderlying104 Tryz.runUnderlying101 rfl fun a h => ?_
   refine st_mulN (p := x1) (q := y1) h rfl rfl (by omega) rfl fun a h => ?_
   refine st_move h rfl rfl fun a h => ?_
   refine st_move h rfl rfl fun a h => ?_
   refine st_move h rfl rfl fun a h => ?_
   refine st_addI h rfl rfl (by omega) rfl fun a h => ?_
   refine st_indexI (i + k) h rfl rfl Tryz.runUnderlying28 Tryz.sizeOf104 (by omega) (by omega) rfl fun a h => ?_
   refine st_load h rfl Tryz.isAgg104 (h.u32s_cell hz1) rfl fun a h => ?_
   refine st_to64 (p := z1) h rfl (by omega) Tryz.runUnderlying104 Tryz.runUnderlying101 rfl fun a h => ?_
   refine st_addN (p := x1 * y1) (q := z1) h rfl rfl (by omega) rfl fun a h => ?_
   refine st_move h rfl rfl fun a h => ?_
   refine st_addN (p := (x1 * y1) + z1) (q := cy) h rfl rfl (by omega) rfl fun a h => ?_
   refine st_assign h rfl rfl fun a h => ?_
   refine wpList_nil ?_
   refine reg_ ?_
   refine st_move h rfl rfl fun a h => ?_
   refine st_move h rfl rfl fun a h => ?_
   refine st_move h rfl rfl fun a h => ?_
   refine st_addI h rfl rfl (by omega) rfl fun a h => ?_
   refine st_move h rfl rfl fun a h => ?_
   refine st_to32 (p := ((x1 * y1) + z1) + cy) h rfl Tryz.runUnderlying101 Tryz.runUnderlying104 rfl fun a h => ?_
   refine st_move h rfl rfl fun a h => ?_
   refine st_shrN (p := ((x1 * y1) + z1) + cy) (m := 32) h rfl rfl (by omega) rfl fun a h => ?_
   refine st_indexI (i + k) h rfl rfl Tryz.runUnderlying28 Tryz.sizeOf104 (by omega) (by omega) rfl fun a h => ?_
   refine st_storeU (i := i + k) h rfl rfl Tryz.sizeOf104 (by omega) fun w h => ?_
   refine st_assign h rfl rfl fun a h => ?_
   refine wpList_nil ?_
   refine reg_ ?_
   refine st_addI h rfl rfl (by omega) rfl fun a h => ?_
   refine st_move h rfl rfl fun a h => ?_
   refine wpList_nil ?_
   have hstep := mul_step (s := ((x1 * y1) + z1) + cy) (r := r) (x := x1) (y := y1) hz1 hy1 hq5 (by omega)
   rw [show (((x1 * y1) + z1) + cy) / 4294967296 = (((x1 * y1) + z1) + cy) / 2 ^ 32 from by rw [show (2 : Nat) ^ 32 = 4294967296 from by decide]] at hstep
   refine ⟨_, ?_, k + 1, o'.set (i + k) ((((x1 * y1) + z1) + cy) % 4294967296), (((x1 * y1) + z1) + cy) / 2 ^ 32, by omega, by rw [List.length_set]; omega, by omega, set_lt hq3 _ _ (by omega), fun j h1 h2 => by rw [List.getElem?_set_ne (by omega)]; exact hq4 j h1 h2, hstep, rfl, (((h.consL (t := 0) rfl (h.consL (t := 1) rfl (h.consL (t := 5) rfl (h.consL (t := 22) rfl (h.consL (t := 23) rfl (h.consL (t := 24) rfl (h.consL (t := 6) rfl (h.consL (t := 7) rfl (h.consL (t := 8) rfl (h.consL (t := 29) rfl (h.consL (t := 30) rfl (h.consL (t := 31) rfl h.nilL)))))))))))).noFacts.add (h.fact 1 rfl)).add (h.fact 0 rfl))⟩
   omega
  skip
  refine seq_ (reg_ ?_)
  refine st_cmp h rfl rfl rfl rfl fun a h => ?_
  refine wpList_nil ?_
  refine seq_ ?_
  refine cond_f h rfl (by simp; omega) ?_
  refine wp_exit ?_
  repeat refine then_exit ?_
  refine inBlock_exit ?_
  refine seq_ (reg_ ?_)
  refine st_move h rfl rfl fun a h => ?_
  refine st_len h rfl Tryz.runUnderlying28 rfl fun a h => ?_
  refine st_cmp h rfl rfl rfl rfl fun a h => ?_
  refine wpList_nil ?_
  refine cond_ h rfl (fun hb_if3 => ?_) (fun hb_if3 => ?_)
  ·try simp only [decide_eq_true_eq, decide_eq_false_iff_not, Bool.not_eq_true', Bool.not_eq_false'] at hb_if3
   have hkk : k = r.length := by omega
   subst hkk
   refine reg_ ?_
   refine st_move h rfl rfl fun a h => ?_
   refine st_move h rfl rfl fun a h => ?_
   refine st_move h rfl rfl fun a h => ?_
   refine st_len h rfl Tryz.runUnderlying28 rfl fun a h => ?_
   refine st_addI h rfl rfl (by omega) rfl fun a h => ?_
   refine st_move h rfl rfl fun a h => ?_
   refine st_to32 (p := cy) h rfl Tryz.runUnderlying101 Tryz.runUnderlying104 rfl fun a h => ?_
   refine st_indexI (i + n7) h rfl rfl Tryz.runUnderlying28 Tryz.sizeOf104 (by omega) (by omega) rfl fun a h => ?_
   refine st_storeU (i := i + n7) h rfl rfl Tryz.sizeOf104 (by omega) fun w h => ?_
   refine wpList_nil ?_
   refine reg_ ?_
   refine st_addI h rfl rfl (by omega) rfl fun a h => ?_
   refine st_move h rfl rfl fun a h => ?_
   refine wpList_nil ?_
   refine ⟨_, ?_, i + 1, o'.set (i + n7) (cy % 4294967296), by omega, by rw [List.length_set]; omega, set_lt hq3 _ _ (by omega), fun j h1 h2 => by rw [List.getElem?_set_ne (by omega)]; exact hq4 j (by omega) h2, by rw [er]; exact mul_last (by rw [← er]; exact hq4 _ (by omega) (by omega)) hx1 hq2 rfl hq5, rfl, (((h.consL (t := 0) rfl (h.consL (t := 1) rfl (h.consL (t := 5) rfl (h.consL (t := 22) rfl (h.consL (t := 23) rfl (h.consL (t := 24) rfl h.nilL)))))).noFacts.add (h.fact 1 rfl)).add (h.fact 0 rfl))⟩
   omega
  try simp only [decide_eq_true_eq, decide_eq_false_iff_not, Bool.not_eq_true', Bool.not_eq_false'] at hb_if3
  refine wp_skip ?_
  refine reg_ ?_
  refine st_addI h rfl rfl (by omega) rfl fun a h => ?_
  refine st_move h rfl rfl fun a h => ?_
  refine wpList_nil ?_
  have hr0 : r = [] := List.eq_nil_of_length_eq_zero (by omega)
  refine ⟨_, ?_, i + 1, o', by omega, hq1, hq3, fun j h1 h2 => hq4 j (by omega) h2, by rw [hr0] at hq5 ⊢; simp only [List.take_nil, val, Nat.mul_zero, Nat.zero_add] at hq5 ⊢; omega, rfl, (((h.consL (t := 0) rfl (h.consL (t := 1) rfl (h.consL (t := 5) rfl (h.consL (t := 22) rfl (h.consL (t := 23) rfl (h.consL (t := 24) rfl h.nilL)))))).noFacts.add (h.fact 1 rfl)).add (h.fact 0 rfl))⟩
  omega
 skip
 refine seq_ (reg_ ?_)
 refine st_cmp h rfl rfl rfl rfl fun a h => ?_
 refine wpList_nil ?_
 refine seq_ ?_
 refine cond_f h rfl (by simp; omega) ?_
 refine wp_exit ?_
 repeat refine then_exit ?_
 refine inBlock_exit ?_
 refine seq_ (reg_ ?_)
 refine st_move h rfl rfl fun a h => ?_
 have hfin : val o = x * y := by
  rw [List.take_of_length_le (l := l) (by omega), hl3, hr3] at hp4; exact hp4
 have hrow := own_row32 (r := o) (n2 + n7) h (fun _ _ => rfl) hp2 (by omega) (by omega) (by omega)
 rw [hp1] at hrow
 replace h := h.publish
 have h := h.add (f := Rel.natA.fact [.slice (some ⟨g11, 0, none⟩) (n2 + n7) (n2 + n7)] (x * y)) ⟨_, hrow, hp2, hfin⟩
 refine st_call h Tryz.func67 rfl rfl rfl (limb_cut _ _ (fun b => h.owns_lt) (h.fact 0 rfl)) rfl fun r w a hg hF h => ?_
 obtain ⟨A12, n13, c14, e16, f15⟩ := hF
 subst e16
 have h := h.add (f := (Rel.natN).fact [(.slice A12 n13 c14)] ((x * y))) f15
 refine st_assign h rfl rfl fun a h => ?_
 refine wpList_nil ?_
 refine wp_ret ?_
 exact ret1 Tryz.results122 h (resv_tmp h rfl) ⟨_, rfl, h.grow0, _, _, _, rfl, h.out 0 rfl⟩
set_option maxHeartbeats 1000000 in
theorem limb_one (hO : ∀ b, Ob b → b < W.heap.size) {A : Option Addr} {n c x v : Nat} {l : List Nat} (hx0 : Rel.row32.at_ W Ob [.slice A n c] l) (hv : val l = x) (hl : n < 274877906944) (hv0 : 0 < v) (hvb : v < 4294967296) :
  Calls Tryz.prog 96 #[.slice A n c, .int .u32 (v : Int)] W (Ret W Ob (tup2 (Rel.natN.sliceF (x / v)) (eqF (.int .u32 ((x % v : Nat) : Int))))) := by
 obtain ⟨en, _, _⟩ := row_open hx0
 refine enter (vs := [(.slice A n c), (.int .u32 (v : Int))]) (Ob := Ob) (K := fun b => b < W.heap.size) (Fs := [(Rel.row32).fact [.slice A n c] (l)]) Tryz.func96 rfl Tryz.ntmps96 rfl (fun _ h => h) hO (by simp only [List.mem_cons, List.not_mem_nil, or_false, forall_eq_or_imp, forall_eq, false_imp_iff, implies_true]; exact hx0) fun a h => ?_
 refine seq_ (reg_ ?_)
 refine st_assign h rfl rfl fun a h => ?_
 refine st_assign h rfl rfl fun a h => ?_
 refine wpList_nil ?_
 refine seq_ (reg_ ?_)
 refine st_move h rfl rfl fun a h => ?_
 refine st_len h rfl Tryz.runUnderlying28 rfl fun a h => ?_
 have h38 : (2 : Nat) ^ 38 = 274877906944 := by decide
 have h47 : (2 : Nat) ^ 47 = 140737488355328 := by decide
 have h63 : (2 : Nat) ^ 63 = 9223372036854775808 := by decide
 refine st_make (m := n) (zs := [(.int .u32 0)]) h (rfl) (rfl) Tryz.runUnderlying28 Tryz.typeInfo104 rfl Tryz.sizeOf104 Tryz.zeroValue104 rfl rfl (by omega) rfl fun g1 w a h => ?_
 replace h := h.respellB (reps_u32s _)
 refine st_assign h rfl rfl fun a h => ?_
 refine wpList_nil ?_
 refine seq_ (reg_ ?_)
 refine st_assign h rfl rfl fun a h => ?_
 refine wpList_nil ?_
 refine seq_ (seq_ (reg_ ?_))
 refine st_move h rfl rfl fun a h => ?_
 refine st_len h rfl Tryz.runUnderlying28 rfl fun a h => ?_
 refine st_subI h rfl rfl (by omega) rfl fun a h => ?_
 refine st_assign h rfl rfl fun a h => ?_
 refine wpList_nil ?_
 refine wp_block ?_
 refine loop_ (fun m a w' => ∃ k o r, k ≤ n ∧ o.length = n ∧ r < v ∧ (∀ x ∈ o, x < 4294967296) ∧ val (l.drop k) = v * val (o.drop k) + r ∧ m = k ∧ St (fun b => b < W.heap.size) Ob W w' a 44 [(0, (.slice A n c)), (1, (.int .u32 (v : Int))), (6, (.slice (some ⟨g1, 0, none⟩) n n)), (7, (.int .u64 ((r : Nat) : Int))), (8, (.int .i64 ((k : Int) - 1)))] [(Rel.row32).fact [.slice A n c] (l)] [(g1, 104, u32s o)]) (m := _) (⟨n, List.replicate n 0, 0, by omega, by simp, by omega, by simp, by rw [List.drop_eq_nil_of_le (by omega), List.drop_eq_nil_of_le (by simp)]; simp [val], rfl, ((h.consL (t := 0) rfl (h.consL (t := 1) rfl (h.consL (t := 6) rfl (h.consL (t := 7) rfl (h.consL (t := 8) rfl h.nilL))))).noFacts.add (h.fact 0 rfl))⟩) ?_
 clear h
 rintro m a w ⟨k, o, r, hp0, hp1, hp2, hp3, hp4, hm, h⟩
 by_cases h0 : 0 < k
 ·obtain ⟨k, rfl⟩ : ∃ j, k = j + 1 := ⟨k - 1, by omega⟩
  obtain ⟨b1, o1, rfl, _, _, _⟩ := row_get (h.fact 0 rfl) (i := k) (by omega)
  obtain ⟨x1, hx1⟩ : ∃ x, l[k]? = some x := ⟨_, List.getElem?_eq_getElem (by omega)⟩
  have hx1b := row_lt (h.fact 0 rfl) _ (List.mem_of_getElem? hx1)
  replace h := ((h.consL (t := 0) rfl (h.consL (t := 1) rfl (h.consL (t := 6) rfl (h.consL (t := 7) rfl ((h.consL (t := 8) rfl h.nilL).respell (show Value.int .i64 _ = .int .i64 (k : Int) by congr 1; omega)))))))
  refine seq_ (seq_ (reg_ ?_))
  refine st_move h rfl rfl fun a h => ?_
  refine st_cmp h rfl rfl rfl rfl fun a h => ?_
  refine wpList_nil ?_
  refine cond_t h rfl (by simp) ?_
  refine wp_skip ?_
  refine seq_ ?_
  refine wp_block ?_
  refine seq_ (reg_ ?_)
  refine st_move h rfl rfl fun a h => ?_
  refine st_shlN (p := r) (m := 32) h rfl rfl (by omega) (by omega) rfl fun a h => ?_
  refine st_move h rfl rfl fun a h => ?_
  refine st_move h rfl rfl fun a h => ?_
  refine st_indexI (k) h rfl rfl Tryz.runUnderlying28 Tryz.sizeOf104 (rfl) (by omega) rfl fun a h => ?_
  refine st_load h rfl Tryz.isAgg104 (row_cell (h.fact 0 rfl) hx1) rfl fun a h => ?_
  refine st_to64 (p := x1) h rfl (by omega) Tryz.runUnderlying104 Tryz.runUnderlying101 rfl fun a h => ?_
  refine st_orN (k' := r) (p := (r) * 2 ^ 32) (q := x1) h rfl rfl (by omega) (by omega) (by omega) rfl fun a h => ?_
  refine st_assign h rfl rfl fun a h => ?_
  refine wpList_nil ?_
  refine draw_ mixed_ 13 [some 28, some 29, some 30, some 31, some 32, some 33, some 34, some 35, some 36, some 37, some 38, some 39, none] [[], [], [], [], [3], [2, 4], [5], [], [], [8], [7, 9], [0, 1], [6, 11]] [(eqF (.slice (some ⟨g1, 0, none⟩) n n)), (eqF (.int .i64 (k : Int))), (eqF (.int .u64 ((((r) * 2 ^ 32) + x1 : Nat) : Int))), (eqF (.int .u32 (v : Int))), (eqF (.int .u64 ((v : Nat) : Int))), (eqF (.int .u64 (((((r) * 2 ^ 32) + x1) / v : Nat) : Int))), (eqF (.int .u32 ((((((r) * 2 ^ 32) + x1) / v) % 4294967296 : Nat) : Int))), (eqF (.int .u64 ((((r) * 2 ^ 32) + x1 : Nat) : Int))), (eqF (.int .u32 (v : Int))), (eqF (.int .u64 ((v : Nat) : Int))), (eqF (.int .u64 (((((r) * 2 ^ 32) + x1) % v : Nat) : Int))), (eqF (.pointer (some ⟨g1, (0 + (k) * 1), none⟩))), noF] (fun p _ => [(g1, 104, u32s (cond (p 12) (o.set k (((r * 2 ^ 32) + x1) / v % 4294967296)) o))]) rfl h (fun _ => rfl) rfl ⟨?_, ?_, ?_, ?_, ?_, ?_, ?_, ?_, ?_, ?_, ?_, ?_, ?_, trivial⟩ ?_
  ·intro dp hdp0 hdp dv Fx a w h
   refine st_move h rfl rfl fun a h => ?_
   refine wpList_nil ⟨rfl, ?_⟩
   exact ⟨_, h.drawEnd (F' := []) rfl rfl⟩
  ·intro dp hdp0 hdp dv Fx a w h
   refine st_move h rfl rfl fun a h => ?_
   refine wpList_nil ⟨rfl, ?_⟩
   exact ⟨_, h.drawEnd (F' := []) rfl rfl⟩
  ·intro dp hdp0 hdp dv Fx a w h
   refine st_move h rfl rfl fun a h => ?_
   refine wpList_nil ⟨rfl, ?_⟩
   exact ⟨_, h.drawEnd (F' := []) rfl rfl⟩
  ·intro dp hdp0 hdp dv Fx a w h
   refine st_move h rfl rfl fun a h => ?_
   refine wpList_nil ⟨rfl, ?_⟩
   exact ⟨_, h.drawEnd (F' := []) rfl rfl⟩
  ·intro dp hdp0 hdp dv Fx a w h
   have e2 : dv 3 = (.int .u32 (v : Int)) := h.fact 0 rfl
   replace h := (h.spellE (t := 31) e2 rfl h)
   refine st_to64 (p := v) h rfl (by omega) Tryz.runUnderlying104 Tryz.runUnderlying101 rfl fun a h => ?_
   refine wpList_nil ⟨rfl, ?_⟩
   exact ⟨_, h.drawEnd (F' := [_]) rfl rfl⟩
  ·intro dp hdp0 hdp dv Fx a w h
   have e3 : dv 2 = (.int .u64 ((((r) * 2 ^ 32) + x1 : Nat) : Int)) := h.fact 0 rfl
   have e4 : dv 4 = (.int .u64 ((v : Nat) : Int)) := h.fact 1 rfl
   replace h := (h.spellE (t := 32) e4 rfl (h.spellE (t := 30) e3 rfl h))
   refine st_quoN (p := ((r) * 2 ^ 32) + x1) (q := v) h rfl rfl (by omega) (by omega) rfl fun a h => ?_
   refine wpList_nil ⟨rfl, ?_⟩
   exact ⟨_, h.drawEnd (F' := [_, _]) rfl rfl⟩
  ·intro dp hdp0 hdp dv Fx a w h
   have e5 : dv 5 = (.int .u64 (((((r) * 2 ^ 32) + x1) / v : Nat) : Int)) := h.fact 0 rfl
   replace h := (h.spellE (t := 33) e5 rfl h)
   refine st_to32 (p := (((r) * 2 ^ 32) + x1) / v) h rfl Tryz.runUnderlying101 Tryz.runUnderlying104 rfl fun a h => ?_
   refine wpList_nil ⟨rfl, ?_⟩
   exact ⟨_, h.drawEnd (F' := [_]) rfl rfl⟩
  ·intro dp hdp0 hdp dv Fx a w h
   refine st_move h rfl rfl fun a h => ?_
   refine wpList_nil ⟨rfl, ?_⟩
   exact ⟨_, h.drawEnd (F' := []) rfl rfl⟩
  ·intro dp hdp0 hdp dv Fx a w h
   refine st_move h rfl rfl fun a h => ?_
   refine wpList_nil ⟨rfl, ?_⟩
   exact ⟨_, h.drawEnd (F' := []) rfl rfl⟩
  ·intro dp hdp0 hdp dv Fx a w h
   have e6 : dv 8 = (.int .u32 (v : Int)) := h.fact 0 rfl
   replace h := (h.spellE (t := 36) e6 rfl h)
   refine st_to64 (p := v) h rfl (by omega) Tryz.runUnderlying104 Tryz.runUnderlying101 rfl fun a h => ?_
   refine wpList_nil ⟨rfl, ?_⟩
   exact ⟨_, h.drawEnd (F' := [_]) rfl rfl⟩
  ·intro dp hdp0 hdp dv Fx a w h
   have e7 : dv 7 = (.int .u64 ((((r) * 2 ^ 32) + x1 : Nat) : Int)) := h.fact 0 rfl
   have e8 : dv 9 = (.int .u64 ((v : Nat) : Int)) := h.fact 1 rfl
   replace h := (h.spellE (t := 37) e8 rfl (h.spellE (t := 35) e7 rfl h))
   refine st_remN (p := ((r) * 2 ^ 32) + x1) (q := v) h rfl rfl (by omega) rfl fun a h => ?_
   refine wpList_nil ⟨rfl, ?_⟩
   exact ⟨_, h.drawEnd (F' := [_, _]) rfl rfl⟩
  ·intro dp hdp0 hdp dv Fx a w h
   have e9 : dv 0 = (.slice (some ⟨g1, 0, none⟩) n n) := h.fact 0 rfl
   have e10 : dv 1 = (.int .i64 (k : Int)) := h.fact 1 rfl
   replace h := (h.spellE (t := 29) e10 rfl (h.spellE (t := 28) e9 rfl h))
   refine st_indexI (k) h rfl rfl Tryz.runUnderlying28 Tryz.sizeOf104 (rfl) (by omega) rfl fun a h => ?_
   refine wpList_nil ⟨rfl, ?_⟩
   exact ⟨_, h.drawEnd (F' := [_, _]) rfl rfl⟩
  ·intro dp hdp0 hdp dv Fx a w h
   simp only [hdp0, cond_false] at h
   have e11 : dv 6 = (.int .u32 ((((((r) * 2 ^ 32) + x1) / v) % 4294967296 : Nat) : Int)) := h.fact 0 rfl
   have e12 : dv 11 = (.pointer (some ⟨g1, (0 + (k) * 1), none⟩)) := h.fact 1 rfl
   replace h := (h.spellE (t := 39) e12 rfl (h.spellE (t := 34) e11 rfl h))
   refine st_storeU (i := k) h rfl rfl Tryz.sizeOf104 (by omega) fun w h => ?_
   refine wpList_nil ⟨rfl, ?_⟩
   exact ⟨undef, h.drawEnd0 (F' := [_, _]) trivial⟩
  intro dp hdp dv a w h
  have hdp12 := hdp 12 (by omega)
  try simp only [hdp12, cond_true] at h
  have e13 : dv 10 = (.int .u64 (((((r) * 2 ^ 32) + x1) % v : Nat) : Int)) := h.fact 10 rfl
  have h2 := (h.spellE (t := 38) e13 rfl (h.consL (t := 9) rfl (h.consL (t := 17) rfl (h.consL (t := 8) rfl (h.consL (t := 7) rfl (h.consL (t := 6) rfl (h.consL (t := 1) rfl (h.consL (t := 0) rfl h.nilL))))))))
  have h3 := h2.noFacts
  have h3 := h3.add (h2.fact 13 rfl)
  clear h2
  replace h := h3
  clear h3
  refine st_assign h rfl rfl fun a h => ?_
  refine wpList_nil ?_
  refine reg_ ?_
  refine st_move h rfl rfl fun a h => ?_
  refine st_subI h rfl rfl (by omega) rfl fun a h => ?_
  refine st_assign h rfl rfl fun a h => ?_
  refine wpList_nil ?_
  have hstep := one_step (s := (r * 2 ^ 32) + x1) (o := o) hx1 hx1b (by omega) (by omega) hp2 hp4 (by omega)
  refine ⟨_, ?_, k, o.set k ((((r * 2 ^ 32) + x1) / v) % 4294967296), ((r * 2 ^ 32) + x1) % v, by omega, by rw [List.length_set]; omega, hstep.2.1, set_lt hp3 _ _ (by omega), hstep.2.2, rfl, ((h.consL (t := 0) rfl (h.consL (t := 1) rfl (h.consL (t := 6) rfl (h.consL (t := 7) rfl ((h.consL (t := 8) rfl h.nilL).respell (by congr 1)))))).noFacts.add (h.fact 0 rfl))⟩
  omega
 skip
 refine seq_ (seq_ (reg_ ?_))
 refine st_move h rfl rfl fun a h => ?_
 refine st_cmp h rfl rfl rfl rfl fun a h => ?_
 refine wpList_nil ?_
 refine cond_f h rfl (by simp; omega) ?_
 refine wp_exit ?_
 repeat refine then_exit ?_
 refine inBlock_exit ?_
 refine seq_ (reg_ ?_)
 refine st_move h rfl rfl fun a h => ?_
 have hk0 : k = 0 := by omega
 subst hk0
 rw [List.drop_zero, List.drop_zero, hv] at hp4
 have hq : val o = x / v := by rw [hp4, Nat.mul_add_div (by omega), Nat.div_eq_of_lt hp2, Nat.add_zero]
 have hr : r = x % v := by rw [hp4, Nat.mul_add_mod, Nat.mod_eq_of_lt hp2]
 have hrb : ((r % 4294967296 : Nat) : Int) = ((x % v : Nat) : Int) := by rw [Nat.mod_eq_of_lt (by omega), hr]
 have hrow := own_row32 (r := o) n h (fun _ _ => rfl) hp3 (by omega) (by omega) (by omega)
 rw [hp1] at hrow
 replace h := h.publish
 have h := h.add (f := Rel.natA.fact [.slice (some ⟨g1, 0, none⟩) n n] (x / v)) ⟨_, hrow, hp3, hq⟩
 refine st_call h Tryz.func67 rfl rfl rfl (limb_cut _ _ (fun b => h.owns_lt) (h.fact 0 rfl)) rfl fun r w a hg hF h => ?_
 obtain ⟨A14, n15, c16, e18, f17⟩ := hF
 subst e18
 have h := h.add (f := (Rel.natN).fact [(.slice A14 n15 c16)] ((x / v))) f17
 refine st_move h rfl rfl fun a h => ?_
 refine st_to32 (p := r) h rfl Tryz.runUnderlying101 Tryz.runUnderlying104 rfl fun a h => ?_
 refine st_assign h rfl rfl fun a h => ?_
 refine st_assign h rfl rfl fun a h => ?_
 refine wpList_nil ?_
 refine wp_ret ?_
 exact ret2 Tryz.results96 h (resv_tmp h rfl) (resv_tmp h rfl) ⟨_, rfl, h.grow0, _, _, rfl, ⟨_, _, _, rfl, h.out 0 rfl⟩, congrArg (Value.int .u32) hrb⟩
end Orr

namespace Orr
open Go Go.Proofs
variable (Ob : Nat → Prop) (W : World)
set_option maxHeartbeats 1000000 in
theorem bits_Len32 (hO : ∀ b, Ob b → b < W.heap.size) {x : Nat} (hs : x < 4294967296) :
  Calls Tryz.prog 131 #[.int .u32 (x : Int)] W (Ret W Ob (eqF (.int .i64 ((sz x : Nat) : Int)))) := by
 refine enter (vs := [(.int .u32 (x : Int))]) (Ob := Ob) (K := fun b => b < W.heap.size) (Fs := []) Tryz.func131 rfl Tryz.ntmps131 rfl (fun _ h => h) hO (fun f hf => by cases hf) fun a h => ?_
 refine seq_ (reg_ ?_)
 refine st_assign h rfl rfl fun a h => ?_
 refine wpList_nil ?_
 refine seq_ (seq_ (reg_ ?_))
 refine st_move h rfl rfl fun a h => ?_
 refine st_cmp h rfl rfl rfl rfl fun a h => ?_
 refine wpList_nil ?_
 refine cond_ h rfl (fun hb_if1 => ?_) (fun hb_if1 => ?_)
 ·try simp only [decide_eq_true_eq, decide_eq_false_iff_not, Bool.not_eq_true', Bool.not_eq_false'] at hb_if1
  refine seq_ (reg_ ?_)
  refine st_move h rfl rfl fun a h => ?_
  refine st_shrU (p := x) (m := 16) h rfl rfl (by decide) rfl fun a h => ?_
  refine st_assign h rfl rfl fun a h => ?_
  refine wpList_nil ?_
  refine reg_ ?_
  refine st_assign h rfl rfl fun a h => ?_
  refine wpList_nil ?_
  refine seq_ (seq_ (reg_ ?_))
  refine st_move h rfl rfl fun a h => ?_
  refine st_cmp h rfl rfl rfl rfl fun a h => ?_
  refine wpList_nil ?_
  refine cond_ h rfl (fun hb_if2 => ?_) (fun hb_if2 => ?_)
  ·try simp only [decide_eq_true_eq, decide_eq_false_iff_not, Bool.not_eq_true', Bool.not_eq_false'] at hb_if2
   refine seq_ (reg_ ?_)
   refine st_move h rfl rfl fun a h => ?_
   refine st_shrU (p := (x) / 2 ^ 16) (m := 8) h rfl rfl (by decide) rfl fun a h => ?_
   refine st_assign h rfl rfl fun a h => ?_
   refine wpList_nil ?_
   refine reg_ ?_
   refine st_move h rfl rfl fun a h => ?_
   refine st_addI h rfl rfl (by omega) rfl fun a h => ?_
   refine st_assign h rfl rfl fun a h => ?_
   refine wpList_nil ?_
   refine seq_ (reg_ ?_)
   refine st_move h rfl rfl fun a h => ?_
   refine st_move h rfl rfl fun a h => ?_
   refine st_to8 (p := ((x) / 2 ^ 16) / 2 ^ 8) h rfl (by omega) Tryz.runUnderlying104 Tryz.runUnderlying5 rfl fun a h => ?_
   have hyb : ((x) / 2 ^ 16) / 2 ^ 8 < 256 := by omega
   have hszy : sz (((x) / 2 ^ 16) / 2 ^ 8) ≤ 8 := sz_le.2 (by omega)
   refine st_byte (i := ((x) / 2 ^ 16) / 2 ^ 8) (v := sz (((x) / 2 ^ 16) / 2 ^ 8)) h rfl rfl Tryz.runUnderlying9 (by revert hyb; generalize ((x) / 2 ^ 16) / 2 ^ 8 = i; revert i; set_option maxRecDepth 100000 in decide) rfl fun a h => ?_
   refine st_toInt (p := sz (((x) / 2 ^ 16) / 2 ^ 8)) h rfl (by omega) Tryz.runUnderlying5 Tryz.runUnderlying3 rfl fun a h => ?_
   refine st_addI h rfl rfl (by omega) rfl fun a h => ?_
   refine st_assign h rfl rfl fun a h => ?_
   refine wpList_nil ?_
   refine wp_ret ?_
   have e2 : (2 : Nat) ^ 16 = 65536 := by decide
   have e3 : (2 : Nat) ^ 8 = 256 := by decide
   have q1 := @sz_shift x 16
   have q2 := @sz_shift x 8
   have q3 := @sz_shift (x / 2 ^ 16) 8
   exact ret1 Tryz.results131 h (resv_tmp h rfl) ⟨_, rfl, h.grow0, congrArg _ (by omega)⟩
  try simp only [decide_eq_true_eq, decide_eq_false_iff_not, Bool.not_eq_true', Bool.not_eq_false'] at hb_if2
  refine wp_skip ?_
  refine seq_ (reg_ ?_)
  refine st_move h rfl rfl fun a h => ?_
  refine st_move h rfl rfl fun a h => ?_
  refine st_to8 (p := (x) / 2 ^ 16) h rfl (by omega) Tryz.runUnderlying104 Tryz.runUnderlying5 rfl fun a h => ?_
  have hyb : (x) / 2 ^ 16 < 256 := by omega
  have hszy : sz ((x) / 2 ^ 16) ≤ 8 := sz_le.2 (by omega)
  refine st_byte (i := (x) / 2 ^ 16) (v := sz ((x) / 2 ^ 16)) h rfl rfl Tryz.runUnderlying9 (by revert hyb; generalize (x) / 2 ^ 16 = i; revert i; set_option maxRecDepth 100000 in decide) rfl fun a h => ?_
  refine st_toInt (p := sz ((x) / 2 ^ 16)) h rfl (by omega) Tryz.runUnderlying5 Tryz.runUnderlying3 rfl fun a h => ?_
  refine st_addI h rfl rfl (by omega) rfl fun a h => ?_
  refine st_assign h rfl rfl fun a h => ?_
  refine wpList_nil ?_
  refine wp_ret ?_
  have e2 : (2 : Nat) ^ 16 = 65536 := by decide
  have e3 : (2 : Nat) ^ 8 = 256 := by decide
  have q1 := @sz_shift x 16
  have q2 := @sz_shift x 8
  have q3 := @sz_shift (x / 2 ^ 16) 8
  exact ret1 Tryz.results131 h (resv_tmp h rfl) ⟨_, rfl, h.grow0, congrArg _ (by omega)⟩
 try simp only [decide_eq_true_eq, decide_eq_false_iff_not, Bool.not_eq_true', Bool.not_eq_false'] at hb_if1
 refine wp_skip ?_
 refine seq_ (seq_ (reg_ ?_))
 refine st_move h rfl rfl fun a h => ?_
 refine st_cmp h rfl rfl rfl rfl fun a h => ?_
 refine wpList_nil ?_
 refine cond_ h rfl (fun hb_if2 => ?_) (fun hb_if2 => ?_)
 ·try simp only [decide_eq_true_eq, decide_eq_false_iff_not, Bool.not_eq_true', Bool.not_eq_false'] at hb_if2
  refine seq_ (reg_ ?_)
  refine st_move h rfl rfl fun a h => ?_
  refine st_shrU (p := x) (m := 8) h rfl rfl (by decide) rfl fun a h => ?_
  refine st_assign h rfl rfl fun a h => ?_
  refine wpList_nil ?_
  refine reg_ ?_
  refine st_move h rfl rfl fun a h => ?_
  refine st_addI h rfl rfl (by omega) rfl fun a h => ?_
  refine st_assign h rfl rfl fun a h => ?_
  refine wpList_nil ?_
  refine seq_ (reg_ ?_)
  refine st_move h rfl rfl fun a h => ?_
  refine st_move h rfl rfl fun a h => ?_
  refine st_to8 (p := (x) / 2 ^ 8) h rfl (by omega) Tryz.runUnderlying104 Tryz.runUnderlying5 rfl fun a h => ?_
  have hyb : (x) / 2 ^ 8 < 256 := by omega
  have hszy : sz ((x) / 2 ^ 8) ≤ 8 := sz_le.2 (by omega)
  refine st_byte (i := (x) / 2 ^ 8) (v := sz ((x) / 2 ^ 8)) h rfl rfl Tryz.runUnderlying9 (by revert hyb; generalize (x) / 2 ^ 8 = i; revert i; set_option maxRecDepth 100000 in decide) rfl fun a h => ?_
  refine st_toInt (p := sz ((x) / 2 ^ 8)) h rfl (by omega) Tryz.runUnderlying5 Tryz.runUnderlying3 rfl fun a h => ?_
  refine st_addI h rfl rfl (by omega) rfl fun a h => ?_
  refine st_assign h rfl rfl fun a h => ?_
  refine wpList_nil ?_
  refine wp_ret ?_
  have e2 : (2 : Nat) ^ 16 = 65536 := by decide
  have e3 : (2 : Nat) ^ 8 = 256 := by decide
  have q1 := @sz_shift x 16
  have q2 := @sz_shift x 8
  have q3 := @sz_shift (x / 2 ^ 16) 8
  exact ret1 Tryz.results131 h (resv_tmp h rfl) ⟨_, rfl, h.grow0, congrArg _ (by omega)⟩
 try simp only [decide_eq_true_eq, decide_eq_false_iff_not, Bool.not_eq_true', Bool.not_eq_false'] at hb_if2
 refine wp_skip ?_
 refine seq_ (reg_ ?_)
 refine st_move h rfl rfl fun a h => ?_
 refine st_move h rfl rfl fun a h => ?_
 refine st_to8 (p := x) h rfl (by omega) Tryz.runUnderlying104 Tryz.runUnderlying5 rfl fun a h => ?_
 have hyb : x < 256 := by omega
 have hszy : sz (x) ≤ 8 := sz_le.2 (by omega)
 refine st_byte (i := x) (v := sz (x)) h rfl rfl Tryz.runUnderlying9 (by revert hyb; generalize x = i; revert i; set_option maxRecDepth 100000 in decide) rfl fun a h => ?_
 refine st_toInt (p := sz (x)) h rfl (by omega) Tryz.runUnderlying5 Tryz.runUnderlying3 rfl fun a h => ?_
 refine st_addI h rfl rfl (by omega) rfl fun a h => ?_
 refine st_assign h rfl rfl fun a h => ?_
 refine wpList_nil ?_
 refine wp_ret ?_
 have e2 : (2 : Nat) ^ 16 = 65536 := by decide
 have e3 : (2 : Nat) ^ 8 = 256 := by decide
 have q1 := @sz_shift x 16
 have q2 := @sz_shift x 8
 have q3 := @sz_shift (x / 2 ^ 16) 8
 exact ret1 Tryz.results131 h (resv_tmp h rfl) ⟨_, rfl, h.grow0, congrArg _ (by omega)⟩
set_option maxHeartbeats 1000000 in
theorem limb_Bits (hO : ∀ b, Ob b → b < W.heap.size) {A : Option Addr} {n c x : Nat} (hx0 : Rel.natA.at_ W Ob [.slice A n c] x) (hs : sz x ≤ 4294967296) :
  Calls Tryz.prog 110 #[.slice A n c] W (Ret W Ob (eqF (.int .i64 ((sz x : Nat) : Int)))) := by
 refine enter (vs := [(.slice A n c)]) (Ob := Ob) (K := fun b => b < W.heap.size) (Fs := [(Rel.natA).fact [.slice A n c] (x)]) Tryz.func110 rfl Tryz.ntmps110 rfl (fun _ h => h) hO (by simp only [List.mem_cons, List.not_mem_nil, or_false, forall_eq_or_imp, forall_eq, false_imp_iff, implies_true]; exact hx0) fun a h => ?_
 refine seq_ (reg_ ?_)
 refine st_assign h rfl rfl fun a h => ?_
 refine wpList_nil ?_
 refine seq_ (reg_ ?_)
 refine st_move h rfl rfl fun a h => ?_
 refine st_call h Tryz.func67 rfl rfl rfl (limb_cut _ _ (fun b => h.owns_lt) (h.fact 0 rfl)) rfl fun r w a hg hF h => ?_
 obtain ⟨A1, n2, c3, e5, f4⟩ := hF
 subst e5
 have h := h.add (f := (Rel.natN).fact [(.slice A1 n2 c3)] (x)) f4
 refine st_assign h rfl rfl fun a h => ?_
 refine wpList_nil ?_
 refine seq_ (seq_ (reg_ ?_))
 refine st_move h rfl rfl fun a h => ?_
 refine st_len h rfl Tryz.runUnderlying28 rfl fun a h => ?_
 obtain ⟨l, h1, h2, h3⟩ := h.fact 0 rfl
 have h := h.add (f := Rel.row32.fact [(.slice A1 n2 c3)] l) h1
 obtain ⟨en, _, _⟩ := row_open h1
 have hlen := nrm_len h2
 rw [h3] at hlen
 have h38 : (2 : Nat) ^ 38 = 274877906944 := by decide
 refine st_cmp h rfl rfl rfl rfl fun a h => ?_
 refine wpList_nil ?_
 refine cond_ h rfl (fun hb_if1 => ?_) (fun hb_if1 => ?_)
 ·try simp only [decide_eq_true_eq, decide_eq_false_iff_not, Bool.not_eq_true', Bool.not_eq_false'] at hb_if1
  refine seq_ (reg_ ?_)
  refine st_assign h rfl rfl fun a h => ?_
  refine wpList_nil ?_
  refine wp_ret ?_
  exact ret1 Tryz.results110 h (resv_tmp h rfl) ⟨_, rfl, h.grow0, congrArg _ (by rw [show x = 0 from h3 ▸ (nrm_zero h2).2 (List.eq_nil_of_length_eq_zero (by omega))]; rfl)⟩
 try simp only [decide_eq_true_eq, decide_eq_false_iff_not, Bool.not_eq_true', Bool.not_eq_false'] at hb_if1
 refine wp_skip ?_
 refine seq_ (reg_ ?_)
 refine st_move h rfl rfl fun a h => ?_
 refine st_len h rfl Tryz.runUnderlying28 rfl fun a h => ?_
 have hn0 : 0 < n2 := by omega
 obtain ⟨b1, o1, rfl, _, _, _⟩ := row_get (h.fact 0 rfl) (i := n2 - 1) (by omega)
 obtain ⟨y, hy⟩ : ∃ y, l[n2 - 1]? = some y := ⟨_, List.getElem?_eq_getElem (by omega)⟩
 have hyb := row_lt (h.fact 0 rfl) _ (List.mem_of_getElem? hy)
 have hsy : sz y ≤ 32 := sz_le.2 (by omega)
 refine st_subI h rfl rfl (by omega) rfl fun a h => ?_
 refine st_mulI h rfl rfl (by omega) rfl fun a h => ?_
 refine st_move h rfl rfl fun a h => ?_
 refine st_move h rfl rfl fun a h => ?_
 refine st_len h rfl Tryz.runUnderlying28 rfl fun a h => ?_
 refine st_subI h rfl rfl (by omega) rfl fun a h => ?_
 refine st_indexI (n2 - 1) h rfl rfl Tryz.runUnderlying28 Tryz.sizeOf104 (by omega) (by omega) rfl fun a h => ?_
 refine st_load h rfl Tryz.isAgg104 (row_cell (h.fact 0 rfl) hy) rfl fun a h => ?_
 refine st_call h Tryz.func131 rfl rfl rfl (bits_Len32 _ _ (fun b => h.owns_lt) (by omega)) rfl fun r w a hg hF h => ?_
 obtain rfl := hF
 refine st_addI h rfl rfl (by omega) rfl fun a h => ?_
 refine st_assign h rfl rfl fun a h => ?_
 refine wpList_nil ?_
 refine wp_ret ?_
 have hz := sz_val h2 (y := y) (by rw [← en]; exact hy)
 rw [h3] at hz
 exact ret1 Tryz.results110 h (resv_tmp h rfl) ⟨_, rfl, h.grow0, congrArg _ (by omega)⟩
end Orr

namespace Orr
open Go Go.Proofs
variable (Ob : Nat → Prop) (W : World)
theorem limb_Sub_le (hO : ∀ b, Ob b → b < W.heap.size) {A : Option Addr} {n c x : Nat} {A' : Option Addr} {n' c' y : Nat} (hx0 : Rel.natA.at_ W Ob [.slice A n c] x) (hx1 : Rel.natA.at_ W Ob [.slice A' n' c'] y) (hsx : sz x ≤ 4294967296) (hle : y ≤ x) :
  Calls Tryz.prog 102 #[.slice A n c, .slice A' n' c'] W (Ret W Ob (tup2 (Rel.natN.sliceF (x - y)) (eqF (.bool true)))) := by
 have := limb_Sub Ob W hO hx0 hx1 hsx
 rwa [if_pos hle] at this
theorem limb_Sub_lt (hO : ∀ b, Ob b → b < W.heap.size) {A : Option Addr} {n c x : Nat} {A' : Option Addr} {n' c' y : Nat} (hx0 : Rel.natA.at_ W Ob [.slice A n c] x) (hx1 : Rel.natA.at_ W Ob [.slice A' n' c'] y) (hsx : sz x ≤ 4294967296) (hle : x < y) :
  Calls Tryz.prog 102 #[.slice A n c, .slice A' n' c'] W (Ret W Ob (tup2 (eqF (.slice none 0 0)) (eqF (.bool false)))) := by
 have := limb_Sub Ob W hO hx0 hx1 hsx
 rwa [if_neg (by omega)] at this
set_option maxHeartbeats 1000000 in
theorem whole_made (hO : ∀ b, Ob b → b < W.heap.size) {A : Option Addr} {n c x : Nat} {b : Bool} (hx0 : Rel.natN.at_ W Ob [.slice A n c] x) :
  Calls Tryz.prog 39 #[.slice A n c, .bool b] W (Ret W Ob (Rel.intN.aggF (ofSign b x))) := by
 have hn := (natN_len hx0).1
 refine enter (vs := [(.slice A n c), (.bool b)]) (Ob := Ob) (K := fun b => b < W.heap.size) (Fs := [(Rel.natN).fact [(.slice A n c)] (x)]) Tryz.func39 rfl Tryz.ntmps39 rfl (fun _ h => h) hO (by simp only [List.mem_cons, List.not_mem_nil, or_false, forall_eq_or_imp, forall_eq, false_imp_iff, implies_true]; exact hx0) fun a h => ?_
 rcases b with _ | _
 ·skip
  refine seq_ (reg_ ?_)
  refine st_alloc h Tryz.zeroValue30 rfl fun g1 w a h => ?_
  refine wpList_nil ?_
  refine seq_ (reg_ ?_)
  refine st_move h rfl rfl fun a h => ?_
  refine st_move h rfl rfl fun a h => ?_
  refine guard_skip h rfl rfl (rfl) rfl fun a h => ?_
  refine guard_skip h rfl rfl (rfl) rfl fun a h => ?_
  refine guard_skip h rfl rfl (rfl) rfl fun a h => ?_
  refine st_pickF h rfl (rfl) rfl rfl fun a h => ?_
  refine st_move h rfl rfl fun a h => ?_
  refine st_build h rfl (bd_30 rfl) rfl fun a h => ?_
  refine st_store h 0 rfl rfl rfl Tryz.sizeOf30 rfl rfl rfl rfl fun w h => ?_
  refine wpList_nil ?_
  refine wp_ret ?_
  have h := h.add (f := (Rel.intN).fact [(.bool false), (.slice A n c)] (ofSign false x)) (intN_mk (by rw [ofSign_natAbs]; exact h.fact 0 rfl) (by rw [ofSign_neg]; simp; try omega))
  exact ret1 Tryz.results39 h (resv_agg h 0 rfl rfl Tryz.isAgg30 Tryz.sizeOf30 rfl) ⟨_, rfl, h.grow0, _, rfl, h.out 0 rfl⟩
 skip
 refine seq_ (reg_ ?_)
 refine st_alloc h Tryz.zeroValue30 rfl fun g2 w a h => ?_
 refine wpList_nil ?_
 refine seq_ (reg_ ?_)
 refine st_move h rfl rfl fun a h => ?_
 refine st_move h rfl rfl fun a h => ?_
 refine guard_run h rfl rfl (rfl) ?_
 refine st_move h rfl rfl fun a h => ?_
 refine guard_run h rfl rfl (rfl) ?_
 refine st_len h rfl Tryz.runUnderlying28 rfl fun a h => ?_
 refine guard_run h rfl rfl (rfl) ?_
 refine st_cmp h rfl rfl rfl rfl fun a h => ?_
 refine st_pickT h rfl (rfl) rfl rfl fun a h => ?_
 refine st_move h rfl rfl fun a h => ?_
 refine st_build h rfl (bd_30 rfl) rfl fun a h => ?_
 refine st_store h 0 rfl rfl rfl Tryz.sizeOf30 rfl rfl rfl rfl fun w h => ?_
 refine wpList_nil ?_
 refine wp_ret ?_
 have h := h.add (f := (Rel.intN).fact [(.bool (decide (0 < (n : Int)))), (.slice A n c)] (ofSign true x)) (intN_mk (by rw [ofSign_natAbs]; exact h.fact 0 rfl) (by rw [ofSign_neg]; simp; try omega))
 exact ret1 Tryz.results39 h (resv_agg h 0 rfl rfl Tryz.isAgg30 Tryz.sizeOf30 rfl) ⟨_, rfl, h.grow0, _, rfl, h.out 0 rfl⟩
set_option maxHeartbeats 1000000 in
theorem whole_Norm (hO : ∀ b, Ob b → b < W.heap.size) {b0 : Bool} {A0 : Option Addr} {n0 c0 : Nat} {z0 : Int} (hx0 : Rel.intA.at_ W Ob [.bool b0, .slice A0 n0 c0] z0) (hs0 : isz z0 ≤ 4294967295) :
  Calls Tryz.prog 34 #[.agg #[.bool b0, .slice A0 n0 c0]] W (Ret W Ob (Rel.intN.aggF z0)) := by
 obtain ⟨hx1, hz0⟩ := intA_open hx0
 have hs0' : sz z0.natAbs ≤ 4294967295 := hs0
 refine enter (vs := [(.agg #[(.bool b0), (.slice A0 n0 c0)])]) (Ob := Ob) (K := fun b => b < W.heap.size) (Fs := [(Rel.intA).fact [(.bool b0), (.slice A0 n0 c0)] (z0), (Rel.natA).fact [(.slice A0 n0 c0)] (z0.natAbs)]) Tryz.func34 rfl Tryz.ntmps34 rfl (fun _ h => h) hO (by simp only [List.mem_cons, List.not_mem_nil, or_false, forall_eq_or_imp, forall_eq, false_imp_iff, implies_true]; exact ⟨hx0, hx1⟩) fun a h => ?_
 refine seq_ (reg_ ?_)
 refine st_box h rfl rfl fun g1 w a h => ?_
 refine st_alloc h Tryz.zeroValue30 rfl fun g2 w a h => ?_
 refine wpList_nil ?_
 refine seq_ ?_
 refine draw0_ mixed_ 5 [some 3, some 4, some 5, some 6, some 7] [[], [0], [1], [], [3]] [(eqF (.pointer (some ⟨g1, 1, none⟩))), (eqF (.slice A0 n0 c0)), (Rel.natN.sliceF (z0.natAbs)), (eqF (.pointer (some ⟨g1, 0, none⟩))), (eqF (.bool b0))] rfl h rfl ⟨?_, ?_, ?_, ?_, ?_, trivial⟩ ?_
 ·intro dp hdp0 hdp dv Fx a w h
  refine st_fieldAddr h rfl (fa_30_1) rfl fun a h => ?_
  refine wpList_nil ⟨rfl, ?_⟩
  exact ⟨_, h.drawEnd (F' := []) rfl rfl⟩
 ·intro dp hdp0 hdp dv Fx a w h
  have e8 : dv 0 = (.pointer (some ⟨g1, 1, none⟩)) := h.fact 0 rfl
  replace h := (h.spellE (t := 3) e8 rfl h)
  refine st_loadO h 1 rfl rfl Tryz.isAgg28 rfl rfl fun a h => ?_
  refine wpList_nil ⟨rfl, ?_⟩
  exact ⟨_, h.drawEnd (F' := [_]) rfl rfl⟩
 ·intro dp hdp0 hdp dv Fx a w h
  have e9 : dv 1 = (.slice A0 n0 c0) := h.fact 0 rfl
  replace h := (h.spellE (t := 4) e9 rfl h)
  refine st_call h Tryz.func40 rfl rfl rfl (limb_Norm _ _ (fun b => h.owns_lt) (h.fact 2 rfl) (by omega)) rfl fun r w a hg hF h => ?_
  obtain ⟨A10, n11, c12, e14, f13⟩ := hF
  subst e14
  have h := h.add (f := (Rel.natN).fact [(.slice A10 n11 c12)] (z0.natAbs)) f13
  refine wpList_nil ⟨rfl, ?_⟩
  exact ⟨_, h.drawEnd (F' := [_, _]) rfl ⟨_, _, _, rfl, h.fact 0 rfl⟩⟩
 ·intro dp hdp0 hdp dv Fx a w h
  refine st_fieldAddr h rfl (fa_30_0) rfl fun a h => ?_
  refine wpList_nil ⟨rfl, ?_⟩
  exact ⟨_, h.drawEnd (F' := []) rfl rfl⟩
 ·intro dp hdp0 hdp dv Fx a w h
  have e15 : dv 3 = (.pointer (some ⟨g1, 0, none⟩)) := h.fact 0 rfl
  replace h := (h.spellE (t := 6) e15 rfl h)
  refine st_loadO h 1 rfl rfl Tryz.isAgg4 rfl rfl fun a h => ?_
  refine wpList_nil ⟨rfl, ?_⟩
  exact ⟨_, h.drawEnd (F' := [_]) rfl rfl⟩
 intro dv a w h
 obtain ⟨A16, n17, c18, e20, f19⟩ := (h.fact 2 rfl)
 have e21 : dv 4 = (.bool b0) := h.fact 4 rfl
 have h2 := (h.spellE (t := 7) e21 rfl (h.spellE (t := 5) e20 rfl (h.consL (t := 2) rfl (h.consL (t := 1) rfl (h.consL (t := 0) rfl h.nilL)))))
 have h3 := h2.noFacts
 have h3 := h3.add (h2.fact 6 rfl)
 have h3 := h3.add (h2.fact 5 rfl)
 clear h2
 replace h := h3
 clear h3
 have h := h.add (f := (Rel.natN).fact [(.slice A16 n17 c18)] (z0.natAbs)) f19
 refine st_call h Tryz.func39 rfl rfl rfl (whole_made _ _ (fun b => h.owns_lt) (h.fact 0 rfl)) rfl fun r w a hg hF h => ?_
 obtain ⟨cs22, e24, f23⟩ := hF
 obtain ⟨b25, A26, n27, c28, rfl⟩ := intN_shape f23
 subst e24
 have h := h.add (f := (Rel.intN).fact [(.bool b25), (.slice A26 n27 c28)] (ofSign b0 (z0.natAbs))) f23
 refine st_store h 0 rfl rfl rfl Tryz.sizeOf30 rfl rfl rfl rfl fun w h => ?_
 refine wpList_nil ?_
 refine wp_ret ?_
 exact ret1 Tryz.results34 h (resv_agg h 0 rfl rfl Tryz.isAgg30 Tryz.sizeOf30 rfl) ⟨_, rfl, h.grow0, _, rfl, (by rw [show z0 = ofSign b0 (z0.natAbs) from hz0]; exact h.out 0 rfl)⟩
set_option maxHeartbeats 1000000 in
theorem whole_Neg (hO : ∀ b, Ob b → b < W.heap.size) {b0 : Bool} {A0 : Option Addr} {n0 c0 : Nat} {z0 : Int} (hx0 : Rel.intA.at_ W Ob [.bool b0, .slice A0 n0 c0] z0) (hs0 : isz z0 ≤ 4294967295) :
  Calls Tryz.prog 24 #[.agg #[.bool b0, .slice A0 n0 c0]] W (Ret W Ob (Rel.intN.aggF (-z0))) := by
 obtain ⟨hx1, hz0⟩ := intA_open hx0
 have hs0' : sz z0.natAbs ≤ 4294967295 := hs0
 refine enter (vs := [(.agg #[(.bool b0), (.slice A0 n0 c0)])]) (Ob := Ob) (K := fun b => b < W.heap.size) (Fs := [(Rel.intA).fact [(.bool b0), (.slice A0 n0 c0)] (z0), (Rel.natA).fact [(.slice A0 n0 c0)] (z0.natAbs)]) Tryz.func24 rfl Tryz.ntmps24 rfl (fun _ h => h) hO (by simp only [List.mem_cons, List.not_mem_nil, or_false, forall_eq_or_imp, forall_eq, false_imp_iff, implies_true]; exact ⟨hx0, hx1⟩) fun a h => ?_
 refine seq_ (reg_ ?_)
 refine st_box h rfl rfl fun g1 w a h => ?_
 refine st_alloc h Tryz.zeroValue30 rfl fun g2 w a h => ?_
 refine wpList_nil ?_
 refine seq_ ?_
 refine draw0_ mixed_ 6 [some 3, some 4, some 5, some 6, some 7, some 8] [[], [0], [1], [], [3], [4]] [(eqF (.pointer (some ⟨g1, 1, none⟩))), (eqF (.slice A0 n0 c0)), (Rel.natN.sliceF (z0.natAbs)), (eqF (.pointer (some ⟨g1, 0, none⟩))), (eqF (.bool b0)), (eqF (.bool (!b0)))] rfl h rfl ⟨?_, ?_, ?_, ?_, ?_, ?_, trivial⟩ ?_
 ·intro dp hdp0 hdp dv Fx a w h
  refine st_fieldAddr h rfl (fa_30_1) rfl fun a h => ?_
  refine wpList_nil ⟨rfl, ?_⟩
  exact ⟨_, h.drawEnd (F' := []) rfl rfl⟩
 ·intro dp hdp0 hdp dv Fx a w h
  have e8 : dv 0 = (.pointer (some ⟨g1, 1, none⟩)) := h.fact 0 rfl
  replace h := (h.spellE (t := 3) e8 rfl h)
  refine st_loadO h 1 rfl rfl Tryz.isAgg28 rfl rfl fun a h => ?_
  refine wpList_nil ⟨rfl, ?_⟩
  exact ⟨_, h.drawEnd (F' := [_]) rfl rfl⟩
 ·intro dp hdp0 hdp dv Fx a w h
  have e9 : dv 1 = (.slice A0 n0 c0) := h.fact 0 rfl
  replace h := (h.spellE (t := 4) e9 rfl h)
  refine st_call h Tryz.func40 rfl rfl rfl (limb_Norm _ _ (fun b => h.owns_lt) (h.fact 2 rfl) (by omega)) rfl fun r w a hg hF h => ?_
  obtain ⟨A10, n11, c12, e14, f13⟩ := hF
  subst e14
  have h := h.add (f := (Rel.natN).fact [(.slice A10 n11 c12)] (z0.natAbs)) f13
  refine wpList_nil ⟨rfl, ?_⟩
  exact ⟨_, h.drawEnd (F' := [_, _]) rfl ⟨_, _, _, rfl, h.fact 0 rfl⟩⟩
 ·intro dp hdp0 hdp dv Fx a w h
  refine st_fieldAddr h rfl (fa_30_0) rfl fun a h => ?_
  refine wpList_nil ⟨rfl, ?_⟩
  exact ⟨_, h.drawEnd (F' := []) rfl rfl⟩
 ·intro dp hdp0 hdp dv Fx a w h
  have e15 : dv 3 = (.pointer (some ⟨g1, 0, none⟩)) := h.fact 0 rfl
  replace h := (h.spellE (t := 6) e15 rfl h)
  refine st_loadO h 1 rfl rfl Tryz.isAgg4 rfl rfl fun a h => ?_
  refine wpList_nil ⟨rfl, ?_⟩
  exact ⟨_, h.drawEnd (F' := [_]) rfl rfl⟩
 ·intro dp hdp0 hdp dv Fx a w h
  have e16 : dv 4 = (.bool b0) := h.fact 0 rfl
  replace h := (h.spellE (t := 7) e16 rfl h)
  refine st_not h rfl rfl fun a h => ?_
  refine wpList_nil ⟨rfl, ?_⟩
  exact ⟨_, h.drawEnd (F' := [_]) rfl rfl⟩
 intro dv a w h
 obtain ⟨A17, n18, c19, e21, f20⟩ := (h.fact 2 rfl)
 have e22 : dv 5 = (.bool (!b0)) := h.fact 5 rfl
 have h2 := (h.spellE (t := 8) e22 rfl (h.spellE (t := 5) e21 rfl (h.consL (t := 2) rfl (h.consL (t := 1) rfl (h.consL (t := 0) rfl h.nilL)))))
 have h3 := h2.noFacts
 have h3 := h3.add (h2.fact 7 rfl)
 have h3 := h3.add (h2.fact 6 rfl)
 clear h2
 replace h := h3
 clear h3
 have h := h.add (f := (Rel.natN).fact [(.slice A17 n18 c19)] (z0.natAbs)) f20
 refine st_call h Tryz.func39 rfl rfl rfl (whole_made _ _ (fun b => h.owns_lt) (h.fact 0 rfl)) rfl fun r w a hg hF h => ?_
 obtain ⟨cs23, e25, f24⟩ := hF
 obtain ⟨b26, A27, n28, c29, rfl⟩ := intN_shape f24
 subst e25
 have h := h.add (f := (Rel.intN).fact [(.bool b26), (.slice A27 n28 c29)] (ofSign (!b0) (z0.natAbs))) f24
 refine st_store h 0 rfl rfl rfl Tryz.sizeOf30 rfl rfl rfl rfl fun w h => ?_
 refine wpList_nil ?_
 refine wp_ret ?_
 exact ret1 Tryz.results24 h (resv_agg h 0 rfl rfl Tryz.isAgg30 Tryz.sizeOf30 rfl) ⟨_, rfl, h.grow0, _, rfl, (by rw [show -z0 = ofSign (!b0) (z0.natAbs) from by unfold ofSign; cases b0 <;> simp at hz0 ⊢ <;> omega]; exact h.out 0 rfl)⟩
set_option maxHeartbeats 1000000 in
theorem whole_Mul (hO : ∀ b, Ob b → b < W.heap.size) {b0 : Bool} {A0 : Option Addr} {n0 c0 : Nat} {z0 : Int} {b1 : Bool} {A1 : Option Addr} {n1 c1 : Nat} {z1 : Int} (hx0 : Rel.intA.at_ W Ob [.bool b0, .slice A0 n0 c0] z0) (hx1 : Rel.intA.at_ W Ob [.bool b1, .slice A1 n1 c1] z1) (hs0 : isz z0 ≤ 4294967295) (hs1 : isz z1 ≤ 4294967295) :
  Calls Tryz.prog 89 #[.agg #[.bool b0, .slice A0 n0 c0], .agg #[.bool b1, .slice A1 n1 c1]] W (Ret W Ob (Rel.intN.aggF (z0 * z1))) := by
 obtain ⟨hx2, hz0⟩ := intA_open hx0
 obtain ⟨hx3, hz1⟩ := intA_open hx1
 have hs0' : sz z0.natAbs ≤ 4294967295 := hs0
 have hs1' : sz z1.natAbs ≤ 4294967295 := hs1
 refine enter (vs := [(.agg #[(.bool b0), (.slice A0 n0 c0)]), (.agg #[(.bool b1), (.slice A1 n1 c1)])]) (Ob := Ob) (K := fun b => b < W.heap.size) (Fs := [(Rel.intA).fact [(.bool b0), (.slice A0 n0 c0)] (z0), (Rel.intA).fact [(.bool b1), (.slice A1 n1 c1)] (z1), (Rel.natA).fact [(.slice A0 n0 c0)] (z0.natAbs), (Rel.natA).fact [(.slice A1 n1 c1)] (z1.natAbs)]) Tryz.func89 rfl Tryz.ntmps89 rfl (fun _ h => h) hO (by simp only [List.mem_cons, List.not_mem_nil, or_false, forall_eq_or_imp, forall_eq, false_imp_iff, implies_true]; exact ⟨hx0, hx1, hx2, hx3⟩) fun a h => ?_
 refine seq_ (reg_ ?_)
 refine st_box h rfl rfl fun g1 w a h => ?_
 refine st_box h rfl rfl fun g2 w a h => ?_
 refine st_alloc h Tryz.zeroValue30 rfl fun g3 w a h => ?_
 refine wpList_nil ?_
 refine seq_ ?_
 refine draw0_ mixed_ 10 [some 5, some 6, some 7, some 8, some 9, some 10, some 11, some 12, some 13, some 14] [[], [0], [], [2], [1, 3], [], [5], [], [7], [6, 8]] [(eqF (.pointer (some ⟨g1, 1, none⟩))), (eqF (.slice A0 n0 c0)), (eqF (.pointer (some ⟨g2, 1, none⟩))), (eqF (.slice A1 n1 c1)), (Rel.natN.sliceF ((z0.natAbs) * (z1.natAbs))), (eqF (.pointer (some ⟨g1, 0, none⟩))), (eqF (.bool b0)), (eqF (.pointer (some ⟨g2, 0, none⟩))), (eqF (.bool b1)), (eqF (.bool (!(b0 == b1))))] rfl h rfl ⟨?_, ?_, ?_, ?_, ?_, ?_, ?_, ?_, ?_, ?_, trivial⟩ ?_
 ·intro dp hdp0 hdp dv Fx a w h
  refine st_fieldAddr h rfl (fa_30_1) rfl fun a h => ?_
  refine wpList_nil ⟨rfl, ?_⟩
  exact ⟨_, h.drawEnd (F' := []) rfl rfl⟩
 ·intro dp hdp0 hdp dv Fx a w h
  have e9 : dv 0 = (.pointer (some ⟨g1, 1, none⟩)) := h.fact 0 rfl
  replace h := (h.spellE (t := 5) e9 rfl h)
  refine st_loadO h 2 rfl rfl Tryz.isAgg28 rfl rfl fun a h => ?_
  refine wpList_nil ⟨rfl, ?_⟩
  exact ⟨_, h.drawEnd (F' := [_]) rfl rfl⟩
 ·intro dp hdp0 hdp dv Fx a w h
  refine st_fieldAddr h rfl (fa_30_1) rfl fun a h => ?_
  refine wpList_nil ⟨rfl, ?_⟩
  exact ⟨_, h.drawEnd (F' := []) rfl rfl⟩
 ·intro dp hdp0 hdp dv Fx a w h
  have e10 : dv 2 = (.pointer (some ⟨g2, 1, none⟩)) := h.fact 0 rfl
  replace h := (h.spellE (t := 7) e10 rfl h)
  refine st_loadO h 1 rfl rfl Tryz.isAgg28 rfl rfl fun a h => ?_
  refine wpList_nil ⟨rfl, ?_⟩
  exact ⟨_, h.drawEnd (F' := [_]) rfl rfl⟩
 ·intro dp hdp0 hdp dv Fx a w h
  have e11 : dv 1 = (.slice A0 n0 c0) := h.fact 0 rfl
  have e12 : dv 3 = (.slice A1 n1 c1) := h.fact 1 rfl
  replace h := (h.spellE (t := 8) e12 rfl (h.spellE (t := 6) e11 rfl h))
  refine st_call h Tryz.func122 rfl rfl rfl (limb_Mul _ _ (fun b => h.owns_lt) (h.fact 4 rfl) (h.fact 5 rfl) (by omega) (by omega)) rfl fun r w a hg hF h => ?_
  obtain ⟨A13, n14, c15, e17, f16⟩ := hF
  subst e17
  have h := h.add (f := (Rel.natN).fact [(.slice A13 n14 c15)] ((z0.natAbs) * (z1.natAbs))) f16
  refine wpList_nil ⟨rfl, ?_⟩
  exact ⟨_, h.drawEnd (F' := [_, _, _]) rfl ⟨_, _, _, rfl, h.fact 0 rfl⟩⟩
 ·intro dp hdp0 hdp dv Fx a w h
  refine st_fieldAddr h rfl (fa_30_0) rfl fun a h => ?_
  refine wpList_nil ⟨rfl, ?_⟩
  exact ⟨_, h.drawEnd (F' := []) rfl rfl⟩
 ·intro dp hdp0 hdp dv Fx a w h
  have e18 : dv 5 = (.pointer (some ⟨g1, 0, none⟩)) := h.fact 0 rfl
  replace h := (h.spellE (t := 10) e18 rfl h)
  refine st_loadO h 2 rfl rfl Tryz.isAgg4 rfl rfl fun a h => ?_
  refine wpList_nil ⟨rfl, ?_⟩
  exact ⟨_, h.drawEnd (F' := [_]) rfl rfl⟩
 ·intro dp hdp0 hdp dv Fx a w h
  refine st_fieldAddr h rfl (fa_30_0) rfl fun a h => ?_
  refine wpList_nil ⟨rfl, ?_⟩
  exact ⟨_, h.drawEnd (F' := []) rfl rfl⟩
 ·intro dp hdp0 hdp dv Fx a w h
  have e19 : dv 7 = (.pointer (some ⟨g2, 0, none⟩)) := h.fact 0 rfl
  replace h := (h.spellE (t := 12) e19 rfl h)
  refine st_loadO h 1 rfl rfl Tryz.isAgg4 rfl rfl fun a h => ?_
  refine wpList_nil ⟨rfl, ?_⟩
  exact ⟨_, h.drawEnd (F' := [_]) rfl rfl⟩
 ·intro dp hdp0 hdp dv Fx a w h
  have e20 : dv 6 = (.bool b0) := h.fact 0 rfl
  have e21 : dv 8 = (.bool b1) := h.fact 1 rfl
  replace h := (h.spellE (t := 13) e21 rfl (h.spellE (t := 11) e20 rfl h))
  refine st_neb h rfl rfl Tryz.underlying4 rfl fun a h => ?_
  refine wpList_nil ⟨rfl, ?_⟩
  exact ⟨_, h.drawEnd (F' := [_, _]) rfl rfl⟩
 intro dv a w h
 obtain ⟨A22, n23, c24, e26, f25⟩ := (h.fact 4 rfl)
 have e27 : dv 9 = (.bool (!(b0 == b1))) := h.fact 9 rfl
 have h2 := (h.spellE (t := 14) e27 rfl (h.spellE (t := 9) e26 rfl (h.consL (t := 4) rfl (h.consL (t := 3) rfl (h.consL (t := 2) rfl (h.consL (t := 1) rfl (h.consL (t := 0) rfl h.nilL)))))))
 have h3 := h2.noFacts
 have h3 := h3.add (h2.fact 13 rfl)
 have h3 := h3.add (h2.fact 12 rfl)
 have h3 := h3.add (h2.fact 11 rfl)
 have h3 := h3.add (h2.fact 10 rfl)
 clear h2
 replace h := h3
 clear h3
 have h := h.add (f := (Rel.natN).fact [(.slice A22 n23 c24)] ((z0.natAbs) * (z1.natAbs))) f25
 refine st_call h Tryz.func39 rfl rfl rfl (whole_made _ _ (fun b => h.owns_lt) (h.fact 0 rfl)) rfl fun r w a hg hF h => ?_
 obtain ⟨cs28, e30, f29⟩ := hF
 obtain ⟨b31, A32, n33, c34, rfl⟩ := intN_shape f29
 subst e30
 have h := h.add (f := (Rel.intN).fact [(.bool b31), (.slice A32 n33 c34)] (ofSign (!(b0 == b1)) ((z0.natAbs) * (z1.natAbs)))) f29
 refine st_store h 0 rfl rfl rfl Tryz.sizeOf30 rfl rfl rfl rfl fun w h => ?_
 refine wpList_nil ?_
 refine wp_ret ?_
 exact ret1 Tryz.results89 h (resv_agg h 0 rfl rfl Tryz.isAgg30 Tryz.sizeOf30 rfl) ⟨_, rfl, h.grow0, _, rfl, (by rw [show z0 * z1 = ofSign (!(b0 == b1)) ((z0.natAbs) * (z1.natAbs)) from mul_ofSign hz0 hz1]; exact h.out 0 rfl)⟩
set_option maxHeartbeats 1000000 in
theorem whole_Add (hO : ∀ b, Ob b → b < W.heap.size) {b0 : Bool} {A0 : Option Addr} {n0 c0 : Nat} {z0 : Int} {b1 : Bool} {A1 : Option Addr} {n1 c1 : Nat} {z1 : Int} (hx0 : Rel.intA.at_ W Ob [.bool b0, .slice A0 n0 c0] z0) (hx1 : Rel.intA.at_ W Ob [.bool b1, .slice A1 n1 c1] z1) (hs0 : isz z0 ≤ 4294967295) (hs1 : isz z1 ≤ 4294967295) :
  Calls Tryz.prog 121 #[.agg #[.bool b0, .slice A0 n0 c0], .agg #[.bool b1, .slice A1 n1 c1]] W (Ret W Ob (Rel.intN.aggF (z0 + z1))) := by
 obtain ⟨hx2, hz0⟩ := intA_open hx0
 obtain ⟨hx3, hz1⟩ := intA_open hx1
 have hs0' : sz z0.natAbs ≤ 4294967295 := hs0
 have hs1' : sz z1.natAbs ≤ 4294967295 := hs1
 refine enter (vs := [(.agg #[(.bool b0), (.slice A0 n0 c0)]), (.agg #[(.bool b1), (.slice A1 n1 c1)])]) (Ob := Ob) (K := fun b => b < W.heap.size) (Fs := [(Rel.intA).fact [(.bool b0), (.slice A0 n0 c0)] (z0), (Rel.intA).fact [(.bool b1), (.slice A1 n1 c1)] (z1), (Rel.natA).fact [(.slice A0 n0 c0)] (z0.natAbs), (Rel.natA).fact [(.slice A1 n1 c1)] (z1.natAbs)]) Tryz.func121 rfl Tryz.ntmps121 rfl (fun _ h => h) hO (by simp only [List.mem_cons, List.not_mem_nil, or_false, forall_eq_or_imp, forall_eq, false_imp_iff, implies_true]; exact ⟨hx0, hx1, hx2, hx3⟩) fun a h => ?_
 rcases Nat.lt_or_ge z0.natAbs z1.natAbs with hlt | hle
 ·skip
  refine seq_ (reg_ ?_)
  refine st_box h rfl rfl fun g1 w a h => ?_
  refine st_box h rfl rfl fun g2 w a h => ?_
  refine st_alloc h Tryz.zeroValue30 rfl fun g3 w a h => ?_
  refine wpList_nil ?_
  refine seq_ (seq_ (reg_ ?_))
  refine st_fieldAddr h rfl (fa_30_0) rfl fun a h => ?_
  refine st_loadO h 2 rfl rfl Tryz.isAgg4 rfl rfl fun a h => ?_
  refine st_fieldAddr h rfl (fa_30_0) rfl fun a h => ?_
  refine st_loadO h 1 rfl rfl Tryz.isAgg4 rfl rfl fun a h => ?_
  refine st_eqb h rfl rfl Tryz.underlying4 rfl fun a h => ?_
  refine wpList_nil ?_
  refine cond_ h rfl (fun hb_if1 => ?_) (fun hb_if1 => ?_)
  ·try simp only [decide_eq_true_eq, decide_eq_false_iff_not, Bool.not_eq_true', Bool.not_eq_false'] at hb_if1
   refine seq_ ?_
   refine draw0_ mixed_ 7 [some 14, some 15, some 16, some 17, some 18, some 19, some 20] [[], [0], [], [2], [1, 3], [], [5]] [(eqF (.pointer (some ⟨g1, 1, none⟩))), (eqF (.slice A0 n0 c0)), (eqF (.pointer (some ⟨g2, 1, none⟩))), (eqF (.slice A1 n1 c1)), (Rel.natN.sliceF ((z0.natAbs) + (z1.natAbs))), (eqF (.pointer (some ⟨g1, 0, none⟩))), (eqF (.bool b0))] rfl h rfl ⟨?_, ?_, ?_, ?_, ?_, ?_, ?_, trivial⟩ ?_
   ·intro dp hdp0 hdp dv Fx a w h
    refine st_fieldAddr h rfl (fa_30_1) rfl fun a h => ?_
    refine wpList_nil ⟨rfl, ?_⟩
    exact ⟨_, h.drawEnd (F' := []) rfl rfl⟩
   ·intro dp hdp0 hdp dv Fx a w h
    have e9 : dv 0 = (.pointer (some ⟨g1, 1, none⟩)) := h.fact 0 rfl
    replace h := (h.spellE (t := 14) e9 rfl h)
    refine st_loadO h 2 rfl rfl Tryz.isAgg28 rfl rfl fun a h => ?_
    refine wpList_nil ⟨rfl, ?_⟩
    exact ⟨_, h.drawEnd (F' := [_]) rfl rfl⟩
   ·intro dp hdp0 hdp dv Fx a w h
    refine st_fieldAddr h rfl (fa_30_1) rfl fun a h => ?_
    refine wpList_nil ⟨rfl, ?_⟩
    exact ⟨_, h.drawEnd (F' := []) rfl rfl⟩
   ·intro dp hdp0 hdp dv Fx a w h
    have e10 : dv 2 = (.pointer (some ⟨g2, 1, none⟩)) := h.fact 0 rfl
    replace h := (h.spellE (t := 16) e10 rfl h)
    refine st_loadO h 1 rfl rfl Tryz.isAgg28 rfl rfl fun a h => ?_
    refine wpList_nil ⟨rfl, ?_⟩
    exact ⟨_, h.drawEnd (F' := [_]) rfl rfl⟩
   ·intro dp hdp0 hdp dv Fx a w h
    have e11 : dv 1 = (.slice A0 n0 c0) := h.fact 0 rfl
    have e12 : dv 3 = (.slice A1 n1 c1) := h.fact 1 rfl
    replace h := (h.spellE (t := 17) e12 rfl (h.spellE (t := 15) e11 rfl h))
    refine st_call h Tryz.func101 rfl rfl rfl (limb_Add _ _ (fun b => h.owns_lt) (h.fact 4 rfl) (h.fact 5 rfl) (by omega) (by omega)) rfl fun r w a hg hF h => ?_
    obtain ⟨A13, n14, c15, e17, f16⟩ := hF
    subst e17
    have h := h.add (f := (Rel.natN).fact [(.slice A13 n14 c15)] ((z0.natAbs) + (z1.natAbs))) f16
    refine wpList_nil ⟨rfl, ?_⟩
    exact ⟨_, h.drawEnd (F' := [_, _, _]) rfl ⟨_, _, _, rfl, h.fact 0 rfl⟩⟩
   ·intro dp hdp0 hdp dv Fx a w h
    refine st_fieldAddr h rfl (fa_30_0) rfl fun a h => ?_
    refine wpList_nil ⟨rfl, ?_⟩
    exact ⟨_, h.drawEnd (F' := []) rfl rfl⟩
   ·intro dp hdp0 hdp dv Fx a w h
    have e18 : dv 5 = (.pointer (some ⟨g1, 0, none⟩)) := h.fact 0 rfl
    replace h := (h.spellE (t := 19) e18 rfl h)
    refine st_loadO h 2 rfl rfl Tryz.isAgg4 rfl rfl fun a h => ?_
    refine wpList_nil ⟨rfl, ?_⟩
    exact ⟨_, h.drawEnd (F' := [_]) rfl rfl⟩
   intro dv a w h
   obtain ⟨A19, n20, c21, e23, f22⟩ := (h.fact 4 rfl)
   have e24 : dv 6 = (.bool b0) := h.fact 6 rfl
   have h2 := (h.spellE (t := 20) e24 rfl (h.spellE (t := 18) e23 rfl (h.consL (t := 13) rfl (h.consL (t := 4) rfl (h.consL (t := 3) rfl (h.consL (t := 2) rfl (h.consL (t := 1) rfl (h.consL (t := 0) rfl h.nilL))))))))
   have h3 := h2.noFacts
   have h3 := h3.add (h2.fact 10 rfl)
   have h3 := h3.add (h2.fact 9 rfl)
   have h3 := h3.add (h2.fact 8 rfl)
   have h3 := h3.add (h2.fact 7 rfl)
   clear h2
   replace h := h3
   clear h3
   have h := h.add (f := (Rel.natN).fact [(.slice A19 n20 c21)] ((z0.natAbs) + (z1.natAbs))) f22
   refine st_call h Tryz.func39 rfl rfl rfl (whole_made _ _ (fun b => h.owns_lt) (h.fact 0 rfl)) rfl fun r w a hg hF h => ?_
   obtain ⟨cs25, e27, f26⟩ := hF
   obtain ⟨b28, A29, n30, c31, rfl⟩ := intN_shape f26
   subst e27
   have h := h.add (f := (Rel.intN).fact [(.bool b28), (.slice A29 n30 c31)] (ofSign b0 ((z0.natAbs) + (z1.natAbs)))) f26
   refine st_store h 0 rfl rfl rfl Tryz.sizeOf30 rfl rfl rfl rfl fun w h => ?_
   refine wpList_nil ?_
   refine wp_ret ?_
   exact ret1 Tryz.results121 h (resv_agg h 0 rfl rfl Tryz.isAgg30 Tryz.sizeOf30 rfl) ⟨_, rfl, h.grow0, _, rfl, (by rw [show z0 + z1 = ofSign b0 ((z0.natAbs) + (z1.natAbs)) from by first | exact add_ofSign hz0 hz1 hb_if1 | exact sub_ofSign hz0 hz1 hb_if1 hle | exact sub_ofSign' hz0 hz1 hb_if1 hlt]; exact h.out 0 rfl)⟩
  try simp only [decide_eq_true_eq, decide_eq_false_iff_not, Bool.not_eq_true', Bool.not_eq_false'] at hb_if1
  refine wp_skip ?_
  refine seq_ (seq_ (reg_ ?_))
  refine st_fieldAddr h rfl (fa_30_1) rfl fun a h => ?_
  refine st_loadO h 2 rfl rfl Tryz.isAgg28 rfl rfl fun a h => ?_
  refine st_fieldAddr h rfl (fa_30_1) rfl fun a h => ?_
  refine st_loadO h 1 rfl rfl Tryz.isAgg28 rfl rfl fun a h => ?_
  refine st_call h Tryz.func102 rfl rfl rfl (limb_Sub_lt _ _ (fun b => h.owns_lt) (h.fact 2 rfl) (h.fact 3 rfl) (by omega) (by omega)) rfl fun r w a hg hF h => ?_
  obtain ⟨y32, y33, e34, t35, t36⟩ := hF
  obtain rfl := t35
  obtain rfl := t36
  subst e34
  refine st_move h rfl rfl fun a h => ?_
  refine st_extract (vs := [(.slice none 0 0), (.bool false)]) h rfl rfl rfl fun a h => ?_
  refine st_extract (vs := [(.slice none 0 0), (.bool false)]) h rfl rfl rfl fun a h => ?_
  refine st_assign h rfl rfl fun a h => ?_
  refine st_assign h rfl rfl fun a h => ?_
  refine wpList_nil ?_
  refine seq_ (reg_ ?_)
  refine st_move h rfl rfl fun a h => ?_
  refine wpList_nil ?_
  refine cond_f h rfl (rfl) ?_
  refine wp_skip ?_
  refine seq_ (reg_ ?_)
  refine st_fieldAddr h rfl (fa_30_1) rfl fun a h => ?_
  refine st_loadO h 1 rfl rfl Tryz.isAgg28 rfl rfl fun a h => ?_
  refine st_fieldAddr h rfl (fa_30_1) rfl fun a h => ?_
  refine st_loadO h 2 rfl rfl Tryz.isAgg28 rfl rfl fun a h => ?_
  refine st_call h Tryz.func102 rfl rfl rfl (limb_Sub_le _ _ (fun b => h.owns_lt) (h.fact 3 rfl) (h.fact 2 rfl) (by omega) (by omega)) rfl fun r w a hg hF h => ?_
  obtain ⟨y37, y38, e39, t40, t41⟩ := hF
  obtain ⟨A42, n43, c44, e46, f45⟩ := t40
  subst e46
  obtain rfl := t41
  subst e39
  have h := h.add (f := (Rel.natN).fact [(.slice A42 n43 c44)] ((z1.natAbs) - (z0.natAbs))) f45
  refine st_move h rfl rfl fun a h => ?_
  refine st_extract (vs := [(.slice A42 n43 c44), (.bool true)]) h rfl rfl rfl fun a h => ?_
  refine st_extract (vs := [(.slice A42 n43 c44), (.bool true)]) h rfl rfl rfl fun a h => ?_
  refine st_assign h rfl rfl fun a h => ?_
  refine st_assign h rfl rfl fun a h => ?_
  refine wpList_nil ?_
  refine seq_ (reg_ ?_)
  refine st_move h rfl rfl fun a h => ?_
  refine st_fieldAddr h rfl (fa_30_0) rfl fun a h => ?_
  refine st_loadO h 1 rfl rfl Tryz.isAgg4 rfl rfl fun a h => ?_
  refine st_call h Tryz.func39 rfl rfl rfl (whole_made _ _ (fun b => h.owns_lt) (h.fact 0 rfl)) rfl fun r w a hg hF h => ?_
  obtain ⟨cs47, e49, f48⟩ := hF
  obtain ⟨b50, A51, n52, c53, rfl⟩ := intN_shape f48
  subst e49
  have h := h.add (f := (Rel.intN).fact [(.bool b50), (.slice A51 n52 c53)] (ofSign b1 ((z1.natAbs) - (z0.natAbs)))) f48
  refine st_store h 0 rfl rfl rfl Tryz.sizeOf30 rfl rfl rfl rfl fun w h => ?_
  refine wpList_nil ?_
  refine wp_ret ?_
  exact ret1 Tryz.results121 h (resv_agg h 0 rfl rfl Tryz.isAgg30 Tryz.sizeOf30 rfl) ⟨_, rfl, h.grow0, _, rfl, (by rw [show z0 + z1 = ofSign b1 ((z1.natAbs) - (z0.natAbs)) from by first | exact add_ofSign hz0 hz1 hb_if1 | exact sub_ofSign hz0 hz1 hb_if1 hle | exact sub_ofSign' hz0 hz1 hb_if1 hlt]; exact h.out 0 rfl)⟩
 skip
 refine seq_ (reg_ ?_)
 refine st_box h rfl rfl fun g54 w a h => ?_
 refine st_box h rfl rfl fun g55 w a h => ?_
 refine st_alloc h Tryz.zeroValue30 rfl fun g56 w a h => ?_
 refine wpList_nil ?_
 refine seq_ (seq_ (reg_ ?_))
 refine st_fieldAddr h rfl (fa_30_0) rfl fun a h => ?_
 refine st_loadO h 2 rfl rfl Tryz.isAgg4 rfl rfl fun a h => ?_
 refine st_fieldAddr h rfl (fa_30_0) rfl fun a h => ?_
 refine st_loadO h 1 rfl rfl Tryz.isAgg4 rfl rfl fun a h => ?_
 refine st_eqb h rfl rfl Tryz.underlying4 rfl fun a h => ?_
 refine wpList_nil ?_
 refine cond_ h rfl (fun hb_if1 => ?_) (fun hb_if1 => ?_)
 ·try simp only [decide_eq_true_eq, decide_eq_false_iff_not, Bool.not_eq_true', Bool.not_eq_false'] at hb_if1
  refine seq_ ?_
  refine draw0_ mixed_ 7 [some 14, some 15, some 16, some 17, some 18, some 19, some 20] [[], [0], [], [2], [1, 3], [], [5]] [(eqF (.pointer (some ⟨g54, 1, none⟩))), (eqF (.slice A0 n0 c0)), (eqF (.pointer (some ⟨g55, 1, none⟩))), (eqF (.slice A1 n1 c1)), (Rel.natN.sliceF ((z0.natAbs) + (z1.natAbs))), (eqF (.pointer (some ⟨g54, 0, none⟩))), (eqF (.bool b0))] rfl h rfl ⟨?_, ?_, ?_, ?_, ?_, ?_, ?_, trivial⟩ ?_
  ·intro dp hdp0 hdp dv Fx a w h
   refine st_fieldAddr h rfl (fa_30_1) rfl fun a h => ?_
   refine wpList_nil ⟨rfl, ?_⟩
   exact ⟨_, h.drawEnd (F' := []) rfl rfl⟩
  ·intro dp hdp0 hdp dv Fx a w h
   have e62 : dv 0 = (.pointer (some ⟨g54, 1, none⟩)) := h.fact 0 rfl
   replace h := (h.spellE (t := 14) e62 rfl h)
   refine st_loadO h 2 rfl rfl Tryz.isAgg28 rfl rfl fun a h => ?_
   refine wpList_nil ⟨rfl, ?_⟩
   exact ⟨_, h.drawEnd (F' := [_]) rfl rfl⟩
  ·intro dp hdp0 hdp dv Fx a w h
   refine st_fieldAddr h rfl (fa_30_1) rfl fun a h => ?_
   refine wpList_nil ⟨rfl, ?_⟩
   exact ⟨_, h.drawEnd (F' := []) rfl rfl⟩
  ·intro dp hdp0 hdp dv Fx a w h
   have e63 : dv 2 = (.pointer (some ⟨g55, 1, none⟩)) := h.fact 0 rfl
   replace h := (h.spellE (t := 16) e63 rfl h)
   refine st_loadO h 1 rfl rfl Tryz.isAgg28 rfl rfl fun a h => ?_
   refine wpList_nil ⟨rfl, ?_⟩
   exact ⟨_, h.drawEnd (F' := [_]) rfl rfl⟩
  ·intro dp hdp0 hdp dv Fx a w h
   have e64 : dv 1 = (.slice A0 n0 c0) := h.fact 0 rfl
   have e65 : dv 3 = (.slice A1 n1 c1) := h.fact 1 rfl
   replace h := (h.spellE (t := 17) e65 rfl (h.spellE (t := 15) e64 rfl h))
   refine st_call h Tryz.func101 rfl rfl rfl (limb_Add _ _ (fun b => h.owns_lt) (h.fact 4 rfl) (h.fact 5 rfl) (by omega) (by omega)) rfl fun r w a hg hF h => ?_
   obtain ⟨A66, n67, c68, e70, f69⟩ := hF
   subst e70
   have h := h.add (f := (Rel.natN).fact [(.slice A66 n67 c68)] ((z0.natAbs) + (z1.natAbs))) f69
   refine wpList_nil ⟨rfl, ?_⟩
   exact ⟨_, h.drawEnd (F' := [_, _, _]) rfl ⟨_, _, _, rfl, h.fact 0 rfl⟩⟩
  ·intro dp hdp0 hdp dv Fx a w h
   refine st_fieldAddr h rfl (fa_30_0) rfl fun a h => ?_
   refine wpList_nil ⟨rfl, ?_⟩
   exact ⟨_, h.drawEnd (F' := []) rfl rfl⟩
  ·intro dp hdp0 hdp dv Fx a w h
   have e71 : dv 5 = (.pointer (some ⟨g54, 0, none⟩)) := h.fact 0 rfl
   replace h := (h.spellE (t := 19) e71 rfl h)
   refine st_loadO h 2 rfl rfl Tryz.isAgg4 rfl rfl fun a h => ?_
   refine wpList_nil ⟨rfl, ?_⟩
   exact ⟨_, h.drawEnd (F' := [_]) rfl rfl⟩
  intro dv a w h
  obtain ⟨A72, n73, c74, e76, f75⟩ := (h.fact 4 rfl)
  have e77 : dv 6 = (.bool b0) := h.fact 6 rfl
  have h2 := (h.spellE (t := 20) e77 rfl (h.spellE (t := 18) e76 rfl (h.consL (t := 13) rfl (h.consL (t := 4) rfl (h.consL (t := 3) rfl (h.consL (t := 2) rfl (h.consL (t := 1) rfl (h.consL (t := 0) rfl h.nilL))))))))
  have h3 := h2.noFacts
  have h3 := h3.add (h2.fact 10 rfl)
  have h3 := h3.add (h2.fact 9 rfl)
  have h3 := h3.add (h2.fact 8 rfl)
  have h3 := h3.add (h2.fact 7 rfl)
  clear h2
  replace h := h3
  clear h3
  have h := h.add (f := (Rel.natN).fact [(.slice A72 n73 c74)] ((z0.natAbs) + (z1.natAbs))) f75
  refine st_call h Tryz.func39 rfl rfl rfl (whole_made _ _ (fun b => h.owns_lt) (h.fact 0 rfl)) rfl fun r w a hg hF h => ?_
  obtain ⟨cs78, e80, f79⟩ := hF
  obtain ⟨b81, A82, n83, c84, rfl⟩ := intN_shape f79
  subst e80
  have h := h.add (f := (Rel.intN).fact [(.bool b81), (.slice A82 n83 c84)] (ofSign b0 ((z0.natAbs) + (z1.natAbs)))) f79
  refine st_store h 0 rfl rfl rfl Tryz.sizeOf30 rfl rfl rfl rfl fun w h => ?_
  refine wpList_nil ?_
  refine wp_ret ?_
  exact ret1 Tryz.results121 h (resv_agg h 0 rfl rfl Tryz.isAgg30 Tryz.sizeOf30 rfl) ⟨_, rfl, h.grow0, _, rfl, (by rw [show z0 + z1 = ofSign b0 ((z0.natAbs) + (z1.natAbs)) from by first | exact add_ofSign hz0 hz1 hb_if1 | exact sub_ofSign hz0 hz1 hb_if1 hle | exact sub_ofSign' hz0 hz1 hb_if1 hlt]; exact h.out 0 rfl)⟩
 try simp only [decide_eq_true_eq, decide_eq_false_iff_not, Bool.not_eq_true', Bool.not_eq_false'] at hb_if1
 refine wp_skip ?_
 refine seq_ (seq_ (reg_ ?_))
 refine st_fieldAddr h rfl (fa_30_1) rfl fun a h => ?_
 refine st_loadO h 2 rfl rfl Tryz.isAgg28 rfl rfl fun a h => ?_
 refine st_fieldAddr h rfl (fa_30_1) rfl fun a h => ?_
 refine st_loadO h 1 rfl rfl Tryz.isAgg28 rfl rfl fun a h => ?_
 refine st_call h Tryz.func102 rfl rfl rfl (limb_Sub_le _ _ (fun b => h.owns_lt) (h.fact 2 rfl) (h.fact 3 rfl) (by omega) (by omega)) rfl fun r w a hg hF h => ?_
 obtain ⟨y85, y86, e87, t88, t89⟩ := hF
 obtain ⟨A90, n91, c92, e94, f93⟩ := t88
 subst e94
 obtain rfl := t89
 subst e87
 have h := h.add (f := (Rel.natN).fact [(.slice A90 n91 c92)] ((z0.natAbs) - (z1.natAbs))) f93
 refine st_move h rfl rfl fun a h => ?_
 refine st_extract (vs := [(.slice A90 n91 c92), (.bool true)]) h rfl rfl rfl fun a h => ?_
 refine st_extract (vs := [(.slice A90 n91 c92), (.bool true)]) h rfl rfl rfl fun a h => ?_
 refine st_assign h rfl rfl fun a h => ?_
 refine st_assign h rfl rfl fun a h => ?_
 refine wpList_nil ?_
 refine seq_ (reg_ ?_)
 refine st_move h rfl rfl fun a h => ?_
 refine wpList_nil ?_
 refine cond_t h rfl (rfl) ?_
 refine seq_ (reg_ ?_)
 refine st_move h rfl rfl fun a h => ?_
 refine st_fieldAddr h rfl (fa_30_0) rfl fun a h => ?_
 refine st_loadO h 2 rfl rfl Tryz.isAgg4 rfl rfl fun a h => ?_
 refine st_call h Tryz.func39 rfl rfl rfl (whole_made _ _ (fun b => h.owns_lt) (h.fact 0 rfl)) rfl fun r w a hg hF h => ?_
 obtain ⟨cs95, e97, f96⟩ := hF
 obtain ⟨b98, A99, n100, c101, rfl⟩ := intN_shape f96
 subst e97
 have h := h.add (f := (Rel.intN).fact [(.bool b98), (.slice A99 n100 c101)] (ofSign b0 ((z0.natAbs) - (z1.natAbs)))) f96
 refine st_store h 0 rfl rfl rfl Tryz.sizeOf30 rfl rfl rfl rfl fun w h => ?_
 refine wpList_nil ?_
 refine wp_ret ?_
 exact ret1 Tryz.results121 h (resv_agg h 0 rfl rfl Tryz.isAgg30 Tryz.sizeOf30 rfl) ⟨_, rfl, h.grow0, _, rfl, (by rw [show z0 + z1 = ofSign b0 ((z0.natAbs) - (z1.natAbs)) from by first | exact add_ofSign hz0 hz1 hb_if1 | exact sub_ofSign hz0 hz1 hb_if1 hle | exact sub_ofSign' hz0 hz1 hb_if1 hlt]; exact h.out 0 rfl)⟩
set_option maxHeartbeats 1000000 in
theorem whole_Sub (hO : ∀ b, Ob b → b < W.heap.size) {b0 : Bool} {A0 : Option Addr} {n0 c0 : Nat} {z0 : Int} {b1 : Bool} {A1 : Option Addr} {n1 c1 : Nat} {z1 : Int} (hx0 : Rel.intA.at_ W Ob [.bool b0, .slice A0 n0 c0] z0) (hx1 : Rel.intA.at_ W Ob [.bool b1, .slice A1 n1 c1] z1) (hs0 : isz z0 ≤ 4294967295) (hs1 : isz z1 ≤ 4294967295) :
  Calls Tryz.prog 112 #[.agg #[.bool b0, .slice A0 n0 c0], .agg #[.bool b1, .slice A1 n1 c1]] W (Ret W Ob (Rel.intN.aggF (z0 - z1))) := by
 obtain ⟨hx2, hz0⟩ := intA_open hx0
 obtain ⟨hx3, hz1⟩ := intA_open hx1
 have hs0' : sz z0.natAbs ≤ 4294967295 := hs0
 have hs1' : sz z1.natAbs ≤ 4294967295 := hs1
 refine enter (vs := [(.agg #[(.bool b0), (.slice A0 n0 c0)]), (.agg #[(.bool b1), (.slice A1 n1 c1)])]) (Ob := Ob) (K := fun b => b < W.heap.size) (Fs := [(Rel.intA).fact [(.bool b0), (.slice A0 n0 c0)] (z0), (Rel.intA).fact [(.bool b1), (.slice A1 n1 c1)] (z1), (Rel.natA).fact [(.slice A0 n0 c0)] (z0.natAbs), (Rel.natA).fact [(.slice A1 n1 c1)] (z1.natAbs)]) Tryz.func112 rfl Tryz.ntmps112 rfl (fun _ h => h) hO (by simp only [List.mem_cons, List.not_mem_nil, or_false, forall_eq_or_imp, forall_eq, false_imp_iff, implies_true]; exact ⟨hx0, hx1, hx2, hx3⟩) fun a h => ?_
 refine seq_ (reg_ ?_)
 refine st_box h rfl rfl fun g1 w a h => ?_
 refine st_box h rfl rfl fun g2 w a h => ?_
 refine st_alloc h Tryz.zeroValue30 rfl fun g3 w a h => ?_
 refine wpList_nil ?_
 refine seq_ (reg_ ?_)
 refine st_fieldAddr h rfl (fa_30_0) rfl fun a h => ?_
 refine st_loadO h 1 rfl rfl Tryz.isAgg4 rfl rfl fun a h => ?_
 refine st_not h rfl rfl fun a h => ?_
 refine st_fieldAddr h rfl (fa_30_0) rfl fun a h => ?_
 refine st_store h 1 rfl rfl rfl Tryz.sizeOf4 rfl rfl rfl rfl fun w h => ?_
 refine wpList_nil ?_
 refine seq_ (reg_ ?_)
 refine st_loadOS h 2 rfl rfl Tryz.isAgg30 Tryz.sizeOf30 rfl rfl fun a h => ?_
 refine st_loadOS h 1 rfl rfl Tryz.isAgg30 Tryz.sizeOf30 rfl rfl fun a h => ?_
 have h := h.add (f := (Rel.intA).fact [(.bool (!b1)), (.slice A1 n1 c1)] (-z1)) (intA_mk (h.fact 3 rfl) (flip_ofSign hz1))
 have hs2 : isz (-z1) ≤ 4294967295 := by rw [isz_neg]; exact hs1
 refine st_call h Tryz.func121 rfl rfl rfl (whole_Add _ _ (fun b => h.owns_lt) (h.fact 1 rfl) (h.fact 0 rfl) (by omega) (by omega)) rfl fun r w a hg hF h => ?_
 obtain ⟨cs4, e6, f5⟩ := hF
 obtain ⟨b7, A8, n9, c10, rfl⟩ := intN_shape f5
 subst e6
 have h := h.add (f := (Rel.intN).fact [(.bool b7), (.slice A8 n9 c10)] ((z0) + (-z1))) f5
 refine st_store h 0 rfl rfl rfl Tryz.sizeOf30 rfl rfl rfl rfl fun w h => ?_
 refine wpList_nil ?_
 refine wp_ret ?_
 exact ret1 Tryz.results112 h (resv_agg h 0 rfl rfl Tryz.isAgg30 Tryz.sizeOf30 rfl) ⟨_, rfl, h.grow0, _, rfl, (by rw [show z0 - z1 = (z0) + (-z1) from Int.sub_eq_add_neg]; exact h.out 0 rfl)⟩
set_option maxHeartbeats 1000000 in
theorem whole_Of (hO : ∀ b, Ob b → b < W.heap.size) {z : Int} (h1 : -9223372036854775808 ≤ z) (h2 : z ≤ 9223372036854775807) :
  Calls Tryz.prog 20 #[.int .i64 z] W (Ret W Ob (Rel.intN.aggF z)) := by
 have e32 : (2 : Nat) ^ 32 = 4294967296 := by decide
 refine enter (vs := [(.int .i64 z)]) (Ob := Ob) (K := fun b => b < W.heap.size) (Fs := []) Tryz.func20 rfl Tryz.ntmps20 rfl (fun _ h => h) hO (fun f hf => by cases hf) fun a h => ?_
 rcases Int.lt_or_le z 0 with hneg | hpos
 ·obtain ⟨m, rfl⟩ : ∃ m : Nat, z = -(m : Int) := ⟨z.natAbs, by omega⟩
  refine seq_ (reg_ ?_)
  refine st_alloc h Tryz.zeroValue30 rfl fun g1 w a h => ?_
  refine wpList_nil ?_
  refine seq_ (reg_ ?_)
  refine st_move h rfl rfl fun a h => ?_
  refine st_convert h rfl Tryz.runUnderlying3 Tryz.runUnderlying101 rfl fun a h => ?_
  replace h := h.respell (u := .int .u64 (((18446744073709551616 - m : Nat)) : Int)) (by congr 1; simp only [wrapu64_is]; omega)
  refine st_assign h rfl rfl fun a h => ?_
  refine wpList_nil ?_
  refine seq_ (seq_ (reg_ ?_))
  refine st_move h rfl rfl fun a h => ?_
  refine st_cmp h rfl rfl rfl rfl fun a h => ?_
  refine wpList_nil ?_
  refine cond_t h rfl (by first | (simp; done) | (simp; omega)) ?_
  refine reg_ ?_
  refine st_move h rfl rfl fun a h => ?_
  refine st_neg h rfl rfl fun a h => ?_
  replace h := h.respell (u := .int .u64 ((m : Nat) : Int)) (by congr 1; simp only [wrapu64_is]; omega)
  refine st_assign h rfl rfl fun a h => ?_
  refine wpList_nil ?_
  refine seq_ (reg_ ?_)
  refine st_move h rfl rfl fun a h => ?_
  refine st_to32 (p := m) h rfl Tryz.runUnderlying101 Tryz.runUnderlying104 rfl fun a h => ?_
  refine st_move h rfl rfl fun a h => ?_
  refine st_shrN (p := m) (m := 32) h rfl rfl (by omega) rfl fun a h => ?_
  refine st_to32 (p := (m) / 2 ^ 32) h rfl Tryz.runUnderlying101 Tryz.runUnderlying104 rfl fun a h => ?_
  refine st_buildSlice h rfl (buildSlice_run (zs := [(.int .u32 0)]) Tryz.runUnderlying28 Tryz.sizeOf104 Tryz.zeroValue104 rfl rfl (by decide) (by decide) (by decide) rfl) rfl fun g2 w a h => ?_
  have hl : ∀ x ∈ [m % 4294967296, m / 2 ^ 32 % 4294967296], x < 4294967296 := by intro x hx; simp at hx; omega
  have hrow := own_row32 (r := [m % 4294967296, m / 2 ^ 32 % 4294967296]) 2 h (fun i hi => by rcases i with _ | _ | i <;> first | rfl | (simp at hi; omega)) hl (show 2 < 2 ^ 47 by decide) (Nat.le_refl _) (by decide)
  replace h := h.publish
  have h := h.add (f := (Rel.natA).fact [.slice (some ⟨g2, 0, none⟩) 2 2] (m)) (⟨_, hrow, hl, by simp only [val]; omega⟩)
  have hsm : sz m ≤ 64 := sz_le.2 (by omega)
  refine st_call h Tryz.func40 rfl rfl rfl (limb_Norm _ _ (fun b => h.owns_lt) (h.fact 0 rfl) (by omega)) rfl fun r w a hg hF h => ?_
  obtain ⟨A3, n4, c5, e7, f6⟩ := hF
  subst e7
  have h := h.add (f := (Rel.natN).fact [(.slice A3 n4 c5)] (m)) f6
  refine st_move h rfl rfl fun a h => ?_
  refine st_cmp h rfl rfl rfl rfl fun a h => ?_
  replace h := h.respell (u := .bool true) (congrArg _ (by first | (simp; done) | (simp; omega)))
  refine st_call h Tryz.func39 rfl rfl rfl (whole_made _ _ (fun b => h.owns_lt) (h.fact 0 rfl)) rfl fun r w a hg hF h => ?_
  obtain ⟨cs8, e10, f9⟩ := hF
  obtain ⟨b11, A12, n13, c14, rfl⟩ := intN_shape f9
  subst e10
  have h := h.add (f := (Rel.intN).fact [(.bool b11), (.slice A12 n13 c14)] (ofSign true (m))) f9
  refine st_store h 0 rfl rfl rfl Tryz.sizeOf30 rfl rfl rfl rfl fun w h => ?_
  refine wpList_nil ?_
  refine wp_ret ?_
  exact ret1 Tryz.results20 h (resv_agg h 0 rfl rfl Tryz.isAgg30 Tryz.sizeOf30 rfl) ⟨_, rfl, h.grow0, _, rfl, (by rw [show (-(m : Int)) = ofSign true (m) from (by first | (simp [ofSign]; done) | (simp [ofSign]; omega))]; exact h.out 0 rfl)⟩
 obtain ⟨m, rfl⟩ : ∃ m : Nat, z = (m : Int) := ⟨z.natAbs, by omega⟩
 refine seq_ (reg_ ?_)
 refine st_alloc h Tryz.zeroValue30 rfl fun g15 w a h => ?_
 refine wpList_nil ?_
 refine seq_ (reg_ ?_)
 refine st_move h rfl rfl fun a h => ?_
 refine st_to64 (p := m) h rfl (by omega) Tryz.runUnderlying3 Tryz.runUnderlying101 rfl fun a h => ?_
 refine st_assign h rfl rfl fun a h => ?_
 refine wpList_nil ?_
 refine seq_ (seq_ (reg_ ?_))
 refine st_move h rfl rfl fun a h => ?_
 refine st_cmp h rfl rfl rfl rfl fun a h => ?_
 refine wpList_nil ?_
 refine cond_f h rfl (by first | (simp; done) | (simp; omega)) ?_
 refine wp_skip ?_
 refine seq_ (reg_ ?_)
 refine st_move h rfl rfl fun a h => ?_
 refine st_to32 (p := m) h rfl Tryz.runUnderlying101 Tryz.runUnderlying104 rfl fun a h => ?_
 refine st_move h rfl rfl fun a h => ?_
 refine st_shrN (p := m) (m := 32) h rfl rfl (by omega) rfl fun a h => ?_
 refine st_to32 (p := (m) / 2 ^ 32) h rfl Tryz.runUnderlying101 Tryz.runUnderlying104 rfl fun a h => ?_
 refine st_buildSlice h rfl (buildSlice_run (zs := [(.int .u32 0)]) Tryz.runUnderlying28 Tryz.sizeOf104 Tryz.zeroValue104 rfl rfl (by decide) (by decide) (by decide) rfl) rfl fun g16 w a h => ?_
 have hl : ∀ x ∈ [m % 4294967296, m / 2 ^ 32 % 4294967296], x < 4294967296 := by intro x hx; simp at hx; omega
 have hrow := own_row32 (r := [m % 4294967296, m / 2 ^ 32 % 4294967296]) 2 h (fun i hi => by rcases i with _ | _ | i <;> first | rfl | (simp at hi; omega)) hl (show 2 < 2 ^ 47 by decide) (Nat.le_refl _) (by decide)
 replace h := h.publish
 have h := h.add (f := (Rel.natA).fact [.slice (some ⟨g16, 0, none⟩) 2 2] (m)) (⟨_, hrow, hl, by simp only [val]; omega⟩)
 have hsm : sz m ≤ 64 := sz_le.2 (by omega)
 refine st_call h Tryz.func40 rfl rfl rfl (limb_Norm _ _ (fun b => h.owns_lt) (h.fact 0 rfl) (by omega)) rfl fun r w a hg hF h => ?_
 obtain ⟨A17, n18, c19, e21, f20⟩ := hF
 subst e21
 have h := h.add (f := (Rel.natN).fact [(.slice A17 n18 c19)] (m)) f20
 refine st_move h rfl rfl fun a h => ?_
 refine st_cmp h rfl rfl rfl rfl fun a h => ?_
 replace h := h.respell (u := .bool false) (congrArg _ (by first | (simp; done) | (simp; omega)))
 refine st_call h Tryz.func39 rfl rfl rfl (whole_made _ _ (fun b => h.owns_lt) (h.fact 0 rfl)) rfl fun r w a hg hF h => ?_
 obtain ⟨cs22, e24, f23⟩ := hF
 obtain ⟨b25, A26, n27, c28, rfl⟩ := intN_shape f23
 subst e24
 have h := h.add (f := (Rel.intN).fact [(.bool b25), (.slice A26 n27 c28)] (ofSign false (m))) f23
 refine st_store h 0 rfl rfl rfl Tryz.sizeOf30 rfl rfl rfl rfl fun w h => ?_
 refine wpList_nil ?_
 refine wp_ret ?_
 exact ret1 Tryz.results20 h (resv_agg h 0 rfl rfl Tryz.isAgg30 Tryz.sizeOf30 rfl) ⟨_, rfl, h.grow0, _, rfl, (by rw [show (m : Int) = ofSign false (m) from (by first | (simp [ofSign]; done) | (simp [ofSign]; omega))]; exact h.out 0 rfl)⟩
set_option maxHeartbeats 1000000 in
theorem whole_sign (hO : ∀ b, Ob b → b < W.heap.size) {b0 : Bool} {A0 : Option Addr} {n0 c0 : Nat} {z0 : Int} (hx0 : Rel.intA.at_ W Ob [.bool b0, .slice A0 n0 c0] z0) (hs0 : isz z0 ≤ 4294967295) :
  Calls Tryz.prog 103 #[.agg #[.bool b0, .slice A0 n0 c0]] W (Ret W Ob (eqF (.int .i64 (Int.sign z0)))) := by
 obtain ⟨hx1, hz0⟩ := intA_open hx0
 have hs0' : sz z0.natAbs ≤ 4294967295 := hs0
 have hsg := sign_sz z0
 have hsz := @sz_eq_zero z0.natAbs
 refine enter (vs := [(.agg #[(.bool b0), (.slice A0 n0 c0)])]) (Ob := Ob) (K := fun b => b < W.heap.size) (Fs := [(Rel.intA).fact [(.bool b0), (.slice A0 n0 c0)] (z0), (Rel.natA).fact [(.slice A0 n0 c0)] (z0.natAbs)]) Tryz.func103 rfl Tryz.ntmps103 rfl (fun _ h => h) hO (by simp only [List.mem_cons, List.not_mem_nil, or_false, forall_eq_or_imp, forall_eq, false_imp_iff, implies_true]; exact ⟨hx0, hx1⟩) fun a h => ?_
 refine seq_ (reg_ ?_)
 refine st_box h rfl rfl fun g1 w a h => ?_
 refine st_assign h rfl rfl fun a h => ?_
 refine wpList_nil ?_
 refine seq_ ?_
 refine wp_block ?_
 refine seq_ (reg_ ?_)
 refine st_fieldAddr h rfl (fa_30_1) rfl fun a h => ?_
 refine st_loadO h 0 rfl rfl Tryz.isAgg28 rfl rfl fun a h => ?_
 refine st_call h Tryz.func110 rfl rfl rfl (limb_Bits _ _ (fun b => h.owns_lt) (h.fact 1 rfl) (by omega)) rfl fun r w a hg hF h => ?_
 obtain rfl := hF
 refine st_cmp h rfl rfl rfl rfl fun a h => ?_
 refine st_assign h rfl rfl fun a h => ?_
 refine wpList_nil ?_
 refine cond_ h rfl (fun hb_if1 => ?_) (fun hb_if1 => ?_)
 ·try simp only [decide_eq_true_eq, decide_eq_false_iff_not, Bool.not_eq_true', Bool.not_eq_false'] at hb_if1
  refine seq_ (reg_ ?_)
  refine st_assign h rfl rfl fun a h => ?_
  refine wpList_nil ?_
  refine wp_ret ?_
  exact ret1 Tryz.results103 h (resv_tmp h rfl) ⟨_, rfl, h.grow0, congrArg _ (by rw [hsg]; (try rw [hb_if2] at hz0); (try simp only [if_true, if_false, Bool.false_eq_true] at hz0); split <;> (try split) <;> omega)⟩
 try simp only [decide_eq_true_eq, decide_eq_false_iff_not, Bool.not_eq_true', Bool.not_eq_false'] at hb_if1
 refine seq_ (reg_ ?_)
 refine st_fieldAddr h rfl (fa_30_0) rfl fun a h => ?_
 refine st_loadO h 0 rfl rfl Tryz.isAgg4 rfl rfl fun a h => ?_
 refine st_assign h rfl rfl fun a h => ?_
 refine wpList_nil ?_
 refine cond_ h rfl (fun hb_if2 => ?_) (fun hb_if2 => ?_)
 ·try simp only [decide_eq_true_eq, decide_eq_false_iff_not, Bool.not_eq_true', Bool.not_eq_false'] at hb_if2
  refine seq_ (reg_ ?_)
  refine st_assign h rfl rfl fun a h => ?_
  refine wpList_nil ?_
  refine wp_ret ?_
  exact ret1 Tryz.results103 h (resv_tmp h rfl) ⟨_, rfl, h.grow0, congrArg _ (by rw [hsg]; (try rw [hb_if2] at hz0); (try simp only [if_true, if_false, Bool.false_eq_true] at hz0); split <;> (try split) <;> omega)⟩
 try simp only [decide_eq_true_eq, decide_eq_false_iff_not, Bool.not_eq_true', Bool.not_eq_false'] at hb_if2
 refine wp_skip ?_
 refine seq_ (reg_ ?_)
 refine st_assign h rfl rfl fun a h => ?_
 refine wpList_nil ?_
 refine wp_ret ?_
 exact ret1 Tryz.results103 h (resv_tmp h rfl) ⟨_, rfl, h.grow0, congrArg _ (by rw [hsg]; (try rw [hb_if2] at hz0); (try simp only [if_true, if_false, Bool.false_eq_true] at hz0); split <;> (try split) <;> omega)⟩
set_option maxHeartbeats 1000000 in
theorem whole_Cmp (hO : ∀ b, Ob b → b < W.heap.size) {b0 : Bool} {A0 : Option Addr} {n0 c0 : Nat} {z0 : Int} {b1 : Bool} {A1 : Option Addr} {n1 c1 : Nat} {z1 : Int} (hx0 : Rel.intA.at_ W Ob [.bool b0, .slice A0 n0 c0] z0) (hx1 : Rel.intA.at_ W Ob [.bool b1, .slice A1 n1 c1] z1) (hs0 : isz z0 ≤ 4294967295) (hs1 : isz z1 ≤ 4294967295) :
  Calls Tryz.prog 71 #[.agg #[.bool b0, .slice A0 n0 c0], .agg #[.bool b1, .slice A1 n1 c1]] W (Ret W Ob (eqF (.int .i64 (cmpZ z0 z1)))) := by
 obtain ⟨hx2, hz0⟩ := intA_open hx0
 obtain ⟨hx3, hz1⟩ := intA_open hx1
 have hs0' : sz z0.natAbs ≤ 4294967295 := hs0
 have hs1' : sz z1.natAbs ≤ 4294967295 := hs1
 have hg0 := sign_cases z0
 have hg1 := sign_cases z1
 refine enter (vs := [(.agg #[(.bool b0), (.slice A0 n0 c0)]), (.agg #[(.bool b1), (.slice A1 n1 c1)])]) (Ob := Ob) (K := fun b => b < W.heap.size) (Fs := [(Rel.intA).fact [(.bool b0), (.slice A0 n0 c0)] (z0), (Rel.intA).fact [(.bool b1), (.slice A1 n1 c1)] (z1), (Rel.natA).fact [(.slice A0 n0 c0)] (z0.natAbs), (Rel.natA).fact [(.slice A1 n1 c1)] (z1.natAbs)]) Tryz.func71 rfl Tryz.ntmps71 rfl (fun _ h => h) hO (by simp only [List.mem_cons, List.not_mem_nil, or_false, forall_eq_or_imp, forall_eq, false_imp_iff, implies_true]; exact ⟨hx0, hx1, hx2, hx3⟩) fun a h => ?_
 refine seq_ (reg_ ?_)
 refine st_box h rfl rfl fun g1 w a h => ?_
 refine st_box h rfl rfl fun g2 w a h => ?_
 refine st_assign h rfl rfl fun a h => ?_
 refine wpList_nil ?_
 refine seq_ ?_
 refine draw0_ mixed_ 3 [some 7, some 8, some 9] [[], [0], []] [(eqF (.agg #[(.bool b0), (.slice A0 n0 c0)])), (eqF (.int .i64 (Int.sign (z0)))), (eqF (.agg #[(.bool b1), (.slice A1 n1 c1)]))] rfl h rfl ⟨?_, ?_, ?_, trivial⟩ ?_
 ·intro dp hdp0 hdp dv Fx a w h
  refine st_loadOS h 1 rfl rfl Tryz.isAgg30 Tryz.sizeOf30 rfl rfl fun a h => ?_
  refine wpList_nil ⟨rfl, ?_⟩
  exact ⟨_, h.drawEnd (F' := []) rfl rfl⟩
 ·intro dp hdp0 hdp dv Fx a w h
  have e3 : dv 0 = (.agg #[(.bool b0), (.slice A0 n0 c0)]) := h.fact 0 rfl
  replace h := (h.spellE (t := 7) e3 rfl h)
  refine st_call h Tryz.func103 rfl rfl rfl (whole_sign _ _ (fun b => h.owns_lt) (h.fact 1 rfl) (by omega)) rfl fun r w a hg hF h => ?_
  obtain rfl := hF
  refine wpList_nil ⟨rfl, ?_⟩
  exact ⟨_, h.drawEnd (F' := [_]) rfl rfl⟩
 ·intro dp hdp0 hdp dv Fx a w h
  refine st_loadOS h 0 rfl rfl Tryz.isAgg30 Tryz.sizeOf30 rfl rfl fun a h => ?_
  refine wpList_nil ⟨rfl, ?_⟩
  exact ⟨_, h.drawEnd (F' := []) rfl rfl⟩
 intro dv a w h
 have e4 : dv 1 = (.int .i64 (Int.sign (z0))) := h.fact 1 rfl
 have e5 : dv 2 = (.agg #[(.bool b1), (.slice A1 n1 c1)]) := h.fact 2 rfl
 have h2 := (h.spellE (t := 9) e5 rfl (h.spellE (t := 8) e4 rfl (h.consL (t := 4) rfl (h.consL (t := 3) rfl (h.consL (t := 2) rfl (h.consL (t := 1) rfl (h.consL (t := 0) rfl h.nilL)))))))
 have h3 := h2.noFacts
 have h3 := h3.add (h2.fact 6 rfl)
 have h3 := h3.add (h2.fact 5 rfl)
 have h3 := h3.add (h2.fact 4 rfl)
 have h3 := h3.add (h2.fact 3 rfl)
 clear h2
 replace h := h3
 clear h3
 refine st_call h Tryz.func103 rfl rfl rfl (whole_sign _ _ (fun b => h.owns_lt) (h.fact 1 rfl) (by omega)) rfl fun r w a hg hF h => ?_
 obtain rfl := hF
 refine st_assign h rfl rfl fun a h => ?_
 refine st_assign h rfl rfl fun a h => ?_
 refine wpList_nil ?_
 refine seq_ ?_
 refine wp_block ?_
 refine seq_ (reg_ ?_)
 refine st_move h rfl rfl fun a h => ?_
 refine st_move h rfl rfl fun a h => ?_
 refine st_cmp h rfl rfl rfl rfl fun a h => ?_
 refine st_assign h rfl rfl fun a h => ?_
 refine wpList_nil ?_
 refine cond_ h rfl (fun hb_if1 => ?_) (fun hb_if1 => ?_)
 ·try simp only [decide_eq_true_eq, decide_eq_false_iff_not, Bool.not_eq_true', Bool.not_eq_false'] at hb_if1
  refine seq_ (reg_ ?_)
  refine st_assign h rfl rfl fun a h => ?_
  refine wpList_nil ?_
  refine wp_ret ?_
  exact ret1 Tryz.results71 h (resv_tmp h rfl) ⟨_, rfl, h.grow0, congrArg _ (by unfold cmpZ; (try unfold cmpN); split <;> (try split) <;> (try split) <;> (try split) <;> omega)⟩
 try simp only [decide_eq_true_eq, decide_eq_false_iff_not, Bool.not_eq_true', Bool.not_eq_false'] at hb_if1
 refine seq_ (reg_ ?_)
 refine st_move h rfl rfl fun a h => ?_
 refine st_move h rfl rfl fun a h => ?_
 refine st_cmp h rfl rfl rfl rfl fun a h => ?_
 refine st_assign h rfl rfl fun a h => ?_
 refine wpList_nil ?_
 refine cond_ h rfl (fun hb_if2 => ?_) (fun hb_if2 => ?_)
 ·try simp only [decide_eq_true_eq, decide_eq_false_iff_not, Bool.not_eq_true', Bool.not_eq_false'] at hb_if2
  refine seq_ (reg_ ?_)
  refine st_assign h rfl rfl fun a h => ?_
  refine wpList_nil ?_
  refine wp_ret ?_
  exact ret1 Tryz.results71 h (resv_tmp h rfl) ⟨_, rfl, h.grow0, congrArg _ (by unfold cmpZ; (try unfold cmpN); split <;> (try split) <;> (try split) <;> (try split) <;> omega)⟩
 try simp only [decide_eq_true_eq, decide_eq_false_iff_not, Bool.not_eq_true', Bool.not_eq_false'] at hb_if2
 refine seq_ (reg_ ?_)
 refine st_move h rfl rfl fun a h => ?_
 refine st_cmp h rfl rfl rfl rfl fun a h => ?_
 refine st_assign h rfl rfl fun a h => ?_
 refine wpList_nil ?_
 refine cond_ h rfl (fun hb_if3 => ?_) (fun hb_if3 => ?_)
 ·try simp only [decide_eq_true_eq, decide_eq_false_iff_not, Bool.not_eq_true', Bool.not_eq_false'] at hb_if3
  refine seq_ (reg_ ?_)
  refine st_fieldAddr h rfl (fa_30_1) rfl fun a h => ?_
  refine st_loadO h 0 rfl rfl Tryz.isAgg28 rfl rfl fun a h => ?_
  refine st_fieldAddr h rfl (fa_30_1) rfl fun a h => ?_
  refine st_loadO h 1 rfl rfl Tryz.isAgg28 rfl rfl fun a h => ?_
  refine st_call h Tryz.func104 rfl rfl rfl (limb_Cmp _ _ (fun b => h.owns_lt) (h.fact 3 rfl) (h.fact 2 rfl)) rfl fun r w a hg hF h => ?_
  obtain rfl := hF
  refine st_assign h rfl rfl fun a h => ?_
  refine wpList_nil ?_
  refine wp_ret ?_
  exact ret1 Tryz.results71 h (resv_tmp h rfl) ⟨_, rfl, h.grow0, congrArg _ (by unfold cmpZ; (try unfold cmpN); split <;> (try split) <;> (try split) <;> (try split) <;> omega)⟩
 try simp only [decide_eq_true_eq, decide_eq_false_iff_not, Bool.not_eq_true', Bool.not_eq_false'] at hb_if3
 refine wp_skip ?_
 refine seq_ (reg_ ?_)
 refine st_fieldAddr h rfl (fa_30_1) rfl fun a h => ?_
 refine st_loadO h 1 rfl rfl Tryz.isAgg28 rfl rfl fun a h => ?_
 refine st_fieldAddr h rfl (fa_30_1) rfl fun a h => ?_
 refine st_loadO h 0 rfl rfl Tryz.isAgg28 rfl rfl fun a h => ?_
 refine st_call h Tryz.func104 rfl rfl rfl (limb_Cmp _ _ (fun b => h.owns_lt) (h.fact 2 rfl) (h.fact 3 rfl)) rfl fun r w a hg hF h => ?_
 obtain rfl := hF
 refine st_assign h rfl rfl fun a h => ?_
 refine wpList_nil ?_
 refine wp_ret ?_
 exact ret1 Tryz.results71 h (resv_tmp h rfl) ⟨_, rfl, h.grow0, congrArg _ (by unfold cmpZ; (try unfold cmpN); split <;> (try split) <;> (try split) <;> (try split) <;> omega)⟩
end Orr
