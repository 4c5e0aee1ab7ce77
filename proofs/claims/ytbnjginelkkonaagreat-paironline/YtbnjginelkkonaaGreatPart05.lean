/- Polynomials: cut, at, each, Add, Sub, Neg, Scale, Derive, Norm, Of. Polynomials: Mul, Same, value, Lead, Sign. Rational numbers; the sign of a polynomial at one. Curves. Points by rising names. Signs at and just after rational times. Certificates. Common divisors, Sturm's chains, roots, algebraic numbers: what the code reckons, told as plain functions; none: too large a number, or no end in sight. Division of polynomials. Quotients that come out even, common divisors, Sturm's chains. Algebraic numbers. Sturm's counts; comparing algebraic numbers; signs there. The greater of two; which of two algebraic numbers is greater; signs there. Polynomials over the rational numbers: values, derivatives, bounds. -/
import Derived.Test.YtbnjginelkkonaaGreatPart04
set_option linter.all false

namespace Orr
open Go Go.Proofs
set_option maxRecDepth 10000
abbrev pr (p : List Int) : TV := .one (pl p)
theorem pl_get {p : List Int} {i : Nat} {z : Int} (h : p[i]? = some z) : (p.map ofI)[i]? = some (ofI z) := map_get h
theorem c_pcut (p : List Int) : Does Tryz.prog 76 [pr p] [pr (trim p)] := by
  refine fnD Tryz.func76 rfl (ln 0 rfl rfl fun hl => ?_)
  rw [List.length_map] at hl
  refine go tt [] rfl trivial ?_
  refine lp (S := Nat) 0 (fun L1 n => (3, .v (.one (.int .i64 (n : Int)))) :: L1) (fun _ => []) id (fun n => n ≤ p.length ∧ ∀ j x, n ≤ j → p[j]? = some x → x = 0) (p.map ofI).length ⟨by simp, fun j x h1 h2 => by
    have := (List.getElem?_eq_some_iff.1 h2).1; simp at h1; omega⟩ rfl (fun _ _ => rfl) rfl fun n ⟨h1, h2⟩ => ?_
  cases n with
  | zero => exact en tt [.f (by simp), .f rfl, .i 0] rfl (by rw [trim_cut h1 h2 (fun h => by omega)]; simp [pl]) (by simp [AllP])
  | succ n =>
    obtain ⟨x, hx⟩ : ∃ x, p[n]? = some x := ⟨_, List.getElem?_eq_getElem (by omega)⟩
    by_cases h0 : x = 0
    · refine go tt [.t (by simp), .r 11 (v := .one (.int .i64 (n : Int))) (by simp), .x (pl_get hx), .c [] c_Zero, .t (by simp [h0]), .r 17 (v := .one (.int .i64 (n : Int))) (by simp)] rfl (by simp [AllP]; omega) ?_
      exact rd n (by simp) ⟨by omega, fun j y h3 h4 => by
          rcases Nat.eq_or_lt_of_le h3 with rfl | h3
          · rw [hx] at h4; injection h4 with h4; rw [← h4, h0]
          · exact h2 j y h3 h4⟩ rfl
    · exact en tt [.t (by simp), .r 11 (v := .one (.int .i64 (n : Int))) (by simp), .x (pl_get hx), .c [] c_Zero, .f (by simp [h0]), .i (n + 1)] rfl (by rw [trim_cut h1 h2 (fun _ => ⟨x, hx, h0⟩)]; simp [pl, List.map_take]) (by simp [AllP] <;> omega)
theorem c_pat (p : List Int) (k : Nat) : Does Tryz.prog 112 [pr p, .one (.int .i64 (k : Int))] [.agg (ofI (p.getD k 0))] := by
  by_cases h : k < p.length
  · have hx := List.getElem?_eq_getElem h
    have e : p.getD k 0 = p[k] := by simp [List.getD, hx]
    rw [e]
    exact w tt Tryz.func112 rfl [.t (by simp; omega), .x (pl_get hx)] rfl rfl trivial
  · have e : p.getD k 0 = 0 := by simp [List.getD, List.getElem?_eq_none (Nat.le_of_not_lt h)]
    rw [e, ofI_zero]
    exact w tt Tryz.func112 rfl [.f (by simp; omega)] rfl rfl trivial
/-- a row that is filled: k of it are done -/
def fil (f : Nat → List LV) (z : List LV) (n k : Nat) : List (List LV) := (List.range n).map fun i => if i < k then f i else z
theorem fil_len (f : Nat → List LV) (z : List LV) (n k : Nat) : (fil f z n k).length = n := by simp [fil]
theorem fil_zero (f : Nat → List LV) (z : List LV) (n : Nat) : List.replicate n z = fil f z n 0 := by
  refine List.ext_getElem? fun i => ?_
  simp only [fil, List.getElem?_replicate, List.getElem?_map]
  by_cases h : i < n
  · simp [h]
  · simp [h]
theorem fil_all (f : Nat → List LV) (z : List LV) (n : Nat) : fil f z n n = (List.range n).map f := by
  refine List.map_congr_left fun i hi => ?_
  rw [if_pos (List.mem_range.1 hi)]
theorem fil_set (f : Nat → List LV) (z : List LV) {n k : Nat} (h : k < n) : (fil f z n k).set k (f k) = fil f z n (k + 1) := by
  refine List.ext_getElem? fun i => ?_
  rw [List.getElem?_set]
  simp only [fil, List.getElem?_map, List.length_map, List.length_range, h, if_true]
  by_cases e : k = i
  · subst e; simp [h]
  · simp only [e, if_false]
    by_cases hi : i < n
    · simp only [List.getElem?_range hi, Option.map_some]
      congr 1
      by_cases h2 : i < k
      · rw [if_pos h2, if_pos (by omega)]
      · rw [if_neg h2, if_neg (by omega)]
    · simp [List.getElem?_eq_none, hi]
theorem c_each2 {n fid : Nat} {l1 l2 : List LV} {g : Nat → Int} (hn : n < 274877906944) (h : ∀ k, k < n → Does Tryz.prog fid [.one (.int .i64 (k : Int)), .one (.sh l1), .one (.sh l2)] [.agg (ofI (g k))]) : Does Tryz.prog 109 [.one (.int .i64 (n : Int)), .one (.fn fid [] [.sh l1, .sh l2])] [pr (each n g)] := by
  refine fnD Tryz.func109 rfl ?_
  refine go tt [.i n, .i n, .r 10 (eI (b := (n : Int)) (by simp))] rfl (by simp [AllP]; omega) ?_
  rw [fil_zero fun k => ofI (g k)]
  refine lp (S := Nat) 1 (fun L1 k => (11, .v (.one (.int .i64 (k : Int)))) :: L1) (fun k => [.row false 29 2 (fil (fun k => ofI (g k)) [.bool false, .nils] n k)]) (fun k => n - k) (fun k => k ≤ n) 0 (Nat.zero_le _) rfl (fun _ _ => rfl) rfl fun k hk => ?_
  by_cases hlt : k < n
  · refine go tt [.t (by simp; omega), .c [] (h k hlt), .i k] rfl (by simp [AllP, fil_len]; omega) ?_
    have e := fil_set (fun k => ofI (g k)) [.bool false, .nils] hlt
    rw [e]
    exact rd (k + 1) (by omega) hlt rfl
  · obtain rfl : k = n := by omega
    have e : fil (fun k => ofI (g k)) [.bool false, .nils] k k = ((List.range k).map g).map ofI := by rw [fil_all]; simp
    rw [e]
    exact en tt [.f (by simp), .c [] (c_pcut _)] rfl rfl trivial
theorem c_each1 {n fid : Nat} {l1 : List LV} {g : Nat → Int} (hn : n < 274877906944) (h : ∀ k, k < n → Does Tryz.prog fid [.one (.int .i64 (k : Int)), .one (.sh l1)] [.agg (ofI (g k))]) : Does Tryz.prog 109 [.one (.int .i64 (n : Int)), .one (.fn fid [] [.sh l1])] [pr (each n g)] := by
  refine fnD Tryz.func109 rfl ?_
  refine go tt [.i n, .i n, .r 10 (eI (b := (n : Int)) (by simp))] rfl (by simp [AllP]; omega) ?_
  rw [fil_zero fun k => ofI (g k)]
  refine lp (S := Nat) 1 (fun L1 k => (11, .v (.one (.int .i64 (k : Int)))) :: L1) (fun k => [.row false 29 2 (fil (fun k => ofI (g k)) [.bool false, .nils] n k)]) (fun k => n - k) (fun k => k ≤ n) 0 (Nat.zero_le _) rfl (fun _ _ => rfl) rfl fun k hk => ?_
  by_cases hlt : k < n
  · refine go tt [.t (by simp; omega), .c [] (h k hlt), .i k] rfl (by simp [AllP, fil_len]; omega) ?_
    have e := fil_set (fun k => ofI (g k)) [.bool false, .nils] hlt
    rw [e]
    exact rd (k + 1) (by omega) hlt rfl
  · obtain rfl : k = n := by omega
    have e : fil (fun k => ofI (g k)) [.bool false, .nils] k k = ((List.range k).map g).map ofI := by rw [fil_all]; simp
    rw [e]
    exact en tt [.f (by simp), .c [] (c_pcut _)] rfl rfl trivial
theorem c_Add1 {p q : List Int} (k : Nat) (hp : Bd 4294967295 p) (hq : Bd 4294967295 q) : Does Tryz.prog 110 [.one (.int .i64 (k : Int)), .one (.sh [pl p]), .one (.sh [pl q])] [.agg (ofI (p.getD k 0 + q.getD k 0))] :=
  w tt Tryz.func110 rfl [.c [] (c_pat p k), .c [] (c_pat q k), .c [] (c_WAdd (isInt_n _) (isInt_n _) (bd_getD hp k) (bd_getD hq k))] rfl rfl trivial
theorem c_Sub1 {p q : List Int} (k : Nat) (hp : Bd 4294967295 p) (hq : Bd 4294967295 q) : Does Tryz.prog 233 [.one (.int .i64 (k : Int)), .one (.sh [pl p]), .one (.sh [pl q])] [.agg (ofI (p.getD k 0 - q.getD k 0))] :=
  w tt Tryz.func233 rfl [.c [] (c_pat p k), .c [] (c_pat q k), .c [] (c_WSub (isInt_n _) (isInt_n _) (bd_getD hp k) (bd_getD hq k))] rfl rfl trivial
theorem getD_get {p : List Int} {k : Nat} (h : k < p.length) : p[k]? = some (p.getD k 0) := by simp [List.getD, List.getElem?_eq_getElem h]
theorem c_Scale1 {p : List Int} {c : Int} {k : Nat} (hk : k < p.length) (hp : Bd 4294967295 p) (hc : isz c ≤ 4294967295) : Does Tryz.prog 214 [.one (.int .i64 (k : Int)), .one (.sh [pl p]), .one (.sh (ofI c))] [.agg (ofI (p.getD k 0 * c))] :=
  w tt Tryz.func214 rfl [.x (pl_get (getD_get hk)), .c [] (c_WMul (isInt_n _) (isInt_n _) (bd_getD hp k) hc)] rfl rfl trivial
theorem c_Neg1 {p : List Int} {k : Nat} (hk : k < p.length) (hp : Bd 4294967295 p) : Does Tryz.prog 299 [.one (.int .i64 (k : Int)), .one (.sh [pl p])] [.agg (ofI (-(p.getD k 0)))] :=
  w tt Tryz.func299 rfl [.x (pl_get (getD_get hk)), .c [] (c_Neg (isInt_n _) (bd_getD hp k))] rfl rfl trivial
theorem c_Derive1 {p : List Int} {k : Nat} (hk : k + 1 < p.length) (hl : p.length < 274877906944) (hp : Bd 4294967295 p) : Does Tryz.prog 269 [.one (.int .i64 (k : Int)), .one (.sh [pl p])] [.agg (ofI (p.getD (k + 1) 0 * ((k + 1 : Nat) : Int)))] :=
  w tt Tryz.func269 rfl [.x (pl_get (getD_get hk)), .r 10 (eI (b := ((k + 1 : Nat) : Int)) (by omega)), .c [] (c_Of (by omega)), .c [] (c_WMul (isInt_n _) (isInt_n _) (bd_getD hp _) (isz_nat38 (show k + 1 < 274877906944 by omega)))] rfl rfl (by simp [AllP] <;> omega)
theorem c_PAdd {p q : List Int} (hlp : p.length < 274877906944) (hlq : q.length < 274877906944) (hp : Bd 4294967295 p) (hq : Bd 4294967295 q) : Does Tryz.prog 66 [pr p, pr q] [pr (padd p q)] :=
  w tt Tryz.func66 rfl [.r 9 (eI (b := ((max p.length q.length : Nat) : Int)) (by simp; omega)), .c [] (c_each2 (by omega) fun k _ => c_Add1 k hp hq)] rfl rfl trivial
theorem c_PSub {p q : List Int} (hlp : p.length < 274877906944) (hlq : q.length < 274877906944) (hp : Bd 4294967295 p) (hq : Bd 4294967295 q) : Does Tryz.prog 184 [pr p, pr q] [pr (psub p q)] :=
  w tt Tryz.func184 rfl [.r 9 (eI (b := ((max p.length q.length : Nat) : Int)) (by simp; omega)), .c [] (c_each2 (by omega) fun k _ => c_Sub1 k hp hq)] rfl rfl trivial
theorem c_PNeg {p : List Int} (hlp : p.length < 274877906944) (hp : Bd 4294967295 p) : Does Tryz.prog 272 [pr p] [pr (pneg p)] :=
  w tt Tryz.func272 rfl [.r 4 (eI (b := (p.length : Int)) (by simp)), .c [] (c_each1 hlp fun k hk => c_Neg1 hk hp)] rfl rfl trivial
theorem c_PScale {p : List Int} {c : Int} (hlp : p.length < 274877906944) (hp : Bd 4294967295 p) (hc : isz c ≤ 4294967295) : Does Tryz.prog 159 [pr p, .agg (ofI c)] [pr (pscale p c)] :=
  w tt Tryz.func159 rfl [.r 6 (eI (b := (p.length : Int)) (by simp)), .c [] (c_each2 hlp fun k hk => c_Scale1 hk hp hc)] rfl rfl trivial
theorem c_PDerive {p : List Int} (hlp : p.length < 274877906944) (hp : Bd 4294967295 p) : Does Tryz.prog 229 [pr p] [pr (pder p)] :=
  w tt Tryz.func229 rfl [.r 6 (eI (b := ((p.length - 1 : Nat) : Int)) (by simp; omega)), .c [] (c_each1 (by omega) fun k hk => c_Derive1 (by omega) hlp hp)] rfl rfl (by simp [AllP]; omega)
theorem c_PNorm {ls : List (List LV)} {p : List Int} (hi : IsInts ls p) (hl : p.length < 274877906944) (hs : Bd 4294967295 p) : Does Tryz.prog 115 [.one (.row ls)] [pr (trim p)] := by
  refine fnD Tryz.func115 rfl ?_
  have hlen := hi.len
  refine go tt [.i ls.length, .i ls.length] rfl (by simp [AllP]; omega) ?_
  rw [fil_zero fun k => ofI (p.getD k 0)]
  refine lp (S := Nat) 1 (fun L1 k => (11, .v (.one (.int .i64 (k : Int)))) :: L1) (fun k => [.row false 29 2 (fil (fun k => ofI (p.getD k 0)) [.bool false, .nils] ls.length k)]) (fun k => ls.length - k) (fun k => k ≤ ls.length) 0 (Nat.zero_le _) rfl (fun _ _ => rfl) rfl fun k hk => ?_
  by_cases hlt : k < ls.length
  · obtain ⟨x, y, hx, hxy⟩ := hi.get (getD_get (p := p) (k := k) (by omega))
    have cn := c_WNorm hxy (bd_getD hs k)
    obtain ⟨b, l, rfl, rfl, _⟩ := hxy
    refine go tt [.t (by simp; omega), .x hx, .c [] cn, .i k] rfl (by simp [AllP, fil_len]; omega) ?_
    have e := fil_set (fun k => ofI (p.getD k 0)) [.bool false, .nils] hlt
    rw [e]
    exact rd (k + 1) (by omega) hlt rfl
  · obtain rfl : k = ls.length := by omega
    have e : fil (fun k => ofI (p.getD k 0)) [.bool false, .nils] ls.length ls.length = p.map ofI := by
      rw [fil_all, hlen]
      refine List.ext_getElem? fun i => ?_
      by_cases hi : i < p.length
      · simp [List.getElem?_range hi, List.getD, List.getElem?_eq_getElem hi]
      · simp [List.getElem?_eq_none, hi]
    rw [e]
    exact en tt [.f (by simp), .c [] (c_pcut _)] rfl rfl trivial
theorem c_PNormT {p : List Int} (ht : Trim p) (hl : p.length < 274877906944) (hs : Bd 4294967295 p) : Does Tryz.prog 115 [pr p] [pr p] := by
  have := c_PNorm (isInts_n p) hl hs
  rw [ht] at this; exact this
theorem ids_get {p : List Int} {i : Nat} {z : Int} (h : p[i]? = some z) : (p.map fun (x : Int) => [LV.int .i64 x])[i]? = some [.int .i64 z] := map_get h
theorem c_POf {p : List Int} (hl : p.length < 274877906944) (hr : ∀ z ∈ p, -9223372036854775808 ≤ z ∧ z ≤ 9223372036854775807) : Does Tryz.prog 18 [.one (ids p)] [pr (trim p)] := by
  refine fnD Tryz.func18 rfl ?_
  refine go tt [.r 7 (eI (b := (p.length : Int)) (by simp)), .i p.length, .i p.length, .r 10 (eI (b := (p.length : Int)) (by simp))] rfl (by simp [AllP]; omega) ?_
  rw [fil_zero fun k => ofI (p.getD k 0)]
  refine lp (S := Nat) 1 (fun L1 k => (11, .v (.one (.int .i64 (k : Int)))) :: L1) (fun k => [.row false 29 2 (fil (fun k => ofI (p.getD k 0)) [.bool false, .nils] p.length k)]) (fun k => p.length - k) (fun k => k ≤ p.length) 0 (Nat.zero_le _) rfl (fun _ _ => rfl) rfl fun k hk => ?_
  by_cases hlt : k < p.length
  · have hg := getD_get hlt
    refine go tt [.t (by simp; omega), .x (ids_get hg), .c [] (c_Of (hr _ (List.mem_of_getElem? hg))), .i k] rfl (by simp [AllP, fil_len]; omega) ?_
    have e := fil_set (fun k => ofI (p.getD k 0)) [.bool false, .nils] hlt
    rw [e]
    exact rd (k + 1) (by omega) hlt rfl
  · obtain rfl : k = p.length := by omega
    have e : fil (fun k => ofI (p.getD k 0)) [.bool false, .nils] p.length p.length = p.map ofI := by
      rw [fil_all]
      refine List.ext_getElem? fun i => ?_
      by_cases hi : i < p.length
      · simp [List.getElem?_range hi, List.getD, List.getElem?_eq_getElem hi]
      · simp [List.getElem?_eq_none, hi]
    rw [e]
    exact en tt [.f (by simp), .c [] (c_pcut _)] rfl rfl trivial
end Orr

namespace Orr
open Go Go.Proofs
set_option maxRecDepth 10000
theorem pl_set (l : List Int) (i : Nat) (z : Int) : (l.map ofI).set i (ofI z) = (l.set i z).map ofI := by rw [List.map_set]
theorem rep_ofI (m : Nat) : ((List.replicate m [LV.bool false, LV.nils]).map fun c => c.map nilR) = (List.replicate m (0 : Int)).map ofI := by
  simp [ofI_zero, nilR]
theorem c_PMulN {p0 q : List Int} {s t : Nat} (tq : Trim q) (hlp : p0.length < 137438953472) (hlq : q.length < 137438953472) (hp : Bd s p0) (hq : Bd t q) (hst : s + t ≤ 4294967000) : Does Tryz.prog 213 [pr p0, pr q] [pr (pmul (trim p0) q)] := by
  have cp := c_PNorm (isInts_n p0) (by omega) (bd_mono hp (show s ≤ 4294967295 by omega))
  have hp := bd_trim hp
  have hlp := Nat.lt_of_le_of_lt (trim_len p0) hlp
  obtain ⟨p, ep⟩ : ∃ p, p = trim p0 := ⟨_, rfl⟩
  rw [← ep] at cp hp hlp ⊢
  have cq := c_PNormT tq (by omega) (bd_mono hq (show t ≤ 4294967295 by omega))
  by_cases h0 : p.length = 0
  · have e : pmul p q = [] := by unfold pmul; rw [if_pos (.inl h0)]
    rw [e]
    exact w tt Tryz.func213 rfl [.c [] cp, .c [] cq, .t (by simp; exact List.eq_nil_of_length_eq_zero h0), .t rfl] rfl rfl trivial
  by_cases h1 : q.length = 0
  · have e : pmul p q = [] := by unfold pmul; rw [if_pos (.inr h1)]
    rw [e]
    exact w tt Tryz.func213 rfl [.c [] cp, .c [] cq, .f (by simp; intro h; subst h; simp at h0), .t (by simp; exact List.eq_nil_of_length_eq_zero h1)] rfl rfl trivial
  refine fnD Tryz.func213 rfl ?_
  have e : pmul p q = trim (muli p q (List.replicate (p.length + q.length - 1) 0) p.length) := by unfold pmul; rw [if_neg (by omega)]
  rw [e]
  obtain ⟨N, hN⟩ : ∃ N, N = p.length + q.length - 1 := ⟨_, rfl⟩
  rw [← hN]
  obtain ⟨o, ho⟩ : ∃ o, o = List.replicate N (0 : Int) := ⟨_, rfl⟩
  rw [← ho]
  have hol : o.length = N := by rw [ho]; simp
  have ho0 : ∀ m, o.getD m 0 = 0 := fun m => by rw [ho]; exact getD_replicate N m
  refine go tt [.c [] cp, .c [] cq, .f (by simp; intro h; subst h; simp at h0), .f (by simp; intro h; subst h; simp at h1), .r 27 (eI (b := (N : Int)) (by simp; omega)), .i N, .i N] rfl (by simp [AllP]; omega) ?_
  refine nl 0 rfl rfl rfl ?_
  rw [rep_ofI, ← ho]
  refine lp (S := Nat) 1 (fun L1 i => (31, .v (.one (.int .i64 (i : Int)))) :: L1) (fun i => [.row false 29 2 ((muli p q o i).map ofI)]) (fun i => p.length - i) (fun i => i ≤ p.length) 0 (Nat.zero_le _) rfl (fun _ _ => rfl) rfl fun i hi => ?_
  by_cases hlt : i < p.length
  · refine go tt [.t (by simp; omega), .x (pl_get (getD_get hlt))] rfl trivial ?_
    refine lp (S := Nat) 2 (fun L1 k => (38, .v (.one (.int .i64 (k : Int)))) :: L1) (fun k => [.row false 29 2 ((mulk (p.getD i 0) q i (muli p q o i) k).map ofI), .blk 29 (ofI (p.getD i 0))]) (fun k => q.length - k) (fun k => k ≤ q.length) 0 (Nat.zero_le _) rfl (fun _ _ => rfl) rfl fun k hk => ?_
    by_cases hk2 : k < q.length
    · have hm1 : isz ((mulk (p.getD i 0) q i (muli p q o i) k).getD (i + k) 0) ≤ 4294967295 := Nat.le_trans (isz_of_natAbs (t := 39) (mulk_bd (by rw [muli_len]; omega) (muli_bd (fun j hj => by omega) ho0 (fun i j => natAbs_mul_bd (bd_getD hp i) (bd_getD hq j))) (fun j => natAbs_mul_bd (bd_getD hp i) (bd_getD hq j)) (i + k)) (Nat.lt_of_lt_of_eq (show i + 1 < 549755813888 by omega) (by decide))) (by omega)
      have hm2 : isz (p.getD i 0 * q.getD k 0) ≤ 4294967295 := Nat.le_trans (isz_mul _ _) (by have := bd_getD hp i; have := bd_getD hq k; omega)
      have hg : (mulk (p.getD i 0) q i (muli p q o i) k)[i + k]? = some ((mulk (p.getD i 0) q i (muli p q o i) k).getD (i + k) 0) := getD_get (by rw [mulk_len, muli_len]; omega)
      refine go tt [.t (by simp; omega), .x (pl_get (getD_get hk2)), .i (i + k), .x (pl_get hg), .c [] (c_WMul (isInt_n _) (isInt_n _) (Nat.le_trans (bd_getD hp i) (by omega)) (Nat.le_trans (bd_getD hq k) (by omega))), .c [] (c_WAdd (isInt_n _) (isInt_n _) hm1 hm2), .i (i + k)] rfl (by simp [AllP, mulk_len, muli_len] <;> omega) ?_
      rw [pl_set]
      exact rd (k + 1) (by omega) hk2 rfl
    · obtain rfl : k = q.length := by omega
      exact go tt [.f (by simp)] rfl (by simp [AllP]; omega) (rd (i + 1) (by omega) hlt rfl)
  · obtain rfl : i = p.length := by omega
    exact en tt [.f (by simp), .c [] (c_pcut _)] rfl rfl trivial
theorem c_PMul {p q : List Int} {s t : Nat} (tp : Trim p) (tq : Trim q) (hlp : p.length < 137438953472) (hlq : q.length < 137438953472) (hp : Bd s p) (hq : Bd t q) (hst : s + t ≤ 4294967000) : Does Tryz.prog 213 [pr p, pr q] [pr (pmul p q)] := by
  have h := c_PMulN tq hlp hlq hp hq hst
  rw [show trim p = p from tp] at h
  exact h
theorem c_PSame {p q : List Int} (hlp : p.length < 274877906944) (hlq : q.length < 274877906944) (hp : Bd 4294967295 p) (hq : Bd 4294967295 q) : Does Tryz.prog 224 [pr p, pr q] [.one (.bool (decide (trim p = trim q)))] := by
  refine fnD Tryz.func224 rfl ?_
  have cp := c_PNorm (isInts_n p) hlp hp
  have cq := c_PNorm (isInts_n q) hlq hq
  have bp := bd_trim hp
  have bq := bd_trim hq
  have l1 := trim_len p
  have l2 := trim_len q
  obtain ⟨a, ha⟩ : ∃ a, a = trim p := ⟨_, rfl⟩
  obtain ⟨b, hb⟩ : ∃ b, b = trim q := ⟨_, rfl⟩
  rw [← ha] at cp bp l1 ⊢
  rw [← hb] at cq bq l2 ⊢
  by_cases hl : a.length = b.length
  · refine go tt [.c [] cp, .c [] cq, .f (by simp; omega)] rfl trivial ?_
    refine lp (S := Nat) 0 (fun L1 i => (18, .v (.one (.int .i64 (i : Int)))) :: L1) (fun _ => []) (fun i => a.length - i) (fun i => i ≤ a.length ∧ a.take i = b.take i) 0 ⟨Nat.zero_le _, rfl⟩ rfl (fun _ _ => rfl) rfl fun i ⟨hi, he⟩ => ?_
    by_cases hlt : i < a.length
    · have ga := getD_get hlt
      have gb := getD_get (p := b) (k := i) (by omega)
      have cc := c_WCmp (isInt_n (a.getD i 0)) (isInt_n (b.getD i 0)) (bd_getD bp i) (bd_getD bq i)
      by_cases hz : a.getD i 0 = b.getD i 0
      · refine go tt [.t (by simp; omega), .x (pl_get ga), .x (pl_get gb), .c [] cc, .f (by simpa using cmpZ_eq.2 hz)] rfl (by simp [AllP]; omega) ?_
        exact rd (i + 1) (by omega) ⟨hlt, by rw [List.take_add_one, List.take_add_one, he, ga, gb, hz]⟩ rfl
      · exact en tt [.t (by simp; omega), .x (pl_get ga), .x (pl_get gb), .c [] cc, .t (by have := mt cmpZ_eq.1 hz; simpa using this)] rfl (by rw [decide_eq_false]; intro h; exact hz (by rw [h])) trivial
    · obtain rfl : i = a.length := by omega
      rw [List.take_length, hl, List.take_length] at he
      exact en tt [.f (by simp)] rfl (by rw [decide_eq_true he]) trivial
  · exact en tt [.c [] cp, .c [] cq, .t (by simp; omega)] rfl (by rw [decide_eq_false]; intro h; exact hl (by rw [h])) trivial
theorem c_Pvalue {p : List Int} {n d : Int} {s t : Nat} (hl : p.length < 274877906944) (hp : Bd s p) (hn : isz n ≤ t) (hd : isz d ≤ t) (hst : s + p.length * (t + 1) + 2 * t + 10 ≤ 4294967295) : Does Tryz.prog 240 [pr p, .agg (ofI n), .agg (ofI d)] [.agg (ofI (pval p n d))] := by
  refine fnD Tryz.func240 rfl ?_
  refine go tt [.c [] (c_Of (z := 1) (by decide)), .r 13 (eI (b := (p.length : Int) - 1 - ((0 : Nat) : Int)) (by simp))] rfl (by simp [AllP]; omega) ?_
  refine nlb 3 rfl rfl rfl ?_
  have e0 : [LV.bool false, LV.nils].map nilR = ofI (valk p n d 0).1 := by simp [nilR, valk, ofI_zero]
  rw [e0]
  refine lp (S := Nat) 5 (fun L1 j => (9, .v (.one (.int .i64 ((p.length : Int) - 1 - (j : Int))))) :: L1) (fun j => [.blk 29 (ofI n), .blk 29 (ofI d), .blk 29 [.bool false, .nils], .blk 29 (ofI (valk p n d j).1), .blk 29 (ofI (valk p n d j).2)]) (fun j => p.length - j) (fun j => j ≤ p.length) 0 (Nat.zero_le _) rfl (fun _ _ => rfl) rfl fun j hj => ?_
  have hv := valk_bd (k := j) hp hn hd
  have hjl : j * (t + 1) ≤ p.length * (t + 1) := Nat.mul_le_mul_right _ (by omega)
  have hjl2 : j * t ≤ j * (t + 1) := Nat.mul_le_mul_left _ (by omega)
  by_cases hlt : j < p.length
  · have hc := bd_getD hp (p.length - 1 - j)
    have hm1 : isz ((valk p n d j).1 * n) ≤ 4294967295 := Nat.le_trans (isz_mul _ _) (by omega)
    have hm2 : isz (p.getD (p.length - 1 - j) 0 * (valk p n d j).2) ≤ 4294967295 := Nat.le_trans (isz_mul _ _) (by omega)
    refine go tt [.t (by simp; omega), .c [] (c_WMul (isInt_n _) (isInt_n _) (by omega) (by omega)), .r 22 (eI (b := ((p.length - 1 - j : Nat) : Int)) (by omega)), .x (pl_get (getD_get (p := p) (k := p.length - 1 - j) (by omega))), .c [] (c_WMul (isInt_n _) (isInt_n _) (by omega) (by omega)), .c [] (c_WAdd (isInt_n _) (isInt_n _) hm1 hm2), .c [] (c_WMul (isInt_n _) (isInt_n _) (by omega) (by omega)), .r 17 (eI (b := (p.length : Int) - 1 - ((j + 1 : Nat) : Int)) (by omega))] rfl (by simp [AllP] <;> omega) ?_
    exact rd (j + 1) (by omega) hlt rfl
  · obtain rfl : j = p.length := by omega
    exact en tt [.f (by simp; omega)] rfl rfl trivial
theorem c_PLead {p : List Int} (tp : Trim p) (hl : p.length < 274877906944) (hp : Bd 4294967295 p) : Does Tryz.prog 295 [pr p] [.agg (ofI (p.getD (p.length - 1) 0))] := by
  have cn := c_PNormT tp hl hp
  by_cases h0 : p = []
  · subst h0
    exact w tt Tryz.func295 rfl [.c [] cn, .t (by simp)] rfl (by simp [ofI_zero]) trivial
  · have hpl : 0 < p.length := List.length_pos_iff.2 h0
    exact w tt Tryz.func295 rfl [.c [] cn, .f (by simpa using h0), .r 12 (eI (b := ((p.length - 1 : Nat) : Int)) (by simp; omega)), .x (pl_get (getD_get (by omega)))] rfl rfl (by simp [AllP]; omega)
end Orr

namespace Orr
open Go Go.Proofs
set_option maxRecDepth 10000
theorem rl_mk {a b : Int} {q : Rat} (h1 : a = q.num) (h2 : b = (q.den : Int)) : [sg a, mg a, sg b, mg b] = rl q := by rw [h1, h2]
theorem c_lowest {n d : Int} (h0 : d ≠ 0) (hn : isz n ≤ 4294967295) (hd : isz d ≤ 4294967295) : Does Tryz.prog 197 [.agg (ofI n), .agg (ofI d)] [.agg (rl (Rat.divInt n d))] := by
  have cg := c_Gcd (isInts_n [n, d]) (fun z hz => by simp at hz; rcases hz with rfl | rfl <;> assumption)
  have gp := gcdL_pos (n := n) h0
  have gs := isz_gcd (n := n) h0 hd
  have m1 := gcdL_dvd_l n d
  have m2 := gcdL_dvd_r n d
  obtain ⟨g, hg⟩ : ∃ g, g = ((gcdL [n, d] : Nat) : Int) := ⟨_, rfl⟩
  rw [← hg] at cg gp gs m1 m2
  by_cases hneg : d < 0
  · obtain ⟨e1, e2⟩ := low_neg (n := n) hneg
    rw [← hg] at e1 e2
    rw [← rl_mk e1 e2]
    exact w tt Tryz.func197 rfl [.c [] cg, .t (by simpa using hneg), .c [] (c_Neg (isInt_n n) hn), .c [] (c_Neg (isInt_n d) hd), .c [] (c_Exact (isInt_n _) (isInt_n _) (by rw [isz_neg]; exact hn) gs (by omega) (neg_mod m1)), .c [] (c_Exact (isInt_n _) (isInt_n _) (by rw [isz_neg]; exact hd) gs (by omega) (neg_mod m2))] rfl rfl trivial
  · obtain ⟨e1, e2⟩ := low_pos (n := n) (d := d) (by omega)
    rw [← hg] at e1 e2
    rw [← rl_mk e1 e2]
    exact w tt Tryz.func197 rfl [.c [] cg, .f (by simpa using hneg), .c [] (c_Exact (isInt_n _) (isInt_n _) hn gs (by omega) m1), .c [] (c_Exact (isInt_n _) (isInt_n _) hd gs (by omega) m2)] rfl rfl trivial
theorem c_rnorm {x y x' y' : LV} {n d : Int} (h1 : IsInt x y n) (h2 : IsInt x' y' d) (hn : isz n ≤ 4294967295) (hd : isz d ≤ 4294967295) : Does Tryz.prog 137 [.agg [x, y, x', y']] [.agg (rl (ratOf n d))] := by
  have c1 := c_WNorm h1 hn
  have c2 := c_WNorm h2 hd
  obtain ⟨b, l, rfl, rfl, _⟩ := h1
  obtain ⟨b', l', rfl, rfl, _⟩ := h2
  by_cases h0 : d = 0
  · have e : ratOf n d = Rat.divInt n 1 := by unfold ratOf; rw [if_pos h0]
    rw [e]
    exact w tt Tryz.func137 rfl [.c [] c2, .c [] c_Zero, .t (by simpa using h0), .c [] (c_Of (z := 1) (by decide)), .c [] c1, .c [] (c_lowest (by decide) hn (by decide))] rfl rfl trivial
  · have e : ratOf n d = Rat.divInt n d := by unfold ratOf; rw [if_neg h0]
    rw [e]
    exact w tt Tryz.func137 rfl [.c [] c2, .c [] c_Zero, .f (by simpa using h0), .c [] c1, .c [] (c_lowest h0 hn hd)] rfl rfl trivial
theorem c_rnormQ {q : Rat} (hq : Qs 4294967295 q) : Does Tryz.prog 137 [.agg (rl q)] [.agg (rl q)] := by
  have := c_rnorm (isInt_n q.num) (isInt_n (q.den : Int)) hq.1 hq.2
  rwa [ratOf_q] at this
theorem c_cross {a b : Rat} (ha : Qs 2147483647 a) (hb : Qs 2147483647 b) : Does Tryz.prog 198 [.agg (rl a), .agg (rl b)] [.agg (ofI (a.num * (b.den : Int))), .agg (ofI (b.num * (a.den : Int))), .agg (ofI ((a.den : Int) * (b.den : Int)))] :=
  w tt Tryz.func198 rfl [.c [] (c_rnormQ (ha.mono (by decide))), .c [] (c_rnormQ (hb.mono (by decide))), .c [] (c_WMul (isInt_n _) (isInt_n _) (Nat.le_trans ha.1 (by decide)) (Nat.le_trans hb.2 (by decide))), .c [] (c_WMul (isInt_n _) (isInt_n _) (Nat.le_trans hb.1 (by decide)) (Nat.le_trans ha.2 (by decide))), .c [] (c_WMul (isInt_n _) (isInt_n _) (Nat.le_trans ha.2 (by decide)) (Nat.le_trans hb.2 (by decide)))] rfl rfl trivial
theorem c_rCmp {a b : Rat} (ha : Qs 2147483647 a) (hb : Qs 2147483647 b) : Does Tryz.prog 138 [.agg (rl a), .agg (rl b)] [.one (.int .i64 (cmpQ a b))] :=
  w tt Tryz.func138 rfl [.c [] (c_cross ha hb), .c [] (c_WCmp (isInt_n _) (isInt_n _) (Nat.le_trans (isz_mul _ _) (by have := ha.1; have := hb.2; omega)) (Nat.le_trans (isz_mul _ _) (by have := hb.1; have := ha.2; omega)))] rfl rfl trivial
theorem c_rMax {x y x' y' : LV} {n d : Int} (h1 : IsInt x y n) (h2 : IsInt x' y' d) (hn : isz n ≤ 4294967295) (hd : isz d ≤ 4294967295) : Does Tryz.prog 82 [.agg [x, y, x', y'], .one (.row [])] [.agg (rl (ratOf n d))] := by
  have c1 := c_rnorm h1 h2 hn hd
  obtain ⟨b, l, rfl, rfl, _⟩ := h1
  obtain ⟨b', l', rfl, rfl, _⟩ := h2
  refine fnD Tryz.func82 rfl ?_
  refine go tt [.c [] c1] rfl trivial ?_
  refine lp (S := Unit) 3 (fun L1 _ => (12, .v (.one (.int .i64 0))) :: L1) (fun _ => [.blk 41 [.bool b, .row (lm l), .bool b', .row (lm l')], .blk 41 [.bool false, .nils, .bool false, .nils], .blk 41 (rl (ratOf n d))]) (fun _ => 0) (fun _ => True) () trivial rfl (fun _ _ => rfl) rfl fun _ _ => ?_
  exact en tt [.f (by simp)] rfl rfl trivial
theorem c_rMaxQ {q : Rat} (hq : Qs 4294967295 q) : Does Tryz.prog 82 [.agg (rl q), .one (.row [])] [.agg (rl q)] := by
  have := c_rMax (isInt_n q.num) (isInt_n (q.den : Int)) hq.1 hq.2
  rwa [ratOf_q] at this
theorem c_plain {q : Rat} (hq : Qs 4294967295 q) : Does Tryz.prog 239 [.agg (rl q)] [.agg (rl q)] := w tt Tryz.func239 rfl [.c [] (c_rMaxQ hq)] rfl rfl trivial
theorem c_PSign {p : List Int} {q : Rat} {s t : Nat} (tp : Trim p) (hl : p.length < 274877906944) (hp : Bd s p) (hq : Qs t q) (hst : s + p.length * (t + 1) + 2 * t + 10 ≤ 4294967295) : Does Tryz.prog 192 [pr p, .agg (rl q)] [.one (.int .i64 (psign p q))] := by
  have cc := c_WCmp (isInt_n (pval p q.num q.den)) isInt_zero (Nat.le_trans (valk_bd hp hq.1 hq.2).1 (by omega)) (by decide)
  exact w tt Tryz.func192 rfl [.c [] (c_plain (hq.mono (by omega))), .c [] (c_PNormT tp hl (bd_mono hp (by omega))), .c [] (c_Pvalue hl hp hq.1 hq.2 hst), .c [] cc] rfl rfl trivial
end Orr

namespace Orr
open Go Go.Proofs
set_option maxRecDepth 10000
theorem c_over {p : List Int} {g : Int} (hl : p.length < 274877906944) (hp : Bd 4294967295 p) (hg : isz g ≤ 4294967295) (h0 : g ≠ 0) (hd : ∀ z ∈ p, z % g = 0) : Does Tryz.prog 121 [pr p, .agg (ofI g)] [pr (trim (p.map (· / g)))] := by
  refine fnD Tryz.func121 rfl ?_
  refine go tt [.r 9 (eI (b := (p.length : Int)) (by simp)), .i p.length, .i p.length, .r 12 (eI (b := (p.length : Int)) (by simp))] rfl (by simp [AllP]; omega) ?_
  rw [fil_zero fun k => ofI (p.getD k 0 / g)]
  refine lp (S := Nat) 2 (fun L1 k => (13, .v (.one (.int .i64 (k : Int)))) :: L1) (fun k => [.blk 29 (ofI g), .row false 29 2 (fil (fun k => ofI (p.getD k 0 / g)) [.bool false, .nils] p.length k)]) (fun k => p.length - k) (fun k => k ≤ p.length) 0 (Nat.zero_le _) rfl (fun _ _ => rfl) rfl fun k hk => ?_
  by_cases hlt : k < p.length
  · have hg2 := getD_get hlt
    refine go tt [.t (by simp; omega), .x (pl_get hg2), .c [] (c_Exact (isInt_n _) (isInt_n _) (bd_getD hp k) hg h0 (hd _ (List.mem_of_getElem? hg2))), .i k] rfl (by simp [AllP, fil_len]; omega) ?_
    have e := fil_set (fun k => ofI (p.getD k 0 / g)) [.bool false, .nils] hlt
    rw [e]
    exact rd (k + 1) (by omega) hlt rfl
  · obtain rfl : k = p.length := by omega
    have e : fil (fun k => ofI (p.getD k 0 / g)) [.bool false, .nils] p.length p.length = (p.map (· / g)).map ofI := by
      rw [fil_all]
      refine List.ext_getElem? fun i => ?_
      by_cases hi : i < p.length
      · simp [List.getElem?_range hi, List.getD, List.getElem?_eq_getElem hi]
      · simp [List.getElem?_eq_none, hi]
    rw [e]
    exact en tt [.f (by simp), .c [] (c_PNorm (isInts_n (p.map (· / g))) (by simp; exact hl) (bd_div hp g))] rfl rfl trivial
theorem pl_two (p : List Int) : ∀ c ∈ p.map ofI, c.length = 2 := map_w p fun _ => rfl
theorem c_cnorm {lx ly : List (List LV)} {px py : List Int} {x y : LV} {d : Int} (hx : IsInts lx px) (hy : IsInts ly py) (hd : IsInt x y d) (hk : Cs 4294967294 1073741824 (Crv.mk px py d)) : Does Tryz.prog 74 [.agg [.row lx, .row ly, x, y]] [.agg (cl (Crv.norm (Crv.mk px py d)))] := by
  have hlx := hk.lx
  have hly := hk.ly
  simp only at hlx hly
  have htx := trim_len px
  have hty := trim_len py
  have hd1 : isz (Crv.mk px py d).d' ≤ 4294967295 := Nat.le_trans (isz_d' hk.d (by omega)) (by omega)
  have hg1 := Crv.isz_g (Crv.mk px py d) hd1
  have hg0 := Crv.g_ne (Crv.mk px py d)
  have hgd := Crv.g_dvd (Crv.mk px py d)
  have cx := c_PNorm hx (by omega) (bd_mono hk.x (by omega))
  have cy := c_PNorm hy (by omega) (bd_mono hk.y (by omega))
  have cd := c_WNorm hd (Nat.le_trans hk.d (by omega))
  have bx : Bd 4294967295 (trim px) := bd_mono (bd_trim hk.x) (by omega)
  have by_ : Bd 4294967295 (trim py) := bd_mono (bd_trim hk.y) (by omega)
  obtain ⟨b, l, rfl, rfl, _⟩ := hd
  obtain ⟨e, he⟩ : ∃ e, e = (Crv.mk px py d).d' := ⟨_, rfl⟩
  obtain ⟨g, hgg⟩ : ∃ g, g = (Crv.mk px py d).g := ⟨_, rfl⟩
  obtain ⟨X, hX⟩ : ∃ X, X = trim px := ⟨_, rfl⟩
  obtain ⟨Y, hY⟩ : ∃ Y, Y = trim py := ⟨_, rfl⟩
  have hnorm : (Crv.mk px py d).norm = ⟨trim (X.map (· / g)), trim (Y.map (· / g)), e / g⟩ := by rw [he, hgg, hX, hY]; rfl
  rw [hnorm]
  have hgdef : g = if e < 0 then -((gcdL (e :: (X ++ Y)) : Nat) : Int) else (gcdL (e :: (X ++ Y)) : Nat) := by rw [hgg, he, hX, hY]; rfl
  have hde : e = if d = 0 then 1 else d := by rw [he]; rfl
  simp only [← he, ← hgg, ← hX, ← hY] at hd1 hg1 hg0 hgd htx hty cx cy bx by_
  clear hnorm hgg he hX hY
  refine fnD Tryz.func74 rfl ?_
  refine go tt [.c [] cx, .c [] cy, .c [] cd, .c [] c_Zero] rfl trivial ?_
  refine ct 1 (S := Unit) (fun _ => [(2, .v (.one (.ow 1 0))), (3, .v (pr X)), (4, .v (pr Y)), (5, .v (.one (.ow 2 0)))]) (fun _ => [.blk 31 [.row lx, .row ly, .bool b, .row (lm l)], .blk 31 [.nils, .nils, .bool false, .nils], .blk 29 (ofI e)]) (fun _ => True) rfl ?_ ?_
  · by_cases h0 : d = 0
    · rw [hde, if_pos h0]
      exact go tt [.t (by simpa using h0), .c [] (c_Of (z := 1) (by decide))] rfl trivial (rc () trivial rfl)
    · rw [hde, if_neg h0]
      exact go tt [.f (by simpa using h0)] rfl trivial (rc () trivial rfl)
  · intro _ _
    have hgi : IsInts ([ofI e] ++ X.map ofI ++ Y.map ofI) (e :: (X ++ Y)) := by
      have := isInts_n (e :: (X ++ Y))
      simpa using this
    have hgs : ∀ z ∈ e :: (X ++ Y), isz z ≤ 4294967295 := fun z hz => by
      rcases List.mem_cons.1 hz with rfl | hz
      · exact hd1
      · rcases List.mem_append.1 hz with hz | hz
        · exact bx z hz
        · exact by_ z hz
    have cg := c_Gcd hgi hgs
    have co1 := c_over (p := X) (by omega) bx hg1 hg0 fun z hz => hgd z (List.mem_cons_of_mem _ (List.mem_append_left _ hz))
    have co2 := c_over (p := Y) (by omega) by_ hg1 hg0 fun z hz => hgd z (List.mem_cons_of_mem _ (List.mem_append_right _ hz))
    have ce := c_Exact (isInt_n e) (isInt_n g) hd1 hg1 hg0 (hgd e (List.mem_cons_self ..))
    have hszg := gcdL_sz hgs
    by_cases hneg : e < 0
    · rw [if_pos hneg] at hgdef
      have cn := c_Neg (isInt_n ((gcdL (e :: (X ++ Y)) : Nat) : Int)) hszg
      rw [← hgdef] at cn
      exact en tt [.lo, .s (pl_two X), .s (pl_two Y), .c [] cg, .t (by simpa using hneg), .c [] cn, .c [] ce, .c [] co1, .c [] co2] rfl rfl (by simp [AllP]; omega)
    · rw [if_neg hneg] at hgdef
      rw [← hgdef] at cg
      exact en tt [.lo, .s (pl_two X), .s (pl_two Y), .c [] cg, .f (by simpa using hneg), .c [] ce, .c [] co1, .c [] co2] rfl rfl (by simp [AllP]; omega)
theorem c_cMake {lx ly : List (List LV)} {px py : List Int} {x y : LV} {d : Int} (hx : IsInts lx px) (hy : IsInts ly py) (hd : IsInt x y d) (hk : Cs 4294967294 1073741824 (Crv.mk px py d)) (h0 : d ≠ 0) : Does Tryz.prog 215 [.one (.row lx), .one (.row ly), .agg [x, y]] [.agg (cl (Crv.norm (Crv.mk px py d))), .one (.int .i64 0)] := by
  have cd := c_WNorm hd (Nat.le_trans hk.d (by omega))
  have cn := c_cnorm hx hy hd hk
  obtain ⟨b, l, rfl, rfl, _⟩ := hd
  exact w tt Tryz.func215 rfl [.c [] cd, .c [] c_Zero, .f (by simpa using h0), .c [] cn] rfl rfl trivial
theorem c_cOf {lx ly : List (List LV)} {px py : List Int} (hx : IsInts lx px) (hy : IsInts ly py) (hk : Cs 4294967294 1073741824 (Crv.mk px py 0)) : Does Tryz.prog 17 [.one (.row lx), .one (.row ly)] [.agg (cl (Crv.norm (Crv.mk px py 0)))] :=
  w tt Tryz.func17 rfl [.c [] (c_cnorm hx hy isInt_zero hk)] rfl rfl trivial
def still (x y : Int) : Crv := Crv.norm ⟨trim [x], trim [y], 0⟩
theorem cs_still {x y : Int} (hx : -9223372036854775808 ≤ x ∧ x ≤ 9223372036854775807) (hy : -9223372036854775808 ≤ y ∧ y ≤ 9223372036854775807) : Cs 64 1 ⟨trim [x], trim [y], 0⟩ := by
  have key : ∀ z : Int, -9223372036854775808 ≤ z ∧ z ≤ 9223372036854775807 → isz z ≤ 64 := fun z hz => by
    rw [isz_le]
    have : (2 : Nat) ^ 64 = 18446744073709551616 := by decide
    omega
  refine ⟨bd_trim fun z hz => ?_, bd_trim fun z hz => ?_, Nat.zero_le _, trim_len [x], trim_len [y]⟩
  · rw [List.mem_singleton] at hz; rw [hz]; exact key x hx
  · rw [List.mem_singleton] at hz; rw [hz]; exact key y hy
theorem c_Still {x y : Int} (hx : -9223372036854775808 ≤ x ∧ x ≤ 9223372036854775807) (hy : -9223372036854775808 ≤ y ∧ y ≤ 9223372036854775807) : Does Tryz.prog 59 [.one (.int .i64 x), .one (.int .i64 y)] [.agg (cl (still x y))] :=
  w tt Tryz.func59 rfl [.c [] (c_POf (p := [x]) (show 1 < 274877906944 by decide) (by intro z hz; rw [List.mem_singleton] at hz; rw [hz]; exact hx)), .c [] (c_POf (p := [y]) (show 1 < 274877906944 by decide) (by intro z hz; rw [List.mem_singleton] at hz; rw [hz]; exact hy)), .c [] (c_cOf (isInts_n _) (isInts_n _) ((cs_still hx hy).mono (by omega) (by omega)))] rfl rfl trivial
end Orr

namespace Orr
open Go Go.Proofs
set_option maxRecDepth 10000
theorem pt_get {l : List Pt} {i : Nat} {p : Pt} (h : l[i]? = some p) : (l.map ofPt)[i]? = some [pl p.c.x, pl p.c.y, sg p.c.d, mg p.c.d, .int .i64 p.id] := map_get h
theorem pts_five (l : List Pt) : ∀ c ∈ l.map ofPt, c.length = 5 := map_w l fun _ => rfl
theorem c_fresh {lx ly : List (List LV)} {px py : List Int} {x y : LV} {d : Int} (hx : IsInts lx px) (hy : IsInts ly py) (hd : IsInt x y d) (hk : Cs 4294967294 1073741824 (Crv.mk px py d)) (id : Int) : Does Tryz.prog 165 [.agg [.row lx, .row ly, x, y, .int .i64 id]] [.agg (ofPt ⟨Crv.norm (Crv.mk px py d), id⟩)] := by
  have cd := c_WNorm hd (Nat.le_trans hk.d (by omega))
  by_cases h0 : d = 0
  · subst h0
    have ck : Cs 4294967294 1073741824 (Crv.mk px py 1) := ⟨hk.x, hk.y, show isz 1 ≤ 4294967294 by decide, hk.lx, hk.ly⟩
    have cm := c_cMake hx hy (isInt_n 1) ck (by decide)
    have e : Crv.norm (Crv.mk px py 1) = Crv.norm (Crv.mk px py 0) := by simp only [Crv.norm, Crv.g, Crv.d']; rfl
    rw [e] at cm
    obtain ⟨b, l, rfl, rfl, _⟩ := hd
    exact w tt Tryz.func165 rfl [.c [] cd, .c [] c_Zero, .t (by simp), .c [] (c_Of (z := 1) (by decide)), .c [] cm] rfl rfl trivial
  · have cm := c_cMake hx hy hd hk h0
    obtain ⟨b, l, rfl, rfl, _⟩ := hd
    exact w tt Tryz.func165 rfl [.c [] cd, .c [] c_Zero, .f (by simpa using h0), .c [] cm] rfl rfl trivial
theorem c_cat {l : List Pt} (id : Int) (hl : l.length < 1073741824) : Does Tryz.prog 164 [.agg [pts l], .one (.int .i64 id)] [.one (.int .i64 (pos l id : Int)), .one (.bool (has l id))] := by
  refine fnD Tryz.func164 rfl ?_
  refine go tt [] rfl trivial ?_
  refine ct 2 (S := Unit) (fun _ => [(1, .v (.one (.int .i64 id))), (2, .v (.one (.ow 0 0))), (6, .v (.one (.int .i64 (pos l id : Int))))]) (fun _ => [.blk 72 [pts l]]) (fun _ => True) rfl ?_ ?_
  · refine lp (S := Nat) 1 (fun L1 k => (6, .v (.one (.int .i64 (k : Int)))) :: L1) (fun _ => [.blk 72 [pts l]]) (fun k => l.length - k) (fun k => k ≤ l.length ∧ ∀ j p, j < k → l[j]? = some p → p.id < id) 0 ⟨Nat.zero_le _, fun j p h => by omega⟩ rfl (fun _ _ => rfl) rfl fun k ⟨hk, hlt⟩ => ?_
    by_cases h : k < l.length
    · obtain ⟨p, hp⟩ : ∃ p, l[k]? = some p := ⟨_, List.getElem?_eq_getElem h⟩
      by_cases hid : p.id < id
      · refine go tt [.t (by simp; omega), .x (pt_get hp), .t (by simpa using hid)] rfl (by simp [AllP]; omega) ?_
        exact rd (k + 1) (by omega) ⟨h, fun j q hj hq => by
          rcases Nat.lt_or_ge j k with h2 | h2
          · exact hlt j q h2 hq
          · have : j = k := by omega
            subst this; rw [hp] at hq; injection hq with hq; rw [← hq]; exact hid⟩ rfl
      · have e := pos_eq hlt (.inr ⟨p, hp, hid⟩)
        refine go tt [.t (by simp; omega), .x (pt_get hp), .f (by simpa using hid)] rfl trivial ?_
        rw [e]
        exact rc () trivial rfl
    · obtain rfl : k = l.length := by omega
      have e := pos_eq hlt (.inl rfl)
      refine go tt [.f (by simp), .f rfl] rfl trivial ?_
      rw [e]
      exact rc () trivial rfl
  · intro _ _
    by_cases h : pos l id < l.length
    · obtain ⟨p, hp⟩ : ∃ p, l[pos l id]? = some p := ⟨_, List.getElem?_eq_getElem h⟩
      have e : has l id = decide (p.id = id) := by simp [has, hp]
      rw [e]
      exact en tt [.g 30 true (by simp; omega), .x (pt_get hp)] rfl rfl trivial
    · have e : has l id = false := by simp [has, List.getElem?_eq_none (Nat.le_of_not_lt h)]
      rw [e]
      exact en tt [.g 30 false (by simp; omega)] rfl rfl trivial
theorem c_List {l : List Pt} : Does Tryz.prog 126 [.agg [pts l]] [.one (pts l)] := w tt Tryz.func126 rfl [] rfl rfl trivial
theorem c_Put {lx ly : List (List LV)} {px py : List Int} {x y : LV} {d id : Int} {l : List Pt} (hx : IsInts lx px) (hy : IsInts ly py) (hd : IsInt x y d) (hk : Cs 4294967294 1073741824 (Crv.mk px py d)) (hl : l.length ≤ 1000000) :
    Does Tryz.prog 104 [.agg [pts l], .agg [.row lx, .row ly, x, y, .int .i64 id]] [.agg [pts (if putE l (Pt.mk (Crv.norm (Crv.mk px py d)) id) = 0 then put l (Pt.mk (Crv.norm (Crv.mk px py d)) id) else l)], .one (.int .i64 (putE l (Pt.mk (Crv.norm (Crv.mk px py d)) id)))] := by
  have ca := c_cat (l := l) id (by omega)
  have cf := c_fresh hx hy hd hk id
  obtain ⟨b, r, rfl, rfl, _⟩ := hd
  obtain ⟨q, hq⟩ : ∃ q, q = Pt.mk (Crv.norm (Crv.mk px py d)) id := ⟨_, rfl⟩
  have hqi : q.id = id := by rw [hq]
  rw [← hq] at cf ⊢
  have hpl := pos_le l id
  by_cases h1 : has l id = true
  · have e : putE l q = 6 := by simp [putE, hqi, h1]
    rw [e, if_neg (by decide)]
    exact w tt Tryz.func104 rfl [.c [] ca, .t h1] rfl rfl trivial
  by_cases h2 : 6 ≤ l.length
  · have e : putE l q = 9 := by simp [putE, hqi, h1, h2]
    rw [e, if_neg (by decide)]
    exact w tt Tryz.func104 rfl [.c [] ca, .f (by simpa using h1), .t (by simp; omega)] rfl rfl trivial
  have e : putE l q = 0 := by simp [putE, hqi, h1, h2]
  rw [e, if_pos rfl]
  have s1 : ∀ c ∈ (l.map ofPt).take (pos l id), c.length = 5 := fun c hc => pts_five l c (List.mem_of_mem_take hc)
  have s3 : ∀ c ∈ (l.map ofPt).drop (pos l id), c.length = 5 := fun c hc => pts_five l c (List.mem_of_mem_drop hc)
  refine w tt Tryz.func104 rfl [.c [] ca, .f (by simpa using h1), .f (by simp; omega), .i (pos l id), .s s1, .c [] cf, .i (pos l id), .s s3] rfl ?_ ?_
  · simp [put, hqi, pts, List.map_take, List.map_drop, ofPt]
  · simp [AllP]
    exact ⟨by omega, hpl, fun _ _ => rfl, by omega, by omega, hpl⟩
theorem newL_len : ∀ (qs : List Pt), (newL [] qs).1.length ≤ qs.length := by
  have key : ∀ (qs acc : List Pt), (newL acc qs).1.length ≤ acc.length + qs.length := by
    intro qs
    induction qs with
    | nil => intro acc; simp [newL]
    | cons q qs ih =>
      intro acc
      simp only [newL]
      split
      · have := ih (put acc q); rw [put_len] at this; simp only [List.length_cons]; omega
      · simp
  intro qs
  have := key qs []
  simpa using this
theorem c_New {zs : List (List LV)} {qs : List Pt} (hz : IsPts 4294967294 1073741824 zs qs) (hl : qs.length ≤ 6) : Does Tryz.prog 77 [.one (.row zs)] [.agg [pts (newL [] qs).1], .one (.int .i64 (newL [] qs).2)] := by
  refine fnD Tryz.func77 rfl ?_
  have hzl := hz.len
  refine go tt [.f (by simp; omega)] rfl trivial ?_
  refine nlb 1 rfl rfl rfl ?_
  refine lp (S := Nat) 2 (fun L1 i => (14, .v (.one (.int .i64 (i : Int)))) :: L1) (fun i => [.blk 72 [.nils], .blk 72 [pts (newL [] (qs.take i)).1]]) (fun i => qs.length - i) (fun i => i ≤ qs.length ∧ (newL [] (qs.take i)).2 = 0) 0 ⟨Nat.zero_le _, rfl⟩ rfl (fun _ _ => rfl) rfl fun i ⟨hi, h0⟩ => ?_
  by_cases hlt : i < qs.length
  · have hqi : qs[i]? = some qs[i] := List.getElem?_eq_getElem hlt
    obtain ⟨z, hzi, lx, ly, b, r, px, py, d, rfl, hx, hy, hd, hk, hc⟩ := hz.get hqi
    have hq : (Pt.mk (Crv.norm (Crv.mk px py d)) qs[i].id) = qs[i] := by rw [← hc]
    have hst := newL_step [] qs hqi (by rw [← h0])
    have hnl := newL_len (qs.take i)
    have cp := c_Put (l := (newL [] (qs.take i)).1) (id := qs[i].id) hx hy hd hk (by rw [List.length_take] at hnl; omega)
    rw [hq] at cp
    by_cases he : putE (newL [] (qs.take i)).1 qs[i] = 0
    · rw [if_pos he] at hst
      rw [he, if_pos rfl] at cp
      refine go tt [.t (by simp; omega), .x hzi, .c [] cp, .f rfl] rfl (by simp [AllP]; omega) ?_
      exact rd (i + 1) (by omega) ⟨hlt, by rw [hst]⟩ (by rw [hst]; rfl)
    · rw [if_neg he] at hst
      have herr := newL_err [] qs he hst
      rw [herr]
      exact en tt [.t (by simp; omega), .x hzi, .c [] cp, .t (by simpa using he)] rfl rfl trivial
  · obtain rfl : i = qs.length := by omega
    rw [List.take_length] at h0
    rw [List.take_length, h0]
    exact en tt [.f (by simp; omega)] rfl rfl trivial
end Orr

namespace Orr
open Go Go.Proofs
set_option maxRecDepth 10000
theorem trim_qa (q : Rat) : Trim [-q.num, (q.den : Int)] := by
  have := q.den_nz
  simp [Trim, trim, this]
theorem bd_qa {s : Nat} {q : Rat} (h : Qs s q) : Bd s [-q.num, (q.den : Int)] := fun z hz => by
  simp at hz
  rcases hz with rfl | rfl
  · rw [isz_neg]; exact h.1
  · exact h.2
theorem c_aOf {x y x' y' : LV} {n d : Int} (h1 : IsInt x y n) (h2 : IsInt x' y' d) (hn : isz n ≤ 4294967295) (hd : isz d ≤ 4294967295) (hq : Qs 4294967295 (ratOf n d)) : Does Tryz.prog 78 [.agg [x, y, x', y']] [.agg (qa (ratOf n d))] := by
  have c1 := c_rMax h1 h2 hn hd
  obtain ⟨b, l, rfl, rfl, _⟩ := h1
  obtain ⟨b', l', rfl, rfl, _⟩ := h2
  exact w tt Tryz.func78 rfl [.c [] c1, .c [] (c_Neg (isInt_n _) hq.1), .c [] (c_rMaxQ hq)] rfl rfl trivial
theorem c_pnorm {k : Crv} (hn : Nml k) (hk : Cs 4294967294 1073741824 k) : Does Tryz.prog 183 [.agg (cl k)] [.agg (cl k)] := by
  have h0 : k.d ≠ 0 := by have := hn.2.2.1; omega
  have cm := c_cMake (isInts_n k.x) (isInts_n k.y) (isInt_n k.d) hk h0
  rw [show Crv.mk k.x k.y k.d = k from rfl, Crv.norm_of hn] at cm
  exact w tt Tryz.func183 rfl [.c [] (c_WNorm (isInt_n k.d) (Nat.le_trans hk.d (by omega))), .c [] c_Zero, .f (by simpa using h0), .c [] cm] rfl rfl trivial
theorem c_Right {a b : Crv} (ha : Nml a) (hb : Nml b) (ca : Cb a) (cb : Cb b) : Does Tryz.prog 188 [.agg (cl a), .agg (cl b)] [pr (pright a b)] := by
  have l1 := ca.lx
  have l2 := cb.lx
  have l3 := len_pscale b.x a.d
  have l4 := len_pscale a.x b.d
  exact w tt Tryz.func188 rfl [.c [] (c_pnorm ha (ca.mono (by omega) (by omega))), .c [] (c_pnorm hb (cb.mono (by omega) (by omega))), .c [] (c_PScale (by omega) (bd_mono cb.x (by omega)) (Nat.le_trans ca.d (by omega))), .c [] (c_PScale (by omega) (bd_mono ca.x (by omega)) (Nat.le_trans cb.d (by omega))), .c [] (c_PSub (by omega) (by omega) (bd_mono (bd_pscale cb.x ca.d) (by omega)) (bd_mono (bd_pscale ca.x cb.d) (by omega)))] rfl rfl trivial
theorem c_Above {a b : Crv} (ha : Nml a) (hb : Nml b) (ca : Cb a) (cb : Cb b) : Does Tryz.prog 189 [.agg (cl a), .agg (cl b)] [pr (pabove a b)] := by
  have l1 := ca.ly
  have l2 := cb.ly
  have l3 := len_pscale b.y a.d
  have l4 := len_pscale a.y b.d
  exact w tt Tryz.func189 rfl [.c [] (c_pnorm ha (ca.mono (by omega) (by omega))), .c [] (c_pnorm hb (cb.mono (by omega) (by omega))), .c [] (c_PScale (by omega) (bd_mono cb.y (by omega)) (Nat.le_trans ca.d (by omega))), .c [] (c_PScale (by omega) (bd_mono ca.y (by omega)) (Nat.le_trans cb.d (by omega))), .c [] (c_PSub (by omega) (by omega) (bd_mono (bd_pscale cb.y ca.d) (by omega)) (bd_mono (bd_pscale ca.y cb.d) (by omega)))] rfl rfl trivial
def plrow (ps : List (List Int)) : List (List LV) := ps.map fun p => [pl p]
theorem plrow_get {ps : List (List Int)} {i : Nat} {p : List Int} (h : ps[i]? = some p) : (plrow ps)[i]? = some [pl p] := map_get h
end Orr

namespace Orr
open Go Go.Proofs
set_option maxRecDepth 10000
theorem c_points5 : Does Tryz.prog 186 [.one (.int .i64 5)] [.one (.int .i64 4)] := w tt Tryz.func186 rfl [.f rfl, .f rfl, .f rfl, .f rfl, .t rfl] rfl rfl trivial
theorem c_Less {k i0 i1 i2 i3 l j0 j1 j2 j3 : Int} : Does Tryz.prog 153 [.agg [.int .i64 k, .int .i64 i0, .int .i64 i1, .int .i64 i2, .int .i64 i3], .agg [.int .i64 l, .int .i64 j0, .int .i64 j1, .int .i64 j2, .int .i64 j3]] [.one (.bool (lessI [k, i0, i1, i2, i3] [l, j0, j1, j2, j3]))] := by
  by_cases hk : k = l
  · subst hk
    rw [show lessI [k, i0, i1, i2, i3] [k, j0, j1, j2, j3] = lessI [i0, i1, i2, i3] [j0, j1, j2, j3] from by simp [lessI]]
    refine fnD Tryz.func153 rfl ?_
    refine go tt [.f (by simp)] rfl trivial ?_
    refine lp (S := Nat) 2 (fun L1 i => (19, .v (.one (.int .i64 (i : Int)))) :: L1) (fun _ => [.blk 159 [.int .i64 k, .int .i64 i0, .int .i64 i1, .int .i64 i2, .int .i64 i3], .blk 159 [.int .i64 k, .int .i64 j0, .int .i64 j1, .int .i64 j2, .int .i64 j3]]) (fun i => 4 - i) (fun i => i ≤ 4 ∧ lessI ([i0, i1, i2, i3].drop i) ([j0, j1, j2, j3].drop i) = lessI [i0, i1, i2, i3] [j0, j1, j2, j3]) 0 ⟨by omega, rfl⟩ rfl (fun _ _ => rfl) rfl fun i ⟨hi, he⟩ => ?_
    rw [← he]
    rcases (show i = 0 ∨ i = 1 ∨ i = 2 ∨ i = 3 ∨ i = 4 by omega) with rfl | rfl | rfl | rfl | rfl
    · by_cases h : i0 = j0
      · exact go tt [.t rfl, .i 0, .i 0, .f (by simpa using h)] rfl (by simp [AllP]) (rd 1 (by omega) ⟨by omega, by simp [lessI, h]⟩ rfl)
      · exact en tt [.t rfl, .i 0, .i 0, .t (by simpa using h), .i 0] rfl (by simp [lessI, h]) trivial
    · by_cases h : i1 = j1
      · exact go tt [.t rfl, .i 1, .i 1, .f (by simpa using h)] rfl (by simp [AllP]) (rd 2 (by omega) ⟨by omega, by simp [lessI, h]⟩ rfl)
      · exact en tt [.t rfl, .i 1, .i 1, .t (by simpa using h), .i 1] rfl (by simp [lessI, h]) trivial
    · by_cases h : i2 = j2
      · exact go tt [.t rfl, .i 2, .i 2, .f (by simpa using h)] rfl (by simp [AllP]) (rd 3 (by omega) ⟨by omega, by simp [lessI, h]⟩ rfl)
      · exact en tt [.t rfl, .i 2, .i 2, .t (by simpa using h), .i 2] rfl (by simp [lessI, h]) trivial
    · by_cases h : i3 = j3
      · exact go tt [.t rfl, .i 3, .i 3, .f (by simpa using h)] rfl (by simp [AllP]) (rd 4 (by omega) ⟨by omega, by simp [lessI, h]⟩ rfl)
      · exact en tt [.t rfl, .i 3, .i 3, .t (by simpa using h), .i 3] rfl (by simp [lessI, h]) trivial
    · exact en tt [.f rfl] rfl (by simp [lessI]) trivial
  · exact w tt Tryz.func153 rfl [.t (by simpa using hk)] rfl (by simp [lessI, hk]) trivial
abbrev zCt : List LV := [.int .i64 0, .int .i64 0, .int .i64 0, .int .i64 0, .int .i64 0, .nils, .int .i64 0]
def ctrow (l : List Ct) : List (List LV) := l.map ofCt
theorem ct_get {l : List Ct} {i : Nat} {c : Ct} (h : l[i]? = some c) : (ctrow l)[i]? = some (ofCt c) := map_get h
theorem ct_len (l : List Ct) : (ctrow l).length = l.length := by simp [ctrow]
theorem ct_seven (l : List Ct) : ∀ c ∈ ctrow l, c.length = 7 := fun c hc => by
  obtain ⟨x, _, rfl⟩ := List.mem_map.1 hc; rfl
theorem ins_eq {O : List Ct} {z : List LV} {c : Ct} {k m : Nat} {l2 : List (List LV)} (hk : k ≤ O.length) (hp : posC O c O.length = k) (hm : m = O.length - k) (h2 : l2.take m = ((ctrow O ++ [z]).drop k).take m) :
    ((ctrow O ++ [z]).take (k + 1) ++ (l2.take m ++ (ctrow O ++ [z]).drop (k + 1 + m))).set k (ofCt c) = ctrow (insC O c) := by
  rw [h2, ← List.append_assoc, ins_copy (ctrow O) z (ofCt c) (by rw [ct_len]; omega) (by rw [ct_len]; omega)]
  simp [insC, hp, ctrow, List.map_take, List.map_drop]
theorem c_Sort {l : List Ct} (hl : ∀ c ∈ l, Pb c.p) (hn : l.length ≤ 1000000) : Does Tryz.prog 90 [.one (.row (ctrow l))] [.one (.row (ctrow (sortC l)))] := by
  have hcl := ct_len l
  refine fnD Tryz.func90 rfl ?_
  refine go tt [.o 3 161 7] rfl trivial ?_
  refine lp (S := Nat) 1 (fun L1 i => (9, .v (.one (.int .i64 (i : Int)))) :: (3, .v (.one (.orow 0 7 none))) :: L1) (fun i => [.row false 161 7 (ctrow (sortC (l.take i)))]) (fun i => l.length - i) (fun i => i ≤ l.length) 0 (Nat.zero_le _) rfl (fun _ _ => rfl) rfl fun i hi => ?_
  by_cases hlt : i < l.length
  · obtain ⟨c, hc⟩ : ∃ c, l[i]? = some c := ⟨_, List.getElem?_eq_getElem hlt⟩
    have hst := sortC_take hc
    have hcp := hl c (List.mem_of_getElem? hc)
    obtain ⟨O, hO⟩ : ∃ O, O = sortC (l.take i) := ⟨_, rfl⟩
    have hOl : O.length = i := by rw [hO, sortC_len, List.length_take]; omega
    rw [← hO] at hst ⊢
    refine go tt [.t (by simp [hcl]; omega), .x (ct_get hc)] rfl trivial ?_
    refine lp (S := Nat) 2 (fun L1 k => (6, .v (.one (.int .i64 (k : Int)))) :: L1) (fun k => [.row false 161 7 (ctrow O), .blk 161 (ofCt c)]) id (fun k => k ≤ O.length ∧ posC O c k = posC O c O.length) (ctrow O).length ⟨by rw [ct_len]; exact Nat.le_refl _, by rw [ct_len]⟩ rfl (fun _ _ => rfl) rfl fun k ⟨hk, hp⟩ => ?_
    have hz : ∀ y ∈ [zCt], y.length = 7 := fun y hy => by rw [List.mem_singleton.1 hy]; rfl
    have h77 : ∀ y ∈ ctrow O ++ [zCt], y.length = 7 := fun y hy => by
      rcases List.mem_append.1 hy with hy | hy
      · exact ct_seven O y hy
      · exact hz y hy
    cases k with
    | zero =>
      have hp : posC O c O.length = 0 := by rw [← hp]; rfl
      refine go tt [.g 17 false (by simp), .f rfl, .s (sz := 7) hz, .r 36 (eI (b := ((0 + 1 : Nat) : Int)) (by simp)), .i (0 + 1), .i (0), .s (sz := 7) (fun y hy => h77 y (List.mem_of_mem_take hy)), .i (O.length), .c [] (c_PNormT hcp.t (by have := hcp.l; omega) (bd_mono hcp.b (by omega))), .i (0)] rfl (by simp [AllP, ct_len]; omega) ?_
      exact rd (i + 1) (by omega) hlt (by rw [hst, ← ins_eq (z := zCt) (l2 := (ctrow O ++ [zCt]).take ((ctrow O ++ [zCt]).length - 0)) (k := 0) (m := O.length) (by omega) hp (by omega) (by congr 1; exact List.take_of_length_le (by simp))]; rfl)
    | succ k =>
      obtain ⟨x, hx⟩ : ∃ x, O[k]? = some x := ⟨_, List.getElem?_eq_getElem (by omega)⟩
      by_cases hlc : lessC c x = true
      · refine go tt [.g 17 true (by simp), .r 22 (eI (b := (k : Int)) (by simp)), .i k, .x (ct_get hx), .c [] c_Less, .t hlc, .r 29 (eI (b := (k : Int)) (by simp))] rfl (by simp [AllP, ct_len]; omega) ?_
        exact rd k (by simp) ⟨by omega, by rw [← hp, posC_on hx hlc]⟩ rfl
      · have hlc : lessC c x = false := by simpa using hlc
        have hp : posC O c O.length = k + 1 := by rw [← hp, posC_off hx hlc]
        refine go tt [.g 17 true (by simp), .r 22 (eI (b := (k : Int)) (by simp)), .i k, .x (ct_get hx), .c [] c_Less, .f hlc, .s (sz := 7) hz, .r 36 (eI (b := ((k + 1 + 1 : Nat) : Int)) (by simp)), .i (k + 1 + 1), .i (k + 1), .s (sz := 7) (fun y hy => h77 y (List.mem_of_mem_drop (List.mem_of_mem_take hy))), .i (O.length - (k + 1)), .c [] (c_PNormT hcp.t (by have := hcp.l; omega) (bd_mono hcp.b (by omega))), .i (k + 1)] rfl (by simp [AllP, ct_len]; omega) ?_
        exact rd (i + 1) (by omega) hlt (by rw [hst, ← ins_eq (z := zCt) (l2 := ((ctrow O ++ [zCt]).drop (k + 1)).take ((ctrow O ++ [zCt]).length - (k + 1))) (k := k + 1) (m := O.length - (k + 1)) (by omega) hp (by omega) (by congr 1; exact List.take_of_length_le (by simp))]; rfl)
  · obtain rfl : i = l.length := by omega
    rw [List.take_length]
    exact en tt [.f (by simp [hcl])] rfl rfl trivial
end Orr

namespace Orr
def lead (p : List Int) : Int := p.getD (p.length - 1) 0
/-- small enough -/
def chk (p : List Int) : Option (List Int) := if p.length ≤ 64 ∧ (p.all fun z => Nat.ble (isz z) 16777216) = true then some p else none
def chq (q : Rat) : Option Rat := if isz q.num ≤ 16777216 ∧ isz (q.den : Int) ≤ 16777216 then some q else none
/-! ### division -/
def pcont (p : List Int) : Int := (gcdL p : Nat)
def pover (p : List Int) (c : Int) : List Int := trim (p.map (· / c))
def pfac (p : List Int) : Int := if lead p < 0 then -pcont p else pcont p
def prime (p : List Int) : List Int := if p.length = 0 then [] else pover p (pfac p)
def mono (i : Nat) (x : Int) : List Int := List.replicate i 0 ++ [x]
/-- i steps more of a division: the quotient, and what is left -/
def psd (b : List Int) (c : Int) : Nat → List Int × List Int → List Int × List Int
  | 0, s => s
  | i + 1, (q, r) =>
    psd b c i (padd (pscale q c) (mono i (if r.length = b.length + i then lead r else 0)), psub (pscale r c) (pmul (trim (mono i (if r.length = b.length + i then lead r else 0))) b))
def prem (a b : List Int) : List Int := (psd b (lead b) (a.length + 1 - b.length) ([], a)).2
def pturn (a b r : List Int) : List Int := if (a.length + 1 - b.length) % 2 = 1 ∧ lead b < 0 then pneg r else r
def pnice (r : List Int) : List Int := if r.length = 0 then [] else pover r (pcont r)
def prest (a b : List Int) : List Int := pnice (pturn a b (prem a b))
def pexk (b : List Int) : Nat → List Int → List Int → Option (List Int)
  | 0, a, q => if a.length = 0 then some q else none
  | i + 1, a, q => if a.length < b.length + i then pexk b i a q else if lead a % lead b = 0 then pexk b i (psub a (pmul (trim (mono i (lead a / lead b))) b)) (q.set i (lead a / lead b)) else none
/-- a quotient that comes out even -/
def pquo (a b : List Int) : Option (List Int) := if b.length = 0 then none else (pexk b (a.length + 1 - b.length) a (List.replicate (a.length + 1 - b.length) 0)).bind fun q => chk (trim q)
/-! ### common divisors -/
def twoF : Nat → List Int → List Int → Option (List Int)
  | 0, _, _ => none
  | k + 1, a, b => if b.length = 0 then some a else (chk (prest a b)).bind fun r => twoF k b r
def ptwo (a b : List Int) : Option (List Int) := (twoF 66 (prime a) (prime b)).map prime
def pgcd (a b : List Int) : Option (List Int) := (ptwo [] a).bind fun g => ptwo g b
def psquare (a : List Int) : Option (List Int) := if (prime a).length < 2 then some (prime a) else (chk (pder (prime a))).bind fun d => (ptwo (prime a) d).bind fun g => pquo (prime a) g
def layF : Nat → List Int → Option (List (List Int))
  | 0, _ => none
  | k + 1, g => if g.length < 2 then some [] else (chk (pder g)).bind fun d => (ptwo g d).bind fun h => (pquo g h).bind fun w => (layF k h).bind fun l => some (w :: l)
def facL : List (List Int) → Option (List (List Int))
  | [] => some []
  | [w] => some [w]
  | w :: v :: l => (pquo w v).bind fun f => (facL (v :: l)).bind fun r => some (f :: r)
def oddF : Nat → List Int → List (List Int) → Option (List Int)
  | _, p, [] => some p
  | i, p, f :: l => if i % 2 = 0 then (chk (pmul p f)).bind fun q => oddF (i + 1) q l else oddF (i + 1) p l
def podd (a : List Int) : Option (List Int) := if (prime a).length = 0 then some [] else (layF 66 (prime a)).bind fun l => (facL l).bind fun fs => oddF 0 [1] fs
/-! ### Sturm's chains -/
def chF : Nat → List Int → List Int → Option (List (List Int))
  | 0, _, _ => none
  | k + 1, a, b => if b.length = 0 then some [] else (chk (prest a b)).bind fun r => (chF k b (pneg r)).bind fun l => some (b :: l)
def chain (p : List Int) : Option (List (List Int)) := (psquare p).bind fun a => if a.length = 0 then none else (chk (pder a)).bind fun d => (chF 66 a (prime d)).bind fun l => some (a :: l)
def turnF (sg : List Int → Int) (s : Nat × Int) (p : List Int) : Nat × Int := if sg p = 0 then s else (if s.2 = -(sg p) then s.1 + 1 else s.1, sg p)
def turns (sg : List Int → Int) (l : List (List Int)) : Nat := (l.foldl (turnF sg) (0, 0)).1
def turnsAt (l : List (List Int)) (q : Rat) : Nat := turns (fun p => psign p q) l
def between (l : List (List Int)) (lo hi : Rat) : Int := if cmpQ hi lo < 0 then 0 else (turnsAt l lo : Int) - (turnsAt l hi : Int)
def endP (p : List Int) : Int := Int.sign (lead p)
def endM (p : List Int) : Int := if p.length % 2 = 0 then -Int.sign (lead p) else Int.sign (lead p)
def rootsN (l : List (List Int)) : Int := (turns endM l : Int) - (turns endP l : Int)
def most : List Int → Nat := fun l => l.foldl (fun m z => if m < z.natAbs then z.natAbs else m) 0
def bound (p : List Int) : Rat := Rat.divInt (((lead p).natAbs : Int) + (most (p.take (p.length - 1)) : Int)) ((lead p).natAbs : Int)
/-! ### roots -/
def mid (a b : Rat) : Rat := Rat.divInt (a.num * (b.den : Int) + b.num * (a.den : Int)) ((a.den : Int) * (b.den : Int) * 2)
def rcutF (p : List Int) (c : List (List Int)) : Nat → Rat → Rat → Int → Option (List Tm)
  | 0, _, _, _ => none
  | k + 1, lo, hi, n => if n = 0 then some [] else if n = 1 then some [⟨p, lo, hi⟩] else (chq (mid lo hi)).bind fun m => (rcutF p c k lo m (between c lo m)).bind fun l => (rcutF p c k m hi (n - between c lo m)).bind fun r => some (l ++ r)
def roots (p : List Int) : Option (List Tm) := (chain p).bind fun c => (psquare p).bind fun q => (chq (bound q)).bind fun b => rcutF q c 100000 (-b) b (rootsN c)
/-! ### algebraic numbers -/
def Tm.point (a : Tm) : Bool := decide (0 ≤ cmpQ a.lo a.hi)
def low (p : List Int) (q : Rat) : Int := if psign p q ≠ 0 then psign p q else psign (pder p) q
def hasR (p : List Int) (lo hi : Rat) : Bool := decide (psign p hi = 0 ∨ psign p hi ≠ low p lo)
def cmpR (a : Tm) (t : Rat) : Int :=
  if a.point = true then cmpQ a.lo t else if cmpQ t a.lo ≤ 0 then 1 else if 0 < cmpQ t a.hi then -1 else if psign a.p t = 0 then 0 else if psign a.p t = low a.p a.lo then 1 else -1
def half (a : Tm) : Option Tm := if a.point = true then some a else (chq (mid a.lo a.hi)).bind fun m =>
  some (if cmpR a m = 0 then ⟨a.p, m, m⟩ else if cmpR a m = -1 then ⟨a.p, a.lo, m⟩ else ⟨a.p, m, a.hi⟩)
def psize (p : List Int) : Nat := p.foldl (fun n z => max n (isz z)) 0
def stepsN (a b : Tm) : Nat := 64 + 2 * (isz a.lo.num + isz a.hi.num + isz b.lo.num + isz b.hi.num) + 4 * (a.p.length + b.p.length) * (psize a.p + psize b.p + (a.p.length + b.p.length) + 8)
def rsub (a b : Rat) : Rat := Rat.divInt (a.num * (b.den : Int) - b.num * (a.den : Int)) ((a.den : Int) * (b.den : Int))
/-- a lies below b -/
def below (a b : Tm) : Bool := decide (cmpQ a.hi b.lo ≤ 0 ∧ ¬ ((a.point = true ∧ b.point = true) ∧ cmpQ a.hi b.lo = 0))
def apF : Nat → Tm → Tm → Option (Tm × Tm × Int)
  | 0, a, b => some (a, b, 0)
  | k + 1, a, b => if below a b = true then some (a, b, -1) else if below b a = true then some (a, b, 1) else
    if 0 ≤ cmpQ (rsub a.hi a.lo) (rsub b.hi b.lo) then (half a).bind fun x => apF k x b else (half b).bind fun x => apF k a x
def cmpO (a b : Tm) : Option Int := if a.point = true then some (-cmpR b a.lo) else if b.point = true then some (cmpR a b.lo) else
  let lo := if 0 < cmpQ b.lo a.lo then b.lo else a.lo
  let hi := if cmpQ b.hi a.hi < 0 then b.hi else a.hi
  if cmpQ lo hi < 0 then (pgcd a.p b.p).bind fun g => if 1 < g.length ∧ hasR g lo hi = true then some 0 else (apF (stepsN a b) a b).bind fun r => some r.2.2
  else (apF (stepsN a b) a b).bind fun r => some r.2.2
def sgF (c : List (List Int)) : Nat → Tm → Option Tm
  | 0, a => some a
  | k + 1, a => if a.point = true ∨ between c a.lo a.hi = 0 then some a else (half a).bind fun x => sgF c k x
def signO (p : List Int) (a : Tm) : Option Int := if p.length = 0 then some 0 else if a.point = true then some (psign p a.lo) else
  (pgcd p a.p).bind fun g => if 1 < g.length ∧ hasR g a.lo a.hi = true then some 0 else (chain p).bind fun c => (sgF c (64 + 2 * (isz a.lo.num + isz a.hi.num) + 4 * (a.p.length + p.length) * (psize a.p + psize p + (a.p.length + p.length) + 8)) a).bind fun x => some (psign p x.hi)
def leastF : Tm → List Tm → Option Tm
  | b, [] => some b
  | b, a :: l => (cmpO a b).bind fun c => leastF (if c < 0 then a else b) l
/-- the least one above a time -/
def nextF (a : Tm) : List Tm → Option (Option Tm)
  | [] => some none
  | r :: l => (cmpO r a).bind fun c => if 0 < c then some (some r) else nextF a l
def turnsP (p : List Int) : Option (List Tm) := (podd p).bind fun q => if q.length = 0 then some [] else roots q
def nextO (p : List Int) (a : Tm) : Option (Option Tm) := (turnsP p).bind fun l => nextF a l
end Orr

namespace Orr
open Go Go.Proofs
set_option maxRecDepth 10000
theorem lead_ne {p : List Int} (tp : Trim p) (h : p.length ≠ 0) : lead p ≠ 0 := trim_zero tp (by omega)
theorem lead_mem {p : List Int} (h : p.length ≠ 0) : lead p ∈ p := List.mem_of_getElem? (getD_get (by omega))
theorem isz_lead {s : Nat} {p : List Int} (h : Bd s p) : isz (lead p) ≤ s := bd_getD h _
theorem pcont_dvd {p : List Int} : ∀ z ∈ p, pcont p ∣ z := gcdL_dvd
theorem pcont_ne {p : List Int} (tp : Trim p) (h : p.length ≠ 0) : pcont p ≠ 0 := fun h0 => lead_ne tp h (Int.zero_dvd.1 (h0 ▸ pcont_dvd _ (lead_mem h)))
theorem isz_pcont {p : List Int} (h : Bd 4294967295 p) : isz (pcont p) ≤ 4294967295 := gcdL_sz h
theorem pfac_ne {p : List Int} (tp : Trim p) (h : p.length ≠ 0) : pfac p ≠ 0 := by
  have := pcont_ne tp h
  unfold pfac; split <;> omega
theorem pfac_dvd {p : List Int} : ∀ z ∈ p, pfac p ∣ z := fun z hz => by
  unfold pfac; split
  · exact Int.neg_dvd.2 (pcont_dvd z hz)
  · exact pcont_dvd z hz
theorem isz_pfac {p : List Int} (h : Bd 4294967295 p) : isz (pfac p) ≤ 4294967295 := by
  unfold pfac; split
  · rw [isz_neg]; exact isz_pcont h
  · exact isz_pcont h
theorem bd_pover {s : Nat} {p : List Int} (h : Bd s p) (c : Int) : Bd s (pover p c) := bd_trim (bd_div h c)
theorem len_pover (p : List Int) (c : Int) : (pover p c).length ≤ p.length := Nat.le_trans (trim_len _) (by simp)
theorem trim_pover (p : List Int) (c : Int) : Trim (pover p c) := trim_trim _
theorem pb_pover {p : List Int} (h : Pb p) (c : Int) : Pb (pover p c) := ⟨trim_pover _ _, Nat.le_trans (len_pover _ _) h.l, bd_pover h.b c⟩
theorem pb_nil : Pb [] := ⟨rfl, by simp, bd_nil⟩
theorem pb_prime {p : List Int} (h : Pb p) : Pb (prime p) := by
  unfold prime; split
  · exact pb_nil
  · exact pb_pover h _
theorem Pb.bd {p : List Int} (h : Pb p) : Bd 4294967295 p := bd_mono h.b (by omega)
theorem Pb.ln {p : List Int} (h : Pb p) : p.length < 274877906944 := Nat.lt_of_le_of_lt h.l (by omega)
theorem Pb.ln' {p : List Int} (h : Pb p) : p.length < 8589934592 := Nat.lt_of_le_of_lt h.l (by omega)
theorem chk_ok {p q : List Int} (tp : Trim p) (h : chk p = some q) : q = p ∧ Pb p := by
  unfold chk at h
  split at h
  · rename_i hc
    injection h with h
    refine ⟨h.symm, tp, hc.1, fun z hz => ?_⟩
    have := List.all_eq_true.1 hc.2 z hz
    exact Nat.le_of_ble_eq_true this
  · cases h
theorem c_dover {p : List Int} {g : Int} (hl : p.length < 274877906944) (hp : Bd 4294967295 p) (hg : isz g ≤ 4294967295) (h0 : g ≠ 0) (hd : ∀ z ∈ p, g ∣ z) : Does Tryz.prog 296 [pr p, .agg (ofI g)] [pr (pover p g)] := by
  refine fnD Tryz.func296 rfl ?_
  refine go tt [.r 9 (eI (b := (p.length : Int)) (by simp)), .i p.length, .i p.length, .r 12 (eI (b := (p.length : Int)) (by simp))] rfl (by simp [AllP]; omega) ?_
  rw [fil_zero fun k => ofI (p.getD k 0 / g)]
  refine lp (S := Nat) 2 (fun L1 k => (13, .v (.one (.int .i64 (k : Int)))) :: L1) (fun k => [.blk 29 (ofI g), .row false 29 2 (fil (fun k => ofI (p.getD k 0 / g)) [.bool false, .nils] p.length k)]) (fun k => p.length - k) (fun k => k ≤ p.length) 0 (Nat.zero_le _) rfl (fun _ _ => rfl) rfl fun k hk => ?_
  by_cases hlt : k < p.length
  · have hg2 := getD_get hlt
    refine go tt [.t (by simp; omega), .x (pl_get hg2), .c [] (c_Exact (isInt_n _) (isInt_n _) (bd_getD hp k) hg h0 (Int.emod_eq_zero_of_dvd (hd _ (List.mem_of_getElem? hg2)))), .i k] rfl (by simp [AllP, fil_len]; omega) ?_
    have e := fil_set (fun k => ofI (p.getD k 0 / g)) [.bool false, .nils] hlt
    rw [e]
    exact rd (k + 1) (by omega) hlt rfl
  · obtain rfl : k = p.length := by omega
    have e : fil (fun k => ofI (p.getD k 0 / g)) [.bool false, .nils] p.length p.length = (p.map (· / g)).map ofI := by
      rw [fil_all]
      refine List.ext_getElem? fun i => ?_
      by_cases hi : i < p.length
      · simp [List.getElem?_range hi, List.getD, List.getElem?_eq_getElem hi]
      · simp [List.getElem?_eq_none, hi]
    rw [e]
    exact en tt [.f (by simp), .c [] (c_PNorm (isInts_n (p.map (· / g))) (by simp; exact hl) (bd_div hp g))] rfl rfl trivial
theorem c_Content {p : List Int} (hl : p.length < 8589934592) (hp : Bd 4294967295 p) : Does Tryz.prog 297 [.one (.row [[pl p]])] [.agg (ofI (pcont p))] := by
  refine fnD Tryz.func297 rfl ?_
  refine go tt [.o 3 29 2] rfl trivial ?_
  refine lp (S := Nat) 2 (fun L1 i => (8, .v (.one (.int .i64 (i : Int)))) :: (3, .v (.one (.orow 1 2 none))) :: L1) (fun i => [.blk 29 [.bool false, .nils], .row false 29 2 (if i = 0 then [] else p.map ofI)]) (fun i => 1 - i) (fun i => i ≤ 1) 0 (Nat.zero_le _) rfl (fun _ _ => rfl) rfl fun i hi => ?_
  rcases (show i = 0 ∨ i = 1 by omega) with rfl | rfl
  · refine go tt [.t rfl, .x (i := 0) (xs := [pl p]) rfl, .s (pl_two p)] rfl (by simp [AllP]; omega) ?_
    exact rd 1 (by omega) (by omega) rfl
  · exact en tt [.f rfl, .c [] (c_Gcd (isInts_n p) hp)] rfl rfl trivial
theorem c_prim {p : List Int} (tp : Trim p) (hl' : p.length < 8589934592) (hp : Bd 4294967295 p) : Does Tryz.prog 271 [pr p] [.agg (ofI (if p.length = 0 then 0 else pfac p)), pr (prime p)] := by
  have hl : p.length < 274877906944 := by omega
  have cn := c_PNormT tp hl hp
  by_cases h0 : p.length = 0
  · have e : p = [] := List.eq_nil_of_length_eq_zero h0
    subst e
    exact w tt Tryz.func271 rfl [.c [] cn, .t rfl] rfl (by simp [ofI_zero, prime]; rfl) trivial
  · have hpf : prime p = pover p (pfac p) := by unfold prime; rw [if_neg h0]
    rw [if_neg h0, hpf]
    have co := c_dover hl hp (isz_pfac hp) (pfac_ne tp h0) pfac_dvd
    by_cases hneg : lead p < 0
    · have e : pfac p = -pcont p := by unfold pfac; rw [if_pos hneg]
      rw [e] at co ⊢
      exact w tt Tryz.func271 rfl [.c [] cn, .f (by simpa using h0), .c [] (c_Content hl' hp), .c [] (c_PLead tp hl hp), .t (by simpa [lead] using hneg), .c [] (c_Neg (isInt_n _) (isz_pcont hp)), .c [] co] rfl rfl trivial
    · have e : pfac p = pcont p := by unfold pfac; rw [if_neg hneg]
      rw [e] at co ⊢
      exact w tt Tryz.func271 rfl [.c [] cn, .f (by simpa using h0), .c [] (c_Content hl' hp), .c [] (c_PLead tp hl hp), .f (by simpa [lead] using hneg), .c [] co] rfl rfl trivial
theorem c_prime {p : List Int} (hp : Pb p) : Does Tryz.prog 264 [pr p] [pr (prime p)] :=
  w tt Tryz.func264 rfl [.c [] (c_prim hp.t hp.ln' hp.bd)] rfl rfl trivial
theorem c_Deg (p : List Int) : Does Tryz.prog 158 [pr p] [.one (.int .i64 ((p.length : Int) - 1))] := by
  have h : Does Tryz.prog 158 [pr p] [.one (.int .i64 (((p.map ofI).length : Int) - 1))] := fnD Tryz.func158 rfl (ln 0 rfl rfl fun hl => en tt [] rfl rfl (by simp [AllP] at hl ⊢; omega))
  rw [List.length_map] at h; exact h
/-! ### one step of a division -/
theorem mono_len (i : Nat) (x : Int) : (mono i x).length = i + 1 := by simp [mono]
theorem bd_mon {s i : Nat} {x : Int} (h : isz x ≤ s) : Bd s (mono i x) := fun z hz => by
  simp only [mono, List.mem_append, List.mem_singleton] at hz
  rcases hz with hz | rfl
  · rw [(List.mem_replicate.1 hz).2, isz_zero]; exact Nat.zero_le _
  · exact h
def stq (c : Int) (i : Nat) (x : Int) (q : List Int) : List Int := padd (pscale q c) (mono i x)
def str (b : List Int) (c : Int) (i : Nat) (x : Int) (r : List Int) : List Int := psub (pscale r c) (pmul (trim (mono i x)) b)
theorem bd_stq {u t i : Nat} {c x : Int} {q : List Int} (hq : Bd u q) (hc : isz c ≤ t) (hx : isz x ≤ u) : Bd (u + t + 8) (stq c i x q) :=
  bd_mono (bd_padd (bd_pscale hq hc) (bd_mon hx)) (by omega)
theorem len_stq {c x : Int} {i : Nat} {q : List Int} : (stq c i x q).length ≤ max q.length (i + 1) := by
  have h := len_padd (pscale q c) (mono i x)
  have h1 := len_pscale q c
  rw [mono_len] at h
  unfold stq; omega
theorem len_mb {i : Nat} {x : Int} {b : List Int} : (pmul (trim (mono i x)) b).length ≤ i + b.length := by
  have h := len_pmul (trim (mono i x)) b
  have h1 := trim_len (mono i x)
  rw [mono_len] at h1; omega
theorem bd_mb {u t i : Nat} {x : Int} {b : List Int} (hb : Bd t b) (hx : isz x ≤ u) (hi : i ≤ 64) : Bd (u + t + 7) (pmul (trim (mono i x)) b) :=
  bd_pmul (bd_trim (bd_mon hx)) hb (Nat.lt_of_le_of_lt (trim_len _) (by rw [mono_len]; omega))
theorem bd_str {u t i : Nat} {c x : Int} {b r : List Int} (hr : Bd u r) (hb : Bd t b) (hc : isz c ≤ t) (hx : isz x ≤ u) (hi : i ≤ 64) : Bd (u + t + 8) (str b c i x r) :=
  bd_mono (bd_psub (bd_pscale hr hc) (bd_mb hb hx hi)) (by omega)
theorem len_str {c x : Int} {i : Nat} {b r : List Int} : (str b c i x r).length ≤ max r.length (i + b.length) := by
  have h := len_psub (pscale r c) (pmul (trim (mono i x)) b)
  have h1 := len_pscale r c
  have h2 := len_mb (i := i) (x := x) (b := b)
  unfold str; omega
theorem mono_fil (i : Nat) (x : Int) : ((List.replicate (i + 1) (0 : Int)).map ofI).set i (ofI x) = (mono i x).map ofI := by
  rw [pl_set, mono]
  congr 1
  refine List.ext_getElem? fun j => ?_
  simp only [List.getElem?_set, List.getElem?_append, List.getElem?_replicate, List.length_replicate]
  by_cases h : j = i
  · subst h; simp
  · rw [if_neg (by omega)]
    by_cases h2 : j < i
    · simp [h2]; omega
    · rw [if_neg (by omega), if_neg h2]
      cases hj : j - i with
      | zero => omega
      | succ m => simp
theorem mono_nl (i : Nat) {x : Int} {y : List LV} (h : y.map nilR = ofI x) : (((List.replicate (i + 1) [LV.bool false, LV.nils]).set i y).map fun c => c.map nilR) = (mono i x).map ofI := by
  rw [List.map_set, rep_ofI, h]; exact mono_fil i x
theorem psd_step {b : List Int} {c : Int} {i : Nat} {q r : List Int} {x : Int} (hx : x = if r.length = b.length + i then lead r else 0) : psd b c (i + 1) (q, r) = psd b c i (stq c i x q, str b c i x r) := by
  subst hx; rfl
theorem c_Pseudo {a b : List Int} (ha : Pb a) (hb : Pb b) (h0 : b.length ≠ 0) : Does Tryz.prog 294 [pr a, pr b] [pr (psd b (lead b) (a.length + 1 - b.length) ([], a)).1, pr (prem a b), .one (.int .i64 ((a.length + 1 - b.length : Nat) : Int)), .one (.int .i64 0)] := by
  have hal := ha.l
  have hbl := hb.l
  have hlb : isz (lead b) ≤ 16777216 := isz_lead hb.b
  obtain ⟨c, hc⟩ : ∃ c, c = lead b := ⟨_, rfl⟩
  have cl := c_PLead hb.t hb.ln hb.bd
  rw [show b.getD (b.length - 1) 0 = c from hc.symm] at cl
  obtain ⟨k, hk⟩ : ∃ k, k = a.length + 1 - b.length := ⟨_, rfl⟩
  unfold prem
  rw [← hc, ← hk]
  rw [← hc] at hlb
  refine fnD Tryz.func294 rfl ?_
  refine go tt [.z 4, .c [] (c_PNormT ha.t ha.ln ha.bd), .c [] (c_PNormT hb.t hb.ln hb.bd), .f (by simpa using h0), .c [] cl, .c [] (c_Deg a), .c [] (c_Deg b), .r 27 (eI (b := (k : Int)) (by omega))] rfl (by simp [AllP]; omega) ?_
  refine lp (S := Nat × List Int × List Int) 1 (fun L1 s => (4, .v (pr s.2.1)) :: (5, .v (pr s.2.2)) :: (9, .v (.one (.int .i64 ((s.1 : Int) - 1)))) :: L1) (fun _ => [.blk 29 (ofI c)]) (fun s => s.1) (fun s => s.1 ≤ k ∧ Trim s.2.2 ∧ s.2.1.length ≤ 66 ∧ s.2.2.length ≤ a.length ∧ Bd (16777216 + (k - s.1) * 16777224) s.2.1 ∧ Bd (16777216 + (k - s.1) * 16777224) s.2.2 ∧ psd b c s.1 s.2 = psd b c k ([], a)) (k, [], a) ⟨Nat.le_refl _, ha.t, by simp, Nat.le_refl _, bd_nil, by simpa using ha.b, rfl⟩ rfl (fun _ _ => rfl) rfl fun ⟨i, q, r⟩ ⟨j1, j2, j3, j4, j5, j6, j7⟩ => ?_
  dsimp only at j1 j2 j3 j4 j5 j6 j7 ⊢
  rw [← j7]
  cases i with
  | zero => exact en tt [.f (by simp)] rfl rfl trivial
  | succ i =>
    obtain ⟨x, hx⟩ : ∃ x, x = if r.length = b.length + i then lead r else 0 := ⟨_, rfl⟩
    obtain ⟨u, hu⟩ : ∃ u, u = 16777216 + (k - (i + 1)) * 16777224 := ⟨_, rfl⟩
    rw [← hu] at j5 j6
    have hub : u ≤ 1107296256 := by
      have : (k - (i + 1)) * 16777224 ≤ 64 * 16777224 := Nat.mul_le_mul_right _ (by omega)
      omega
    have hxs : isz x ≤ u := by
      rw [hx]; split
      · exact isz_lead j6
      · rw [isz_zero]; exact Nat.zero_le _
    have cs := c_PScale (p := q) (c := c) (by omega) (bd_mono j5 (by omega)) (by omega)
    have cs2 := c_PScale (p := r) (c := c) (by omega) (bd_mono j6 (by omega)) (by omega)
    have l1 := len_pscale q c
    have l2 := len_pscale r c
    have ca := c_PAdd (p := pscale q c) (q := mono i x) (by omega) (by rw [mono_len]; omega) (bd_mono (bd_pscale j5 hlb) (by omega)) (bd_mono (bd_mon hxs) (by omega))
    have cm := c_PMulN (p0 := mono i x) hb.t (by rw [mono_len]; omega) (by omega) (bd_mon hxs) hb.b (by omega)
    have l3 := len_mb (i := i) (x := x) (b := b)
    have cb := c_PSub (p := pscale r c) (q := pmul (trim (mono i x)) b) (by omega) (by omega) (bd_mono (bd_pscale j6 hlb) (by omega)) (bd_mono (bd_mb hb.b hxs (by omega)) (by omega))
    have hst := psd_step (b := b) (c := c) (q := q) hx
    have hI : i ≤ k ∧ Trim (str b c i x r) ∧ (stq c i x q).length ≤ 66 ∧ (str b c i x r).length ≤ a.length ∧ Bd (16777216 + (k - i) * 16777224) (stq c i x q) ∧ Bd (16777216 + (k - i) * 16777224) (str b c i x r) := by
      have l5 := len_stq (c := c) (x := x) (i := i) (q := q)
      have l6 := len_str (c := c) (x := x) (i := i) (b := b) (r := r)
      have hku : u + 16777216 + 8 = 16777216 + (k - i) * 16777224 := by
        rw [hu, show k - i = (k - (i + 1)) + 1 from by omega, Nat.add_mul]; omega
      refine ⟨by omega, each_trim _ _, by omega, by omega, ?_, ?_⟩
      · rw [← hku]; exact bd_stq j5 hlb hxs
      · rw [← hku]; exact bd_str j6 hb.b hlb hxs (by omega)
    rw [hst]
    by_cases h : r.length = b.length + i
    · refine go tt [.t (by simp <;> omega), .c [] (c_Deg r), .c [] (c_Deg b), .t (by simp; omega), .c [] (c_PLead j2 (by omega) (bd_mono j6 (by omega))), .r 44 (eI (b := ((i + 1 : Nat) : Int)) (by omega)), .i (i + 1), .i (i + 1), .r 47 (eI (b := (i : Int)) (by omega)), .i i] rfl (by simp [AllP]; omega) ?_
      refine nl 2 rfl rfl rfl ?_
      rw [mono_nl i (x := x) (by rw [hx, if_pos h]; rfl)]
      refine go tt [.c [] cs, .c [] ca, .c [] cs2, .c [] cm, .c [] cb, .r 33 (eI (b := (i : Int) - 1) (by omega))] rfl (by simp [AllP]; omega) ?_
      exact rd (i, stq c i x q, str b c i x r) (by dsimp only; omega) ⟨hI.1, hI.2.1, hI.2.2.1, hI.2.2.2.1, hI.2.2.2.2.1, hI.2.2.2.2.2, rfl⟩ rfl
    · refine go tt [.t (by simp <;> omega), .c [] (c_Deg r), .c [] (c_Deg b), .f (by simp; omega), .r 44 (eI (b := ((i + 1 : Nat) : Int)) (by omega)), .i (i + 1), .i (i + 1), .r 47 (eI (b := (i : Int)) (by omega)), .i i] rfl (by simp [AllP]; omega) ?_
      refine nl 2 rfl rfl rfl ?_
      rw [mono_nl i (x := x) (by rw [hx, if_neg h, ofI_zero]; rfl)]
      refine go tt [.c [] cs, .c [] ca, .c [] cs2, .c [] cm, .c [] cb, .r 33 (eI (b := (i : Int) - 1) (by omega))] rfl (by simp [AllP]; omega) ?_
      exact rd (i, stq c i x q, str b c i x r) (by dsimp only; omega) ⟨hI.1, hI.2.1, hI.2.2.1, hI.2.2.2.1, hI.2.2.2.2.1, hI.2.2.2.2.2, rfl⟩ rfl
/-! ### remainders -/
theorem psd_ok {b : List Int} {c : Int} (hb : Bd 16777216 b) (hc : isz c ≤ 16777216) {n : Nat} : ∀ (i u : Nat) (q r : List Int), i ≤ 64 → i + b.length ≤ n + 1 → Trim r → r.length ≤ n → Bd u r → Trim (psd b c i (q, r)).2 ∧ (psd b c i (q, r)).2.length ≤ n ∧ Bd (u + i * 16777224) (psd b c i (q, r)).2
  | 0, u, q, r, _, _, h1, h2, h3 => ⟨h1, h2, by simpa [psd] using h3⟩
  | i + 1, u, q, r, hi, hn, h1, h2, h3 => by
    rw [psd_step rfl]
    have hx : isz (if r.length = b.length + i then lead r else 0) ≤ u := by
      split
      · exact isz_lead h3
      · rw [isz_zero]; exact Nat.zero_le _
    have l6 := len_str (c := c) (x := if r.length = b.length + i then lead r else 0) (i := i) (b := b) (r := r)
    have := psd_ok hb hc (n := n) i (u + 16777216 + 8) (stq c i (if r.length = b.length + i then lead r else 0) q) (str b c i (if r.length = b.length + i then lead r else 0) r) (by omega) (by omega) (each_trim _ _) (by omega) (bd_str h3 hb hc hx (by omega))
    exact ⟨this.1, this.2.1, bd_mono this.2.2 (by omega)⟩
theorem prem_ok {a b : List Int} (ha : Pb a) (hb : Pb b) (h0 : b.length ≠ 0) : Trim (prem a b) ∧ (prem a b).length ≤ a.length ∧ Bd 1107296256 (prem a b) := by
  have hal := ha.l
  by_cases h : b.length ≤ a.length + 1
  · obtain ⟨h1, h2, h3⟩ := psd_ok hb.b (isz_lead hb.b) (n := a.length) (a.length + 1 - b.length) 16777216 [] a (by omega) (by omega) ha.t (Nat.le_refl _) ha.b
    refine ⟨h1, h2, bd_mono h3 ?_⟩
    have : (a.length + 1 - b.length) * 16777224 ≤ 64 * 16777224 := Nat.mul_le_mul_right _ (by omega)
    omega
  · have e : prem a b = a := by unfold prem; rw [show a.length + 1 - b.length = 0 from by omega]; rfl
    rw [e]
    exact ⟨ha.t, Nat.le_refl _, bd_mono ha.b (by omega)⟩
theorem pturn_ok {a b r : List Int} {s n : Nat} (h1 : Trim r) (h2 : r.length ≤ n) (h3 : Bd s r) : Trim (pturn a b r) ∧ (pturn a b r).length ≤ n ∧ Bd s (pturn a b r) := by
  unfold pturn; split
  · exact ⟨each_trim _ _, Nat.le_trans (len_pneg r) h2, bd_pneg h3⟩
  · exact ⟨h1, h2, h3⟩
theorem pnice_ok {r : List Int} {s n : Nat} (h2 : r.length ≤ n) (h3 : Bd s r) : Trim (pnice r) ∧ (pnice r).length ≤ n ∧ Bd s (pnice r) := by
  unfold pnice; split
  · exact ⟨rfl, by simp, bd_nil⟩
  · exact ⟨trim_pover _ _, Nat.le_trans (len_pover _ _) h2, bd_pover h3 _⟩
theorem prest_ok {a b : List Int} (ha : Pb a) (hb : Pb b) (h0 : b.length ≠ 0) : Trim (prest a b) ∧ (prest a b).length ≤ a.length ∧ Bd 1107296256 (prest a b) := by
  obtain ⟨h1, h2, h3⟩ := prem_ok ha hb h0
  obtain ⟨h4, h5, h6⟩ := pturn_ok (a := a) (b := b) h1 h2 h3
  exact pnice_ok h5 h6
theorem c_Rest {a b : List Int} (ha : Pb a) (hb : Pb b) (h0 : b.length ≠ 0) : Does Tryz.prog 265 [pr a, pr b] [pr (prest a b), .one (.int .i64 0)] := by
  obtain ⟨h1, h2, h3⟩ := prem_ok ha hb h0
  obtain ⟨h4, h5, h6⟩ := pturn_ok (a := a) (b := b) h1 h2 h3
  have hal := ha.l
  have cp := c_Pseudo ha hb h0
  have cl := c_PLead hb.t hb.ln hb.bd
  have cn := c_PNeg (p := prem a b) (by omega) (bd_mono h3 (by omega))
  unfold prest
  obtain ⟨r, hr⟩ : ∃ r, r = pturn a b (prem a b) := ⟨_, rfl⟩
  have cc := c_Content (p := r) (by rw [hr]; omega) (by rw [hr]; exact bd_mono h6 (by omega))
  rw [← hr] at h4 h5 h6 ⊢
  obtain ⟨k, hk⟩ : ∃ k, k = a.length + 1 - b.length := ⟨_, rfl⟩
  rw [← hk] at cp
  have em : ((k : Int).tmod 2) = ((k % 2 : Nat) : Int) := by rw [Int.tmod_eq_emod_of_nonneg (by omega)]; omega
  have key : pnice r = if r.length = 0 then [] else pover r (pcont r) := rfl
  by_cases hz : r.length = 0
  · rw [key, if_pos hz]
    by_cases hodd : k % 2 = 1
    · by_cases hneg : lead b < 0
      · have e : r = pneg (prem a b) := by rw [hr]; unfold pturn; rw [if_pos ⟨by rw [← hk]; exact hodd, hneg⟩]
        rw [e] at hz
        exact w tt Tryz.func265 rfl [.c [] cp, .f (by simp), .r 22 (eI em), .t (by simp; omega), .c [] cl, .t (by simpa [lead] using hneg), .c [] cn, .t (by simpa using hz)] rfl rfl (by simp [AllP])
      · have e : r = prem a b := by rw [hr]; unfold pturn; rw [if_neg (fun h => hneg h.2)]
        rw [e] at hz
        exact w tt Tryz.func265 rfl [.c [] cp, .f (by simp), .r 22 (eI em), .t (by simp; omega), .c [] cl, .f (by simpa [lead] using hneg), .t (by simpa using hz)] rfl rfl (by simp [AllP])
    · have e : r = prem a b := by rw [hr]; unfold pturn; rw [if_neg (fun h => hodd (by rw [hk]; exact h.1))]
      rw [e] at hz
      exact w tt Tryz.func265 rfl [.c [] cp, .f (by simp), .r 22 (eI em), .f (by simp; omega), .f rfl, .t (by simpa using hz)] rfl rfl (by simp [AllP])
  · rw [key, if_neg hz]
    have cd := c_dover (p := r) (g := pcont r) (by omega) (bd_mono h6 (by omega)) (isz_pcont (bd_mono h6 (by omega))) (pcont_ne h4 hz) pcont_dvd
    by_cases hodd : k % 2 = 1
    · by_cases hneg : lead b < 0
      · have e : r = pneg (prem a b) := by rw [hr]; unfold pturn; rw [if_pos ⟨by rw [← hk]; exact hodd, hneg⟩]
        rw [e] at hz cc cd ⊢
        exact w tt Tryz.func265 rfl [.c [] cp, .f (by simp), .r 22 (eI em), .t (by simp; omega), .c [] cl, .t (by simpa [lead] using hneg), .c [] cn, .f (by simpa using hz), .c [] cc, .c [] cd] rfl rfl (by simp [AllP])
      · have e : r = prem a b := by rw [hr]; unfold pturn; rw [if_neg (fun h => hneg h.2)]
        rw [e] at hz cc cd ⊢
        exact w tt Tryz.func265 rfl [.c [] cp, .f (by simp), .r 22 (eI em), .t (by simp; omega), .c [] cl, .f (by simpa [lead] using hneg), .f (by simpa using hz), .c [] cc, .c [] cd] rfl rfl (by simp [AllP])
    · have e : r = prem a b := by rw [hr]; unfold pturn; rw [if_neg (fun h => hodd (by rw [hk]; exact h.1))]
      rw [e] at hz cc cd ⊢
      exact w tt Tryz.func265 rfl [.c [] cp, .f (by simp), .r 22 (eI em), .f (by simp; omega), .f rfl, .f (by simpa using hz), .c [] cc, .c [] cd] rfl rfl (by simp [AllP])
end Orr

namespace Orr
open Go Go.Proofs
set_option maxRecDepth 10000
theorem isz_quo {s : Nat} {x : Int} (h : isz x ≤ s) (g : Int) : isz (x / g) ≤ s := bd_div (p := [x]) (fun z hz => by rw [List.mem_singleton.1 hz]; exact h) g _ (by simp)
def sta (b : List Int) (i : Nat) (x : Int) (a : List Int) : List Int := psub a (pmul (trim (mono i x)) b)
theorem bd_sta {u t i : Nat} {x : Int} {b a : List Int} (ha : Bd u a) (hb : Bd t b) (hx : isz x ≤ u) (hi : i ≤ 64) : Bd (u + t + 8) (sta b i x a) :=
  bd_mono (bd_psub ha (bd_mb hb hx hi)) (by omega)
theorem len_sta {x : Int} {i : Nat} {b a : List Int} : (sta b i x a).length ≤ max a.length (i + b.length) := by
  have h := len_psub a (pmul (trim (mono i x)) b)
  have h2 := len_mb (i := i) (x := x) (b := b)
  unfold sta; omega
theorem bd_rep0 (s n : Nat) : Bd s (List.replicate n 0) := fun z hz => by rw [(List.mem_replicate.1 hz).2, isz_zero]; exact Nat.zero_le _
theorem bd_set {s i : Nat} {l : List Int} {x : Int} (h : Bd s l) (hx : isz x ≤ s) : Bd s (l.set i x) := fun z hz => by
  rcases List.mem_or_eq_of_mem_set hz with hz | rfl
  · exact h z hz
  · exact hx
theorem c_PExact {a b q : List Int} (ha : Pb a) (hb : Pb b) (h : pquo a b = some q) : Does Tryz.prog 318 [pr a, pr b] [pr q, .one (.int .i64 0)] := by
  unfold pquo at h
  split at h
  · cases h
  rename_i h0
  obtain ⟨k, hk⟩ : ∃ k, k = a.length + 1 - b.length := ⟨_, rfl⟩
  rw [← hk] at h
  obtain ⟨q', hq, hq2⟩ := Option.bind_eq_some_iff.1 h
  obtain ⟨rfl, hpb⟩ := chk_ok (trim_trim _) hq2
  have hal := ha.l
  have hbl := hb.l
  refine fnD Tryz.func318 rfl ?_
  refine go tt [.c [] (c_PNormT ha.t ha.ln ha.bd), .c [] (c_PNormT hb.t hb.ln hb.bd), .f (by simpa using h0), .r 24 (eI (b := (k : Int)) (by simp; omega)), .i k, .i k, .r 27 (eI (b := (k : Int)) (by simp))] rfl (by simp [AllP]; omega) ?_
  refine nl 0 rfl rfl rfl ?_
  rw [rep_ofI]
  refine lp (S := Nat × List Int × List Int) 1 (fun L1 s => (0, .v (pr s.2.1)) :: (7, .v (.one (.int .i64 ((s.1 : Int) - 1)))) :: L1) (fun s => [.row false 29 2 (s.2.2.map ofI)]) (fun s => s.1) (fun s => s.1 ≤ k ∧ Trim s.2.1 ∧ s.2.1.length ≤ a.length ∧ Bd (16777216 + (k - s.1) * 16777224) s.2.1 ∧ s.2.2.length = k ∧ Bd 1107296256 s.2.2 ∧ pexk b s.1 s.2.1 s.2.2 = some q') (k, a, List.replicate k 0) ⟨Nat.le_refl _, ha.t, Nat.le_refl _, by simpa using ha.b, by simp, bd_rep0 _ _, hq⟩ rfl (fun _ _ => rfl) rfl fun ⟨i, A, Q⟩ ⟨j1, j2, j3, j4, j5, j7, j6⟩ => ?_
  dsimp only at j1 j2 j3 j4 j5 j6 j7 ⊢
  cases i with
  | zero =>
    simp only [pexk] at j6
    split at j6
    · rename_i hA
      injection j6 with j6; subst j6
      exact en tt [.f (by simp), .f (by simpa using hA), .c [] (c_PNorm (isInts_n Q) (by omega) (bd_mono j7 (by omega)))] rfl rfl trivial
    · cases j6
  | succ i =>
    obtain ⟨u, hu⟩ : ∃ u, u = 16777216 + (k - (i + 1)) * 16777224 := ⟨_, rfl⟩
    rw [← hu] at j4
    have hub : u ≤ 1107296256 := by
      have : (k - (i + 1)) * 16777224 ≤ 64 * 16777224 := Nat.mul_le_mul_right _ (by omega)
      omega
    have hku : u + 16777216 + 8 = 16777216 + (k - i) * 16777224 := by
      rw [hu, show k - i = (k - (i + 1)) + 1 from by omega, Nat.add_mul]; omega
    simp only [pexk] at j6
    by_cases hlt : A.length < b.length + i
    · rw [if_pos hlt] at j6
      refine go tt [.t (by simp <;> omega), .c [] (c_Deg A), .c [] (c_Deg b), .t (by simp; omega), .r 32 (eI (b := (i : Int) - 1) (by omega))] rfl (by simp [AllP]; omega) ?_
      exact rd (i, A, Q) (by dsimp only; omega) ⟨by dsimp only; omega, j2, j3, bd_mono j4 (by dsimp only; omega), j5, j7, j6⟩ rfl
    · rw [if_neg hlt] at j6
      split at j6
      · rename_i hdv
        obtain ⟨x, hx⟩ : ∃ x, x = lead A / lead b := ⟨_, rfl⟩
        rw [← hx] at j6
        have hxs : isz x ≤ u := by rw [hx]; exact isz_quo (isz_lead j4) _
        have ce := c_Exact (isInt_n (lead A)) (isInt_n (lead b)) (Nat.le_trans (isz_lead j4) (by omega)) (Nat.le_trans (isz_lead hb.b) (by omega)) (lead_ne hb.t h0) hdv
        rw [← hx] at ce
        have cm : Does Tryz.prog 213 [.one (.row ((mono i x).map ofI)), pr b] [pr (pmul (trim (mono i x)) b)] := c_PMulN (p0 := mono i x) hb.t (by rw [mono_len]; omega) (by omega) (bd_mon hxs) hb.b (by omega)
        have l3 := len_mb (i := i) (x := x) (b := b)
        have l4 := len_sta (i := i) (x := x) (b := b) (a := A)
        have cb := c_PSub (p := A) (q := pmul (trim (mono i x)) b) (by omega) (by omega) (bd_mono j4 (by omega)) (bd_mono (bd_mb hb.b hxs (by omega)) (by omega))
        refine go tt [.t (by simp <;> omega), .c [] (c_Deg A), .c [] (c_Deg b), .f (by simp; omega), .c [] (c_PLead j2 (by omega) (bd_mono j4 (by omega))), .c [] (c_PLead hb.t hb.ln hb.bd), .c [] ce, .f rfl, .r 51 (eI (b := (i : Int)) (by omega)), .i i, .r 55 (eI (b := ((i + 1 : Nat) : Int)) (by omega)), .i (i + 1), .i (i + 1), .r 58 (eI (b := (i : Int)) (by omega))] rfl (by simp [AllP]; omega) ?_
        refine nl 2 rfl rfl rfl ?_
        rw [rep_ofI, pl_set]
        rw [← mono_fil i x] at cm
        refine go tt [.i i, .c [] cm, .c [] cb, .r 32 (eI (b := (i : Int) - 1) (by omega))] rfl (by simp [AllP]; omega) ?_
        exact rd (i, sta b i x A, Q.set i x) (by dsimp only; omega) ⟨by dsimp only; omega, each_trim _ _, by dsimp only; omega, by dsimp only; rw [← hku]; exact bd_sta j4 hb.b hxs (by omega), by simpa using j5, bd_set j7 (Nat.le_trans hxs hub), j6⟩ rfl
      · cases j6
theorem pb_quo {a b q : List Int} (h : pquo a b = some q) : Pb q := by
  unfold pquo at h
  split at h
  · cases h
  · obtain ⟨q', _, hq2⟩ := Option.bind_eq_some_iff.1 h
    obtain ⟨rfl, hpb⟩ := chk_ok (trim_trim _) hq2
    exact hpb
theorem c_quo {a b q : List Int} (ha : Pb a) (hb : Pb b) (h : pquo a b = some q) : Does Tryz.prog 298 [pr a, pr b] [pr q] :=
  w tt Tryz.func298 rfl [.c [] (c_PExact ha hb h)] rfl rfl trivial
theorem twoF_ok : ∀ {k : Nat} {a b g : List Int}, Pb a → Pb b → twoF k a b = some g → Pb g
  | 0, _, _, _, _, _, h => by cases h
  | k + 1, a, b, g, ha, hb, h => by
    simp only [twoF] at h
    split at h
    · injection h with h; subst h; exact ha
    · rename_i h0
      obtain ⟨r, hr, h⟩ := Option.bind_eq_some_iff.1 h
      obtain ⟨rfl, hpb⟩ := chk_ok (prest_ok ha hb h0).1 hr
      exact twoF_ok hb hpb h
theorem c_two {a b g : List Int} (ha : Pb a) (hb : Pb b) (h : ptwo a b = some g) : Does Tryz.prog 225 [pr a, pr b] [pr g] := by
  unfold ptwo at h
  obtain ⟨g', h2, rfl⟩ := Option.map_eq_some_iff.1 h
  have hg := twoF_ok (pb_prime ha) (pb_prime hb) h2
  refine fnD Tryz.func225 rfl ?_
  refine go tt [.c [] (c_prime ha), .c [] (c_prime hb)] rfl trivial ?_
  refine lp (S := Nat × List Int × List Int) 0 (fun L1 s => (0, .v (pr s.2.1)) :: (1, .v (pr s.2.2)) :: L1) (fun _ => []) (fun s => s.1) (fun s => Pb s.2.1 ∧ Pb s.2.2 ∧ twoF s.1 s.2.1 s.2.2 = some g') (66, prime a, prime b) ⟨pb_prime ha, pb_prime hb, h2⟩ rfl (fun _ _ => rfl) rfl fun ⟨k, A, C⟩ ⟨j1, j2, j3⟩ => ?_
  dsimp only at j1 j2 j3 ⊢
  cases k with
  | zero => cases j3
  | succ k =>
    simp only [twoF] at j3
    split at j3
    · rename_i h0
      injection j3 with j3; subst j3
      exact en tt [.f (by simpa using h0), .c [] (c_prime j1)] rfl rfl trivial
    · rename_i h0
      obtain ⟨r, hr, j3⟩ := Option.bind_eq_some_iff.1 j3
      obtain ⟨rfl, hpb⟩ := chk_ok (prest_ok j1 j2 h0).1 hr
      refine go tt [.t (by simp; omega), .c [] (c_Rest j1 j2 h0)] rfl trivial ?_
      exact rd (k, C, prest A C) (by dsimp only; omega) ⟨j2, hpb, j3⟩ rfl
theorem pb_two {a b g : List Int} (ha : Pb a) (hb : Pb b) (h : ptwo a b = some g) : Pb g := by
  unfold ptwo at h
  obtain ⟨g', h2, rfl⟩ := Option.map_eq_some_iff.1 h
  exact pb_prime (twoF_ok (pb_prime ha) (pb_prime hb) h2)
theorem c_PGcd {a b g : List Int} (ha : Pb a) (hb : Pb b) (h : pgcd a b = some g) : Does Tryz.prog 176 [.one (.row (plrow [a, b]))] [pr g] := by
  unfold pgcd at h
  obtain ⟨g1, h1, h2⟩ := Option.bind_eq_some_iff.1 h
  have hg1 := pb_two pb_nil ha h1
  refine fnD Tryz.func176 rfl ?_
  refine go tt [.z 3] rfl trivial ?_
  refine lp (S := Nat) 0 (fun L1 i => (8, .v (.one (.int .i64 (i : Int)))) :: (3, .v (pr (if i = 0 then [] else if i = 1 then g1 else g))) :: L1) (fun _ => []) (fun i => 2 - i) (fun i => i ≤ 2) 0 (Nat.zero_le _) rfl (fun _ _ => rfl) rfl fun i hi => ?_
  rcases (show i = 0 ∨ i = 1 ∨ i = 2 by omega) with rfl | rfl | rfl
  · refine go tt [.t rfl, .x (plrow_get (i := 0) (p := a) rfl), .c [] (c_two pb_nil ha h1)] rfl (by simp [AllP]) ?_
    exact rd 1 (by omega) (by omega) rfl
  · refine go tt [.t rfl, .x (plrow_get (i := 1) (p := b) rfl), .c [] (c_two hg1 hb h2)] rfl (by simp [AllP]) ?_
    exact rd 2 (by omega) (by omega) rfl
  · exact en tt [.f rfl] rfl rfl trivial
theorem pb_gcd {a b g : List Int} (ha : Pb a) (hb : Pb b) (h : pgcd a b = some g) : Pb g := by
  unfold pgcd at h
  obtain ⟨g1, h1, h2⟩ := Option.bind_eq_some_iff.1 h
  exact pb_two (pb_two pb_nil ha h1) hb h2
theorem pb_der {p d : List Int} (h : chk (pder p) = some d) : d = pder p ∧ Pb (pder p) := chk_ok (each_trim _ _) h
theorem c_Square {a g : List Int} (ha : Pb a) (h : psquare a = some g) : Does Tryz.prog 270 [pr a] [pr g] := by
  have hp := pb_prime ha
  unfold psquare at h
  split at h
  · rename_i h0
    injection h with h; subst h
    exact w tt Tryz.func270 rfl [.c [] (c_prime ha), .c [] (c_Deg _), .t (by simp; omega)] rfl rfl trivial
  · rename_i h0
    obtain ⟨d, h1, h⟩ := Option.bind_eq_some_iff.1 h
    obtain ⟨rfl, hd⟩ := pb_der h1
    obtain ⟨g1, h1, h⟩ := Option.bind_eq_some_iff.1 h
    exact w tt Tryz.func270 rfl [.c [] (c_prime ha), .c [] (c_Deg _), .f (by simp; omega), .c [] (c_PDerive hp.ln hp.bd), .c [] (c_two hp hd h1), .c [] (c_quo hp (pb_two hp hd h1) h)] rfl rfl trivial
theorem pb_square {a g : List Int} (ha : Pb a) (h : psquare a = some g) : Pb g := by
  unfold psquare at h
  split at h
  · injection h with h; subst h; exact pb_prime ha
  · obtain ⟨d, h1, h⟩ := Option.bind_eq_some_iff.1 h
    obtain ⟨g1, h1, h⟩ := Option.bind_eq_some_iff.1 h
    exact pb_quo h
theorem pb_neg {p : List Int} (h : Pb p) : Pb (pneg p) := ⟨each_trim _ _, Nat.le_trans (len_pneg p) h.l, bd_pneg h.b⟩
theorem chF_ok : ∀ {k : Nat} {a b : List Int} {l : List (List Int)}, Pb a → Pb b → chF k a b = some l → l.length ≤ k ∧ ∀ p ∈ l, Pb p
  | 0, _, _, _, _, _, h => by cases h
  | k + 1, a, b, l, ha, hb, h => by
    simp only [chF] at h
    split at h
    · injection h with h; subst h; exact ⟨by simp, fun p hp => by cases hp⟩
    · rename_i h0
      obtain ⟨r, hr, h⟩ := Option.bind_eq_some_iff.1 h
      obtain ⟨rfl, hpb⟩ := chk_ok (prest_ok ha hb h0).1 hr
      obtain ⟨l', h1, h⟩ := Option.bind_eq_some_iff.1 h
      injection h with h; subst h
      obtain ⟨i1, i2⟩ := chF_ok hb (pb_neg hpb) h1
      refine ⟨by simp; exact i1, fun p hp => ?_⟩
      rcases List.mem_cons.1 hp with rfl | hp
      · exact hb
      · exact i2 p hp
theorem chain_ok {p : List Int} {l : List (List Int)} (hp : Pb p) (h : chain p = some l) : l.length ≤ 67 ∧ ∀ q ∈ l, Pb q := by
  unfold chain at h
  obtain ⟨a, h1, h⟩ := Option.bind_eq_some_iff.1 h
  have ha := pb_square hp h1
  split at h
  · cases h
  · obtain ⟨d, h2, h⟩ := Option.bind_eq_some_iff.1 h
    obtain ⟨rfl, hd⟩ := pb_der h2
    obtain ⟨l', h3, h⟩ := Option.bind_eq_some_iff.1 h
    injection h with h; subst h
    obtain ⟨i1, i2⟩ := chF_ok ha (pb_prime hd) h3
    refine ⟨by simp; omega, fun p hp => ?_⟩
    rcases List.mem_cons.1 hp with rfl | hp
    · exact ha
    · exact i2 p hp
theorem plrow_snoc (l : List (List Int)) (p : List Int) : plrow l ++ [[pl p]] = plrow (l ++ [p]) := by simp [plrow]
theorem plrow_len (l : List (List Int)) : (plrow l).length = l.length := by simp [plrow]
theorem c_SNew {p : List Int} {l : List (List Int)} (hp : Pb p) (h : chain p = some l) : Does Tryz.prog 230 [pr p] [.one (.sh [.row (plrow l)]), .one (.int .i64 0)] := by
  unfold chain at h
  obtain ⟨a, h1, h⟩ := Option.bind_eq_some_iff.1 h
  have ha := pb_square hp h1
  split at h
  · cases h
  rename_i h0
  obtain ⟨d, h2, h⟩ := Option.bind_eq_some_iff.1 h
  obtain ⟨rfl, hd⟩ := pb_der h2
  obtain ⟨l', h3, h⟩ := Option.bind_eq_some_iff.1 h
  injection h with h; subst h
  refine fnD Tryz.func230 rfl ?_
  refine go tt [.c [] (c_Square hp h1), .f (by simpa using h0), .lo, .c [] (c_PDerive ha.ln ha.bd), .c [] (c_prim hd.t hd.ln' hd.bd)] rfl (by simp [AllP]) ?_
  obtain ⟨z, hz⟩ : ∃ z, z = if (pder a).length = 0 then 0 else pfac (pder a) := ⟨_, rfl⟩
  rw [← hz]
  refine sb [(4, .v (pr a)), (7, .v (pr (prime (pder a)))), (5, .v (.one (.ow 1 0)))] [.row false 26 1 [[pl a]], .blk 299 [.orow 0 1 none], .blk 29 (ofI z)] rfl rfl ?_
  have hll := (chF_ok ha (pb_prime hd) h3).1
  refine lp (S := Nat × List (List Int) × List Int × List Int) 3 (fun L1 s => (4, .v (pr s.2.2.1)) :: (7, .v (pr s.2.2.2)) :: L1) (fun s => [.row false 26 1 (plrow s.2.1), .blk 299 [.orow 0 1 none], .blk 29 (ofI z)]) (fun s => s.1) (fun s => Pb s.2.2.1 ∧ Pb s.2.2.2 ∧ ∃ m, chF s.1 s.2.2.1 s.2.2.2 = some m ∧ s.2.1 ++ m = a :: l') (66, [a], a, prime (pder a)) ⟨ha, pb_prime hd, l', h3, rfl⟩ rfl (fun _ _ => rfl) rfl fun ⟨k, out, A, C⟩ ⟨j1, j2, m, j3, j4⟩ => ?_
  dsimp only at j1 j2 j3 j4 ⊢
  have hol : out.length ≤ 67 := by have := congrArg List.length j4; simp at this; omega
  cases k with
  | zero => cases j3
  | succ k =>
    simp only [chF] at j3
    split at j3
    · rename_i h0
      injection j3 with j3; subst j3
      rw [List.append_nil] at j4
      rw [← j4]
      exact en tt [.f (by simpa using h0)] rfl rfl trivial
    · rename_i h0
      obtain ⟨r, hr, j3⟩ := Option.bind_eq_some_iff.1 j3
      obtain ⟨rfl, hpb⟩ := chk_ok (prest_ok j1 j2 h0).1 hr
      obtain ⟨m', j6, j5⟩ := Option.bind_eq_some_iff.1 j3
      injection j5 with j5; subst j5
      refine go tt [.t (by simp; omega), .s (sz := 1) (fun c hc => by rw [List.mem_singleton.1 hc]; rfl), .c [] (c_Rest j1 j2 h0), .c [] (c_PNeg hpb.ln hpb.bd)] rfl (by simp [AllP, plrow_len]; omega) ?_
      exact rd (k, out ++ [C], C, pneg (prest A C)) (by dsimp only; omega) ⟨j2, pb_neg hpb, m', j6, by rw [← j4]; simp⟩ (by rw [plrow_snoc]; rfl)
end Orr

namespace Orr
open Go Go.Proofs
set_option maxRecDepth 10000
structure Tb (t : Tm) : Prop where
  p : Pb t.p
  lo : Qb t.lo
  hi : Qb t.hi
theorem cmpZ_bd (x y : Int) : -1 ≤ cmpZ x y ∧ cmpZ x y ≤ 1 := by unfold cmpZ; split <;> (try split) <;> omega
theorem cmpQ_bd (a b : Rat) : -1 ≤ cmpQ a b ∧ cmpQ a b ≤ 1 := cmpZ_bd _ _
theorem psign_bd (p : List Int) (q : Rat) : -1 ≤ psign p q ∧ psign p q ≤ 1 := cmpZ_bd _ _
theorem low_bd (p : List Int) (q : Rat) : -1 ≤ low p q ∧ low p q ≤ 1 := by unfold low; split <;> exact psign_bd _ _
theorem Qb.s31 {q : Rat} (h : Qb q) : Qs 2147483647 q := h.mono (by decide)
theorem Qb.s32 {q : Rat} (h : Qb q) : Qs 4294967295 q := h.mono (by decide)
theorem c_PS {p : List Int} {q : Rat} (hp : Pb p) (hq : Qb q) : Does Tryz.prog 192 [pr p, .agg (rl q)] [.one (.int .i64 (psign p q))] := by
  have hm : p.length * (16777216 + 1) ≤ 64 * 16777217 := Nat.mul_le_mul_right _ hp.l
  exact c_PSign hp.t hp.ln hp.b hq (by omega)
theorem c_PSd {p : List Int} {q : Rat} (hp : Pb p) (hq : Qb q) : Does Tryz.prog 192 [pr (pder p), .agg (rl q)] [.one (.int .i64 (psign (pder p) q))] := by
  have hl := Nat.le_trans (len_pder p) (show p.length - 1 ≤ 64 by have := hp.l; omega)
  have hm : (pder p).length * (16777216 + 1) ≤ 64 * 16777217 := Nat.mul_le_mul_right _ hl
  exact c_PSign (each_trim _ _) (Nat.lt_of_le_of_lt hl (by omega)) (bd_pder (t := 6) hp.b hp.l) hq (by omega)
theorem c_tpoint {t : Tm} (ht : Tb t) : Does Tryz.prog 175 [.agg (ta t)] [.one (.bool t.point)] :=
  w tt Tryz.func175 rfl [.c [] (c_rCmp ht.lo.s31 ht.hi.s31)] rfl rfl trivial
theorem c_tnorm {t : Tm} (ht : Tb t) : Does Tryz.prog 174 [.agg (ta t)] [.agg (ta t)] :=
  w tt Tryz.func174 rfl [.c [] (c_PNormT ht.p.t ht.p.ln ht.p.bd), .c [] (c_rMaxQ ht.lo.s32), .c [] (c_rMaxQ ht.hi.s32)] rfl rfl trivial
theorem c_tfresh {t : Tm} (ht : Tb t) : Does Tryz.prog 196 [.agg (ta t)] [.agg (ta t)] := w tt Tryz.func196 rfl [.c [] (c_tnorm ht)] rfl rfl trivial
theorem c_low {p : List Int} {q : Rat} (hp : Pb p) (hq : Qb q) : Does Tryz.prog 193 [pr p, .agg (rl q)] [.one (.int .i64 (low p q))] := by
  unfold low
  by_cases h : psign p q = 0
  · rw [if_neg (by simpa using h)]
    exact w tt Tryz.func193 rfl [.c [] (c_PS hp hq), .f (by simpa using h), .c [] (c_PDerive hp.ln hp.bd), .c [] (c_PSd hp hq)] rfl rfl trivial
  · rw [if_pos h]
    exact w tt Tryz.func193 rfl [.c [] (c_PS hp hq), .t (by simpa using h)] rfl rfl trivial
theorem c_hasR {p : List Int} {lo hi : Rat} (hp : Pb p) (hl : Qb lo) (hh : Qb hi) : Does Tryz.prog 177 [pr p, .agg (rl lo), .agg (rl hi)] [.one (.bool (hasR p lo hi))] := by
  by_cases h : psign p hi = 0
  · exact w tt Tryz.func177 rfl [.c [] (c_PS hp hh), .t (by simpa using h)] rfl (by simp [hasR, h]) trivial
  · exact w tt Tryz.func177 rfl [.c [] (c_PS hp hh), .f (by simpa using h), .c [] (c_low hp hl)] rfl (by simp [hasR, h]) trivial
theorem c_CmpR {t : Tm} {q : Rat} (ht : Tb t) (hq : Qb q) : Does Tryz.prog 133 [.agg (ta t), .agg (rl q)] [.one (.int .i64 (cmpR t q))] := by
  have cp := c_tpoint ht
  unfold cmpR
  by_cases h1 : t.point = true
  · rw [if_pos h1]
    exact w tt Tryz.func133 rfl [.c [] cp, .t h1, .c [] (c_rCmp ht.lo.s31 hq.s31)] rfl rfl trivial
  rw [if_neg h1]
  have h1 : t.point = false := by simpa using h1
  have c1 := c_rCmp hq.s31 ht.lo.s31
  have c2 := c_rCmp hq.s31 ht.hi.s31
  by_cases h2 : cmpQ q t.lo ≤ 0
  · rw [if_pos h2]
    exact w tt Tryz.func133 rfl [.c [] cp, .f h1, .c [] c1, .t (by simpa using h2)] rfl rfl trivial
  rw [if_neg h2]
  by_cases h3 : 0 < cmpQ q t.hi
  · rw [if_pos h3]
    exact w tt Tryz.func133 rfl [.c [] cp, .f h1, .c [] c1, .f (by simpa using h2), .c [] c2, .t (by simpa using h3)] rfl rfl trivial
  rw [if_neg h3]
  by_cases h4 : psign t.p q = 0
  · rw [if_pos h4]
    exact w tt Tryz.func133 rfl [.c [] cp, .f h1, .c [] c1, .f (by simpa using h2), .c [] c2, .f (by simpa using h3), .c [] (c_PS ht.p hq), .t (by simpa using h4)] rfl rfl trivial
  rw [if_neg h4]
  by_cases h5 : psign t.p q = low t.p t.lo
  · rw [if_pos h5]
    exact w tt Tryz.func133 rfl [.c [] cp, .f h1, .c [] c1, .f (by simpa using h2), .c [] c2, .f (by simpa using h3), .c [] (c_PS ht.p hq), .f (by simpa using h4), .c [] (c_low ht.p ht.lo), .t (by simpa using h5)] rfl rfl trivial
  · rw [if_neg h5]
    exact w tt Tryz.func133 rfl [.c [] cp, .f h1, .c [] c1, .f (by simpa using h2), .c [] c2, .f (by simpa using h3), .c [] (c_PS ht.p hq), .f (by simpa using h4), .c [] (c_low ht.p ht.lo), .f (by simpa using h5)] rfl rfl trivial
theorem cmpR_bd (t : Tm) (q : Rat) : -1 ≤ cmpR t q ∧ cmpR t q ≤ 1 := by
  unfold cmpR
  have := cmpQ_bd t.lo q
  repeat' split
  all_goals omega
theorem denp (q : Rat) : 0 < (q.den : Int) := by have := q.den_pos; omega
theorem c_Mid {a b : Rat} (ha : Qb a) (hb : Qb b) : Does Tryz.prog 268 [.agg (rl a), .agg (rl b)] [.agg (rl (mid a b))] := by
  have h1 : isz (a.num * (b.den : Int)) ≤ 33554432 := Nat.le_trans (isz_mul _ _) (by have := ha.1; have := hb.2; omega)
  have h2 : isz (b.num * (a.den : Int)) ≤ 33554432 := Nat.le_trans (isz_mul _ _) (by have := hb.1; have := ha.2; omega)
  have h3 : isz ((a.den : Int) * (b.den : Int)) ≤ 33554432 := Nat.le_trans (isz_mul _ _) (by have := ha.2; have := hb.2; omega)
  have h4 : isz (2 : Int) ≤ 2 := by decide
  have h5 : isz (a.num * (b.den : Int) + b.num * (a.den : Int)) ≤ 33554433 := Nat.le_trans (isz_add _ _) (by omega)
  have h6 : isz ((a.den : Int) * (b.den : Int) * 2) ≤ 33554434 := Nat.le_trans (isz_mul _ _) (by omega)
  have h0 : (a.den : Int) * (b.den : Int) * 2 ≠ 0 := by
    have := Int.mul_pos (denp a) (denp b); omega
  exact w tt Tryz.func268 rfl [.c [] (c_cross ha.s31 hb.s31), .c [] (c_WAdd (isInt_n _) (isInt_n _) (by omega) (by omega)), .c [] (c_Of (z := 2) (by decide)), .c [] (c_WMul (isInt_n _) (isInt_n _) (by omega) (by omega)), .c [] (c_lowest h0 (by omega) (by omega))] rfl rfl trivial
theorem c_rSub {a b : Rat} (ha : Qb a) (hb : Qb b) : Does Tryz.prog 227 [.agg (rl a), .agg (rl b)] [.agg (rl (rsub a b))] := by
  have h1 : isz (a.num * (b.den : Int)) ≤ 33554432 := Nat.le_trans (isz_mul _ _) (by have := ha.1; have := hb.2; omega)
  have h2 : isz (b.num * (a.den : Int)) ≤ 33554432 := Nat.le_trans (isz_mul _ _) (by have := hb.1; have := ha.2; omega)
  have h3 : isz ((a.den : Int) * (b.den : Int)) ≤ 33554432 := Nat.le_trans (isz_mul _ _) (by have := ha.2; have := hb.2; omega)
  have h5 : isz (a.num * (b.den : Int) - b.num * (a.den : Int)) ≤ 33554433 := Nat.le_trans (isz_sub _ _) (by omega)
  have h0 : (a.den : Int) * (b.den : Int) ≠ 0 := by
    have := Int.mul_pos (denp a) (denp b); omega
  exact w tt Tryz.func227 rfl [.c [] (c_cross ha.s31 hb.s31), .c [] (c_WSub (isInt_n _) (isInt_n _) (by omega) (by omega)), .c [] (c_lowest h0 (by omega) (by omega))] rfl rfl trivial
theorem chq_ok {q r : Rat} (h : chq q = some r) : r = q ∧ Qb q := by
  unfold chq at h
  split at h
  · rename_i hc; injection h with h; exact ⟨h.symm, hc⟩
  · cases h
theorem c_half {t u : Tm} (ht : Tb t) (h : half t = some u) : Does Tryz.prog 228 [.agg (ta t)] [.agg (ta u)] := by
  have cp := c_tpoint ht
  unfold half at h
  split at h
  · rename_i h1
    injection h with h; subst h
    exact w tt Tryz.func228 rfl [.c [] cp, .t h1] rfl rfl trivial
  · rename_i h1
    have h1 : t.point = false := by simpa using h1
    obtain ⟨m, hm0, h⟩ := Option.bind_eq_some_iff.1 h
    obtain ⟨rfl, hm⟩ := chq_ok hm0
    injection h with h
    subst h
    have cm := c_Mid ht.lo ht.hi
    have cc := c_CmpR ht hm
    by_cases h2 : cmpR t (mid t.lo t.hi) = 0
    · rw [if_pos h2]
      exact w tt Tryz.func228 rfl [.c [] cp, .f h1, .c [] cm, .c [] cc, .t (by simpa using h2)] rfl rfl trivial
    rw [if_neg h2]
    by_cases h3 : cmpR t (mid t.lo t.hi) = -1
    · rw [if_pos h3]
      exact w tt Tryz.func228 rfl [.c [] cp, .f h1, .c [] cm, .c [] cc, .f (by simpa using h2), .t (by simpa using h3)] rfl rfl trivial
    · rw [if_neg h3]
      exact w tt Tryz.func228 rfl [.c [] cp, .f h1, .c [] cm, .c [] cc, .f (by simpa using h2), .f (by simpa using h3)] rfl rfl trivial
theorem tb_half {t u : Tm} (ht : Tb t) (h : half t = some u) : Tb u := by
  unfold half at h
  split at h
  · injection h with h; subst h; exact ht
  · obtain ⟨m, hm0, h⟩ := Option.bind_eq_some_iff.1 h
    obtain ⟨rfl, hm⟩ := chq_ok hm0
    injection h with h
    subst h
    repeat' split
    · exact ⟨ht.p, hm, hm⟩
    · exact ⟨ht.p, ht.lo, hm⟩
    · exact ⟨ht.p, hm, ht.hi⟩
theorem c_BitsI {z : Int} (h : isz z ≤ 4294967296) : Does Tryz.prog 266 [.one (mg z)] [.one (.int .i64 (isz z : Int))] := by
  have h1 := c_Bits (l := limbs z.natAbs) (sm_limbs _) (by rw [val_limbs]; exact h)
  rw [val_limbs] at h1; exact h1
theorem psize_take {p : List Int} {i : Nat} {z : Int} (h : p[i]? = some z) : psize (p.take (i + 1)) = max (psize (p.take i)) (isz z) := by
  unfold psize; rw [List.take_succ, h, Option.toList_some, List.foldl_append]; rfl
theorem psize_le {p : List Int} {s : Nat} (h : Bd s p) : ∀ i, psize (p.take i) ≤ s
  | 0 => by simp [psize]
  | i + 1 => by
    cases hz : p[i]? with
    | none =>
      rw [List.take_of_length_le (by have := List.getElem?_eq_none_iff.1 hz; omega), ← List.take_of_length_le (l := p) (i := i) (by have := List.getElem?_eq_none_iff.1 hz; omega)]
      exact psize_le h i
    | some z => rw [psize_take hz]; have := psize_le h i; have := bd_get h hz; omega
theorem c_size {p : List Int} (hp : Pb p) : Does Tryz.prog 267 [pr p] [.one (.int .i64 (psize p : Int))] := by
  have hl := hp.l
  refine fnD Tryz.func267 rfl ?_
  refine go tt [] rfl trivial ?_
  refine lp (S := Nat) 0 (fun L1 i => (8, .v (.one (.int .i64 (i : Int)))) :: (3, .v (.one (.int .i64 (psize (p.take i) : Int)))) :: L1) (fun _ => []) (fun i => p.length - i) (fun i => i ≤ p.length) 0 (Nat.zero_le _) rfl (fun _ _ => rfl) rfl fun i hi => ?_
  by_cases hlt : i < p.length
  · have hg := getD_get hlt
    have hz := bd_getD hp.b i
    have hs := psize_take hg
    refine go tt [.t (by simp; omega), .x (pl_get hg), .c [] (c_BitsI (by omega)), .r 16 (eI (b := (psize (p.take (i + 1)) : Int)) (by rw [hs]; omega))] rfl (by simp [AllP]; omega) ?_
    exact rd (i + 1) (by omega) hlt rfl
  · obtain rfl : i = p.length := by omega
    rw [List.take_length]
    exact en tt [.f (by simp)] rfl rfl trivial
theorem c_steps {a : Tm} {b : Tm} (ha : Tb a) (hb : Tb b) : Does Tryz.prog 226 [.agg (ta a), .agg (ta b)] [.one (.int .i64 (stepsN a b : Nat))] := by
  have l1 := ha.p.l
  have l2 := hb.p.l
  have b1 := ha.lo.1
  have b2 := ha.hi.1
  have b3 := hb.lo.1
  have b4 := hb.hi.1
  have s1 : psize a.p ≤ 16777216 := by have := psize_le ha.p.b a.p.length; rwa [List.take_length] at this
  have s2 : psize b.p ≤ 16777216 := by have := psize_le hb.p.b b.p.length; rwa [List.take_length] at this
  obtain ⟨N, hN⟩ : ∃ N, N = 4 * (a.p.length + b.p.length) := ⟨_, rfl⟩
  obtain ⟨S, hS⟩ : ∃ S, S = psize a.p + psize b.p + (a.p.length + b.p.length) + 8 := ⟨_, rfl⟩
  have hNS : N * S ≤ 512 * 33554568 := Nat.mul_le_mul (by omega) (by omega)
  have h0 : (N : Int) * (S : Int) = ((N * S : Nat) : Int) := (Int.natCast_mul _ _).symm
  have hst : stepsN a b = 64 + 2 * (isz a.lo.num + isz a.hi.num + isz b.lo.num + isz b.hi.num) + N * S := by rw [hN, hS]; rfl
  rw [hst]
  exact w tt Tryz.func226 rfl [.c [] (c_BitsI (z := a.lo.num) (by omega)), .c [] (c_BitsI (z := a.hi.num) (by omega)), .c [] (c_BitsI (z := b.lo.num) (by omega)), .c [] (c_BitsI (z := b.hi.num) (by omega)), .r 41 (eI (b := (N : Int)) (by rw [hN]; simp)), .c [] (c_size ha.p), .c [] (c_size hb.p), .r 51 (eI (b := (S : Int)) (by rw [hS]; simp)), .r 52 (eI (b := ((N * S : Nat) : Int)) h0)] rfl (by simp) (by rw [h0]; simp [AllP]; omega)
def stepsS (p : List Int) (a : Tm) : Nat := 64 + 2 * (isz a.lo.num + isz a.hi.num) + 4 * (a.p.length + p.length) * (psize a.p + psize p + (a.p.length + p.length) + 8)
theorem c_Bits0 : Does Tryz.prog 266 [lr []] [.one (.int .i64 0)] := c_Bits (l := []) (by simp [Sm]) (by decide)
theorem c_stepsS {a : Tm} {p : List Int} (ha : Tb a) (hp : Pb p) : Does Tryz.prog 226 [.agg (ta a), .agg ([pl p, .bool false, .row [], .bool false, .row [], .bool false, .row [], .bool false, .row []])] [.one (.int .i64 (stepsS p a : Nat))] := by
  have l1 := ha.p.l
  have l2 := hp.l
  have b1 := ha.lo.1
  have b2 := ha.hi.1
  have s1 : psize a.p ≤ 16777216 := by have := psize_le ha.p.b a.p.length; rwa [List.take_length] at this
  have s2 : psize p ≤ 16777216 := by have := psize_le hp.b p.length; rwa [List.take_length] at this
  obtain ⟨N, hN⟩ : ∃ N, N = 4 * (a.p.length + p.length) := ⟨_, rfl⟩
  obtain ⟨S, hS⟩ : ∃ S, S = psize a.p + psize p + (a.p.length + p.length) + 8 := ⟨_, rfl⟩
  have hNS : N * S ≤ 512 * 33554568 := Nat.mul_le_mul (by omega) (by omega)
  have h0 : (N : Int) * (S : Int) = ((N * S : Nat) : Int) := (Int.natCast_mul _ _).symm
  have hst : stepsS p a = 64 + 2 * (isz a.lo.num + isz a.hi.num) + N * S := by rw [hN, hS]; rfl
  rw [hst]
  exact w tt Tryz.func226 rfl [.c [] (c_BitsI (z := a.lo.num) (by omega)), .c [] (c_BitsI (z := a.hi.num) (by omega)), .c [] c_Bits0, .c [] c_Bits0, .r 41 (eI (b := (N : Int)) (by rw [hN]; simp)), .c [] (c_size ha.p), .c [] (c_size hp), .r 51 (eI (b := (S : Int)) (by rw [hS]; simp)), .r 52 (eI (b := ((N * S : Nat) : Int)) h0)] rfl (by simp) (by rw [h0]; simp [AllP]; omega)
end Orr

namespace Orr
open Go Go.Proofs
set_option maxRecDepth 10000
def tst (sg : List Int → Int) (l : List (List Int)) (i : Nat) : Nat × Int := (l.take i).foldl (turnF sg) (0, 0)
theorem tst_bd {sg : List Int → Int} (hs : ∀ p, -1 ≤ sg p ∧ sg p ≤ 1) (l : List (List Int)) : ∀ i, (tst sg l i).1 ≤ i ∧ -1 ≤ (tst sg l i).2 ∧ (tst sg l i).2 ≤ 1
  | 0 => ⟨Nat.le_refl _, show (-1 : Int) ≤ 0 by decide, show (0 : Int) ≤ 1 by decide⟩
  | i + 1 => by
    obtain ⟨h1, h2, h3⟩ := tst_bd hs l i
    cases h : l[i]? with
    | none =>
      have : tst sg l (i + 1) = tst sg l i := by unfold tst; rw [List.take_of_length_le (by have := List.getElem?_eq_none_iff.1 h; omega), List.take_of_length_le (List.getElem?_eq_none_iff.1 h)]
      rw [this]; omega
    | some p =>
      have : tst sg l (i + 1) = turnF sg (tst sg l i) p := foldl_take_succ _ _ _ h
      rw [this]
      have := hs p
      unfold turnF
      split
      · omega
      · dsimp only; split <;> omega
theorem c_turns {l : List (List Int)} {fid : Nat} {l1 : List LV} {sg : List Int → Int} (hl : l.length ≤ 1000) (hs : ∀ p, -1 ≤ sg p ∧ sg p ≤ 1) (h : ∀ p ∈ l, Does Tryz.prog fid [pr p, .one (.sh l1)] [.one (.int .i64 (sg p))]) : Does Tryz.prog 300 [.one (.sh [.row (plrow l)]), .one (.fn fid [] [.sh l1])] [.one (.int .i64 (turns sg l : Nat))] := by
  have hpl := plrow_len l
  refine fnD Tryz.func300 rfl ?_
  refine go tt [] rfl trivial ?_
  refine lp (S := Nat) 0 (fun L1 i => (15, .v (.one (.int .i64 (i : Int)))) :: (5, .v (.one (.int .i64 ((tst sg l i).1 : Int)))) :: (6, .v (.one (.int .i64 (tst sg l i).2))) :: L1) (fun _ => []) (fun i => l.length - i) (fun i => i ≤ l.length) 0 (Nat.zero_le _) rfl (fun _ _ => rfl) rfl fun i hi => ?_
  by_cases hlt : i < l.length
  · obtain ⟨p, hp⟩ : ∃ p, l[i]? = some p := ⟨_, List.getElem?_eq_getElem hlt⟩
    have hst : tst sg l (i + 1) = turnF sg (tst sg l i) p := foldl_take_succ _ _ _ hp
    obtain ⟨b1, b2, b3⟩ := tst_bd hs l i
    have b4 := hs p
    by_cases h0 : sg p = 0
    · refine go tt [.t (by simp [hpl]; omega), .x (plrow_get hp), .c [] (h p (List.mem_of_getElem? hp)), .t (by simpa using h0)] rfl (by simp [AllP]; omega) ?_
      exact rd (i + 1) (by omega) hlt (by rw [hst, show turnF sg (tst sg l i) p = tst sg l i from by unfold turnF; rw [if_pos h0]]; rfl)
    · by_cases h1 : (tst sg l i).2 = -(sg p)
      · refine go tt [.t (by simp [hpl]; omega), .x (plrow_get hp), .c [] (h p (List.mem_of_getElem? hp)), .f (by simpa using h0), .t (by simpa using h1)] rfl (by simp [AllP]; omega) ?_
        exact rd (i + 1) (by omega) hlt (by rw [hst, show turnF sg (tst sg l i) p = ((tst sg l i).1 + 1, sg p) from by unfold turnF; rw [if_neg h0, if_pos h1]]; rfl)
      · refine go tt [.t (by simp [hpl]; omega), .x (plrow_get hp), .c [] (h p (List.mem_of_getElem? hp)), .f (by simpa using h0), .f (by simpa using h1)] rfl (by simp [AllP]; omega) ?_
        exact rd (i + 1) (by omega) hlt (by rw [hst, show turnF sg (tst sg l i) p = ((tst sg l i).1, sg p) from by unfold turnF; rw [if_neg h0, if_neg h1]]; rfl)
  · obtain rfl : i = l.length := by omega
    refine en tt [.f (by simp [hpl])] rfl ?_ trivial
    unfold tst turns; rw [List.take_length]
theorem c_Turns1 {p : List Int} {q : Rat} (hp : Pb p) (hq : Qb q) : Does Tryz.prog 301 [pr p, .one (.sh (rl q))] [.one (.int .i64 (psign p q))] := w tt Tryz.func301 rfl [.c [] (c_PS hp hq)] rfl rfl trivial
theorem c_Turns {l : List (List Int)} {q : Rat} (hl : l.length ≤ 1000) (hp : ∀ p ∈ l, Pb p) (hq : Qb q) : Does Tryz.prog 273 [.one (.sh [.row (plrow l)]), .agg (rl q)] [.one (.int .i64 (turnsAt l q : Nat))] :=
  w tt Tryz.func273 rfl [.c [] (c_turns (fid := 301) (l1 := rl q) (sg := fun p => psign p q) hl (fun p => psign_bd p q) fun p h => c_Turns1 (hp p h) hq)] rfl rfl trivial
theorem turns_bd {sg : List Int → Int} (hs : ∀ p, -1 ≤ sg p ∧ sg p ≤ 1) (l : List (List Int)) : turns sg l ≤ l.length := by
  have := (tst_bd hs l l.length).1
  unfold tst at this; rwa [List.take_length] at this
theorem c_Between {l : List (List Int)} {lo hi : Rat} (hl : l.length ≤ 1000) (hp : ∀ p ∈ l, Pb p) (ql : Qb lo) (qh : Qb hi) : Does Tryz.prog 231 [.one (.sh [.row (plrow l)]), .agg (rl lo), .agg (rl hi)] [.one (.int .i64 (between l lo hi))] := by
  have b1 : turnsAt l lo ≤ l.length := turns_bd (fun p => psign_bd p lo) l
  have b2 : turnsAt l hi ≤ l.length := turns_bd (fun p => psign_bd p hi) l
  have c1 := c_rCmp qh.s31 ql.s31
  unfold between
  by_cases h : cmpQ hi lo < 0
  · rw [if_pos h]
    exact w tt Tryz.func231 rfl [.c [] c1, .t (by simpa using h)] rfl rfl trivial
  · rw [if_neg h]
    exact w tt Tryz.func231 rfl [.c [] c1, .f (by simpa using h), .c [] (c_Turns hl hp ql), .c [] (c_Turns hl hp qh)] rfl rfl (by simp [AllP]; omega)
def zTm : List LV := [.nils, .bool false, .nils, .bool false, .nils, .bool false, .nils, .bool false, .nils]
theorem stepsN_bd {a b : Tm} (ha : Tb a) (hb : Tb b) : stepsN a b ≤ 17179938816 + 200000000 := by
  have l1 := ha.p.l
  have l2 := hb.p.l
  have b1 := ha.lo.1
  have b2 := ha.hi.1
  have b3 := hb.lo.1
  have b4 := hb.hi.1
  have s1 : psize a.p ≤ 16777216 := by have := psize_le ha.p.b a.p.length; rwa [List.take_length] at this
  have s2 : psize b.p ≤ 16777216 := by have := psize_le hb.p.b b.p.length; rwa [List.take_length] at this
  have : 4 * (a.p.length + b.p.length) * (psize a.p + psize b.p + (a.p.length + b.p.length) + 8) ≤ 512 * 33554568 := Nat.mul_le_mul (by omega) (by omega)
  unfold stepsN; omega
theorem qs_rsub {a b : Rat} (ha : Qb a) (hb : Qb b) : Qs 2147483647 (rsub a b) := by
  have h1 : isz (a.num * (b.den : Int)) ≤ 33554432 := Nat.le_trans (isz_mul _ _) (by have := ha.1; have := hb.2; omega)
  have h2 : isz (b.num * (a.den : Int)) ≤ 33554432 := Nat.le_trans (isz_mul _ _) (by have := hb.1; have := ha.2; omega)
  have h3 : isz ((a.den : Int) * (b.den : Int)) ≤ 33554432 := Nat.le_trans (isz_mul _ _) (by have := ha.2; have := hb.2; omega)
  have h5 : isz (a.num * (b.den : Int) - b.num * (a.den : Int)) ≤ 33554433 := Nat.le_trans (isz_sub _ _) (by omega)
  exact (Qs.divInt (s := 33554433) h5 (by omega) (by omega)).mono (by omega)
theorem c_apart {a b : Tm} {r : Tm × Tm × Int} (ha : Tb a) (hb : Tb b) (h : apF (stepsN a b) a b = some r) : Does Tryz.prog 178 [.agg (ta a), .agg (ta b)] [.agg (ta r.1), .agg (ta r.2.1), .one (.int .i64 r.2.2)] := by
  have hsb := stepsN_bd ha hb
  refine fnD Tryz.func178 rfl ?_
  refine go tt [.c [] (c_steps ha hb)] rfl trivial ?_
  obtain ⟨n, hn⟩ : ∃ n, n = stepsN a b := ⟨_, rfl⟩
  rw [← hn] at h hsb ⊢
  refine sb [(10, .v (.one (.int .i64 0))), (9, .v (.one (.int .i64 (n : Int)))), (5, .v (.one (.ow 3 0))), (4, .v (.one (.ow 2 0))), (3, .v (.one (.ow 1 0))), (2, .v (.one (.ow 0 0)))] [.blk 67 (ta a), .blk 67 (ta b), .blk 67 zTm, .blk 67 zTm] rfl rfl ?_
  refine lp (S := Nat × Tm × Tm) 4 (fun L1 s => (10, .v (.one (.int .i64 (s.1 : Int)))) :: L1) (fun s => [.blk 67 (ta s.2.1), .blk 67 (ta s.2.2), .blk 67 zTm, .blk 67 zTm]) (fun s => n - s.1) (fun s => s.1 ≤ n ∧ Tb s.2.1 ∧ Tb s.2.2 ∧ apF (n - s.1) s.2.1 s.2.2 = some r) (0, a, b) ⟨Nat.zero_le _, ha, hb, h⟩ rfl (fun _ _ => rfl) rfl fun ⟨i, u, v⟩ ⟨j1, j2, j3, j4⟩ => ?_
  dsimp only at j1 j2 j3 j4 ⊢
  by_cases hi : i < n
  · obtain ⟨k, hk⟩ : ∃ k, n - i = k + 1 := ⟨n - i - 1, by omega⟩
    have hk' : n - (i + 1) = k := by omega
    rw [hk] at j4
    have c1 := c_rCmp j2.hi.s31 j3.lo.s31
    have c2 := c_rCmp j3.hi.s31 j2.lo.s31
    have pu := c_tpoint j2
    have pv := c_tpoint j3
    have hlt : decide ((i : Int) < (n : Int)) = true := by simp; omega
    simp only [apF] at j4
    refine go tt [.t hlt] rfl trivial ?_
    refine ct 3 (S := Unit) (fun _ => [(10, .v (.one (.int .i64 (i : Int)))), (9, .v (.one (.int .i64 (n : Int)))), (5, .v (.one (.ow 3 0))), (4, .v (.one (.ow 2 0))), (3, .v (.one (.ow 1 0))), (2, .v (.one (.ow 0 0)))]) (fun _ => [.blk 67 (ta u), .blk 67 (ta v), .blk 67 zTm, .blk 67 zTm]) (fun _ => ¬ below u v = true ∧ ¬ below v u = true) rfl ?_ ?_
    · have bA : below u v = (decide (cmpQ u.hi v.lo ≤ 0) && !(u.point && v.point && decide (cmpQ u.hi v.lo = 0))) := by
        unfold below; cases u.point <;> cases v.point <;> simp
      have bB : below v u = (decide (cmpQ v.hi u.lo ≤ 0) && !(u.point && v.point && decide (cmpQ v.hi u.lo = 0))) := by
        unfold below; cases u.point <;> cases v.point <;> simp
      obtain ⟨a0, A'⟩ : ∃ b, decide (cmpQ u.hi v.lo ≤ 0) = b := ⟨_, rfl⟩
      obtain ⟨b0, B'⟩ : ∃ b, decide (cmpQ v.hi u.lo ≤ 0) = b := ⟨_, rfl⟩
      obtain ⟨p0, P'⟩ : ∃ b, u.point = b := ⟨_, rfl⟩
      obtain ⟨q0, Q'⟩ : ∃ b, v.point = b := ⟨_, rfl⟩
      obtain ⟨x0, X'⟩ : ∃ b, decide (cmpQ u.hi v.lo = 0) = b := ⟨_, rfl⟩
      obtain ⟨y0, Y'⟩ : ∃ b, decide (cmpQ v.hi u.lo = 0) = b := ⟨_, rfl⟩
      rw [A', P', Q', X'] at bA
      rw [B', P', Q', Y'] at bB
      have r1 : below u v = true → (u, v, -1) = r := fun h => by rw [if_pos h] at j4; injection j4
      have r2 : ¬ below u v = true → below v u = true → (u, v, 1) = r := fun h h' => by rw [if_neg h, if_pos h'] at j4; injection j4
      clear j4
      cases a0
      · cases b0
        · exact go tt [.c [] c1, .g 19 false A', .f rfl, .c [] c2, .g 45 false B', .f rfl] rfl trivial (rc () ⟨by rw [bA]; simp, by rw [bB]; simp⟩ rfl)
        · cases p0
          · obtain rfl := r2 (by rw [bA]; simp) (by rw [bB]; rfl)
            exact en tt [.c [] c1, .g 19 false A', .f rfl, .c [] c2, .g 45 true B', .c [] pu, .g 48 false P', .g 52 false rfl, .t rfl] rfl rfl trivial
          · cases q0
            · obtain rfl := r2 (by rw [bA]; simp) (by rw [bB]; rfl)
              exact en tt [.c [] c1, .g 19 false A', .f rfl, .c [] c2, .g 45 true B', .c [] pu, .g 48 true P', .c [] pv, .g 52 false Q', .t rfl] rfl rfl trivial
            · cases y0
              · obtain rfl := r2 (by rw [bA]; simp) (by rw [bB]; rfl)
                exact en tt [.c [] c1, .g 19 false A', .f rfl, .c [] c2, .g 45 true B', .c [] pu, .g 48 true P', .c [] pv, .g 52 true Q', .c [] c2, .t (by simpa using Y')] rfl rfl trivial
              · exact go tt [.c [] c1, .g 19 false A', .f rfl, .c [] c2, .g 45 true B', .c [] pu, .g 48 true P', .c [] pv, .g 52 true Q', .c [] c2, .f (by simpa using Y')] rfl trivial (rc () ⟨by rw [bA]; simp, by rw [bB]; simp⟩ rfl)
      · cases p0
        · obtain rfl := r1 (by rw [bA]; rfl)
          exact en tt [.c [] c1, .g 19 true A', .c [] pu, .g 22 false P', .g 26 false rfl, .t rfl] rfl rfl trivial
        · cases q0
          · obtain rfl := r1 (by rw [bA]; rfl)
            exact en tt [.c [] c1, .g 19 true A', .c [] pu, .g 22 true P', .c [] pv, .g 26 false Q', .t rfl] rfl rfl trivial
          · cases x0
            · obtain rfl := r1 (by rw [bA]; rfl)
              exact en tt [.c [] c1, .g 19 true A', .c [] pu, .g 22 true P', .c [] pv, .g 26 true Q', .c [] c1, .t (by simpa using X')] rfl rfl trivial
            · cases b0
              · exact go tt [.c [] c1, .g 19 true A', .c [] pu, .g 22 true P', .c [] pv, .g 26 true Q', .c [] c1, .f (by simpa using X'), .c [] c2, .g 45 false B', .f rfl] rfl trivial (rc () ⟨by rw [bA]; simp, by rw [bB]; simp⟩ rfl)
              · cases y0
                · obtain rfl := r2 (by rw [bA]; simp) (by rw [bB]; rfl)
                  exact en tt [.c [] c1, .g 19 true A', .c [] pu, .g 22 true P', .c [] pv, .g 26 true Q', .c [] c1, .f (by simpa using X'), .c [] c2, .g 45 true B', .c [] pu, .g 48 true P', .c [] pv, .g 52 true Q', .c [] c2, .t (by simpa using Y')] rfl rfl trivial
                · exact go tt [.c [] c1, .g 19 true A', .c [] pu, .g 22 true P', .c [] pv, .g 26 true Q', .c [] c1, .f (by simpa using X'), .c [] c2, .g 45 true B', .c [] pu, .g 48 true P', .c [] pv, .g 52 true Q', .c [] c2, .f (by simpa using Y')] rfl trivial (rc () ⟨by rw [bA]; simp, by rw [bB]; simp⟩ rfl)
    · rintro _ ⟨n1, n2⟩
      rw [if_neg n1, if_neg n2] at j4
      have qr : ∀ {x y : Rat}, Qb x → Qb y → Qs 2147483647 (rsub x y) := fun h1 h2 => qs_rsub h1 h2
      have cc := c_rCmp (qr j2.hi j2.lo) (qr j3.hi j3.lo)
      by_cases D : 0 ≤ cmpQ (rsub u.hi u.lo) (rsub v.hi v.lo)
      · rw [if_pos D] at j4
        obtain ⟨x, x1, x2⟩ := Option.bind_eq_some_iff.1 j4
        refine go tt [.c [] (c_rSub j2.hi j2.lo), .c [] (c_rSub j3.hi j3.lo), .c [] cc, .t (by simpa using D), .c [] (c_half j2 x1)] rfl (by simp [AllP]; omega) ?_
        exact rd (i + 1, x, v) (by dsimp only; omega) ⟨hi, tb_half j2 x1, j3, by dsimp only; rw [hk']; exact x2⟩ rfl
      · rw [if_neg D] at j4
        obtain ⟨x, x1, x2⟩ := Option.bind_eq_some_iff.1 j4
        refine go tt [.c [] (c_rSub j2.hi j2.lo), .c [] (c_rSub j3.hi j3.lo), .c [] cc, .f (by simpa using D), .c [] (c_half j3 x1)] rfl (by simp [AllP]; omega) ?_
        exact rd (i + 1, u, x) (by dsimp only; omega) ⟨hi, j2, tb_half j3 x1, by dsimp only; rw [hk']; exact x2⟩ rfl
  · obtain rfl : i = n := by omega
    rw [Nat.sub_self] at j4
    simp only [apF] at j4
    injection j4 with j4; subst j4
    exact en tt [.f (by simp)] rfl rfl trivial
end Orr

namespace Orr
open Go Go.Proofs
set_option maxRecDepth 10000
theorem c_rMax2 {a b : Rat} (ha : Qb a) (hb : Qb b) : Does Tryz.prog 82 [.agg (rl a), .one (.row [rl b])] [.agg (rl (if 0 < cmpQ b a then b else a))] := by
  have ca := c_rnorm (isInt_n a.num) (isInt_n (a.den : Int)) ha.s32.1 ha.s32.2
  have cb := c_rnorm (isInt_n b.num) (isInt_n (b.den : Int)) hb.s32.1 hb.s32.2
  rw [ratOf_q] at ca cb
  have cc := c_rCmp hb.s31 ha.s31
  refine fnD Tryz.func82 rfl ?_
  refine go tt [.c [] ca] rfl trivial ?_
  refine lp (S := Nat) 3 (fun L1 i => (12, .v (.one (.int .i64 (i : Int)))) :: L1) (fun i => [.blk 41 (rl a), .blk 41 [.bool false, .nils, .bool false, .nils], .blk 41 (rl (if i = 0 then a else if 0 < cmpQ b a then b else a))]) (fun i => 1 - i) (fun i => i ≤ 1) 0 (Nat.zero_le _) rfl (fun _ _ => rfl) rfl fun i hi => ?_
  rcases (show i = 0 ∨ i = 1 by omega) with rfl | rfl
  · by_cases h : 0 < cmpQ b a
    · refine go tt [.t rfl, .x (i := 0) (xs := rl b) rfl, .c [] cc, .t (by simpa using h), .c [] cb] rfl (by simp [AllP]) ?_
      exact rd 1 (by omega) (by omega) (by rw [if_pos h]; rfl)
    · refine go tt [.t rfl, .x (i := 0) (xs := rl b) rfl, .c [] cc, .f (by simpa using h)] rfl (by simp [AllP]) ?_
      exact rd 1 (by omega) (by omega) (by rw [if_neg h]; rfl)
  · exact en tt [.f rfl] rfl rfl trivial
theorem c_ACmp {a b : Tm} {c : Int} (ha : Tb a) (hb : Tb b) (h : cmpO a b = some c) : Does Tryz.prog 125 [.agg (ta a), .agg (ta b)] [.one (.int .i64 c)] := by
  have ca := c_tnorm ha
  have cb := c_tnorm hb
  have pa := c_tpoint ha
  have pb := c_tpoint hb
  unfold cmpO at h
  by_cases h1 : a.point = true
  · rw [if_pos h1] at h
    injection h with h; subst h
    have := cmpR_bd b a.lo
    exact w tt Tryz.func125 rfl [.c [] ca, .c [] cb, .c [] pa, .t h1, .c [] (c_CmpR hb ha.lo)] rfl rfl (by simp [AllP]; omega)
  rw [if_neg h1] at h
  have h1 : a.point = false := by simpa using h1
  by_cases h2 : b.point = true
  · rw [if_pos h2] at h
    injection h with h; subst h
    exact w tt Tryz.func125 rfl [.c [] ca, .c [] cb, .c [] pa, .f h1, .c [] pb, .t h2, .c [] (c_CmpR ha hb.lo)] rfl rfl trivial
  rw [if_neg h2] at h
  have h2 : b.point = false := by simpa using h2
  obtain ⟨lo, hlo⟩ : ∃ lo, lo = if 0 < cmpQ b.lo a.lo then b.lo else a.lo := ⟨_, rfl⟩
  obtain ⟨hi, hhi⟩ : ∃ hi, hi = if cmpQ b.hi a.hi < 0 then b.hi else a.hi := ⟨_, rfl⟩
  have h : (if cmpQ lo hi < 0 then (pgcd a.p b.p).bind fun g => if 1 < g.length ∧ hasR g lo hi = true then some 0 else (apF (stepsN a b) a b).bind fun r => some r.2.2 else (apF (stepsN a b) a b).bind fun r => some r.2.2) = some c := by rw [hlo, hhi]; exact h
  have qlo : Qb lo := by rw [hlo]; split; exact hb.lo; exact ha.lo
  have qhi : Qb hi := by rw [hhi]; split; exact hb.hi; exact ha.hi
  have cm := c_rMax2 ha.lo hb.lo
  rw [← hlo] at cm
  have cc1 := c_rCmp hb.hi.s31 ha.hi.s31
  have cc2 := c_rCmp qlo.s31 qhi.s31
  refine fnD Tryz.func125 rfl ?_
  refine go tt [.c [] ca, .c [] cb, .c [] pa, .f h1, .c [] pb, .f h2, .c [] cm] rfl trivial ?_
  refine ct 2 (S := Unit) (fun _ => [(6, .v (.one (.ow 3 0))), (5, .v (.one (.ow 2 0))), (4, .v (.one (.int .i64 0))), (3, .v (.one (.ow 1 0))), (2, .v (.one (.ow 0 0)))]) (fun _ => [.blk 67 (ta a), .blk 67 (ta b), .blk 41 (rl lo), .blk 41 (rl hi)]) (fun _ => True) rfl ?_ ?_
  · by_cases D : cmpQ b.hi a.hi < 0
    · rw [if_pos D] at hhi; subst hhi
      exact go tt [.c [] cc1, .t (by simpa using D)] rfl trivial (rc () trivial rfl)
    · rw [if_neg D] at hhi; subst hhi
      exact go tt [.c [] cc1, .f (by simpa using D)] rfl trivial (rc () trivial rfl)
  · rintro _ _
    by_cases D : cmpQ lo hi < 0
    · rw [if_pos D] at h
      obtain ⟨g, g1, h⟩ := Option.bind_eq_some_iff.1 h
      have cg := c_PGcd ha.p hb.p g1
      have pg := pb_gcd ha.p hb.p g1
      have ch := c_hasR pg qlo qhi
      by_cases G : 1 < g.length
      · by_cases R : hasR g lo hi = true
        · rw [if_pos ⟨G, R⟩] at h
          injection h with h; subst h
          exact en tt [.c [] cc2, .t (by simpa using D), .c [] cg, .c [] (c_Deg g), .g 58 true (by simp; omega), .c [] ch, .t R] rfl rfl trivial
        · rw [if_neg fun h => R h.2] at h
          obtain ⟨r, r1, h⟩ := Option.bind_eq_some_iff.1 h
          injection h with h; subst h
          exact en tt [.c [] cc2, .t (by simpa using D), .c [] cg, .c [] (c_Deg g), .g 58 true (by simp; omega), .c [] ch, .f (by simpa using R), .c [] (c_apart ha hb r1)] rfl rfl trivial
      · rw [if_neg fun h => G h.1] at h
        obtain ⟨r, r1, h⟩ := Option.bind_eq_some_iff.1 h
        injection h with h; subst h
        exact en tt [.c [] cc2, .t (by simpa using D), .c [] cg, .c [] (c_Deg g), .g 58 false (by simp; omega), .f rfl, .c [] (c_apart ha hb r1)] rfl rfl trivial
    · rw [if_neg D] at h
      obtain ⟨r, r1, h⟩ := Option.bind_eq_some_iff.1 h
      injection h with h; subst h
      exact en tt [.c [] cc2, .f (by simpa using D), .c [] (c_apart ha hb r1)] rfl rfl trivial
theorem c_ASign {p : List Int} {a : Tm} {s : Int} (hp : Pb p) (ha : Tb a) (h : signO p a = some s) : Does Tryz.prog 181 [pr p, .agg (ta a)] [.one (.int .i64 s)] := by
  have ca := c_tnorm ha
  have pa := c_tpoint ha
  have cn := c_PNormT hp.t hp.ln hp.bd
  unfold signO at h
  by_cases h0 : p.length = 0
  · rw [if_pos h0] at h
    injection h with h; subst h
    exact w tt Tryz.func181 rfl [.c [] cn, .c [] ca, .t (by simp; exact List.eq_nil_of_length_eq_zero h0)] rfl rfl trivial
  rw [if_neg h0] at h
  have h0 : p ≠ [] := fun e => h0 (by rw [e]; rfl)
  by_cases h1 : a.point = true
  · rw [if_pos h1] at h
    injection h with h; subst h
    exact w tt Tryz.func181 rfl [.c [] cn, .c [] ca, .f (by simpa using h0), .c [] pa, .t h1, .c [] (c_PS hp ha.lo)] rfl rfl trivial
  rw [if_neg h1] at h
  have h1 : a.point = false := by simpa using h1
  obtain ⟨g, g1, h⟩ := Option.bind_eq_some_iff.1 h
  have cg := c_PGcd hp ha.p g1
  have pg := pb_gcd hp ha.p g1
  have ch := c_hasR pg ha.lo ha.hi
  by_cases G : 1 < g.length ∧ hasR g a.lo a.hi = true
  · rw [if_pos G] at h
    injection h with h; subst h
    exact w tt Tryz.func181 rfl [.c [] cn, .c [] ca, .f (by simpa using h0), .c [] pa, .f h1, .c [] cg, .c [] (c_Deg g), .g 29 true (by simp; omega), .c [] ch, .t G.2] rfl rfl trivial
  rw [if_neg G] at h
  obtain ⟨c, c1, h⟩ := Option.bind_eq_some_iff.1 h
  obtain ⟨u, u1, h⟩ := Option.bind_eq_some_iff.1 h
  injection h with h; subst h
  obtain ⟨cl, call⟩ := chain_ok hp c1
  obtain ⟨n, hn⟩ : ∃ n, n = 64 + 2 * (isz a.lo.num + isz a.hi.num) + 4 * (a.p.length + p.length) * (psize a.p + psize p + (a.p.length + p.length) + 8) := ⟨_, rfl⟩
  have cst := c_stepsS ha hp
  rw [show stepsS p a = n from hn.symm] at cst
  rw [← hn] at u1
  have hnb : n ≤ 17179938816 + 200000000 := by
    have l1 := ha.p.l
    have l2 := hp.l
    have b1 := ha.lo.1
    have b2 := ha.hi.1
    have s1 : psize a.p ≤ 16777216 := by have := psize_le ha.p.b a.p.length; rwa [List.take_length] at this
    have s2 : psize p ≤ 16777216 := by have := psize_le hp.b p.length; rwa [List.take_length] at this
    have : 4 * (a.p.length + p.length) * (psize a.p + psize p + (a.p.length + p.length) + 8) ≤ 512 * 33554568 := Nat.mul_le_mul (by omega) (by omega)
    omega
  refine fnD Tryz.func181 rfl ?_
  refine go tt [.c [] cn, .c [] ca, .f (by simpa using h0), .c [] pa, .f h1, .c [] cg] rfl trivial ?_
  refine ct 2 (S := Unit) (fun _ => [(3, .v (.one (.ow 0 0))), (0, .v (pr p))]) (fun _ => [.blk 67 (ta a)]) (fun _ => True) rfl ?_ ?_
  · by_cases G1 : 1 < g.length
    · exact go tt [.c [] (c_Deg g), .g 29 true (by simp; omega), .c [] ch, .f (by simpa using fun h => G ⟨G1, h⟩)] rfl trivial (rc () trivial rfl)
    · exact go tt [.c [] (c_Deg g), .g 29 false (by simp; omega), .f rfl] rfl trivial (rc () trivial rfl)
  rintro _ _
  refine go tt [.c [] (c_SNew hp c1), .c [] cst] rfl trivial ?_
  refine lp (S := Nat × Tm) 1 (fun L1 s => (46, .v (.one (.int .i64 (s.1 : Int)))) :: L1) (fun s => [.blk 67 (ta s.2)]) (fun s => n - s.1) (fun s => s.1 ≤ n ∧ Tb s.2 ∧ sgF c (n - s.1) s.2 = some u) (0, a) ⟨Nat.zero_le _, ha, u1⟩ rfl (fun _ _ => rfl) rfl fun ⟨i, x⟩ ⟨j1, j2, j3⟩ => ?_
  dsimp only at j1 j2 j3 ⊢
  by_cases hi : i < n
  · obtain ⟨k, hk⟩ : ∃ k, n - i = k + 1 := ⟨n - i - 1, by omega⟩
    have hk' : n - (i + 1) = k := by omega
    rw [hk] at j3
    simp only [sgF] at j3
    have px := c_tpoint j2
    have cb := c_Between (by omega) call j2.lo j2.hi
    have hlt : decide ((i : Int) < (n : Int)) = true := by simp; omega
    by_cases X : x.point = true
    · rw [if_pos (.inl X)] at j3
      injection j3 with j3; subst j3
      exact en tt [.t hlt, .c [] px, .g 50 true X, .t rfl, .c [] (c_PS hp j2.hi)] rfl rfl trivial
    · have X' : x.point = false := by simpa using X
      by_cases Z : between c x.lo x.hi = 0
      · rw [if_pos (.inr Z)] at j3
        injection j3 with j3; subst j3
        exact en tt [.t hlt, .c [] px, .g 50 false X', .c [] cb, .t (by simpa using Z), .c [] (c_PS hp j2.hi)] rfl rfl trivial
      · rw [if_neg (by rintro (h | h); exact X h; exact Z h)] at j3
        obtain ⟨v, v1, v2⟩ := Option.bind_eq_some_iff.1 j3
        refine go tt [.t hlt, .c [] px, .g 50 false X', .c [] cb, .f (by simpa using Z), .c [] (c_half j2 v1)] rfl (by simp [AllP]; omega) ?_
        exact rd (i + 1, v) (by dsimp only; omega) ⟨hi, tb_half j2 v1, by dsimp only; rw [hk']; exact v2⟩ rfl
  · obtain rfl : i = n := by omega
    rw [Nat.sub_self] at j3
    simp only [sgF] at j3
    injection j3 with j3; subst j3
    exact en tt [.f (by simp), .c [] (c_PS hp j2.hi)] rfl rfl trivial
abbrev tas (l : List Tm) : LV := .row (l.map fun t => ta t)
theorem tas_get {l : List Tm} {i : Nat} {t : Tm} (h : l[i]? = some t) : (l.map fun t => ta t)[i]? = some (ta t) := map_get h
def zTr : List LV := [.row [], .bool false, .row [], .bool false, .row [], .bool false, .row [], .bool false, .row []]
theorem c_Least0 : Does Tryz.prog 136 [.one (.row [])] [.agg zTr, .one (.bool false)] := w tt Tryz.func136 rfl [.t rfl] rfl rfl trivial
theorem c_ALeast {b : Tm} {l : List Tm} {m : Tm} (hb : Tb b) (hl : ∀ t ∈ l, Tb t) (hn : l.length ≤ 1000000) (h : leastF b l = some m) : Does Tryz.prog 136 [.one (tas (b :: l))] [.agg (ta m), .one (.bool true)] := by
  refine fnD Tryz.func136 rfl ?_
  refine go tt [.f (by simp; omega), .x (i := 0) (xs := ta b) rfl, .i 1] rfl (by simp [AllP]; exact ⟨rfl, fun _ _ => rfl⟩) ?_
  refine lp (S := Nat × Tm) 2 (fun L1 s => (17, .v (.one (.int .i64 (s.1 : Int)))) :: L1) (fun s => [.blk 67 zTm, .blk 67 (ta s.2)]) (fun s => l.length - s.1) (fun s => s.1 ≤ l.length ∧ Tb s.2 ∧ leastF s.2 (l.drop s.1) = some m) (0, b) ⟨Nat.zero_le _, hb, h⟩ rfl (fun _ _ => rfl) rfl fun ⟨i, x⟩ ⟨j1, j2, j3⟩ => ?_
  dsimp only at j1 j2 j3 ⊢
  by_cases hi : i < l.length
  · obtain ⟨a, ha⟩ : ∃ a, l[i]? = some a := ⟨_, List.getElem?_eq_getElem hi⟩
    have hdr : l.drop i = a :: l.drop (i + 1) := by
      rw [List.drop_eq_getElem_cons hi]; congr 1
      have := List.getElem?_eq_getElem hi; rw [ha] at this; injection this with this; exact this.symm
    rw [hdr] at j3
    simp only [leastF] at j3
    obtain ⟨c, c1, j3⟩ := Option.bind_eq_some_iff.1 j3
    have ta' := hl a (List.mem_of_getElem? ha)
    by_cases hc : c < 0
    · rw [if_pos hc] at j3
      refine go tt [.t (by simp; omega), .x (tas_get ha), .c [] (c_ACmp ta' j2 c1), .t (by simpa using hc)] rfl (by simp [AllP]; omega) ?_
      exact rd (i + 1, a) (by dsimp only; omega) ⟨hi, ta', j3⟩ rfl
    · rw [if_neg hc] at j3
      refine go tt [.t (by simp; omega), .x (tas_get ha), .c [] (c_ACmp ta' j2 c1), .f (by simpa using hc)] rfl (by simp [AllP]; omega) ?_
      exact rd (i + 1, x) (by dsimp only; omega) ⟨hi, j2, j3⟩ rfl
  · obtain rfl : i = l.length := by omega
    rw [List.drop_length] at j3
    simp only [leastF] at j3
    injection j3 with j3; subst j3
    exact en tt [.f (by simp), .c [] (c_tfresh j2)] rfl rfl trivial
end Orr

namespace Orq
/-! ### sizes of rational numbers -/
def qab (x : Rat) : Rat := if x < 0 then -x else x
theorem qab_nn (x : Rat) : 0 ≤ qab x := by unfold qab; split <;> grind
theorem qab_le {x b : Rat} : qab x ≤ b ↔ -b ≤ x ∧ x ≤ b := by unfold qab; split <;> constructor <;> grind
theorem qab_lt {x b : Rat} : qab x < b ↔ -b < x ∧ x < b := by unfold qab; split <;> constructor <;> grind
theorem qab_add (x y : Rat) : qab (x + y) ≤ qab x + qab y := by unfold qab; split <;> split <;> split <;> grind
theorem qab_sub (x y : Rat) : qab (x - y) = qab (y - x) := by unfold qab; split <;> split <;> grind
theorem qab_neg (x : Rat) : qab (-x) = qab x := by unfold qab; split <;> split <;> grind
theorem qab_zero : qab 0 = 0 := by decide
theorem qab_pos {x : Rat} (h : x ≠ 0) : 0 < qab x := by unfold qab; split <;> grind
theorem qab_eq0 {x : Rat} (h : qab x = 0) : x = 0 := by unfold qab at h; split at h <;> grind
theorem mul_nn {x y : Rat} (h1 : 0 ≤ x) (h2 : 0 ≤ y) : 0 ≤ x * y := Rat.mul_nonneg h1 h2
theorem mul_po {x y : Rat} (h1 : 0 < x) (h2 : 0 < y) : 0 < x * y := Rat.mul_pos h1 h2
theorem mul_mo {a b c d : Rat} (h0 : 0 ≤ a) (h1 : a ≤ b) (h2 : 0 ≤ c) (h3 : c ≤ d) : a * c ≤ b * d := by
  have e1 := Rat.mul_le_mul_of_nonneg_right h1 h2
  have e2 := Rat.mul_le_mul_of_nonneg_left h3 (Rat.le_trans h0 h1)
  exact Rat.le_trans e1 e2
theorem qab_mul (x y : Rat) : qab (x * y) = qab x * qab y := by
  unfold qab
  by_cases h1 : x < 0 <;> by_cases h2 : y < 0
  · have := mul_po (x := -x) (y := -y) (by grind) (by grind); simp only [h1, h2, if_true]; split <;> grind
  · have := mul_nn (x := -x) (y := y) (by grind) (by grind); simp only [h1, h2, if_true, if_false]; split <;> grind
  · have := mul_nn (x := x) (y := -y) (by grind) (by grind); simp only [h1, h2, if_true, if_false]; split <;> grind
  · have := mul_nn (x := x) (y := y) (by grind) (by grind); simp only [h1, h2, if_false]; split <;> grind
theorem qab_mul_le {x y a b : Rat} (h1 : qab x ≤ a) (h2 : qab y ≤ b) : qab (x * y) ≤ a * b := by
  rw [qab_mul]; exact mul_mo (qab_nn x) h1 (qab_nn y) h2
/-- a quotient above 0 -/
theorem div_po {x y : Rat} (h1 : 0 < x) (h2 : 0 < y) : 0 < x / y := by rw [Rat.div_def]; exact mul_po h1 (Rat.inv_pos.2 h2)
theorem div_mul {x y : Rat} (h2 : 0 < y) : x / y * y = x := Rat.div_mul_cancel (by grind)
/-- something small enough: e > 0 with e * b ≤ d -/
theorem small_ex {b d : Rat} (hb : 0 ≤ b) (hd : 0 < d) : ∃ e : Rat, 0 < e ∧ e ≤ 1 ∧ e * b < d := by
  have h1 : 0 < d / (b + 1) := div_po hd (by grind)
  have h2 : d / (b + 1) * (b + 1) = d := div_mul (by grind)
  rcases Rat.le_total (a := d / (b + 1)) (b := 1) with h | h
  · exact ⟨d / (b + 1), h1, h, by have : d / (b + 1) * (b + 1) = d / (b + 1) * b + d / (b + 1) := by grind
                                  grind⟩
  · refine ⟨1, by decide, by decide, ?_⟩
    have : 1 * (b + 1) ≤ d / (b + 1) * (b + 1) := Rat.mul_le_mul_of_nonneg_right h (by grind)
    grind
/-! ### values -/
def ev : List Rat → Rat → Rat
  | [], _ => 0
  | a :: p, t => a + t * ev p t
def dv : List Rat → Rat → Rat
  | [], _ => 0
  | _ :: p, t => ev p t + t * dv p t
/-- the divided difference -/
def dq : List Rat → Rat → Rat → Rat
  | [], _, _ => 0
  | _ :: p, x, y => ev p x + y * dq p x y
def dd : List Rat → Rat → Rat → Rat
  | [], _, _ => 0
  | _ :: p, x, y => dq p x y + y * dd p x y
theorem ev_dq (x y : Rat) : ∀ p, ev p x - ev p y = (x - y) * dq p x y
  | [] => by simp only [ev, dq]; grind
  | a :: p => by have := ev_dq x y p; simp only [ev, dq]; grind
theorem dq_self (y : Rat) : ∀ p, dq p y y = dv p y
  | [] => rfl
  | a :: p => by simp only [dq, dv, dq_self y p]
theorem dq_dd (x y : Rat) : ∀ p, dq p x y - dv p y = (x - y) * dd p x y
  | [] => by simp only [dv, dq, dd]; grind
  | a :: p => by
    have h1 := dq_dd x y p
    have h2 := ev_dq x y p
    simp only [dv, dq, dd]; grind
theorem ev_dd (p : List Rat) (x y : Rat) : ev p x - ev p y = (x - y) * dv p y + (x - y) * (x - y) * dd p x y := by
  have h1 := ev_dq x y p
  have h2 := dq_dd x y p
  grind
/-! ### bounds -/
def evB (R : Rat) : List Rat → Rat
  | [] => 0
  | a :: p => qab a + R * evB R p
def dqB (R : Rat) : List Rat → Rat
  | [] => 0
  | _ :: p => evB R p + R * dqB R p
def ddB (R : Rat) : List Rat → Rat
  | [] => 0
  | _ :: p => dqB R p + R * ddB R p
theorem evB_nn {R : Rat} (hR : 0 ≤ R) : ∀ p, 0 ≤ evB R p
  | [] => by simp only [evB]; grind
  | a :: p => by have := mul_nn hR (evB_nn hR p); have := qab_nn a; simp only [evB]; grind
theorem dqB_nn {R : Rat} (hR : 0 ≤ R) : ∀ p, 0 ≤ dqB R p
  | [] => by simp only [dqB]; grind
  | a :: p => by have := mul_nn hR (dqB_nn hR p); have := evB_nn hR p; simp only [dqB]; grind
theorem ddB_nn {R : Rat} (hR : 0 ≤ R) : ∀ p, 0 ≤ ddB R p
  | [] => by simp only [ddB]; grind
  | a :: p => by have := mul_nn hR (ddB_nn hR p); have := dqB_nn hR p; simp only [ddB]; grind
theorem ev_bd {R x : Rat} (hx : qab x ≤ R) : ∀ p, qab (ev p x) ≤ evB R p
  | [] => by simp only [ev, evB, qab_zero]; grind
  | a :: p => by
    have h1 := qab_add a (x * ev p x)
    have h2 := qab_mul_le hx (ev_bd hx p)
    simp only [ev, evB]; grind
theorem dq_bd {R x y : Rat} (hx : qab x ≤ R) (hy : qab y ≤ R) : ∀ p, qab (dq p x y) ≤ dqB R p
  | [] => by simp only [dq, dqB, qab_zero]; grind
  | a :: p => by
    have h1 := qab_add (ev p x) (y * dq p x y)
    have h2 := qab_mul_le hy (dq_bd hx hy p)
    have h3 := ev_bd hx p
    simp only [dq, dqB]; grind
theorem dd_bd {R x y : Rat} (hx : qab x ≤ R) (hy : qab y ≤ R) : ∀ p, qab (dd p x y) ≤ ddB R p
  | [] => by simp only [dd, ddB, qab_zero]; grind
  | a :: p => by
    have h1 := qab_add (dq p x y) (y * dd p x y)
    have h2 := qab_mul_le hy (dd_bd hx hy p)
    have h3 := dq_bd hx hy p
    simp only [dd, ddB]; grind
/-- values at places that are near are near -/
theorem ev_lip {R x y : Rat} (hx : qab x ≤ R) (hy : qab y ≤ R) (p : List Rat) : qab (ev p x - ev p y) ≤ qab (x - y) * dqB R p := by
  rw [ev_dq, qab_mul]; exact mul_mo (qab_nn _) Rat.le_refl (qab_nn _) (dq_bd hx hy p)
/-! ### sums, products -/
def qadd : List Rat → List Rat → List Rat
  | [], q => q
  | a :: p, [] => a :: p
  | a :: p, b :: q => (a + b) :: qadd p q
def qsc (c : Rat) (p : List Rat) : List Rat := p.map (c * ·)
def qmul : List Rat → List Rat → List Rat
  | [], _ => []
  | a :: p, q => qadd (qsc a q) (0 :: qmul p q)
def qder : List Rat → List Rat
  | [] => []
  | _ :: p => qadd p (0 :: qder p)
theorem ev_qadd (t : Rat) : ∀ p q, ev (qadd p q) t = ev p t + ev q t
  | [], q => by simp only [qadd, ev]; grind
  | a :: p, [] => by simp only [qadd, ev]; grind
  | a :: p, b :: q => by have := ev_qadd t p q; simp only [qadd, ev]; grind
theorem ev_qsc (c t : Rat) : ∀ p, ev (qsc c p) t = c * ev p t
  | [] => by simp only [qsc, List.map_nil, ev]; grind
  | a :: p => by have := ev_qsc c t p; simp only [qsc, List.map_cons, ev] at *; grind
theorem ev_qmul (t : Rat) : ∀ p q, ev (qmul p q) t = ev p t * ev q t
  | [], q => by simp only [qmul, ev]; grind
  | a :: p, q => by have := ev_qmul t p q; simp only [qmul, ev_qadd, ev_qsc, ev]; grind
theorem ev_qder (t : Rat) : ∀ p, ev (qder p) t = dv p t
  | [] => rfl
  | a :: p => by have := ev_qder t p; simp only [qder, ev_qadd, ev, dv]; grind
theorem dv_qadd (t : Rat) : ∀ p q, dv (qadd p q) t = dv p t + dv q t
  | [], q => by simp only [qadd, dv]; grind
  | a :: p, [] => by simp only [qadd, dv]; grind
  | a :: p, b :: q => by have := dv_qadd t p q; have := ev_qadd t p q; simp only [qadd, dv]; grind
theorem dv_qsc (c t : Rat) : ∀ p, dv (qsc c p) t = c * dv p t
  | [] => by simp only [qsc, List.map_nil, dv]; grind
  | a :: p => by have := dv_qsc c t p; have := ev_qsc c t p; simp only [qsc, List.map_cons, dv] at *; grind
theorem dv_qmul (t : Rat) : ∀ p q, dv (qmul p q) t = dv p t * ev q t + ev p t * dv q t
  | [], q => by simp only [qmul, dv, ev]; grind
  | a :: p, q => by have := dv_qmul t p q; have := ev_qmul t p q; simp only [qmul, dv_qadd, dv_qsc, dv, ev]; grind
/-! ### what vanishes everywhere -/
theorem ev_zero : ∀ {p : List Rat}, (∀ x ∈ p, x = 0) → ∀ t, ev p t = 0
  | [], _, t => rfl
  | a :: p, h, t => by
    have h1 := ev_zero (p := p) (fun x hx => h x (List.mem_cons_of_mem _ hx)) t
    have h2 := h a (List.mem_cons_self ..)
    simp only [ev, h1, h2]; grind
theorem dv_zero : ∀ {p : List Rat}, (∀ x ∈ p, x = 0) → ∀ t, dv p t = 0
  | [], _, t => rfl
  | a :: p, h, t => by
    have h0 := fun x hx => h x (List.mem_cons_of_mem _ hx)
    have h1 := ev_zero (p := p) h0 t
    have h2 := dv_zero (p := p) h0 t
    simp only [dv, h1, h2]; grind
theorem zero_of_ev : ∀ {p : List Rat}, (∀ t, 0 < t → t < 1 → ev p t = 0) → ∀ x ∈ p, x = 0
  | [], _ => fun x hx => by cases hx
  | a :: p, h => by
    have ha : a = 0 := by
      rcases Classical.em (a = 0) with h0 | h0
      · exact h0
      · obtain ⟨e, e1, e2, e3⟩ := small_ex (evB_nn (R := 1) (by decide) p) (qab_pos h0)
        obtain ⟨f, f1, f2, f3⟩ := small_ex (b := 1) (d := e) (by decide) e1
        have h1 := h f f1 (by grind)
        have h2 := ev_bd (R := 1) (x := f) (by unfold qab; split <;> grind) p
        have h3 := qab_mul f (ev p f)
        have h4 : qab f = f := by unfold qab; split <;> grind
        have h5 : a = -(f * ev p f) := by simp only [ev] at h1; grind
        have h6 : qab a = f * qab (ev p f) := by rw [h5, qab_neg, h3, h4]
        have h7 : f * qab (ev p f) ≤ e * evB 1 p := mul_mo (Rat.le_of_lt f1) (by grind) (qab_nn _) h2
        grind
    intro x hx
    rcases List.mem_cons.1 hx with rfl | hx
    · exact ha
    · refine zero_of_ev (p := p) (fun t h1 h2 => ?_) x hx
      have := h t h1 h2
      simp only [ev, ha] at this
      have h3 : t * ev p t = 0 := by grind
      rcases Rat.mul_eq_zero.1 h3 with h4 | h4
      · grind
      · exact h4
/-- equal values, equal derivatives -/
theorem dv_eq {p q : List Rat} (h : ∀ t, ev p t = ev q t) (t : Rat) : dv p t = dv q t := by
  have h1 := dv_zero (p := qadd p (qsc (-1) q)) (zero_of_ev fun t _ _ => by rw [ev_qadd, ev_qsc, h t]; grind) t
  rw [dv_qadd, dv_qsc] at h1; grind
end Orq
