/- ClaimAY -/
import Derived.Test.YtdcbpgmmopdelaaGreatPart11
import Derived.Test.YtdcbpgmmopdelaaGreatRows
import Derived.JoinedCond
import Derived.Test.YtdcbpgmmopdelaaGreatPart00
set_option linter.all false
namespace Go.Proofs.YtdcbpgmmopdelaaGreat.auditAny
open Go Go.Proofs Go.ChangeShapes Go.WideShapes Go.ChangeAt Go.RowKit Orr
theorem own : ownKnob Tryz.prog.godebug = none := by kernel_rfl
theorem laid : laidOutB Tryz.prog = true := by kernel_rfl
theorem Qqi : Tryz.prog.readableRec 3 = true := by kernel_rfl
theorem Ql3 : 3 < Tryz.prog.types.size := of_decide_eq_true (by kernel_rfl)
theorem pL : Tryz.prog.readableRec 23 = true := by kernel_rfl
theorem jN : 23 < Tryz.prog.types.size := of_decide_eq_true (by kernel_rfl)
theorem Qqj : Tryz.prog.readableRec 22 = true := by kernel_rfl
theorem Ql4 : 22 < Tryz.prog.types.size := of_decide_eq_true (by kernel_rfl)
theorem Qk7 : Tryz.prog.readableRec 63 = true := by kernel_rfl
theorem Qe1 : 63 < Tryz.prog.types.size := of_decide_eq_true (by kernel_rfl)
abbrev ps : List (TypeId × (TV → Prop)) := [(22, Qws), (23, Qfl), (3, Qwp), (23, Qfl), (63, Qru)]
theorem rds : ∀ q ∈ ps, MK q.1 q.2 := fun q hq => by
  simp only [ps, List.mem_cons, List.not_mem_nil, or_false] at hq
  rcases hq with rfl | rfl | rfl | rfl | rfl
  · exact Qer
  · exact IE
  · exact Qeq
  · exact IE
  · exact lO
theorem Q0a : ∀ q ∈ ps, Tryz.prog.readableRec q.1 = true ∧ q.1 < Tryz.prog.types.size := fun q hq => by
  simp only [ps, List.mem_cons, List.not_mem_nil, or_false] at hq
  rcases hq with rfl | rfl | rfl | rfl | rfl
  · exact ⟨Qqj, Ql4⟩
  · exact ⟨pL, jN⟩
  · exact ⟨Qqi, Ql3⟩
  · exact ⟨pL, jN⟩
  · exact ⟨Qk7, Qe1⟩
theorem Qz2 (us : List TV) (h : F2 (fun u (q : TypeId × (TV → Prop)) => q.2 u) us ps) : yK Tryz.prog 6 us [.one (.bool true)] := by
  unfold ps at h
  cases h with
  | cons x0 h =>
    obtain ⟨a0, h0, rfl⟩ := x0
    cases h with
    | cons x1 h =>
      obtain ⟨a1, h1, rfl⟩ := x1
      cases h with
      | cons x2 h =>
        obtain ⟨a2, h2, rfl⟩ := x2
        cases h with
        | cons x3 h =>
          obtain ⟨a3, h3, rfl⟩ := x3
          cases h with
          | cons x4 h =>
            obtain ⟨a4, h4, rfl⟩ := x4
            cases h
            exact rN h0 h1 h2
theorem Qyi (H : Type) (ds : List (DataW H)) (h : ds.length = ps.length) : (Rows.auditAnySpec).fn H ds = { results := [.lit (.bool true)], args := ds } := by
  match ds, h with
  | [_, _, _, _, _], _ => rfl
set_option maxRecDepth 100000 in
theorem lifted (os : Os) (started : os.Started) (H : Type) (enc : TypeId × Value → H) :
    ReturnsInHanded {} Tryz.checked os 6 .any (Rows.auditAnySpec.pre6 enc Tryz.prog Tryz.f6 [] false) (Rows.auditAnySpec.post enc Tryz.prog Tryz.f6 false true false false) := by
  refine returnsInHanded_of_change_sized (C := Tryz.checked) own started (by kernel_rfl) Tryz.func6
    (ChangeSpec.witness6 (enc := enc) (C := Tryz.checked) (s := Rows.auditAnySpec) false ⟨#[], #[.slice none 0 0, .slice none 0 0, .int .i64 0, .slice none 0 0, .slice none 0 0], []⟩ 8 (by kernel_rfl) (by kernel_rfl) (by kernel_rfl) (by kernel_rfl)) ?_
  intro W base args ds gs Rk hval hW _ hz _
  exact Qjj (ps := ps) Tryz.params6 (by kernel_rfl) rfl Qyi laid Q0a rds Qz2 hval hW hz
set_option maxRecDepth 100000 in
set_option maxHeartbeats 8000000 in
theorem closed : joinedFacts Tryz.pinned.checked.prog 6 Tryz.f6 Rows.auditAnySpec Rows.auditAnyRow = true := by
  unfold joinedFacts
  simp only [Bool.and_eq_true]
  repeat' apply And.intro
  all_goals as_aux_lemma => kernel_rfl
theorem named : Tryz.pinned.checked.prog.funcNamed Rows.auditAnyRow.func = some 6 := by kernel_rfl
theorem inst : Tryz.f6.isInstance Tryz.pinned.checked.prog Rows.auditAnyRow.origin Rows.auditAnyRow.targs := of_decide_eq_true (by kernel_rfl)
theorem wrap : Tryz.f6.isWrapper Tryz.pinned.checked.prog Rows.auditAnyRow.wrapper Rows.auditAnyRow.mainSum := by
  unfold Func.isWrapper
  first | (rw [if_pos (by decide +kernel)]; kernel_rfl) | (rw [if_neg (by decide +kernel)]; exact ⟨rfl, rfl⟩)
theorem over : Rows.auditAnyRow.holds Tryz.pinned (OpenSpec.ofChange Rows.auditAnySpec) :=
  OpenClaim.holds_of_wide 6 Tryz.f6 rfl rfl rfl rfl rfl rfl rfl ⟨rfl, rfl, rfl, rfl, rfl⟩ rfl rfl rfl rfl rfl named Tryz.func6 closed inst wrap
    (fun os started H enc _ => lifted os started H enc)
theorem proved : Rows.AuditAnySaid :=
  over
end Go.Proofs.YtdcbpgmmopdelaaGreat.auditAny
