/- ClaimAW -/
import Derived.Test.YtdcbpgmmopdelaaGreatPart11
import Derived.Test.YtdcbpgmmopdelaaGreatRows
import Derived.JoinedCond
import Derived.Test.YtdcbpgmmopdelaaGreatPart00
set_option linter.all false
namespace Go.Proofs.YtdcbpgmmopdelaaGreat.auditWrong
open Go Go.Proofs Go.ChangeShapes Go.WideShapes Go.ChangeAt Go.RowKit Orr
theorem own : ownKnob Tryz.prog.godebug = none := by kernel_rfl
theorem laid : laidOutB Tryz.prog = true := by kernel_rfl
theorem Qcm : Tryz.prog.readableRec 3 = true := by kernel_rfl
theorem mT : 3 < Tryz.prog.types.size := of_decide_eq_true (by kernel_rfl)
theorem Qlf : Tryz.prog.readableRec 23 = true := by kernel_rfl
theorem Qe8 : 23 < Tryz.prog.types.size := of_decide_eq_true (by kernel_rfl)
theorem Qqp : Tryz.prog.readableRec 22 = true := by kernel_rfl
theorem Qmb : 22 < Tryz.prog.types.size := of_decide_eq_true (by kernel_rfl)
abbrev ps : List (TypeId × (TV → Prop)) := [(22, Qwp), (23, Qry), (3, Qs8), (3, Qs8)]
theorem rds : ∀ q ∈ ps, DF q.1 q.2 := fun q hq => by
  simp only [ps, List.mem_cons, List.not_mem_nil, or_false] at hq
  rcases hq with rfl | rfl | rfl | rfl
  · exact Qey
  · exact eR
  · exact jP
  · exact jP
theorem Qz8 : ∀ q ∈ ps, Tryz.prog.readableRec q.1 = true ∧ q.1 < Tryz.prog.types.size := fun q hq => by
  simp only [ps, List.mem_cons, List.not_mem_nil, or_false] at hq
  rcases hq with rfl | rfl | rfl | rfl
  · exact ⟨Qqp, Qmb⟩
  · exact ⟨Qlf, Qe8⟩
  · exact ⟨Qcm, mT⟩
  · exact ⟨Qcm, mT⟩
theorem Qz0 (us : List TV) (h : F2 (fun u (q : TypeId × (TV → Prop)) => q.2 u) us ps) : yT Tryz.prog 5 us [.one (.bool true)] := by
  unfold ps at h
  cases h with
  | cons x0 h =>
    obtain ⟨a0, h0, rfl⟩ := x0
    cases h with
    | cons x1 h =>
      obtain ⟨a1, h1, rfl⟩ := x1
      cases h with
      | cons x2 h =>
        obtain ⟨a2, h2, rfl⟩ := x2
        cases h with
        | cons x3 h =>
          obtain ⟨a3, h3, rfl⟩ := x3
          cases h
          exact qX h0 h1 h2 h3
theorem Qyh (H : Type) (ds : List (DataW H)) (h : ds.length = ps.length) : (Rows.auditWrongSpec).fn H ds = { results := [.lit (.bool true)], args := ds } := by
  match ds, h with
  | [_, _, _, _], _ => rfl
set_option maxRecDepth 100000 in
theorem lifted (os : Os) (started : os.Started) (H : Type) (enc : TypeId × Value → H) :
    ReturnsInHanded {} Tryz.checked os 5 .any (Rows.auditWrongSpec.pre6 enc Tryz.prog Tryz.f5 [] false) (Rows.auditWrongSpec.post enc Tryz.prog Tryz.f5 false true false false) := by
  refine returnsInHanded_of_change_sized (C := Tryz.checked) own started (by kernel_rfl) Tryz.func5
    (ChangeSpec.witness6 (enc := enc) (C := Tryz.checked) (s := Rows.auditWrongSpec) false ⟨#[], #[.slice none 0 0, .slice none 0 0, .int .i64 0, .int .i64 0], []⟩ 8 (by kernel_rfl) (by kernel_rfl) (by kernel_rfl) (by kernel_rfl)) ?_
  intro W base args ds gs Rh hval hW _ hz _
  exact Qju (ps := ps) Tryz.params5 (by kernel_rfl) rfl Qyh laid Qz8 rds Qz0 hval hW hz
set_option maxRecDepth 100000 in
set_option maxHeartbeats 8000000 in
theorem closed : joinedFacts Tryz.pinned.checked.prog 5 Tryz.f5 Rows.auditWrongSpec Rows.auditWrongRow = true := by
  unfold joinedFacts
  simp only [Bool.and_eq_true]
  repeat' apply And.intro
  all_goals as_aux_lemma => kernel_rfl
theorem named : Tryz.pinned.checked.prog.funcNamed Rows.auditWrongRow.func = some 5 := by kernel_rfl
theorem inst : Tryz.f5.isInstance Tryz.pinned.checked.prog Rows.auditWrongRow.origin Rows.auditWrongRow.targs := of_decide_eq_true (by kernel_rfl)
theorem wrap : Tryz.f5.isWrapper Tryz.pinned.checked.prog Rows.auditWrongRow.wrapper Rows.auditWrongRow.mainSum := by
  unfold Func.isWrapper
  first | (rw [if_pos (by decide +kernel)]; kernel_rfl) | (rw [if_neg (by decide +kernel)]; exact ⟨rfl, rfl⟩)
theorem over : Rows.auditWrongRow.holds Tryz.pinned (OpenSpec.ofChange Rows.auditWrongSpec) :=
  OpenClaim.holds_of_wide 5 Tryz.f5 rfl rfl rfl rfl rfl rfl rfl ⟨rfl, rfl, rfl, rfl, rfl⟩ rfl rfl rfl rfl rfl named Tryz.func5 closed inst wrap
    (fun os started H enc _ => lifted os started H enc)
theorem proved : Rows.AuditWrongSaid :=
  over
end Go.Proofs.YtdcbpgmmopdelaaGreat.auditWrong
