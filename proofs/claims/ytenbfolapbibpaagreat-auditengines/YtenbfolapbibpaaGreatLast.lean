import Derived.Test.YtenbfolapbibpaaGreatPart11
import Derived.Test.YtenbfolapbibpaaGreatRows
import Derived.JoinedCond
import Derived.Test.YtenbfolapbibpaaGreatPart00
set_option linter.all false
namespace Go.Proofs.YtenbfolapbibpaaGreat.auditEngines
open Go Go.Proofs Go.ChangeShapes Go.WideShapes Go.ChangeAt Go.RowKit Orr
theorem own : ownKnob Tryz.prog.godebug = none := by kernel_rfl
theorem laid : laidOutB Tryz.prog = true := by kernel_rfl
theorem Qcv : Tryz.prog.readableRec 3 = true := by kernel_rfl
theorem nY : 3 < Tryz.prog.types.size := of_decide_eq_true (by kernel_rfl)
theorem Qtj : Tryz.prog.readableRec 22 = true := by kernel_rfl
theorem Qnv : 22 < Tryz.prog.types.size := of_decide_eq_true (by kernel_rfl)
abbrev ps : List (TypeId × (TV → Prop)) := [(3, Qv8), (3, Qv8), (22, Q0n)]
theorem rds : ∀ q ∈ ps, zU q.1 q.2 := fun q hq => by
  simp only [ps, List.mem_cons, List.not_mem_nil, or_false] at hq
  rcases hq with rfl | rfl | rfl
  · exact yT
  · exact yT
  · exact Qf0
theorem Q4g : ∀ q ∈ ps, Tryz.prog.readableRec q.1 = true ∧ q.1 < Tryz.prog.types.size := fun q hq => by
  simp only [ps, List.mem_cons, List.not_mem_nil, or_false] at hq
  rcases hq with rfl | rfl | rfl
  · exact ⟨Qcv, nY⟩
  · exact ⟨Qcv, nY⟩
  · exact ⟨Qtj, Qnv⟩
theorem Q4a (us : List TV) (h : F2 (fun u (q : TypeId × (TV → Prop)) => q.2 u) us ps) : qM Tryz.prog 3 us [.one (.bool true)] := by
  unfold ps at h
  cases h with
  | cons x0 h =>
    obtain ⟨a0, h0, rfl⟩ := x0
    cases h with
    | cons x1 h =>
      obtain ⟨a1, h1, rfl⟩ := x1
      cases h with
      | cons x2 h =>
        obtain ⟨a2, h2, rfl⟩ := x2
        cases h
        exact BM h0 h1 h2
theorem Q2j (H : Type) (ds : List (DataW H)) (h : ds.length = ps.length) : (Rows.auditEnginesSpec).fn H ds = { results := [.lit (.bool true)], args := ds } := by
  match ds, h with
  | [_, _, _], _ => rfl
set_option maxRecDepth 100000 in
theorem lifted (os : Os) (started : os.Started) (H : Type) (enc : TypeId × Value → H) :
    ReturnsInHanded {} Tryz.checked os 3 .any (Rows.auditEnginesSpec.pre6 enc Tryz.prog Tryz.f3 [] false) (Rows.auditEnginesSpec.post enc Tryz.prog Tryz.f3 false true false false) := by
  refine returnsInHanded_of_change_sized (C := Tryz.checked) own started (by kernel_rfl) Tryz.func3
    (ChangeSpec.witness6 (enc := enc) (C := Tryz.checked) (s := Rows.auditEnginesSpec) false ⟨#[], #[.int .i64 0, .int .i64 0, .slice none 0 0], []⟩ 8 (by kernel_rfl) (by kernel_rfl) (by kernel_rfl) (by kernel_rfl)) ?_
  intro W base args ds gs H8 hval hW _ hz _
  exact Qlj (ps := ps) Tryz.params3 (by kernel_rfl) rfl Q2j laid Q4g rds Q4a hval hW hz
set_option maxRecDepth 100000 in
set_option maxHeartbeats 8000000 in
theorem closed : joinedFacts Tryz.pinned.checked.prog 3 Tryz.f3 Rows.auditEnginesSpec Rows.auditEnginesRow = true := by
  unfold joinedFacts
  simp only [Bool.and_eq_true]
  repeat' apply And.intro
  all_goals as_aux_lemma => kernel_rfl
theorem named : Tryz.pinned.checked.prog.funcNamed Rows.auditEnginesRow.func = some 3 := by kernel_rfl
theorem inst : Tryz.f3.isInstance Tryz.pinned.checked.prog Rows.auditEnginesRow.origin Rows.auditEnginesRow.targs := of_decide_eq_true (by kernel_rfl)
theorem wrap : Tryz.f3.isWrapper Tryz.pinned.checked.prog Rows.auditEnginesRow.wrapper Rows.auditEnginesRow.mainSum := by
  unfold Func.isWrapper
  first | (rw [if_pos (by decide +kernel)]; kernel_rfl) | (rw [if_neg (by decide +kernel)]; exact ⟨rfl, rfl⟩)
theorem over : Rows.auditEnginesRow.holds Tryz.pinned (OpenSpec.ofChange Rows.auditEnginesSpec) :=
  OpenClaim.holds_of_wide 3 Tryz.f3 rfl rfl rfl rfl rfl rfl rfl ⟨rfl, rfl, rfl, rfl, rfl⟩ rfl rfl rfl rfl rfl named Tryz.func3 closed inst wrap
    (fun os started H enc _ => lifted os started H enc)
theorem proved : Rows.AuditEnginesSaid :=
  over
end Go.Proofs.YtenbfolapbibpaaGreat.auditEngines
