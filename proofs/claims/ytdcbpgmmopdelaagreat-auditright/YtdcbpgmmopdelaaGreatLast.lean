/- ClaimAI -/
import Derived.Test.YtdcbpgmmopdelaaGreatPart11
import Derived.Test.YtdcbpgmmopdelaaGreatRows
import Derived.JoinedCond
import Derived.Test.YtdcbpgmmopdelaaGreatPart00
set_option linter.all false
namespace Go.Proofs.YtdcbpgmmopdelaaGreat.auditRight
open Go Go.Proofs Go.ChangeShapes Go.WideShapes Go.ChangeAt Go.RowKit Orr
theorem own : ownKnob Tryz.prog.godebug = none := by kernel_rfl
theorem laid : laidOutB Tryz.prog = true := by kernel_rfl
theorem Qp1 : Tryz.prog.readableRec 3 = true := by kernel_rfl
theorem Qlo : 3 < Tryz.prog.types.size := of_decide_eq_true (by kernel_rfl)
theorem Qks : Tryz.prog.readableRec 23 = true := by kernel_rfl
theorem Qep : 23 < Tryz.prog.types.size := of_decide_eq_true (by kernel_rfl)
theorem Qp2 : Tryz.prog.readableRec 22 = true := by kernel_rfl
theorem Qlp : 22 < Tryz.prog.types.size := of_decide_eq_true (by kernel_rfl)
abbrev ps : List (TypeId × (TV → Prop)) := [(22, Qwa), (23, Qrb), (3, Qv7)]
theorem rds : ∀ q ∈ ps, CN q.1 q.2 := fun q hq => by
  simp only [ps, List.mem_cons, List.not_mem_nil, or_false] at hq
  rcases hq with rfl | rfl | rfl
  · exact Qef
  · exact lT
  · exact Qee
theorem Qzr : ∀ q ∈ ps, Tryz.prog.readableRec q.1 = true ∧ q.1 < Tryz.prog.types.size := fun q hq => by
  simp only [ps, List.mem_cons, List.not_mem_nil, or_false] at hq
  rcases hq with rfl | rfl | rfl
  · exact ⟨Qp2, Qlp⟩
  · exact ⟨Qks, Qep⟩
  · exact ⟨Qp1, Qlo⟩
theorem Qzj (us : List TV) (h : F2 (fun u (q : TypeId × (TV → Prop)) => q.2 u) us ps) : yZ Tryz.prog 4 us [.one (.bool true)] := by
  unfold ps at h
  cases h with
  | cons x0 h =>
    obtain ⟨a0, h0, rfl⟩ := x0
    cases h with
    | cons x1 h =>
      obtain ⟨a1, h1, rfl⟩ := x1
      cases h with
      | cons x2 h =>
        obtain ⟨a2, h2, rfl⟩ := x2
        cases h
        exact OS h0 h1 h2
theorem Qxz (H : Type) (ds : List (DataW H)) (h : ds.length = ps.length) : (Rows.auditRightSpec).fn H ds = { results := [.lit (.bool true)], args := ds } := by
  match ds, h with
  | [_, _, _], _ => rfl
set_option maxRecDepth 100000 in
theorem lifted (os : Os) (started : os.Started) (H : Type) (enc : TypeId × Value → H) :
    ReturnsInHanded {} Tryz.checked os 4 .any (Rows.auditRightSpec.pre6 enc Tryz.prog Tryz.f4 [] false) (Rows.auditRightSpec.post enc Tryz.prog Tryz.f4 false true false false) := by
  refine returnsInHanded_of_change_sized (C := Tryz.checked) own started (by kernel_rfl) Tryz.func4
    (ChangeSpec.witness6 (enc := enc) (C := Tryz.checked) (s := Rows.auditRightSpec) false ⟨#[], #[.slice none 0 0, .slice none 0 0, .int .i64 0], []⟩ 8 (by kernel_rfl) (by kernel_rfl) (by kernel_rfl) (by kernel_rfl)) ?_
  intro W base args ds gs Rk hval hW _ hz _
  exact Qi4 (ps := ps) Tryz.params4 (by kernel_rfl) rfl Qxz laid Qzr rds Qzj hval hW hz
set_option maxRecDepth 100000 in
set_option maxHeartbeats 8000000 in
theorem closed : joinedFacts Tryz.pinned.checked.prog 4 Tryz.f4 Rows.auditRightSpec Rows.auditRightRow = true := by
  unfold joinedFacts
  simp only [Bool.and_eq_true]
  repeat' apply And.intro
  all_goals as_aux_lemma => kernel_rfl
theorem named : Tryz.pinned.checked.prog.funcNamed Rows.auditRightRow.func = some 4 := by kernel_rfl
theorem inst : Tryz.f4.isInstance Tryz.pinned.checked.prog Rows.auditRightRow.origin Rows.auditRightRow.targs := of_decide_eq_true (by kernel_rfl)
theorem wrap : Tryz.f4.isWrapper Tryz.pinned.checked.prog Rows.auditRightRow.wrapper Rows.auditRightRow.mainSum := by
  unfold Func.isWrapper
  first | (rw [if_pos (by decide +kernel)]; kernel_rfl) | (rw [if_neg (by decide +kernel)]; exact ⟨rfl, rfl⟩)
theorem over : Rows.auditRightRow.holds Tryz.pinned (OpenSpec.ofChange Rows.auditRightSpec) :=
  OpenClaim.holds_of_wide 4 Tryz.f4 rfl rfl rfl rfl rfl rfl rfl ⟨rfl, rfl, rfl, rfl, rfl⟩ rfl rfl rfl rfl rfl named Tryz.func4 closed inst wrap
    (fun os started H enc _ => lifted os started H enc)
theorem proved : Rows.AuditRightSaid :=
  over
end Go.Proofs.YtdcbpgmmopdelaaGreat.auditRight
