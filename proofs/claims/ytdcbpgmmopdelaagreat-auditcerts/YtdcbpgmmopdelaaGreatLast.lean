/- ClaimAC -/
import Derived.Test.YtdcbpgmmopdelaaGreatPart10
import Derived.Test.YtdcbpgmmopdelaaGreatRows
import Derived.JoinedCond
import Derived.Test.YtdcbpgmmopdelaaGreatPart00
set_option linter.all false
namespace Go.Proofs.YtdcbpgmmopdelaaGreat.auditCerts
open Go Go.Proofs Go.ChangeShapes Go.WideShapes Go.ChangeAt Go.RowKit Orr
theorem own : ownKnob Tryz.prog.godebug = none := by kernel_rfl
theorem laid : laidOutB Tryz.prog = true := by kernel_rfl
theorem jJ : Tryz.prog.readableRec 3 = true := by kernel_rfl
theorem DV : 3 < Tryz.prog.types.size := of_decide_eq_true (by kernel_rfl)
theorem uB : Tryz.prog.readableRec 23 = true := by kernel_rfl
theorem OG : 23 < Tryz.prog.types.size := of_decide_eq_true (by kernel_rfl)
theorem Qli : Tryz.prog.readableRec 22 = true := by kernel_rfl
theorem Qg7 : 22 < Tryz.prog.types.size := of_decide_eq_true (by kernel_rfl)
abbrev ps : List (TypeId × (TV → Prop)) := [(22, Qrg), (23, Qa2), (3, Qib), (23, Qa2), (3, Qib), (3, Qib)]
theorem rds : ∀ q ∈ ps, MY q.1 q.2 := fun q hq => by
  simp only [ps, List.mem_cons, List.not_mem_nil, or_false] at hq
  rcases hq with rfl | rfl | rfl | rfl | rfl | rfl
  · exact Qab
  · exact CE
  · exact HV
  · exact CE
  · exact HV
  · exact HV
theorem Qu4 : ∀ q ∈ ps, Tryz.prog.readableRec q.1 = true ∧ q.1 < Tryz.prog.types.size := fun q hq => by
  simp only [ps, List.mem_cons, List.not_mem_nil, or_false] at hq
  rcases hq with rfl | rfl | rfl | rfl | rfl | rfl
  · exact ⟨Qli, Qg7⟩
  · exact ⟨uB, OG⟩
  · exact ⟨jJ, DV⟩
  · exact ⟨uB, OG⟩
  · exact ⟨jJ, DV⟩
  · exact ⟨jJ, DV⟩
theorem Quw (us : List TV) (h : F2 (fun u (q : TypeId × (TV → Prop)) => q.2 u) us ps) : OA Tryz.prog 3 us [.one (.bool true)] := by
  unfold ps at h
  cases h with
  | cons x0 h =>
    obtain ⟨a0, h0, rfl⟩ := x0
    cases h with
    | cons x1 h =>
      obtain ⟨a1, h1, rfl⟩ := x1
      cases h with
      | cons x2 h =>
        obtain ⟨a2, h2, rfl⟩ := x2
        cases h with
        | cons x3 h =>
          obtain ⟨a3, h3, rfl⟩ := x3
          cases h with
          | cons x4 h =>
            obtain ⟨a4, h4, rfl⟩ := x4
            cases h with
            | cons x5 h =>
              obtain ⟨a5, h5, rfl⟩ := x5
              cases h
              exact LH h0 h1 h2 h3 h4 h5
theorem Qs7 (H : Type) (ds : List (DataW H)) (h : ds.length = ps.length) : (Rows.auditCertsSpec).fn H ds = { results := [.lit (.bool true)], args := ds } := by
  match ds, h with
  | [_, _, _, _, _, _], _ => rfl
set_option maxRecDepth 100000 in
theorem lifted (os : Os) (started : os.Started) (H : Type) (enc : TypeId × Value → H) :
    ReturnsInHanded {} Tryz.checked os 3 .any (Rows.auditCertsSpec.pre6 enc Tryz.prog Tryz.f3 [] false) (Rows.auditCertsSpec.post enc Tryz.prog Tryz.f3 false true false false) := by
  refine returnsInHanded_of_change_sized (C := Tryz.checked) own started (by kernel_rfl) Tryz.func3
    (ChangeSpec.witness6 (enc := enc) (C := Tryz.checked) (s := Rows.auditCertsSpec) false ⟨#[], #[.slice none 0 0, .slice none 0 0, .int .i64 0, .slice none 0 0, .int .i64 0, .int .i64 0], []⟩ 8 (by kernel_rfl) (by kernel_rfl) (by kernel_rfl) (by kernel_rfl)) ?_
  intro W base args ds gs Sl hval hW _ hz _
  exact Qey (ps := ps) Tryz.params3 (by kernel_rfl) rfl Qs7 laid Qu4 rds Quw hval hW hz
set_option maxRecDepth 100000 in
set_option maxHeartbeats 8000000 in
theorem closed : joinedFacts Tryz.pinned.checked.prog 3 Tryz.f3 Rows.auditCertsSpec Rows.auditCertsRow = true := by
  unfold joinedFacts
  simp only [Bool.and_eq_true]
  repeat' apply And.intro
  all_goals as_aux_lemma => kernel_rfl
theorem named : Tryz.pinned.checked.prog.funcNamed Rows.auditCertsRow.func = some 3 := by kernel_rfl
theorem inst : Tryz.f3.isInstance Tryz.pinned.checked.prog Rows.auditCertsRow.origin Rows.auditCertsRow.targs := of_decide_eq_true (by kernel_rfl)
theorem wrap : Tryz.f3.isWrapper Tryz.pinned.checked.prog Rows.auditCertsRow.wrapper Rows.auditCertsRow.mainSum := by
  unfold Func.isWrapper
  first | (rw [if_pos (by decide +kernel)]; kernel_rfl) | (rw [if_neg (by decide +kernel)]; exact ⟨rfl, rfl⟩)
theorem over : Rows.auditCertsRow.holds Tryz.pinned (OpenSpec.ofChange Rows.auditCertsSpec) :=
  OpenClaim.holds_of_wide 3 Tryz.f3 rfl rfl rfl rfl rfl rfl rfl ⟨rfl, rfl, rfl, rfl, rfl⟩ rfl rfl rfl rfl rfl named Tryz.func3 closed inst wrap
    (fun os started H enc _ => lifted os started H enc)
theorem proved : Rows.AuditCertsSaid :=
  over
end Go.Proofs.YtdcbpgmmopdelaaGreat.auditCerts
