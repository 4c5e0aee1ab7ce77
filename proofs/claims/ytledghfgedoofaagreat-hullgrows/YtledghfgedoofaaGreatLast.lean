/- ClaimHG -/
import Derived.Test.YtledghfgedoofaaGreatPart09
import Derived.Test.YtledghfgedoofaaGreatRows
import Derived.JoinedCond
set_option linter.all false
namespace Go.Proofs.YtledghfgedoofaaGreat.hullGrows
open Go Go.Proofs Go.ChangeShapes Go.WideShapes Go.ChangeAt Go.RowKit Orr
theorem own : ownKnob Tryz.prog.godebug = none := by kernel_rfl
set_option maxRecDepth 100000 in
theorem lifted (os : Os) (started : os.Started) (H : Type) (enc : TypeId × Value → H) :
    ReturnsInHanded {} Tryz.checked os 3 .any (Rows.hullGrowsSpec.pre6 enc Tryz.prog Tryz.f3 [] false) (Rows.hullGrowsSpec.post enc Tryz.prog Tryz.f3 false true false false) := by
  refine returnsInHanded_of_change_sized (C := Tryz.checked) own started (by kernel_rfl) Tryz.func3
    (ChangeSpec.witness6 (enc := enc) (C := Tryz.checked) (s := Rows.hullGrowsSpec) false ⟨#[], #[.int .i64 0, .int .i64 0, .int .i64 0, .int .i64 0, .int .i64 0], []⟩ 8 (by kernel_rfl) (by kernel_rfl) (by kernel_rfl) (by kernel_rfl)) ?_
  intro W base args ds gs Xu hval hW _ hz _
  exact Qrb Tryz.params3 (by kernel_rfl) rfl (fun _ _ _ _ _ _ => rfl) (fun _ _ _ _ _ h1 h2 h3 h4 h5 => Ir (by omega) (by omega) (by omega) (by omega) (by omega)) hval hW
set_option maxRecDepth 100000 in
set_option maxHeartbeats 8000000 in
theorem closed : joinedFacts Tryz.pinned.checked.prog 3 Tryz.f3 Rows.hullGrowsSpec Rows.hullGrowsRow = true := by
  unfold joinedFacts
  simp only [Bool.and_eq_true]
  repeat' apply And.intro
  all_goals as_aux_lemma => kernel_rfl
theorem named : Tryz.pinned.checked.prog.funcNamed Rows.hullGrowsRow.func = some 3 := by kernel_rfl
theorem inst : Tryz.f3.isInstance Tryz.pinned.checked.prog Rows.hullGrowsRow.origin Rows.hullGrowsRow.targs := of_decide_eq_true (by kernel_rfl)
theorem wrap : Tryz.f3.isWrapper Tryz.pinned.checked.prog Rows.hullGrowsRow.wrapper Rows.hullGrowsRow.mainSum := by
  unfold Func.isWrapper
  first | (rw [if_pos (by decide +kernel)]; kernel_rfl) | (rw [if_neg (by decide +kernel)]; exact ⟨rfl, rfl⟩)
theorem over : Rows.hullGrowsRow.holds Tryz.pinned (OpenSpec.ofChange Rows.hullGrowsSpec) :=
  OpenClaim.holds_of_wide 3 Tryz.f3 rfl rfl rfl rfl rfl rfl rfl ⟨rfl, rfl, rfl, rfl, rfl⟩ rfl rfl rfl rfl rfl named Tryz.func3 closed inst wrap
    (fun os started H enc _ => lifted os started H enc)
theorem proved : Rows.HullGrowsSaid :=
  over
end Go.Proofs.YtledghfgedoofaaGreat.hullGrows
