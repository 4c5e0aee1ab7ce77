/- ClaimTS -/
import Derived.Test.YtbnjginelkkonaaGreatPart10
import Derived.Test.YtbnjginelkkonaaGreatRows
import Derived.JoinedCond
set_option linter.all false

namespace Go.Proofs.YtbnjginelkkonaaGreat.tourneySplits
open Go Go.Proofs Go.ChangeShapes Go.WideShapes Go.ChangeAt Go.RowKit Orr
theorem own : ownKnob Tryz.prog.godebug = none := by kernel_rfl
theorem laid : laidOutB Tryz.prog = true := by kernel_rfl
theorem Q9b : Tryz.prog.readableRec 24 = true := by kernel_rfl
theorem Zby : Tryz.prog.readableRec 22 = true := by kernel_rfl
theorem Q66 : 24 < Tryz.prog.types.size := of_decide_eq_true (by kernel_rfl)
theorem Q9i : 22 < Tryz.prog.types.size := of_decide_eq_true (by kernel_rfl)
set_option maxRecDepth 100000 in
theorem lifted (os : Os) (started : os.Started) (H : Type) (enc : TypeId × Value → H) :
    ReturnsInHanded {} Tryz.checked os 6 .any (Rows.tourneySplitsSpec.pre6 enc Tryz.prog Tryz.f6 [] false) (Rows.tourneySplitsSpec.post enc Tryz.prog Tryz.f6 false true false false) := by
  refine returnsInHanded_of_change_sized (C := Tryz.checked) own started (by kernel_rfl) Tryz.func6
    (ChangeSpec.witness6 (enc := enc) (C := Tryz.checked) (s := Rows.tourneySplitsSpec) false ⟨#[], #[.slice none 0 0, .slice none 0 0], []⟩ 8 (by kernel_rfl) (by kernel_rfl) (by kernel_rfl) (by kernel_rfl)) ?_
  intro W base args ds gs Qjh hval hW _ hz _
  exact Qhp Tryz.params6 (by kernel_rfl) rfl (fun _ _ _ => rfl) laid Q9b Zby Q66 Q9i (fun zs cs h1 h2 => Iz h1 h2) hval hW hz
set_option maxRecDepth 100000 in
set_option maxHeartbeats 8000000 in
theorem closed : joinedFacts Tryz.pinned.checked.prog 6 Tryz.f6 Rows.tourneySplitsSpec Rows.tourneySplitsRow = true := by
  unfold joinedFacts
  simp only [Bool.and_eq_true]
  repeat' apply And.intro
  all_goals as_aux_lemma => kernel_rfl
theorem named : Tryz.pinned.checked.prog.funcNamed Rows.tourneySplitsRow.func = some 6 := by kernel_rfl
theorem inst : Tryz.f6.isInstance Tryz.pinned.checked.prog Rows.tourneySplitsRow.origin Rows.tourneySplitsRow.targs := of_decide_eq_true (by kernel_rfl)
theorem wrap : Tryz.f6.isWrapper Tryz.pinned.checked.prog Rows.tourneySplitsRow.wrapper Rows.tourneySplitsRow.mainSum := by
  unfold Func.isWrapper
  first | (rw [if_pos (by decide +kernel)]; kernel_rfl) | (rw [if_neg (by decide +kernel)]; exact ⟨rfl, rfl⟩)
theorem over : Rows.tourneySplitsRow.holds Tryz.pinned (OpenSpec.ofChange Rows.tourneySplitsSpec) :=
  OpenClaim.holds_of_wide 6 Tryz.f6 rfl rfl rfl rfl rfl rfl rfl ⟨rfl, rfl, rfl, rfl, rfl⟩ rfl rfl rfl rfl rfl named Tryz.func6 closed inst wrap
    (fun os started H enc _ => lifted os started H enc)
theorem proved : Rows.TourneySplitsSaid :=
  over
end Go.Proofs.YtbnjginelkkonaaGreat.tourneySplits
