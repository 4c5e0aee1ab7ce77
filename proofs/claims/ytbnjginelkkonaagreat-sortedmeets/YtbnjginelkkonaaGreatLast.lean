/- The law SortedMeets answers true for every row and every number, and leaves them as they were. -/
import Derived.Test.YtbnjginelkkonaaGreatPart09
import Derived.Test.YtbnjginelkkonaaGreatRows
import Derived.JoinedCond
set_option linter.all false

namespace Go.Proofs.YtbnjginelkkonaaGreat.sortedMeets
open Go Go.Proofs Go.ChangeShapes Go.WideShapes Go.ChangeAt Go.RowKit Orr
theorem own : ownKnob Tryz.prog.godebug = none := by kernel_rfl
theorem laid : laidOutB Tryz.prog = true := by kernel_rfl
theorem rec22 : Tryz.prog.readableRec 22 = true := by kernel_rfl
theorem rec3 : Tryz.prog.readableRec 3 = true := by kernel_rfl
theorem size22 : 22 < Tryz.prog.types.size := of_decide_eq_true (by kernel_rfl)
theorem size3 : 3 < Tryz.prog.types.size := of_decide_eq_true (by kernel_rfl)
set_option maxRecDepth 100000 in
theorem lifted (os : Os) (started : os.Started) (H : Type) (enc : TypeId × Value → H) :
    ReturnsInHanded {} Tryz.checked os 7 .any (Rows.sortedMeetsSpec.pre6 enc Tryz.prog Tryz.f7 [] false) (Rows.sortedMeetsSpec.post enc Tryz.prog Tryz.f7 false true false false) := by
  refine returnsInHanded_of_change_sized (C := Tryz.checked) own started (by kernel_rfl) Tryz.func7
    (ChangeSpec.witness6 (enc := enc) (C := Tryz.checked) (s := Rows.sortedMeetsSpec) false ⟨#[], #[.slice none 0 0, .int .i64 0], []⟩ 8 (by kernel_rfl) (by kernel_rfl) (by kernel_rfl) (by kernel_rfl)) ?_
  intro W base args ds gs before hval hW _ hz _
  exact law_ints Tryz.params7 (by kernel_rfl) rfl (fun _ _ _ => rfl) laid rec22 rec3 size22 size3 (fun zs n h1 h2 => d_law18_Meets h1 (by omega)) hval hW hz
set_option maxRecDepth 100000 in
set_option maxHeartbeats 8000000 in
theorem closed : joinedFacts Tryz.pinned.checked.prog 7 Tryz.f7 Rows.sortedMeetsSpec Rows.sortedMeetsRow = true := by
  unfold joinedFacts
  simp only [Bool.and_eq_true]
  repeat' apply And.intro
  all_goals as_aux_lemma => kernel_rfl
theorem named : Tryz.pinned.checked.prog.funcNamed Rows.sortedMeetsRow.func = some 7 := by kernel_rfl
theorem inst : Tryz.f7.isInstance Tryz.pinned.checked.prog Rows.sortedMeetsRow.origin Rows.sortedMeetsRow.targs := of_decide_eq_true (by kernel_rfl)
theorem wrap : Tryz.f7.isWrapper Tryz.pinned.checked.prog Rows.sortedMeetsRow.wrapper Rows.sortedMeetsRow.mainSum := by
  unfold Func.isWrapper
  first | (rw [if_pos (by decide +kernel)]; kernel_rfl) | (rw [if_neg (by decide +kernel)]; exact ⟨rfl, rfl⟩)
theorem over : Rows.sortedMeetsRow.holds Tryz.pinned (OpenSpec.ofChange Rows.sortedMeetsSpec) :=
  OpenClaim.holds_of_wide 7 Tryz.f7 rfl rfl rfl rfl rfl rfl rfl ⟨rfl, rfl, rfl, rfl, rfl⟩ rfl rfl rfl rfl rfl named Tryz.func7 closed inst wrap
    (fun os started H enc _ => lifted os started H enc)
theorem proved : Rows.SortedMeetsSaid :=
  over
end Go.Proofs.YtbnjginelkkonaaGreat.sortedMeets
