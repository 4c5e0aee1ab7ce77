/- The law SortedNews answers true for every row of points and every number, and leaves them as they were. -/
import Derived.Test.YtbnjginelkkonaaGreatPart09
import Derived.Test.YtbnjginelkkonaaGreatRows
import Derived.JoinedCond
set_option linter.all false

namespace Go.Proofs.YtbnjginelkkonaaGreat.sortedNews
open Go Go.Proofs Go.ChangeShapes Go.WideShapes Go.ChangeAt Go.RowKit Orr
theorem own : ownKnob Tryz.prog.godebug = none := by kernel_rfl
theorem laid : laidOutB Tryz.prog = true := by kernel_rfl
theorem rec22 : Tryz.prog.readableRec 24 = true := by kernel_rfl
theorem rec3 : Tryz.prog.readableRec 3 = true := by kernel_rfl
theorem size22 : 24 < Tryz.prog.types.size := of_decide_eq_true (by kernel_rfl)
theorem size3 : 3 < Tryz.prog.types.size := of_decide_eq_true (by kernel_rfl)
set_option maxRecDepth 100000 in
theorem lifted (os : Os) (started : os.Started) (H : Type) (enc : TypeId × Value → H) :
    ReturnsInHanded {} Tryz.checked os 11 .any (Rows.sortedNewsSpec.pre6 enc Tryz.prog Tryz.f11 [] false) (Rows.sortedNewsSpec.post enc Tryz.prog Tryz.f11 false true false false) := by
  refine returnsInHanded_of_change_sized (C := Tryz.checked) own started (by kernel_rfl) Tryz.func11
    (ChangeSpec.witness6 (enc := enc) (C := Tryz.checked) (s := Rows.sortedNewsSpec) false ⟨#[], #[.slice none 0 0, .int .i64 0], []⟩ 8 (by kernel_rfl) (by kernel_rfl) (by kernel_rfl) (by kernel_rfl)) ?_
  intro W base args ds gs before hval hW _ hz _
  exact law_points Tryz.params11 (by kernel_rfl) rfl (fun _ _ _ => rfl) laid rec22 rec3 size22 size3 (fun zs n h1 h2 => d_law18_News h1 (by omega)) hval hW hz
set_option maxRecDepth 100000 in
set_option maxHeartbeats 8000000 in
theorem closed : joinedFacts Tryz.pinned.checked.prog 11 Tryz.f11 Rows.sortedNewsSpec Rows.sortedNewsRow = true := by
  unfold joinedFacts
  simp only [Bool.and_eq_true]
  repeat' apply And.intro
  all_goals as_aux_lemma => kernel_rfl
theorem named : Tryz.pinned.checked.prog.funcNamed Rows.sortedNewsRow.func = some 11 := by kernel_rfl
theorem inst : Tryz.f11.isInstance Tryz.pinned.checked.prog Rows.sortedNewsRow.origin Rows.sortedNewsRow.targs := of_decide_eq_true (by kernel_rfl)
theorem wrap : Tryz.f11.isWrapper Tryz.pinned.checked.prog Rows.sortedNewsRow.wrapper Rows.sortedNewsRow.mainSum := by
  unfold Func.isWrapper
  first | (rw [if_pos (by decide +kernel)]; kernel_rfl) | (rw [if_neg (by decide +kernel)]; exact ⟨rfl, rfl⟩)
theorem over : Rows.sortedNewsRow.holds Tryz.pinned (OpenSpec.ofChange Rows.sortedNewsSpec) :=
  OpenClaim.holds_of_wide 11 Tryz.f11 rfl rfl rfl rfl rfl rfl rfl ⟨rfl, rfl, rfl, rfl, rfl⟩ rfl rfl rfl rfl rfl named Tryz.func11 closed inst wrap
    (fun os started H enc _ => lifted os started H enc)
theorem proved : Rows.SortedNewsSaid :=
  over
end Go.Proofs.YtbnjginelkkonaaGreat.sortedNews
