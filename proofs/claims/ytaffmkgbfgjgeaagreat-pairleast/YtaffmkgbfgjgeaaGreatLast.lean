/- ClaimLeast -/
import Derived.Test.YtaffmkgbfgjgeaaGreatPart10
import Derived.Test.YtaffmkgbfgjgeaaGreatRows
import Derived.JoinedCond
import Derived.Test.YtaffmkgbfgjgeaaGreatPart00
import Derived.Test.YtaffmkgbfgjgeaaGreatPart02
set_option linter.all false

namespace Go.Proofs.YtaffmkgbfgjgeaaGreat.pairLeast
open Go Go.Proofs Go.ChangeShapes Go.WideShapes Go.ChangeAt Go.RowKit Orr
theorem own : ownKnob Tryz.prog.godebug = none := by kernel_rfl
theorem laid : laidOutB Tryz.prog = true := by kernel_rfl
theorem Q04 : Tryz.prog.readableRec 22 = true := by kernel_rfl
theorem Qxa : 22 < Tryz.prog.types.size := of_decide_eq_true (by kernel_rfl)
set_option maxRecDepth 100000 in
theorem lifted (os : Os) (started : os.Started) (H : Type) (enc : TypeId × Value → H) :
    ReturnsInHanded {} Tryz.checked os 7 .any (Rows.pairLeastSpec.pre6 enc Tryz.prog Tryz.f7 [] false) (Rows.pairLeastSpec.post enc Tryz.prog Tryz.f7 false true false false) := by
  refine returnsInHanded_of_change_sized (C := Tryz.checked) own started (by kernel_rfl) Tryz.func7
    (ChangeSpec.witness6 (enc := enc) (C := Tryz.checked) (s := Rows.pairLeastSpec) false ⟨#[], #[.slice none 0 0, .int .i64 0, .int .i64 0], []⟩ 8 (by kernel_rfl) (by kernel_rfl) (by kernel_rfl) (by kernel_rfl)) ?_
  intro W base args ds gs Qky hval hW _ hz _
  exact Qki Tryz.params7 (by kernel_rfl) rfl (fun _ _ _ _ => rfl) laid Q04 Qxa (fun zs n d h1 h2 h3 h4 => Qa9 h1 (by omega) (by omega) (by omega)) hval hW hz
set_option maxRecDepth 100000 in
set_option maxHeartbeats 8000000 in
theorem closed : joinedFacts Tryz.pinned.checked.prog 7 Tryz.f7 Rows.pairLeastSpec Rows.pairLeastRow = true := by
  unfold joinedFacts
  simp only [qXk]
  repeat' apply And.intro
  all_goals as_aux_lemma => kernel_rfl
theorem named : Tryz.pinned.checked.prog.funcNamed Rows.pairLeastRow.func = some 7 := by kernel_rfl
theorem inst : Tryz.f7.isInstance Tryz.pinned.checked.prog Rows.pairLeastRow.origin Rows.pairLeastRow.targs := of_decide_eq_true (by kernel_rfl)
theorem wrap : Tryz.f7.isWrapper Tryz.pinned.checked.prog Rows.pairLeastRow.wrapper Rows.pairLeastRow.mainSum := by
  unfold Func.isWrapper
  first | (rw [if_pos (by decide +kernel)]; kernel_rfl) | (rw [if_neg (by decide +kernel)]; exact ⟨rfl, rfl⟩)
theorem over : Rows.pairLeastRow.holds Tryz.pinned (OpenSpec.ofChange Rows.pairLeastSpec) :=
  OpenClaim.holds_of_wide 7 Tryz.f7 rfl rfl rfl rfl rfl rfl rfl ⟨rfl, rfl, rfl, rfl, rfl⟩ rfl rfl rfl rfl rfl named Tryz.func7 closed inst wrap
    (fun os started H enc _ => lifted os started H enc)
theorem proved : Rows.PairLeastSaid :=
  over
end Go.Proofs.YtaffmkgbfgjgeaaGreat.pairLeast
