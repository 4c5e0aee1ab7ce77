/- ClaimDS -/
import Derived.Test.YtpnhifedfcgjbaaGreatPart10
import Derived.Test.YtpnhifedfcgjbaaGreatRows
import Derived.JoinedCond
import Derived.Test.YtpnhifedfcgjbaaGreatPart00
set_option linter.all false
namespace Go.Proofs.YtpnhifedfcgjbaaGreat.delaunaySplits
open Go Go.Proofs Go.ChangeShapes Go.WideShapes Go.ChangeAt Go.RowKit Orr
theorem own : ownKnob Tryz.prog.godebug = none := by kernel_rfl
theorem laid : laidOutB Tryz.prog = true := by kernel_rfl
theorem Zma : Tryz.prog.readableRec 22 = true := by kernel_rfl
theorem Zol : Tryz.prog.readableRec 30 = true := by kernel_rfl
theorem Zj2 : 22 < Tryz.prog.types.size := of_decide_eq_true (by kernel_rfl)
theorem Zmg : 30 < Tryz.prog.types.size := of_decide_eq_true (by kernel_rfl)
set_option maxRecDepth 100000 in
theorem lifted (os : Os) (started : os.Started) (H : Type) (enc : TypeId × Value → H) :
    ReturnsInHanded {} Tryz.checked os 4 .any (Rows.delaunaySplitsSpec.pre6 enc Tryz.prog Tryz.f4 [] false) (Rows.delaunaySplitsSpec.post enc Tryz.prog Tryz.f4 false true false false) := by
  refine returnsInHanded_of_change_sized (C := Tryz.checked) own started (by kernel_rfl) Tryz.func4
    (ChangeSpec.witness6 (enc := enc) (C := Tryz.checked) (s := Rows.delaunaySplitsSpec) false ⟨#[], #[.slice none 0 0, .slice none 0 0], []⟩ 8 (by kernel_rfl) (by kernel_rfl) (by kernel_rfl) (by kernel_rfl)) ?_
  intro W base args ds gs Qu7 hval hW _ hz _
  exact Qsx Tryz.params4 (by kernel_rfl) rfl (fun _ _ _ => rfl) laid Zma Zol Zj2 Zmg (fun zs cs h1 h2 => Qi7 h1 h2) hval hW hz
set_option maxRecDepth 100000 in
set_option maxHeartbeats 8000000 in
theorem closed : joinedFacts Tryz.pinned.checked.prog 4 Tryz.f4 Rows.delaunaySplitsSpec Rows.delaunaySplitsRow = true := by
  unfold joinedFacts
  simp only [Bool.and_eq_true]
  repeat' apply And.intro
  all_goals as_aux_lemma => kernel_rfl
theorem named : Tryz.pinned.checked.prog.funcNamed Rows.delaunaySplitsRow.func = some 4 := by kernel_rfl
theorem inst : Tryz.f4.isInstance Tryz.pinned.checked.prog Rows.delaunaySplitsRow.origin Rows.delaunaySplitsRow.targs := of_decide_eq_true (by kernel_rfl)
theorem wrap : Tryz.f4.isWrapper Tryz.pinned.checked.prog Rows.delaunaySplitsRow.wrapper Rows.delaunaySplitsRow.mainSum := by
  unfold Func.isWrapper
  first | (rw [if_pos (by decide +kernel)]; kernel_rfl) | (rw [if_neg (by decide +kernel)]; exact ⟨rfl, rfl⟩)
theorem over : Rows.delaunaySplitsRow.holds Tryz.pinned (OpenSpec.ofChange Rows.delaunaySplitsSpec) :=
  OpenClaim.holds_of_wide 4 Tryz.f4 rfl rfl rfl rfl rfl rfl rfl ⟨rfl, rfl, rfl, rfl, rfl⟩ rfl rfl rfl rfl rfl named Tryz.func4 closed inst wrap
    (fun os started H enc _ => lifted os started H enc)
theorem proved : Rows.DelaunaySplitsSaid :=
  over
end Go.Proofs.YtpnhifedfcgjbaaGreat.delaunaySplits
