/- ClaimDE -/
import Derived.Test.YtpnhifedfcgjbaaGreatPart09
import Derived.Test.YtpnhifedfcgjbaaGreatPart10
import Derived.Test.YtpnhifedfcgjbaaGreatRows
import Derived.JoinedCond
import Derived.Test.YtpnhifedfcgjbaaGreatPart00
set_option linter.all false
namespace Go.Proofs.YtpnhifedfcgjbaaGreat.delaunayEmpty
open Go Go.Proofs Go.ChangeShapes Go.WideShapes Go.ChangeAt Go.RowKit Orr
theorem own : ownKnob Tryz.prog.godebug = none := by kernel_rfl
theorem laid : laidOutB Tryz.prog = true := by kernel_rfl
theorem Zl5 : Tryz.prog.readableRec 22 = true := by kernel_rfl
theorem Zoi : Tryz.prog.readableRec 3 = true := by kernel_rfl
theorem Zjr : 22 < Tryz.prog.types.size := of_decide_eq_true (by kernel_rfl)
theorem Zmc : 3 < Tryz.prog.types.size := of_decide_eq_true (by kernel_rfl)
set_option maxRecDepth 100000 in
theorem lifted (os : Os) (started : os.Started) (H : Type) (enc : TypeId × Value → H) :
    ReturnsInHanded {} Tryz.checked os 3 .any (Rows.delaunayEmptySpec.pre6 enc Tryz.prog Tryz.f3 [] false) (Rows.delaunayEmptySpec.post enc Tryz.prog Tryz.f3 false true false false) := by
  refine returnsInHanded_of_change_sized (C := Tryz.checked) own started (by kernel_rfl) Tryz.func3
    (ChangeSpec.witness6 (enc := enc) (C := Tryz.checked) (s := Rows.delaunayEmptySpec) false ⟨#[], #[.slice none 0 0, .int .i64 0, .int .i64 0], []⟩ 8 (by kernel_rfl) (by kernel_rfl) (by kernel_rfl) (by kernel_rfl)) ?_
  intro W base args ds gs Qif hval hW _ hz _
  exact Qwl Tryz.params3 (by kernel_rfl) rfl (fun _ _ _ _ => rfl) laid Zl5 Zoi Zjr Zmc (fun zs n d h1 h2 h3 => Qk5 h1 (by omega) (by omega)) hval hW hz
set_option maxRecDepth 100000 in
set_option maxHeartbeats 8000000 in
theorem closed : joinedFacts Tryz.pinned.checked.prog 3 Tryz.f3 Rows.delaunayEmptySpec Rows.delaunayEmptyRow = true := by
  unfold joinedFacts
  simp only [Bool.and_eq_true]
  repeat' apply And.intro
  all_goals as_aux_lemma => kernel_rfl
theorem named : Tryz.pinned.checked.prog.funcNamed Rows.delaunayEmptyRow.func = some 3 := by kernel_rfl
theorem inst : Tryz.f3.isInstance Tryz.pinned.checked.prog Rows.delaunayEmptyRow.origin Rows.delaunayEmptyRow.targs := of_decide_eq_true (by kernel_rfl)
theorem wrap : Tryz.f3.isWrapper Tryz.pinned.checked.prog Rows.delaunayEmptyRow.wrapper Rows.delaunayEmptyRow.mainSum := by
  unfold Func.isWrapper
  first | (rw [if_pos (by decide +kernel)]; kernel_rfl) | (rw [if_neg (by decide +kernel)]; exact ⟨rfl, rfl⟩)
theorem over : Rows.delaunayEmptyRow.holds Tryz.pinned (OpenSpec.ofChange Rows.delaunayEmptySpec) :=
  OpenClaim.holds_of_wide 3 Tryz.f3 rfl rfl rfl rfl rfl rfl rfl ⟨rfl, rfl, rfl, rfl, rfl⟩ rfl rfl rfl rfl rfl named Tryz.func3 closed inst wrap
    (fun os started H enc _ => lifted os started H enc)
theorem proved : Rows.DelaunayEmptySaid :=
  over
end Go.Proofs.YtpnhifedfcgjbaaGreat.delaunayEmpty
