/- ClaimDH -/
import Derived.Test.YtpnhifedfcgjbaaGreatPart10
import Derived.Test.YtpnhifedfcgjbaaGreatRows
import Derived.JoinedCond
import Derived.Test.YtpnhifedfcgjbaaGreatPart00
set_option linter.all false
namespace Go.Proofs.YtpnhifedfcgjbaaGreat.delaunayHolds
open Go Go.Proofs Go.ChangeShapes Go.WideShapes Go.ChangeAt Go.RowKit Orr
theorem own : ownKnob Tryz.prog.godebug = none := by kernel_rfl
theorem laid : laidOutB Tryz.prog = true := by kernel_rfl
theorem Zo0 : Tryz.prog.readableRec 22 = true := by kernel_rfl
theorem Zra : Tryz.prog.readableRec 3 = true := by kernel_rfl
theorem Zmn : 22 < Tryz.prog.types.size := of_decide_eq_true (by kernel_rfl)
theorem Zo6 : 3 < Tryz.prog.types.size := of_decide_eq_true (by kernel_rfl)
set_option maxRecDepth 100000 in
theorem lifted (os : Os) (started : os.Started) (H : Type) (enc : TypeId × Value → H) :
    ReturnsInHanded {} Tryz.checked os 5 .any (Rows.delaunayHoldsSpec.pre6 enc Tryz.prog Tryz.f5 [] false) (Rows.delaunayHoldsSpec.post enc Tryz.prog Tryz.f5 false true false false) := by
  refine returnsInHanded_of_change_sized (C := Tryz.checked) own started (by kernel_rfl) Tryz.func5
    (ChangeSpec.witness6 (enc := enc) (C := Tryz.checked) (s := Rows.delaunayHoldsSpec) false ⟨#[], #[.slice none 0 0, .int .i64 0, .int .i64 0], []⟩ 8 (by kernel_rfl) (by kernel_rfl) (by kernel_rfl) (by kernel_rfl)) ?_
  intro W base args ds gs Qwz hval hW _ hz _
  exact Qym Tryz.params5 (by kernel_rfl) rfl (fun _ _ _ _ => rfl) laid Zo0 Zra Zmn Zo6 (fun zs n d h1 h2 h3 => Qmv h1 (by omega) (by omega)) hval hW hz
set_option maxRecDepth 100000 in
set_option maxHeartbeats 8000000 in
theorem closed : joinedFacts Tryz.pinned.checked.prog 5 Tryz.f5 Rows.delaunayHoldsSpec Rows.delaunayHoldsRow = true := by
  unfold joinedFacts
  simp only [Bool.and_eq_true]
  repeat' apply And.intro
  all_goals as_aux_lemma => kernel_rfl
theorem named : Tryz.pinned.checked.prog.funcNamed Rows.delaunayHoldsRow.func = some 5 := by kernel_rfl
theorem inst : Tryz.f5.isInstance Tryz.pinned.checked.prog Rows.delaunayHoldsRow.origin Rows.delaunayHoldsRow.targs := of_decide_eq_true (by kernel_rfl)
theorem wrap : Tryz.f5.isWrapper Tryz.pinned.checked.prog Rows.delaunayHoldsRow.wrapper Rows.delaunayHoldsRow.mainSum := by
  unfold Func.isWrapper
  first | (rw [if_pos (by decide +kernel)]; kernel_rfl) | (rw [if_neg (by decide +kernel)]; exact ⟨rfl, rfl⟩)
theorem over : Rows.delaunayHoldsRow.holds Tryz.pinned (OpenSpec.ofChange Rows.delaunayHoldsSpec) :=
  OpenClaim.holds_of_wide 5 Tryz.f5 rfl rfl rfl rfl rfl rfl rfl ⟨rfl, rfl, rfl, rfl, rfl⟩ rfl rfl rfl rfl rfl named Tryz.func5 closed inst wrap
    (fun os started H enc _ => lifted os started H enc)
theorem proved : Rows.DelaunayHoldsSaid :=
  over
end Go.Proofs.YtpnhifedfcgjbaaGreat.delaunayHolds
