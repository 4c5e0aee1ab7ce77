/- Fields and structs of the program. Rows of limbs and their numbers: plain laws. uint64's and uint32's arithmetic on natural numbers. The plain laws of the loops over limbs. Whole numbers: how they lie in memory. More laws: sizes by shifting, bytes of a text, sums by sign. Rows that a call hands over as its caller's own, and rows of the caller into which a call writes. Rows of structs: own ones and shared ones. What values read as: plain data, wherever it lies; and a state told in such data alone. -/
import Derived.Test.YtaffmkgbfgjgeaaGreatPart00
import Derived.Test.YtaffmkgbfgjgeaaGreatProg
set_option linter.all false

namespace Orr
open Go Go.Proofs
theorem mixed_ : Go.Proofs.Tryz.prog.follows .mixedOrders = true := rfl
def zs_100 : Array Value := #[.slice none 0 0, .slice none 0 0, .slice none 0 0, .slice none 0 0, .bool false, .slice none 0 0, .int .i64 0]
theorem bd_100 {vs : List (Nat × Value)} {cs : Array Value} (hf : Instr.fill (placed [(0, 6), (6, 1)]) zs_100 vs = some cs) (w : World) : (Instr.build 100 vs.toArray).run Tryz.prog w = .ok (.agg cs) w := build_run (sizes := [6, 1]) Tryz.runUnderlying100 Tryz.zeroValue100 ⟨Tryz.sizeOf98, Tryz.sizeOf3, trivial⟩ (hf : _) w
def zs_106 : Array Value := #[.slice none 0 0]
theorem bd_106 {vs : List (Nat × Value)} {cs : Array Value} (hf : Instr.fill (placed [(0, 1)]) zs_106 vs = some cs) (w : World) : (Instr.build 106 vs.toArray).run Tryz.prog w = .ok (.agg cs) w := build_run (sizes := [1]) Tryz.runUnderlying106 Tryz.zeroValue106 ⟨Tryz.sizeOf22, trivial⟩ (hf : _) w
def zs_108 : Array Value := #[.bool false, .slice none 0 0, .bool false, .slice none 0 0, .bool false, .slice none 0 0, .bool false, .slice none 0 0, .bool false, .slice none 0 0, .slice none 0 0, .int .i64 0, .slice none 0 0, .slice none 0 0]
theorem bd_108 {vs : List (Nat × Value)} {cs : Array Value} (hf : Instr.fill (placed [(0, 12), (12, 1), (13, 1)]) zs_108 vs = some cs) (w : World) : (Instr.build 108 vs.toArray).run Tryz.prog w = .ok (.agg cs) w := build_run (sizes := [12, 1, 1]) Tryz.runUnderlying108 Tryz.zeroValue108 ⟨Tryz.sizeOf104, Tryz.sizeOf106, Tryz.sizeOf22, trivial⟩ (hf : _) w
def zs_119 : Array Value := #[.slice none 0 0, .slice none 0 0, .bool false, .slice none 0 0, .bool false, .slice none 0 0, .slice none 0 0, .slice none 0 0, .bool false, .slice none 0 0, .bool false, .slice none 0 0, .bool false, .slice none 0 0, .bool false, .slice none 0 0, .int .i64 0, .slice none 0 0]
theorem bd_119 {vs : List (Nat × Value)} {cs : Array Value} (hf : Instr.fill (placed [(0, 1), (1, 4), (5, 13)]) zs_119 vs = some cs) (w : World) : (Instr.build 119 vs.toArray).run Tryz.prog w = .ok (.agg cs) w := build_run (sizes := [1, 4, 13]) Tryz.runUnderlying119 Tryz.zeroValue119 ⟨Tryz.sizeOf24, Tryz.sizeOf34, Tryz.sizeOf91, trivial⟩ (hf : _) w
def zs_122 : Array Value := #[.bool false, .slice none 0 0, .bool false, .slice none 0 0, .bool false, .slice none 0 0, .bool false, .slice none 0 0, .bool false, .slice none 0 0, .slice none 0 0, .int .i64 0, .slice none 0 0, .slice none 0 0, .slice none 0 0]
theorem bd_122 {vs : List (Nat × Value)} {cs : Array Value} (hf : Instr.fill (placed [(0, 12), (12, 1), (13, 1), (14, 1)]) zs_122 vs = some cs) (w : World) : (Instr.build 122 vs.toArray).run Tryz.prog w = .ok (.agg cs) w := build_run (sizes := [12, 1, 1, 1]) Tryz.runUnderlying122 Tryz.zeroValue122 ⟨Tryz.sizeOf104, Tryz.sizeOf106, Tryz.sizeOf22, Tryz.sizeOf120, trivial⟩ (hf : _) w
def zs_123 : Array Value := #[.int .i64 0, .int .i64 0]
theorem bd_123 {vs : List (Nat × Value)} {cs : Array Value} (hf : Instr.fill (fun i => some (i * 1, 1)) zs_123 vs = some cs) (w : World) : (Instr.build 123 vs.toArray).run Tryz.prog w = .ok (.agg cs) w := buildA_run Tryz.runUnderlying123 Tryz.zeroValue123 Tryz.sizeOf3 hf w
def zs_138 : Array Value := #[.slice none 0 0, .slice none 0 0, .bool false, .slice none 0 0, .bool false, .slice none 0 0, .slice none 0 0, .slice none 0 0, .bool false, .slice none 0 0, .bool false, .slice none 0 0, .bool false, .slice none 0 0, .bool false, .slice none 0 0, .int .i64 0, .slice none 0 0]
theorem bd_138 {vs : List (Nat × Value)} {cs : Array Value} (hf : Instr.fill (placed [(0, 1), (1, 4), (5, 13)]) zs_138 vs = some cs) (w : World) : (Instr.build 138 vs.toArray).run Tryz.prog w = .ok (.agg cs) w := build_run (sizes := [1, 4, 13]) Tryz.runUnderlying138 Tryz.zeroValue138 ⟨Tryz.sizeOf24, Tryz.sizeOf34, Tryz.sizeOf91, trivial⟩ (hf : _) w
def zs_148 : Array Value := #[.slice none 0 0, .slice none 0 0, .bool false, .slice none 0 0, .bool false, .slice none 0 0, .slice none 0 0, .slice none 0 0, .bool false, .slice none 0 0, .bool false, .slice none 0 0, .bool false, .slice none 0 0, .bool false, .slice none 0 0, .int .i64 0, .slice none 0 0]
theorem bd_148 {vs : List (Nat × Value)} {cs : Array Value} (hf : Instr.fill (placed [(0, 1), (1, 4), (5, 13)]) zs_148 vs = some cs) (w : World) : (Instr.build 148 vs.toArray).run Tryz.prog w = .ok (.agg cs) w := build_run (sizes := [1, 4, 13]) Tryz.runUnderlying148 Tryz.zeroValue148 ⟨Tryz.sizeOf24, Tryz.sizeOf34, Tryz.sizeOf91, trivial⟩ (hf : _) w
def zs_166 : Array Value := #[.int .i64 0, .int .i64 0, .int .i64 0, .int .i64 0, .int .i64 0, .slice none 0 0, .int .i64 0]
theorem bd_166 {vs : List (Nat × Value)} {cs : Array Value} (hf : Instr.fill (placed [(0, 5), (5, 1), (6, 1)]) zs_166 vs = some cs) (w : World) : (Instr.build 166 vs.toArray).run Tryz.prog w = .ok (.agg cs) w := build_run (sizes := [5, 1, 1]) Tryz.runUnderlying166 Tryz.zeroValue166 ⟨Tryz.sizeOf44, Tryz.sizeOf52, Tryz.sizeOf3, trivial⟩ (hf : _) w
def zs_196 : Array Value := #[.int .i64 0, .int .i64 0, .int .i64 0, .int .i64 0, .int .i64 0, .slice none 0 0, .int .i64 0, .bool false, .bool false, .slice none 0 0, .bool false, .slice none 0 0, .bool false, .slice none 0 0, .bool false, .slice none 0 0, .bool false, .slice none 0 0]
theorem bd_196 {vs : List (Nat × Value)} {cs : Array Value} (hf : Instr.fill (placed [(0, 7), (7, 1), (8, 1), (9, 9)]) zs_196 vs = some cs) (w : World) : (Instr.build 196 vs.toArray).run Tryz.prog w = .ok (.agg cs) w := build_run (sizes := [7, 1, 1, 9]) Tryz.runUnderlying196 Tryz.zeroValue196 ⟨Tryz.sizeOf166, Tryz.sizeOf4, Tryz.sizeOf4, Tryz.sizeOf59, trivial⟩ (hf : _) w
def zs_198 : Array Value := #[.slice none 0 0, .slice none 0 0, .bool false, .slice none 0 0, .int .i64 0, .slice none 0 0, .slice none 0 0, .bool false, .slice none 0 0, .int .i64 0]
theorem bd_198 {vs : List (Nat × Value)} {cs : Array Value} (hf : Instr.fill (fun i => some (i * 5, 5)) zs_198 vs = some cs) (w : World) : (Instr.build 198 vs.toArray).run Tryz.prog w = .ok (.agg cs) w := buildA_run Tryz.runUnderlying198 Tryz.zeroValue198 Tryz.sizeOf76 hf w
def zs_210 : Array Value := #[.bool false, .slice none 0 0, .bool false, .slice none 0 0, .bool false, .slice none 0 0, .bool false, .slice none 0 0, .bool false, .slice none 0 0, .slice none 0 0, .int .i64 0, .slice none 0 0, .slice none 0 0]
theorem bd_210 {vs : List (Nat × Value)} {cs : Array Value} (hf : Instr.fill (placed [(0, 12), (12, 1), (13, 1)]) zs_210 vs = some cs) (w : World) : (Instr.build 210 vs.toArray).run Tryz.prog w = .ok (.agg cs) w := build_run (sizes := [12, 1, 1]) Tryz.runUnderlying210 Tryz.zeroValue210 ⟨Tryz.sizeOf104, Tryz.sizeOf106, Tryz.sizeOf63, trivial⟩ (hf : _) w
def zs_215 : Array Value := #[.bool false, .slice none 0 0, .bool false, .slice none 0 0, .bool false, .slice none 0 0, .bool false, .slice none 0 0, .bool false, .slice none 0 0, .slice none 0 0, .int .i64 0, .slice none 0 0, .slice none 0 0]
theorem bd_215 {vs : List (Nat × Value)} {cs : Array Value} (hf : Instr.fill (placed [(0, 12), (12, 1), (13, 1)]) zs_215 vs = some cs) (w : World) : (Instr.build 215 vs.toArray).run Tryz.prog w = .ok (.agg cs) w := build_run (sizes := [12, 1, 1]) Tryz.runUnderlying215 Tryz.zeroValue215 ⟨Tryz.sizeOf104, Tryz.sizeOf106, Tryz.sizeOf22, trivial⟩ (hf : _) w
def zs_230 : Array Value := #[.slice none 0 0, .slice none 0 0, .slice none 0 0, .slice none 0 0, .bool false, .slice none 0 0, .int .i64 0, .slice none 0 0, .slice none 0 0, .slice none 0 0, .slice none 0 0, .bool false, .slice none 0 0, .int .i64 0]
theorem bd_230 {vs : List (Nat × Value)} {cs : Array Value} (hf : Instr.fill (fun i => some (i * 7, 7)) zs_230 vs = some cs) (w : World) : (Instr.build 230 vs.toArray).run Tryz.prog w = .ok (.agg cs) w := buildA_run Tryz.runUnderlying230 Tryz.zeroValue230 Tryz.sizeOf100 hf w
def zs_269 : Array Value := #[.int .i64 0, .int .i64 0, .int .i64 0, .int .i64 0, .int .i64 0, .int .i64 0]
theorem bd_269 {vs : List (Nat × Value)} {cs : Array Value} (hf : Instr.fill (fun i => some (i * 2, 2)) zs_269 vs = some cs) (w : World) : (Instr.build 269 vs.toArray).run Tryz.prog w = .ok (.agg cs) w := buildA_run Tryz.runUnderlying269 Tryz.zeroValue269 Tryz.sizeOf123 hf w
def zs_32 : Array Value := #[.slice none 0 0, .bool false]
theorem bd_32 {vs : List (Nat × Value)} {cs : Array Value} (hf : Instr.fill (placed [(0, 1), (1, 1)]) zs_32 vs = some cs) (w : World) : (Instr.build 32 vs.toArray).run Tryz.prog w = .ok (.agg cs) w := build_run (sizes := [1, 1]) Tryz.runUnderlying32 Tryz.zeroValue32 ⟨Tryz.sizeOf30, Tryz.sizeOf4, trivial⟩ (hf : _) w
def zs_34 : Array Value := #[.slice none 0 0, .bool false, .slice none 0 0, .bool false]
theorem bd_34 {vs : List (Nat × Value)} {cs : Array Value} (hf : Instr.fill (placed [(0, 2), (2, 2)]) zs_34 vs = some cs) (w : World) : (Instr.build 34 vs.toArray).run Tryz.prog w = .ok (.agg cs) w := build_run (sizes := [2, 2]) Tryz.runUnderlying34 Tryz.zeroValue34 ⟨Tryz.sizeOf32, Tryz.sizeOf32, trivial⟩ (hf : _) w
def zs_347 : Array Value := #[.slice none 0 0]
theorem bd_347 {vs : List (Nat × Value)} {cs : Array Value} (hf : Instr.fill (placed [(0, 1)]) zs_347 vs = some cs) (w : World) : (Instr.build 347 vs.toArray).run Tryz.prog w = .ok (.agg cs) w := build_run (sizes := [1]) Tryz.runUnderlying347 Tryz.zeroValue347 ⟨Tryz.sizeOf287, trivial⟩ (hf : _) w
def zs_36 : Array Value := #[.slice none 0 0, .slice none 0 0, .slice none 0 0, .bool false, .slice none 0 0, .bool false, .slice none 0 0, .bool false, .slice none 0 0, .bool false]
theorem bd_36 {vs : List (Nat × Value)} {cs : Array Value} (hf : Instr.fill (placed [(0, 1), (1, 1), (2, 4), (6, 4)]) zs_36 vs = some cs) (w : World) : (Instr.build 36 vs.toArray).run Tryz.prog w = .ok (.agg cs) w := build_run (sizes := [1, 1, 4, 4]) Tryz.runUnderlying36 Tryz.zeroValue36 ⟨Tryz.sizeOf28, Tryz.sizeOf29, Tryz.sizeOf34, Tryz.sizeOf34, trivial⟩ (hf : _) w
def zs_42 : Array Value := #[.int .i64 0, .int .i64 0, .int .i64 0, .int .i64 0]
theorem bd_42 {vs : List (Nat × Value)} {cs : Array Value} (hf : Instr.fill (fun i => some (i * 1, 1)) zs_42 vs = some cs) (w : World) : (Instr.build 42 vs.toArray).run Tryz.prog w = .ok (.agg cs) w := buildA_run Tryz.runUnderlying42 Tryz.zeroValue42 Tryz.sizeOf3 hf w
def zs_44 : Array Value := #[.int .i64 0, .int .i64 0, .int .i64 0, .int .i64 0, .int .i64 0]
theorem bd_44 {vs : List (Nat × Value)} {cs : Array Value} (hf : Instr.fill (placed [(0, 1), (1, 4)]) zs_44 vs = some cs) (w : World) : (Instr.build 44 vs.toArray).run Tryz.prog w = .ok (.agg cs) w := build_run (sizes := [1, 4]) Tryz.runUnderlying44 Tryz.zeroValue44 ⟨Tryz.sizeOf3, Tryz.sizeOf42, trivial⟩ (hf : _) w
def zs_47 : Array Value := #[.int .i64 0, .int .i64 0, .int .i64 0, .int .i64 0, .int .i64 0, .slice none 0 0, .int .i64 0, .slice none 0 0, .bool false]
theorem bd_47 {vs : List (Nat × Value)} {cs : Array Value} (hf : Instr.fill (placed [(0, 5), (5, 1), (6, 1), (7, 1), (8, 1)]) zs_47 vs = some cs) (w : World) : (Instr.build 47 vs.toArray).run Tryz.prog w = .ok (.agg cs) w := build_run (sizes := [5, 1, 1, 1, 1]) Tryz.runUnderlying47 Tryz.zeroValue47 ⟨Tryz.sizeOf44, Tryz.sizeOf28, Tryz.sizeOf3, Tryz.sizeOf45, Tryz.sizeOf4, trivial⟩ (hf : _) w
def zs_55 : Array Value := #[.bool false, .slice none 0 0]
theorem bd_55 {vs : List (Nat × Value)} {cs : Array Value} (hf : Instr.fill (placed [(0, 1), (1, 1)]) zs_55 vs = some cs) (w : World) : (Instr.build 55 vs.toArray).run Tryz.prog w = .ok (.agg cs) w := build_run (sizes := [1, 1]) Tryz.runUnderlying55 Tryz.zeroValue55 ⟨Tryz.sizeOf4, Tryz.sizeOf53, trivial⟩ (hf : _) w
def zs_57 : Array Value := #[.bool false, .slice none 0 0, .bool false, .slice none 0 0]
theorem bd_57 {vs : List (Nat × Value)} {cs : Array Value} (hf : Instr.fill (placed [(0, 2), (2, 2)]) zs_57 vs = some cs) (w : World) : (Instr.build 57 vs.toArray).run Tryz.prog w = .ok (.agg cs) w := build_run (sizes := [2, 2]) Tryz.runUnderlying57 Tryz.zeroValue57 ⟨Tryz.sizeOf55, Tryz.sizeOf55, trivial⟩ (hf : _) w
def zs_59 : Array Value := #[.slice none 0 0, .bool false, .slice none 0 0, .bool false, .slice none 0 0, .bool false, .slice none 0 0, .bool false, .slice none 0 0]
theorem bd_59 {vs : List (Nat × Value)} {cs : Array Value} (hf : Instr.fill (placed [(0, 1), (1, 4), (5, 4)]) zs_59 vs = some cs) (w : World) : (Instr.build 59 vs.toArray).run Tryz.prog w = .ok (.agg cs) w := build_run (sizes := [1, 4, 4]) Tryz.runUnderlying59 Tryz.zeroValue59 ⟨Tryz.sizeOf52, Tryz.sizeOf57, Tryz.sizeOf57, trivial⟩ (hf : _) w
def zs_65 : Array Value := #[.slice none 0 0, .slice none 0 0, .slice none 0 0, .slice none 0 0, .slice none 0 0]
theorem bd_65 {vs : List (Nat × Value)} {cs : Array Value} (hf : Instr.fill (placed [(0, 1), (1, 1), (2, 1), (3, 1), (4, 1)]) zs_65 vs = some cs) (w : World) : (Instr.build 65 vs.toArray).run Tryz.prog w = .ok (.agg cs) w := build_run (sizes := [1, 1, 1, 1, 1]) Tryz.runUnderlying65 Tryz.zeroValue65 ⟨Tryz.sizeOf23, Tryz.sizeOf23, Tryz.sizeOf23, Tryz.sizeOf23, Tryz.sizeOf63, trivial⟩ (hf : _) w
def zs_74 : Array Value := #[.slice none 0 0, .slice none 0 0, .bool false, .slice none 0 0]
theorem bd_74 {vs : List (Nat × Value)} {cs : Array Value} (hf : Instr.fill (placed [(0, 1), (1, 1), (2, 2)]) zs_74 vs = some cs) (w : World) : (Instr.build 74 vs.toArray).run Tryz.prog w = .ok (.agg cs) w := build_run (sizes := [1, 1, 2]) Tryz.runUnderlying74 Tryz.zeroValue74 ⟨Tryz.sizeOf52, Tryz.sizeOf52, Tryz.sizeOf55, trivial⟩ (hf : _) w
def zs_76 : Array Value := #[.slice none 0 0, .slice none 0 0, .bool false, .slice none 0 0, .int .i64 0]
theorem bd_76 {vs : List (Nat × Value)} {cs : Array Value} (hf : Instr.fill (placed [(0, 4), (4, 1)]) zs_76 vs = some cs) (w : World) : (Instr.build 76 vs.toArray).run Tryz.prog w = .ok (.agg cs) w := build_run (sizes := [4, 1]) Tryz.runUnderlying76 Tryz.zeroValue76 ⟨Tryz.sizeOf74, Tryz.sizeOf3, trivial⟩ (hf : _) w
def zs_79 : Array Value := #[.int .i64 0, .int .i64 0, .int .i64 0]
theorem bd_79 {vs : List (Nat × Value)} {cs : Array Value} (hf : Instr.fill (fun i => some (i * 1, 1)) zs_79 vs = some cs) (w : World) : (Instr.build 79 vs.toArray).run Tryz.prog w = .ok (.agg cs) w := buildA_run Tryz.runUnderlying79 Tryz.zeroValue79 Tryz.sizeOf3 hf w
def zs_93 : Array Value := #[.slice none 0 0, .slice none 0 0, .bool false, .slice none 0 0, .bool false, .slice none 0 0, .slice none 0 0, .slice none 0 0, .bool false, .slice none 0 0, .bool false, .slice none 0 0, .bool false, .slice none 0 0, .bool false, .slice none 0 0, .int .i64 0, .slice none 0 0]
theorem bd_93 {vs : List (Nat × Value)} {cs : Array Value} (hf : Instr.fill (placed [(0, 1), (1, 4), (5, 13)]) zs_93 vs = some cs) (w : World) : (Instr.build 93 vs.toArray).run Tryz.prog w = .ok (.agg cs) w := build_run (sizes := [1, 4, 13]) Tryz.runUnderlying93 Tryz.zeroValue93 ⟨Tryz.sizeOf24, Tryz.sizeOf34, Tryz.sizeOf91, trivial⟩ (hf : _) w
def zs_98 : Array Value := #[.slice none 0 0, .slice none 0 0, .slice none 0 0, .slice none 0 0, .bool false, .slice none 0 0]
theorem bd_98 {vs : List (Nat × Value)} {cs : Array Value} (hf : Instr.fill (placed [(0, 1), (1, 1), (2, 4)]) zs_98 vs = some cs) (w : World) : (Instr.build 98 vs.toArray).run Tryz.prog w = .ok (.agg cs) w := build_run (sizes := [1, 1, 4]) Tryz.runUnderlying98 Tryz.zeroValue98 ⟨Tryz.sizeOf28, Tryz.sizeOf28, Tryz.sizeOf74, trivial⟩ (hf : _) w
theorem fa_100_0 (b o : Nat) (w : World) : (Instr.fieldAt 100 (.pointer (some ⟨b, o, none⟩)) 0).run Tryz.prog w = .ok (.pointer (some ⟨b, o + 0, none⟩)) w := fieldAt_run (T := 98) (off := 0) Tryz.runUnderlying100 rfl Tryz.sizeOf98 (by decide) b o w
theorem fa_100_1 (b o : Nat) (w : World) : (Instr.fieldAt 100 (.pointer (some ⟨b, o, none⟩)) 1).run Tryz.prog w = .ok (.pointer (some ⟨b, o + 6, none⟩)) w := fieldAt_run (T := 3) (off := 6) Tryz.runUnderlying100 rfl Tryz.sizeOf3 (by decide) b o w
theorem fa_104_0 (b o : Nat) (w : World) : (Instr.fieldAt 104 (.pointer (some ⟨b, o, none⟩)) 0).run Tryz.prog w = .ok (.pointer (some ⟨b, o + 0, none⟩)) w := fieldAt_run (T := 4) (off := 0) Tryz.runUnderlying104 rfl Tryz.sizeOf4 (by decide) b o w
theorem fa_104_1 (b o : Nat) (w : World) : (Instr.fieldAt 104 (.pointer (some ⟨b, o, none⟩)) 1).run Tryz.prog w = .ok (.pointer (some ⟨b, o + 1, none⟩)) w := fieldAt_run (T := 59) (off := 1) Tryz.runUnderlying104 rfl Tryz.sizeOf59 (by decide) b o w
theorem fa_104_2 (b o : Nat) (w : World) : (Instr.fieldAt 104 (.pointer (some ⟨b, o, none⟩)) 2).run Tryz.prog w = .ok (.pointer (some ⟨b, o + 10, none⟩)) w := fieldAt_run (T := 102) (off := 10) Tryz.runUnderlying104 rfl Tryz.sizeOf102 (by decide) b o w
theorem fa_106_0 (b o : Nat) (w : World) : (Instr.fieldAt 106 (.pointer (some ⟨b, o, none⟩)) 0).run Tryz.prog w = .ok (.pointer (some ⟨b, o + 0, none⟩)) w := fieldAt_run (T := 22) (off := 0) Tryz.runUnderlying106 rfl Tryz.sizeOf22 (by decide) b o w
theorem fa_108_0 (b o : Nat) (w : World) : (Instr.fieldAt 108 (.pointer (some ⟨b, o, none⟩)) 0).run Tryz.prog w = .ok (.pointer (some ⟨b, o + 0, none⟩)) w := fieldAt_run (T := 104) (off := 0) Tryz.runUnderlying108 rfl Tryz.sizeOf104 (by decide) b o w
theorem fa_108_1 (b o : Nat) (w : World) : (Instr.fieldAt 108 (.pointer (some ⟨b, o, none⟩)) 1).run Tryz.prog w = .ok (.pointer (some ⟨b, o + 12, none⟩)) w := fieldAt_run (T := 106) (off := 12) Tryz.runUnderlying108 rfl Tryz.sizeOf106 (by decide) b o w
theorem fa_108_2 (b o : Nat) (w : World) : (Instr.fieldAt 108 (.pointer (some ⟨b, o, none⟩)) 2).run Tryz.prog w = .ok (.pointer (some ⟨b, o + 13, none⟩)) w := fieldAt_run (T := 22) (off := 13) Tryz.runUnderlying108 rfl Tryz.sizeOf22 (by decide) b o w
theorem fa_119_0 (b o : Nat) (w : World) : (Instr.fieldAt 119 (.pointer (some ⟨b, o, none⟩)) 0).run Tryz.prog w = .ok (.pointer (some ⟨b, o + 0, none⟩)) w := fieldAt_run (T := 24) (off := 0) Tryz.runUnderlying119 rfl Tryz.sizeOf24 (by decide) b o w
theorem fa_119_1 (b o : Nat) (w : World) : (Instr.fieldAt 119 (.pointer (some ⟨b, o, none⟩)) 1).run Tryz.prog w = .ok (.pointer (some ⟨b, o + 1, none⟩)) w := fieldAt_run (T := 34) (off := 1) Tryz.runUnderlying119 rfl Tryz.sizeOf34 (by decide) b o w
theorem fa_119_2 (b o : Nat) (w : World) : (Instr.fieldAt 119 (.pointer (some ⟨b, o, none⟩)) 2).run Tryz.prog w = .ok (.pointer (some ⟨b, o + 5, none⟩)) w := fieldAt_run (T := 91) (off := 5) Tryz.runUnderlying119 rfl Tryz.sizeOf91 (by decide) b o w
theorem fa_122_0 (b o : Nat) (w : World) : (Instr.fieldAt 122 (.pointer (some ⟨b, o, none⟩)) 0).run Tryz.prog w = .ok (.pointer (some ⟨b, o + 0, none⟩)) w := fieldAt_run (T := 104) (off := 0) Tryz.runUnderlying122 rfl Tryz.sizeOf104 (by decide) b o w
theorem fa_122_1 (b o : Nat) (w : World) : (Instr.fieldAt 122 (.pointer (some ⟨b, o, none⟩)) 1).run Tryz.prog w = .ok (.pointer (some ⟨b, o + 12, none⟩)) w := fieldAt_run (T := 106) (off := 12) Tryz.runUnderlying122 rfl Tryz.sizeOf106 (by decide) b o w
theorem fa_122_2 (b o : Nat) (w : World) : (Instr.fieldAt 122 (.pointer (some ⟨b, o, none⟩)) 2).run Tryz.prog w = .ok (.pointer (some ⟨b, o + 13, none⟩)) w := fieldAt_run (T := 22) (off := 13) Tryz.runUnderlying122 rfl Tryz.sizeOf22 (by decide) b o w
theorem fa_122_3 (b o : Nat) (w : World) : (Instr.fieldAt 122 (.pointer (some ⟨b, o, none⟩)) 3).run Tryz.prog w = .ok (.pointer (some ⟨b, o + 14, none⟩)) w := fieldAt_run (T := 120) (off := 14) Tryz.runUnderlying122 rfl Tryz.sizeOf120 (by decide) b o w
theorem fa_138_0 (b o : Nat) (w : World) : (Instr.fieldAt 138 (.pointer (some ⟨b, o, none⟩)) 0).run Tryz.prog w = .ok (.pointer (some ⟨b, o + 0, none⟩)) w := fieldAt_run (T := 24) (off := 0) Tryz.runUnderlying138 rfl Tryz.sizeOf24 (by decide) b o w
theorem fa_138_1 (b o : Nat) (w : World) : (Instr.fieldAt 138 (.pointer (some ⟨b, o, none⟩)) 1).run Tryz.prog w = .ok (.pointer (some ⟨b, o + 1, none⟩)) w := fieldAt_run (T := 34) (off := 1) Tryz.runUnderlying138 rfl Tryz.sizeOf34 (by decide) b o w
theorem fa_138_2 (b o : Nat) (w : World) : (Instr.fieldAt 138 (.pointer (some ⟨b, o, none⟩)) 2).run Tryz.prog w = .ok (.pointer (some ⟨b, o + 5, none⟩)) w := fieldAt_run (T := 91) (off := 5) Tryz.runUnderlying138 rfl Tryz.sizeOf91 (by decide) b o w
theorem fa_148_0 (b o : Nat) (w : World) : (Instr.fieldAt 148 (.pointer (some ⟨b, o, none⟩)) 0).run Tryz.prog w = .ok (.pointer (some ⟨b, o + 0, none⟩)) w := fieldAt_run (T := 24) (off := 0) Tryz.runUnderlying148 rfl Tryz.sizeOf24 (by decide) b o w
theorem fa_148_1 (b o : Nat) (w : World) : (Instr.fieldAt 148 (.pointer (some ⟨b, o, none⟩)) 1).run Tryz.prog w = .ok (.pointer (some ⟨b, o + 1, none⟩)) w := fieldAt_run (T := 34) (off := 1) Tryz.runUnderlying148 rfl Tryz.sizeOf34 (by decide) b o w
theorem fa_148_2 (b o : Nat) (w : World) : (Instr.fieldAt 148 (.pointer (some ⟨b, o, none⟩)) 2).run Tryz.prog w = .ok (.pointer (some ⟨b, o + 5, none⟩)) w := fieldAt_run (T := 91) (off := 5) Tryz.runUnderlying148 rfl Tryz.sizeOf91 (by decide) b o w
theorem fa_166_0 (b o : Nat) (w : World) : (Instr.fieldAt 166 (.pointer (some ⟨b, o, none⟩)) 0).run Tryz.prog w = .ok (.pointer (some ⟨b, o + 0, none⟩)) w := fieldAt_run (T := 44) (off := 0) Tryz.runUnderlying166 rfl Tryz.sizeOf44 (by decide) b o w
theorem fa_166_1 (b o : Nat) (w : World) : (Instr.fieldAt 166 (.pointer (some ⟨b, o, none⟩)) 1).run Tryz.prog w = .ok (.pointer (some ⟨b, o + 5, none⟩)) w := fieldAt_run (T := 52) (off := 5) Tryz.runUnderlying166 rfl Tryz.sizeOf52 (by decide) b o w
theorem fa_166_2 (b o : Nat) (w : World) : (Instr.fieldAt 166 (.pointer (some ⟨b, o, none⟩)) 2).run Tryz.prog w = .ok (.pointer (some ⟨b, o + 6, none⟩)) w := fieldAt_run (T := 3) (off := 6) Tryz.runUnderlying166 rfl Tryz.sizeOf3 (by decide) b o w
theorem fa_196_0 (b o : Nat) (w : World) : (Instr.fieldAt 196 (.pointer (some ⟨b, o, none⟩)) 0).run Tryz.prog w = .ok (.pointer (some ⟨b, o + 0, none⟩)) w := fieldAt_run (T := 166) (off := 0) Tryz.runUnderlying196 rfl Tryz.sizeOf166 (by decide) b o w
theorem fa_196_1 (b o : Nat) (w : World) : (Instr.fieldAt 196 (.pointer (some ⟨b, o, none⟩)) 1).run Tryz.prog w = .ok (.pointer (some ⟨b, o + 7, none⟩)) w := fieldAt_run (T := 4) (off := 7) Tryz.runUnderlying196 rfl Tryz.sizeOf4 (by decide) b o w
theorem fa_196_2 (b o : Nat) (w : World) : (Instr.fieldAt 196 (.pointer (some ⟨b, o, none⟩)) 2).run Tryz.prog w = .ok (.pointer (some ⟨b, o + 8, none⟩)) w := fieldAt_run (T := 4) (off := 8) Tryz.runUnderlying196 rfl Tryz.sizeOf4 (by decide) b o w
theorem fa_196_3 (b o : Nat) (w : World) : (Instr.fieldAt 196 (.pointer (some ⟨b, o, none⟩)) 3).run Tryz.prog w = .ok (.pointer (some ⟨b, o + 9, none⟩)) w := fieldAt_run (T := 59) (off := 9) Tryz.runUnderlying196 rfl Tryz.sizeOf59 (by decide) b o w
theorem fa_210_0 (b o : Nat) (w : World) : (Instr.fieldAt 210 (.pointer (some ⟨b, o, none⟩)) 0).run Tryz.prog w = .ok (.pointer (some ⟨b, o + 0, none⟩)) w := fieldAt_run (T := 104) (off := 0) Tryz.runUnderlying210 rfl Tryz.sizeOf104 (by decide) b o w
theorem fa_210_1 (b o : Nat) (w : World) : (Instr.fieldAt 210 (.pointer (some ⟨b, o, none⟩)) 1).run Tryz.prog w = .ok (.pointer (some ⟨b, o + 12, none⟩)) w := fieldAt_run (T := 106) (off := 12) Tryz.runUnderlying210 rfl Tryz.sizeOf106 (by decide) b o w
theorem fa_210_2 (b o : Nat) (w : World) : (Instr.fieldAt 210 (.pointer (some ⟨b, o, none⟩)) 2).run Tryz.prog w = .ok (.pointer (some ⟨b, o + 13, none⟩)) w := fieldAt_run (T := 63) (off := 13) Tryz.runUnderlying210 rfl Tryz.sizeOf63 (by decide) b o w
theorem fa_215_0 (b o : Nat) (w : World) : (Instr.fieldAt 215 (.pointer (some ⟨b, o, none⟩)) 0).run Tryz.prog w = .ok (.pointer (some ⟨b, o + 0, none⟩)) w := fieldAt_run (T := 104) (off := 0) Tryz.runUnderlying215 rfl Tryz.sizeOf104 (by decide) b o w
theorem fa_215_1 (b o : Nat) (w : World) : (Instr.fieldAt 215 (.pointer (some ⟨b, o, none⟩)) 1).run Tryz.prog w = .ok (.pointer (some ⟨b, o + 12, none⟩)) w := fieldAt_run (T := 106) (off := 12) Tryz.runUnderlying215 rfl Tryz.sizeOf106 (by decide) b o w
theorem fa_215_2 (b o : Nat) (w : World) : (Instr.fieldAt 215 (.pointer (some ⟨b, o, none⟩)) 2).run Tryz.prog w = .ok (.pointer (some ⟨b, o + 13, none⟩)) w := fieldAt_run (T := 22) (off := 13) Tryz.runUnderlying215 rfl Tryz.sizeOf22 (by decide) b o w
theorem fa_32_0 (b o : Nat) (w : World) : (Instr.fieldAt 32 (.pointer (some ⟨b, o, none⟩)) 0).run Tryz.prog w = .ok (.pointer (some ⟨b, o + 0, none⟩)) w := fieldAt_run (T := 30) (off := 0) Tryz.runUnderlying32 rfl Tryz.sizeOf30 (by decide) b o w
theorem fa_32_1 (b o : Nat) (w : World) : (Instr.fieldAt 32 (.pointer (some ⟨b, o, none⟩)) 1).run Tryz.prog w = .ok (.pointer (some ⟨b, o + 1, none⟩)) w := fieldAt_run (T := 4) (off := 1) Tryz.runUnderlying32 rfl Tryz.sizeOf4 (by decide) b o w
theorem fa_34_0 (b o : Nat) (w : World) : (Instr.fieldAt 34 (.pointer (some ⟨b, o, none⟩)) 0).run Tryz.prog w = .ok (.pointer (some ⟨b, o + 0, none⟩)) w := fieldAt_run (T := 32) (off := 0) Tryz.runUnderlying34 rfl Tryz.sizeOf32 (by decide) b o w
theorem fa_34_1 (b o : Nat) (w : World) : (Instr.fieldAt 34 (.pointer (some ⟨b, o, none⟩)) 1).run Tryz.prog w = .ok (.pointer (some ⟨b, o + 2, none⟩)) w := fieldAt_run (T := 32) (off := 2) Tryz.runUnderlying34 rfl Tryz.sizeOf32 (by decide) b o w
theorem fa_347_0 (b o : Nat) (w : World) : (Instr.fieldAt 347 (.pointer (some ⟨b, o, none⟩)) 0).run Tryz.prog w = .ok (.pointer (some ⟨b, o + 0, none⟩)) w := fieldAt_run (T := 287) (off := 0) Tryz.runUnderlying347 rfl Tryz.sizeOf287 (by decide) b o w
theorem fa_36_0 (b o : Nat) (w : World) : (Instr.fieldAt 36 (.pointer (some ⟨b, o, none⟩)) 0).run Tryz.prog w = .ok (.pointer (some ⟨b, o + 0, none⟩)) w := fieldAt_run (T := 28) (off := 0) Tryz.runUnderlying36 rfl Tryz.sizeOf28 (by decide) b o w
theorem fa_36_1 (b o : Nat) (w : World) : (Instr.fieldAt 36 (.pointer (some ⟨b, o, none⟩)) 1).run Tryz.prog w = .ok (.pointer (some ⟨b, o + 1, none⟩)) w := fieldAt_run (T := 29) (off := 1) Tryz.runUnderlying36 rfl Tryz.sizeOf29 (by decide) b o w
theorem fa_36_2 (b o : Nat) (w : World) : (Instr.fieldAt 36 (.pointer (some ⟨b, o, none⟩)) 2).run Tryz.prog w = .ok (.pointer (some ⟨b, o + 2, none⟩)) w := fieldAt_run (T := 34) (off := 2) Tryz.runUnderlying36 rfl Tryz.sizeOf34 (by decide) b o w
theorem fa_36_3 (b o : Nat) (w : World) : (Instr.fieldAt 36 (.pointer (some ⟨b, o, none⟩)) 3).run Tryz.prog w = .ok (.pointer (some ⟨b, o + 6, none⟩)) w := fieldAt_run (T := 34) (off := 6) Tryz.runUnderlying36 rfl Tryz.sizeOf34 (by decide) b o w
theorem fa_44_0 (b o : Nat) (w : World) : (Instr.fieldAt 44 (.pointer (some ⟨b, o, none⟩)) 0).run Tryz.prog w = .ok (.pointer (some ⟨b, o + 0, none⟩)) w := fieldAt_run (T := 3) (off := 0) Tryz.runUnderlying44 rfl Tryz.sizeOf3 (by decide) b o w
theorem fa_44_1 (b o : Nat) (w : World) : (Instr.fieldAt 44 (.pointer (some ⟨b, o, none⟩)) 1).run Tryz.prog w = .ok (.pointer (some ⟨b, o + 1, none⟩)) w := fieldAt_run (T := 42) (off := 1) Tryz.runUnderlying44 rfl Tryz.sizeOf42 (by decide) b o w
theorem fa_47_0 (b o : Nat) (w : World) : (Instr.fieldAt 47 (.pointer (some ⟨b, o, none⟩)) 0).run Tryz.prog w = .ok (.pointer (some ⟨b, o + 0, none⟩)) w := fieldAt_run (T := 44) (off := 0) Tryz.runUnderlying47 rfl Tryz.sizeOf44 (by decide) b o w
theorem fa_47_1 (b o : Nat) (w : World) : (Instr.fieldAt 47 (.pointer (some ⟨b, o, none⟩)) 1).run Tryz.prog w = .ok (.pointer (some ⟨b, o + 5, none⟩)) w := fieldAt_run (T := 28) (off := 5) Tryz.runUnderlying47 rfl Tryz.sizeOf28 (by decide) b o w
theorem fa_47_2 (b o : Nat) (w : World) : (Instr.fieldAt 47 (.pointer (some ⟨b, o, none⟩)) 2).run Tryz.prog w = .ok (.pointer (some ⟨b, o + 6, none⟩)) w := fieldAt_run (T := 3) (off := 6) Tryz.runUnderlying47 rfl Tryz.sizeOf3 (by decide) b o w
theorem fa_47_3 (b o : Nat) (w : World) : (Instr.fieldAt 47 (.pointer (some ⟨b, o, none⟩)) 3).run Tryz.prog w = .ok (.pointer (some ⟨b, o + 7, none⟩)) w := fieldAt_run (T := 45) (off := 7) Tryz.runUnderlying47 rfl Tryz.sizeOf45 (by decide) b o w
theorem fa_47_4 (b o : Nat) (w : World) : (Instr.fieldAt 47 (.pointer (some ⟨b, o, none⟩)) 4).run Tryz.prog w = .ok (.pointer (some ⟨b, o + 8, none⟩)) w := fieldAt_run (T := 4) (off := 8) Tryz.runUnderlying47 rfl Tryz.sizeOf4 (by decide) b o w
theorem fa_55_0 (b o : Nat) (w : World) : (Instr.fieldAt 55 (.pointer (some ⟨b, o, none⟩)) 0).run Tryz.prog w = .ok (.pointer (some ⟨b, o + 0, none⟩)) w := fieldAt_run (T := 4) (off := 0) Tryz.runUnderlying55 rfl Tryz.sizeOf4 (by decide) b o w
theorem fa_55_1 (b o : Nat) (w : World) : (Instr.fieldAt 55 (.pointer (some ⟨b, o, none⟩)) 1).run Tryz.prog w = .ok (.pointer (some ⟨b, o + 1, none⟩)) w := fieldAt_run (T := 53) (off := 1) Tryz.runUnderlying55 rfl Tryz.sizeOf53 (by decide) b o w
theorem fa_57_0 (b o : Nat) (w : World) : (Instr.fieldAt 57 (.pointer (some ⟨b, o, none⟩)) 0).run Tryz.prog w = .ok (.pointer (some ⟨b, o + 0, none⟩)) w := fieldAt_run (T := 55) (off := 0) Tryz.runUnderlying57 rfl Tryz.sizeOf55 (by decide) b o w
theorem fa_57_1 (b o : Nat) (w : World) : (Instr.fieldAt 57 (.pointer (some ⟨b, o, none⟩)) 1).run Tryz.prog w = .ok (.pointer (some ⟨b, o + 2, none⟩)) w := fieldAt_run (T := 55) (off := 2) Tryz.runUnderlying57 rfl Tryz.sizeOf55 (by decide) b o w
theorem fa_59_0 (b o : Nat) (w : World) : (Instr.fieldAt 59 (.pointer (some ⟨b, o, none⟩)) 0).run Tryz.prog w = .ok (.pointer (some ⟨b, o + 0, none⟩)) w := fieldAt_run (T := 52) (off := 0) Tryz.runUnderlying59 rfl Tryz.sizeOf52 (by decide) b o w
theorem fa_59_1 (b o : Nat) (w : World) : (Instr.fieldAt 59 (.pointer (some ⟨b, o, none⟩)) 1).run Tryz.prog w = .ok (.pointer (some ⟨b, o + 1, none⟩)) w := fieldAt_run (T := 57) (off := 1) Tryz.runUnderlying59 rfl Tryz.sizeOf57 (by decide) b o w
theorem fa_59_2 (b o : Nat) (w : World) : (Instr.fieldAt 59 (.pointer (some ⟨b, o, none⟩)) 2).run Tryz.prog w = .ok (.pointer (some ⟨b, o + 5, none⟩)) w := fieldAt_run (T := 57) (off := 5) Tryz.runUnderlying59 rfl Tryz.sizeOf57 (by decide) b o w
theorem fa_65_0 (b o : Nat) (w : World) : (Instr.fieldAt 65 (.pointer (some ⟨b, o, none⟩)) 0).run Tryz.prog w = .ok (.pointer (some ⟨b, o + 0, none⟩)) w := fieldAt_run (T := 23) (off := 0) Tryz.runUnderlying65 rfl Tryz.sizeOf23 (by decide) b o w
theorem fa_65_1 (b o : Nat) (w : World) : (Instr.fieldAt 65 (.pointer (some ⟨b, o, none⟩)) 1).run Tryz.prog w = .ok (.pointer (some ⟨b, o + 1, none⟩)) w := fieldAt_run (T := 23) (off := 1) Tryz.runUnderlying65 rfl Tryz.sizeOf23 (by decide) b o w
theorem fa_65_2 (b o : Nat) (w : World) : (Instr.fieldAt 65 (.pointer (some ⟨b, o, none⟩)) 2).run Tryz.prog w = .ok (.pointer (some ⟨b, o + 2, none⟩)) w := fieldAt_run (T := 23) (off := 2) Tryz.runUnderlying65 rfl Tryz.sizeOf23 (by decide) b o w
theorem fa_65_3 (b o : Nat) (w : World) : (Instr.fieldAt 65 (.pointer (some ⟨b, o, none⟩)) 3).run Tryz.prog w = .ok (.pointer (some ⟨b, o + 3, none⟩)) w := fieldAt_run (T := 23) (off := 3) Tryz.runUnderlying65 rfl Tryz.sizeOf23 (by decide) b o w
theorem fa_65_4 (b o : Nat) (w : World) : (Instr.fieldAt 65 (.pointer (some ⟨b, o, none⟩)) 4).run Tryz.prog w = .ok (.pointer (some ⟨b, o + 4, none⟩)) w := fieldAt_run (T := 63) (off := 4) Tryz.runUnderlying65 rfl Tryz.sizeOf63 (by decide) b o w
theorem fa_74_0 (b o : Nat) (w : World) : (Instr.fieldAt 74 (.pointer (some ⟨b, o, none⟩)) 0).run Tryz.prog w = .ok (.pointer (some ⟨b, o + 0, none⟩)) w := fieldAt_run (T := 52) (off := 0) Tryz.runUnderlying74 rfl Tryz.sizeOf52 (by decide) b o w
theorem fa_74_1 (b o : Nat) (w : World) : (Instr.fieldAt 74 (.pointer (some ⟨b, o, none⟩)) 1).run Tryz.prog w = .ok (.pointer (some ⟨b, o + 1, none⟩)) w := fieldAt_run (T := 52) (off := 1) Tryz.runUnderlying74 rfl Tryz.sizeOf52 (by decide) b o w
theorem fa_74_2 (b o : Nat) (w : World) : (Instr.fieldAt 74 (.pointer (some ⟨b, o, none⟩)) 2).run Tryz.prog w = .ok (.pointer (some ⟨b, o + 2, none⟩)) w := fieldAt_run (T := 55) (off := 2) Tryz.runUnderlying74 rfl Tryz.sizeOf55 (by decide) b o w
theorem fa_76_0 (b o : Nat) (w : World) : (Instr.fieldAt 76 (.pointer (some ⟨b, o, none⟩)) 0).run Tryz.prog w = .ok (.pointer (some ⟨b, o + 0, none⟩)) w := fieldAt_run (T := 74) (off := 0) Tryz.runUnderlying76 rfl Tryz.sizeOf74 (by decide) b o w
theorem fa_76_1 (b o : Nat) (w : World) : (Instr.fieldAt 76 (.pointer (some ⟨b, o, none⟩)) 1).run Tryz.prog w = .ok (.pointer (some ⟨b, o + 4, none⟩)) w := fieldAt_run (T := 3) (off := 4) Tryz.runUnderlying76 rfl Tryz.sizeOf3 (by decide) b o w
theorem fa_91_0 (b o : Nat) (w : World) : (Instr.fieldAt 91 (.pointer (some ⟨b, o, none⟩)) 0).run Tryz.prog w = .ok (.pointer (some ⟨b, o + 0, none⟩)) w := fieldAt_run (T := 36) (off := 0) Tryz.runUnderlying91 rfl Tryz.sizeOf36 (by decide) b o w
theorem fa_91_1 (b o : Nat) (w : World) : (Instr.fieldAt 91 (.pointer (some ⟨b, o, none⟩)) 1).run Tryz.prog w = .ok (.pointer (some ⟨b, o + 10, none⟩)) w := fieldAt_run (T := 38) (off := 10) Tryz.runUnderlying91 rfl Tryz.sizeOf38 (by decide) b o w
theorem fa_91_3 (b o : Nat) (w : World) : (Instr.fieldAt 91 (.pointer (some ⟨b, o, none⟩)) 3).run Tryz.prog w = .ok (.pointer (some ⟨b, o + 12, none⟩)) w := fieldAt_run (T := 45) (off := 12) Tryz.runUnderlying91 rfl Tryz.sizeOf45 (by decide) b o w
theorem fa_93_0 (b o : Nat) (w : World) : (Instr.fieldAt 93 (.pointer (some ⟨b, o, none⟩)) 0).run Tryz.prog w = .ok (.pointer (some ⟨b, o + 0, none⟩)) w := fieldAt_run (T := 24) (off := 0) Tryz.runUnderlying93 rfl Tryz.sizeOf24 (by decide) b o w
theorem fa_93_1 (b o : Nat) (w : World) : (Instr.fieldAt 93 (.pointer (some ⟨b, o, none⟩)) 1).run Tryz.prog w = .ok (.pointer (some ⟨b, o + 1, none⟩)) w := fieldAt_run (T := 34) (off := 1) Tryz.runUnderlying93 rfl Tryz.sizeOf34 (by decide) b o w
theorem fa_93_2 (b o : Nat) (w : World) : (Instr.fieldAt 93 (.pointer (some ⟨b, o, none⟩)) 2).run Tryz.prog w = .ok (.pointer (some ⟨b, o + 5, none⟩)) w := fieldAt_run (T := 91) (off := 5) Tryz.runUnderlying93 rfl Tryz.sizeOf91 (by decide) b o w
theorem fa_98_0 (b o : Nat) (w : World) : (Instr.fieldAt 98 (.pointer (some ⟨b, o, none⟩)) 0).run Tryz.prog w = .ok (.pointer (some ⟨b, o + 0, none⟩)) w := fieldAt_run (T := 28) (off := 0) Tryz.runUnderlying98 rfl Tryz.sizeOf28 (by decide) b o w
theorem fa_98_1 (b o : Nat) (w : World) : (Instr.fieldAt 98 (.pointer (some ⟨b, o, none⟩)) 1).run Tryz.prog w = .ok (.pointer (some ⟨b, o + 1, none⟩)) w := fieldAt_run (T := 28) (off := 1) Tryz.runUnderlying98 rfl Tryz.sizeOf28 (by decide) b o w
theorem fa_98_2 (b o : Nat) (w : World) : (Instr.fieldAt 98 (.pointer (some ⟨b, o, none⟩)) 2).run Tryz.prog w = .ok (.pointer (some ⟨b, o + 2, none⟩)) w := fieldAt_run (T := 74) (off := 2) Tryz.runUnderlying98 rfl Tryz.sizeOf74 (by decide) b o w
end Orr

namespace Orr
open Go

/-- how many binary digits -/
def sz (x : Nat) : Nat := if x = 0 then 0 else x.log2 + 1
theorem sz_le {x k : Nat} : sz x ≤ k ↔ x < 2 ^ k := by
  unfold sz
  split
  · rename_i h; subst h; simp [Nat.pow_pos]
  · rename_i h
    rw [Nat.succ_le_iff, Nat.log2_lt h]
theorem lt_sz (x : Nat) : x < 2 ^ sz x := sz_le.1 (Nat.le_refl _)
theorem sz_zero : sz 0 = 0 := rfl
theorem sz_mono {x y : Nat} (h : x ≤ y) : sz x ≤ sz y := sz_le.2 (Nat.lt_of_le_of_lt h (lt_sz y))
theorem sz_add (x y : Nat) : sz (x + y) ≤ max (sz x) (sz y) + 1 := by
  rw [sz_le, Nat.pow_succ]
  have h1 : x < 2 ^ max (sz x) (sz y) := sz_le.1 (Nat.le_max_left _ _)
  have h2 : y < 2 ^ max (sz x) (sz y) := sz_le.1 (Nat.le_max_right _ _)
  omega
theorem sz_mul (x y : Nat) : sz (x * y) ≤ sz x + sz y := by
  rw [sz_le, Nat.pow_add]
  rcases Nat.eq_zero_or_pos y with h | h
  · subst h; simp [Nat.pow_pos]
  · exact Nat.mul_lt_mul_of_lt_of_le (lt_sz x) (Nat.le_of_lt (lt_sz y)) (by exact Nat.pow_pos (by decide))
theorem sz_pos {x : Nat} (h : 0 < x) : 0 < sz x := by
  unfold sz; split
  · omega
  · omega

theorem val_append (l r : List Nat) : val (l ++ r) = val l + 4294967296 ^ l.length * val r := by
  induction l with
  | nil => simp [val]
  | cons x l ih => simp only [List.cons_append, val, List.length_cons, ih, Nat.pow_succ]; grind
theorem val_zeros (k : Nat) : val (List.replicate k 0) = 0 := by
  induction k with
  | zero => rfl
  | succ k ih => simp [List.replicate_succ, val, ih]
theorem val_lt (l : List Nat) (h : ∀ x ∈ l, x < 4294967296) : val l < 4294967296 ^ l.length := by
  induction l with
  | nil => simp [val]
  | cons x l ih =>
    have h1 := h x (List.mem_cons_self ..)
    have h2 := ih fun y hy => h y (List.mem_cons_of_mem _ hy)
    simp only [val, List.length_cons, Nat.pow_succ]
    omega
theorem val_take_succ (l : List Nat) (i x : Nat) (h : l[i]? = some x) : val (l.take (i + 1)) = val (l.take i) + 4294967296 ^ i * x := by
  have hi : i < l.length := (List.getElem?_eq_some_iff.1 h).1
  rw [List.take_add_one, h, val_append]
  simp only [Option.toList, List.length_take, Nat.min_eq_left (Nat.le_of_lt hi), val]
  simp
theorem cut_zeros {l : List Nat} {m : Nat} (h : Cut l m) : l.drop m = List.replicate (l.length - m) 0 := by
  apply List.ext_getElem?
  intro i
  rw [List.getElem?_drop, List.getElem?_replicate]
  split
  · rename_i hi
    exact h.2.1 (m + i) (by omega) (by omega)
  · rw [List.getElem?_eq_none (by have := h.1; omega)]
theorem cut_val {l : List Nat} {m : Nat} (h : Cut l m) : val (l.take m) = val l := by
  have : l = l.take m ++ l.drop m := (List.take_append_drop m l).symm
  conv => rhs; rw [this, cut_zeros h, val_append, val_zeros]
  simp
theorem cut_nrm {l : List Nat} {m : Nat} (h : Cut l m) (hl : ∀ x ∈ l, x < 4294967296) : Nrm (l.take m) := by
  refine ⟨fun x hx => hl x (List.mem_of_mem_take hx), fun hne => ?_⟩
  have hm : 0 < m := by
    rcases Nat.eq_zero_or_pos m with e | e
    · subst e; simp at hne
    · exact e
  obtain ⟨x, hx, hx0⟩ := h.2.2 hm
  have hlen : (l.take m).length = m := by rw [List.length_take]; have := h.1; omega
  refine ⟨x, ?_, hx0⟩
  rw [hlen, List.getElem?_take, if_pos (by omega), hx]
theorem nrm_low {l : List Nat} (h : Nrm l) (hne : l ≠ []) : 4294967296 ^ (l.length - 1) ≤ val l := by
  obtain ⟨x, hx, hx0⟩ := h.2 hne
  have hlen : 0 < l.length := List.length_pos_iff.2 hne
  have := val_take_succ l (l.length - 1) x hx
  rw [show l.length - 1 + 1 = l.length from by omega, List.take_length] at this
  rw [this]
  calc 4294967296 ^ (l.length - 1) = 4294967296 ^ (l.length - 1) * 1 := by rw [Nat.mul_one]
    _ ≤ 4294967296 ^ (l.length - 1) * x := Nat.mul_le_mul_left _ (by omega)
    _ ≤ _ := Nat.le_add_left _ _
theorem nrm_len {l : List Nat} (h : Nrm l) : 32 * l.length ≤ sz (val l) + 31 := by
  rcases l with _ | ⟨x, l⟩
  · simp
  · have h1 := nrm_low h (by simp)
    have h2 := lt_sz (val (x :: l))
    have h3 : (4294967296 : Nat) ^ ((x :: l).length - 1) < 2 ^ sz (val (x :: l)) := Nat.lt_of_le_of_lt h1 h2
    rw [show (4294967296 : Nat) = 2 ^ 32 from by decide, ← Nat.pow_mul] at h3
    have := (Nat.pow_lt_pow_iff_right (by decide : 1 < 2)).1 h3
    omega
theorem nrm_zero {l : List Nat} (h : Nrm l) : val l = 0 ↔ l = [] := by
  constructor
  · intro h0
    apply Classical.byContradiction
    intro hne
    have := nrm_low h hne
    have : 0 < 4294967296 ^ (l.length - 1) := Nat.pow_pos (by decide)
    omega
  · rintro rfl; rfl
theorem nrm_inj : ∀ {l r : List Nat}, Nrm l → Nrm r → val l = val r → l = r
  | [], r, _, hr, h => ((nrm_zero hr).1 h.symm).symm
  | x :: l, [], hl, _, h => (nrm_zero hl).1 h
  | x :: l, y :: r, hl, hr, h => by
    have hx := hl.1 x (List.mem_cons_self ..)
    have hy := hr.1 y (List.mem_cons_self ..)
    simp only [val] at h
    have h1 : x = y := by omega
    have h2 : val l = val r := by omega
    have tail : ∀ {z : Nat} {l : List Nat}, Nrm (z :: l) → Nrm l := fun {z l} hl => ⟨fun u hu => hl.1 u (List.mem_cons_of_mem _ hu), fun hne => by
      obtain ⟨u, hu, hu0⟩ := hl.2 (by simp)
      refine ⟨u, ?_, hu0⟩
      have := List.length_pos_iff.2 hne
      rw [List.length_cons, show l.length + 1 - 1 = (l.length - 1) + 1 from by omega, List.getElem?_cons_succ] at hu
      exact hu⟩
    rw [h1, nrm_inj (tail hl) (tail hr) h2]
/-- the longer normal row is the greater number -/
theorem nrm_lt_of_len {l r : List Nat} (hl : Nrm l) (hr : Nrm r) (h : l.length < r.length) : val l < val r := by
  have h1 := val_lt l hl.1
  have h2 := nrm_low hr (by rintro rfl; simp at h)
  have : (4294967296 : Nat) ^ l.length ≤ 4294967296 ^ (r.length - 1) := Nat.pow_le_pow_right (by decide) (by omega)
  omega

theorem val_split (l : List Nat) (k x : Nat) (hx : l[k]? = some x) : val l = val (l.take k) + 4294967296 ^ k * (x + 4294967296 * val (l.drop (k + 1))) := by
  have hk : k < l.length := (List.getElem?_eq_some_iff.1 hx).1
  have e : l = l.take k ++ (x :: l.drop (k + 1)) := by
    have h2 : l[k] = x := (List.getElem?_eq_some_iff.1 hx).2
    rw [← h2, ← List.drop_eq_getElem_cons hk, List.take_append_drop]
  have h1 : (l.take k).length = k := by rw [List.length_take]; omega
  conv => lhs; rw [e, val_append, h1]
  rfl
theorem val_top {l r : List Nat} {k x y : Nat} (hl : ∀ x ∈ l, x < 4294967296) (hd : l.drop (k + 1) = r.drop (k + 1)) (hx : l[k]? = some x) (hy : r[k]? = some y) (h : x < y) : val l < val r := by
  rw [val_split l k x hx, val_split r k y hy, hd]
  have h1 := val_lt (l.take k) (fun x hx => hl x (List.mem_of_mem_take hx))
  have h2 : (l.take k).length ≤ k := by rw [List.length_take]; omega
  have h3 : (4294967296 : Nat) ^ (l.take k).length ≤ 4294967296 ^ k := Nat.pow_le_pow_right (by decide) h2
  have h4 : 4294967296 ^ k * (x + 1 + 4294967296 * val (r.drop (k + 1))) ≤ 4294967296 ^ k * (y + 4294967296 * val (r.drop (k + 1))) := Nat.mul_le_mul_left _ (by omega)
  rw [show x + 1 + 4294967296 * val (r.drop (k + 1)) = (x + 4294967296 * val (r.drop (k + 1))) + 1 from by omega, Nat.mul_add, Nat.mul_one] at h4
  omega
theorem drop_same {l r : List Nat} {k x : Nat} (hd : l.drop (k + 1) = r.drop (k + 1)) (hx : l[k]? = some x) (hy : r[k]? = some x) : l.drop k = r.drop k := by
  obtain ⟨h1, e1⟩ := List.getElem?_eq_some_iff.1 hx
  obtain ⟨h2, e2⟩ := List.getElem?_eq_some_iff.1 hy
  rw [List.drop_eq_getElem_cons h1, List.drop_eq_getElem_cons h2, hd, e1, e2]
/-- which number is greater -/
def cmpN (x y : Nat) : Int := if x < y then -1 else if y < x then 1 else 0
theorem cmpN_lt {x y : Nat} (h : x < y) : cmpN x y = -1 := by unfold cmpN; rw [if_pos h]
theorem cmpN_gt {x y : Nat} (h : y < x) : cmpN x y = 1 := by unfold cmpN; rw [if_neg (by omega), if_pos h]
theorem cmpN_eq {x y : Nat} (h : x = y) : cmpN x y = 0 := by unfold cmpN; rw [if_neg (by omega), if_neg (by omega)]

/-- a row as a number, in any form -/
def Rel.natA : Rel Nat := Rel.row32.view fun l x => (∀ y ∈ l, y < 4294967296) ∧ val l = x
/-- a normal row as a number -/
def Rel.natN : Rel Nat := Rel.row32.view fun l x => Nrm l ∧ val l = x
theorem natA_of_natN {w : World} {O : Nat → Prop} {cs : List Value} {x : Nat} (h : Rel.natN.at_ w O cs x) : Rel.natA.at_ w O cs x := by
  obtain ⟨l, h1, h2, h3⟩ := h
  exact ⟨l, h1, h2.1, h3⟩

/-! own rows of limbs -/
def u32s (l : List Nat) : List Value := l.map fun (x : Nat) => .int .u32 (x : Int)
theorem length_u32s (l : List Nat) : (u32s l).length = l.length := by simp [u32s]
theorem getElem?_u32s (l : List Nat) (i : Nat) : (u32s l)[i]? = l[i]?.map fun (x : Nat) => .int .u32 (x : Int) := by simp [u32s]
theorem reps_u32s (m : Nat) : reps m [.int .u32 0] = u32s (List.replicate m 0) := by
  induction m with
  | zero => rfl
  | succ m ih => simp [reps, ih, u32s, List.replicate_succ]
theorem upd_u32s (l : List Nat) (i x : Nat) (h : i < l.length) : upd (u32s l) i [.int .u32 (x : Int)] = u32s (l.set i x) := by
  induction l generalizing i with
  | nil => simp at h
  | cons y l ih =>
    cases i with
    | zero => simp [u32s, upd]
    | succ i =>
      have := ih i (by simpa using h)
      simp only [u32s, List.map_cons, upd, List.set_cons_succ] at this ⊢
      rw [this]

section
variable {K Ob : Nat → Prop} {w0 w : World} {a : Act} {n : Nat} {L : List (Nat × Value)} {Fs : List Fact} {Bs : List Blk}
theorem own_notin {g T : Nat} {cs : List Value} (h : St K Ob w0 w a n L Fs ((g, T, cs) :: Bs)) : ¬ owns Ob Bs g := by
  rintro (ho | ho)
  · exact h.ownO g (by simp) ho
  · have := (List.nodup_cons.1 h.nodup).1
    exact this ho
/-- an own row of limbs, given away -/
theorem own_row32 {g T : Nat} {cs : List Value} {r : List Nat} (c : Nat) (h : St K Ob w0 w a n L Fs ((g, T, cs) :: Bs)) (hc : ∀ i, i < r.length → cs[i]? = (u32s r)[i]?) (hr : ∀ x ∈ r, x < 4294967296) (hl : r.length < 2 ^ 47) (hrc : r.length ≤ c) (hc63 : c < 2 ^ 63) :
    Rel.row32.at_ w (owns Ob Bs) [.slice (some ⟨g, 0, none⟩) r.length c] r := by
  refine ⟨_, c, rfl, hrc, hc63, hl, fun h0 => ⟨g, 0, rfl, (h.own g T cs (by simp)).2.1, own_notin h, fun i x hx => ⟨[.int .u32 (x : Int)], ⟨rfl, hr x (List.mem_of_getElem? hx)⟩, fun j v hj => ?_⟩⟩⟩
  have hi : i < r.length := (List.getElem?_eq_some_iff.1 hx).1
  rcases j with _ | j
  · simp at hj; subst hj
    rw [h.own_cell (i := 0) rfl]
    show cs[0 + i * 1 + 0]? = _
    rw [Nat.zero_add, Nat.mul_one, Nat.add_zero, hc i hi, getElem?_u32s, hx]; rfl
  · simp at hj
theorem St.respellB {g T : Nat} {cs cs' : List Value} (h : St K Ob w0 w a n L Fs ((g, T, cs) :: Bs)) (e : cs = cs') : St K Ob w0 w a n L Fs ((g, T, cs') :: Bs) := e ▸ h

theorem src_row32 {O : Nat → Prop} {A : Option Addr} {m c : Nat} {r : List Nat} (h : Rel.row32.at_ w O [.slice A m c] r) : Src w (.slice A m c) 1 m (u32s r) := by
  obtain ⟨e, _, _⟩ := row_open h
  subst e
  refine ⟨by rw [length_u32s, Nat.mul_one], A, c, rfl, fun h0 => ?_⟩
  obtain ⟨b, o, hA, _, _, hc⟩ := row_get h (i := 0) h0
  refine ⟨b, o, hA, fun j v hj => ?_⟩
  rw [getElem?_u32s] at hj
  cases hx : r[j]? with
  | none => rw [hx] at hj; cases hj
  | some x =>
    rw [hx] at hj
    injection hj with hj; subst hj
    have := hc j x hx
    rwa [Nat.mul_one] at this
theorem ownRow_row32 {v : Value} {E m : Nat} {r : List Nat} {Bo : List Blk} (h : St K Ob w0 w a n L Fs (Bo ++ Bs)) (ho : OwnRow v E 1 m (u32s r) Bo) (hr : ∀ x ∈ r, x < 4294967296) (hl : r.length < 2 ^ 47) :
    ∃ A c, v = .slice A r.length c ∧ Rel.row32.at_ w (owns Ob Bs) [.slice A r.length c] r := by
  obtain ⟨hlen, ⟨rfl, rfl, rfl⟩ | ⟨g, c, ex, rfl, rfl, hl2, hmc, hc63⟩⟩ := ho
  · have : r = [] := List.eq_nil_of_length_eq_zero (by simpa [length_u32s] using hlen)
    subst this
    exact ⟨none, 0, rfl, none, 0, rfl, Nat.le_refl _, by decide, by decide, fun h0 => absurd h0 (by simp)⟩
  · rw [length_u32s, Nat.mul_one] at hlen
    subst hlen
    exact ⟨_, c, rfl, own_row32 c h (fun i hi => by rw [List.getElem?_append_left (by rw [length_u32s]; exact hi)]) hr hl hmc hc63⟩
theorem u32s_one (r : List Nat) : ∀ u ∈ u32s r, one u = true := by
  intro u hu
  obtain ⟨x, _, rfl⟩ := List.mem_map.1 hu
  rfl
end
end Orr

namespace Orr
open Go
variable {P : Program} {ops : Array Oper} {Q : Exit → Act → World → Prop}
variable {K Ob : Nat → Prop} {w0 w : World} {a : Act} {n : Nat} {L : List (Nat × Value)} {Fs : List Fact} {Bs : List Blk} {rest : List Oper}
variable {d : Nat} {ty : TypeId} {pos : String} {after : Array Edge}

theorem st_to64 {x : Operand} {kd : IntKind} {p : Nat} {s t : TypeId} (h : St K Ob w0 w a n L Fs Bs) (hx : ev L x = some (.int kd (p : Int))) (hp : p < 18446744073709551616)
    (hs : ∀ w, (underlying s).run P w = .ok (.int kd) w) (ht : ∀ w, (underlying t).run P w = .ok (.int .u64) w) (hd : Nat.blt d n = true)
    (k : ∀ a', St K Ob w0 w a' n ((d, .int .u64 (p : Int)) :: L) Fs Bs → wpList P ops Q rest a' w) :
    wpList P ops Q ({ dst := some d, op := .convert s t x, type := ty, pos := pos, after := after, guard := none } :: rest) a w :=
  st_convert h hx hs ht hd fun a' h' => k a' (h'.respell (by rw [wrapu64_is]; congr 1; omega))
theorem st_to32 {x : Operand} {kd : IntKind} {p : Nat} {s t : TypeId} (h : St K Ob w0 w a n L Fs Bs) (hx : ev L x = some (.int kd (p : Int)))
    (hs : ∀ w, (underlying s).run P w = .ok (.int kd) w) (ht : ∀ w, (underlying t).run P w = .ok (.int .u32) w) (hd : Nat.blt d n = true)
    (k : ∀ a', St K Ob w0 w a' n ((d, .int .u32 ((p % 4294967296 : Nat) : Int)) :: L) Fs Bs → wpList P ops Q rest a' w) :
    wpList P ops Q ({ dst := some d, op := .convert s t x, type := ty, pos := pos, after := after, guard := none } :: rest) a w :=
  st_convert h hx hs ht hd fun a' h' => k a' (h'.respell (by rw [wrapu32_of]; congr 1))
/-- a small number as an int -/
theorem st_toInt {x : Operand} {kd : IntKind} {p : Nat} {s t : TypeId} (h : St K Ob w0 w a n L Fs Bs) (hx : ev L x = some (.int kd (p : Int))) (hp : p < 9223372036854775808)
    (hs : ∀ w, (underlying s).run P w = .ok (.int kd) w) (ht : ∀ w, (underlying t).run P w = .ok (.int .i64) w) (hd : Nat.blt d n = true)
    (k : ∀ a', St K Ob w0 w a' n ((d, .int .i64 (p : Int)) :: L) Fs Bs → wpList P ops Q rest a' w) :
    wpList P ops Q ({ dst := some d, op := .convert s t x, type := ty, pos := pos, after := after, guard := none } :: rest) a w :=
  st_convert h hx hs ht hd fun a' h' => k a' (h'.respell (by rw [wrap64_of (by omega) (by omega)]))
theorem st_addN {x y : Operand} {p q : Nat} {t t' : TypeId} (h : St K Ob w0 w a n L Fs Bs) (hx : ev L x = some (.int .u64 (p : Int))) (hy : ev L y = some (.int .u64 (q : Int))) (hb : p + q < 18446744073709551616) (hd : Nat.blt d n = true)
    (k : ∀ a', St K Ob w0 w a' n ((d, .int .u64 ((p + q : Nat) : Int)) :: L) Fs Bs → wpList P ops Q rest a' w) :
    wpList P ops Q ({ dst := some d, op := .binOp .add t x y t', type := ty, pos := pos, after := after, guard := none } :: rest) a w :=
  st_add h hx hy hd fun a' h' => k a' (h'.respell (by rw [wrapu64_is]; congr 1; omega))
theorem st_mulN {x y : Operand} {p q : Nat} {t t' : TypeId} (h : St K Ob w0 w a n L Fs Bs) (hx : ev L x = some (.int .u64 (p : Int))) (hy : ev L y = some (.int .u64 (q : Int))) (hb : p * q < 18446744073709551616) (hd : Nat.blt d n = true)
    (k : ∀ a', St K Ob w0 w a' n ((d, .int .u64 ((p * q : Nat) : Int)) :: L) Fs Bs → wpList P ops Q rest a' w) :
    wpList P ops Q ({ dst := some d, op := .binOp .mul t x y t', type := ty, pos := pos, after := after, guard := none } :: rest) a w :=
  st_mul h hx hy hd fun a' h' => k a' (h'.respell (by rw [wrapu64_is, ← Int.natCast_mul]; congr 1; omega))
/-- the difference, round 2^64 -/
theorem st_subN {x y : Operand} {p q : Nat} {t t' : TypeId} (h : St K Ob w0 w a n L Fs Bs) (hx : ev L x = some (.int .u64 (p : Int))) (hy : ev L y = some (.int .u64 (q : Int))) (hq : q ≤ 18446744073709551616) (hd : Nat.blt d n = true)
    (k : ∀ a', St K Ob w0 w a' n ((d, .int .u64 (((p + 18446744073709551616 - q) % 18446744073709551616 : Nat) : Int)) :: L) Fs Bs → wpList P ops Q rest a' w) :
    wpList P ops Q ({ dst := some d, op := .binOp .sub t x y t', type := ty, pos := pos, after := after, guard := none } :: rest) a w :=
  st_sub h hx hy hd fun a' h' => k a' (h'.respell (by rw [wrapu64_is]; congr 1; omega))
theorem st_shrN {x y : Operand} {kd : IntKind} {p m : Nat} {t t' : TypeId} (h : St K Ob w0 w a n L Fs Bs) (hx : ev L x = some (.int .u64 (p : Int))) (hy : ev L y = some (.int kd (m : Int))) (hm : m ≤ 64) (hd : Nat.blt d n = true)
    (k : ∀ a', St K Ob w0 w a' n ((d, .int .u64 ((p / 2 ^ m : Nat) : Int)) :: L) Fs Bs → wpList P ops Q rest a' w) :
    wpList P ops Q ({ dst := some d, op := .binOp .shr t x y t', type := ty, pos := pos, after := after, guard := none } :: rest) a w :=
  st_shr h hx hy hm hd fun a' h' => k a' (h'.respell (by congr 1))
theorem st_quoN {x y : Operand} {p q : Nat} {t t' : TypeId} (h : St K Ob w0 w a n L Fs Bs) (hx : ev L x = some (.int .u64 (p : Int))) (hy : ev L y = some (.int .u64 (q : Int))) (hp : p < 18446744073709551616) (hq : 0 < q) (hd : Nat.blt d n = true)
    (k : ∀ a', St K Ob w0 w a' n ((d, .int .u64 ((p / q : Nat) : Int)) :: L) Fs Bs → wpList P ops Q rest a' w) :
    wpList P ops Q ({ dst := some d, op := .binOp .quo t x y t', type := ty, pos := pos, after := after, guard := none } :: rest) a w :=
  st_quo h hx hy (by omega) hd fun a' h' => k a' (h'.respell (by
    have h1 : p / q ≤ p := Nat.div_le_self _ _
    rw [← Int.ofNat_tdiv]
    generalize p / q = z at *
    rw [wrapu64_of (by omega) (by omega)]))
theorem st_remN {x y : Operand} {p q : Nat} {t t' : TypeId} (h : St K Ob w0 w a n L Fs Bs) (hx : ev L x = some (.int .u64 (p : Int))) (hy : ev L y = some (.int .u64 (q : Int))) (hq : 0 < q) (hd : Nat.blt d n = true)
    (k : ∀ a', St K Ob w0 w a' n ((d, .int .u64 ((p % q : Nat) : Int)) :: L) Fs Bs → wpList P ops Q rest a' w) :
    wpList P ops Q ({ dst := some d, op := .binOp .rem t x y t', type := ty, pos := pos, after := after, guard := none } :: rest) a w :=
  st_rem h hx hy (by omega) hd fun a' h' => k a' (h'.respell (by rw [← Int.ofNat_tmod]))
theorem st_shlN {x y : Operand} {kd : IntKind} {p m : Nat} {t t' : TypeId} (h : St K Ob w0 w a n L Fs Bs) (hx : ev L x = some (.int .u64 (p : Int))) (hy : ev L y = some (.int kd (m : Int))) (hm : m ≤ 64) (hb : p * 2 ^ m < 18446744073709551616) (hd : Nat.blt d n = true)
    (k : ∀ a', St K Ob w0 w a' n ((d, .int .u64 ((p * 2 ^ m : Nat) : Int)) :: L) Fs Bs → wpList P ops Q rest a' w) :
    wpList P ops Q ({ dst := some d, op := .binOp .shl t x y t', type := ty, pos := pos, after := after, guard := none } :: rest) a w :=
  st_shl h hx hy hm hd fun a' h' => k a' (h'.respell (by
    rw [wrapu64_is, show ((p : Int) * 2 ^ m) = ((p * 2 ^ m : Nat) : Int) from by push_cast; rfl]; congr 1; omega))

theorem or_add {k q : Nat} (hq : q < 4294967296) : (4294967296 * k) ||| q = 4294967296 * k + q := by
  have := Nat.two_pow_add_eq_or_of_lt (i := 32) (b := q) (by omega) k
  simpa using this.symm
/-- a word of two limbs -/
theorem st_orN {x y : Operand} {k' p q : Nat} {t t' : TypeId} (h : St K Ob w0 w a n L Fs Bs) (hx : ev L x = some (.int .u64 (p : Int))) (hy : ev L y = some (.int .u64 (q : Int))) (hk : p = 4294967296 * k') (hq : q < 4294967296) (hp : p < 18446744073709551616) (hd : Nat.blt d n = true)
    (k : ∀ a', St K Ob w0 w a' n ((d, .int .u64 ((p + q : Nat) : Int)) :: L) Fs Bs → wpList P ops Q rest a' w) :
    wpList P ops Q ({ dst := some d, op := .binOp .or t x y t', type := ty, pos := pos, after := after, guard := none } :: rest) a w :=
  st_val h hd (by
    have e1 : (BitVec.ofInt 64 (p : Int)).toNat = p := by rw [BitVec.toNat_ofInt]; omega
    have e2 : (BitVec.ofInt 64 (q : Int)).toNat = q := by rw [BitVec.toNat_ofInt]; omega
    have e3 : IntKind.u64.wrap ((BitVec.ofInt 64 (p : Int) ||| BitVec.ofInt 64 (q : Int)).toNat : Int) = ((p + q : Nat) : Int) := by
      rw [BitVec.toNat_or, e1, e2, hk, or_add hq, ← hk, wrapu64_of (by omega) (by omega)]
    simp only [execOp, h.ev hx, h.ev hy, eqGuard, Go.binOp, Op.intBits, Sem.run_bind, Sem.run_pure, Result.andThen_ok, ne_eq, not_true_eq_false, if_false]
    simp [Op.intBits]
    exact e3) k

/-- a limb of an own row of limbs is written -/
theorem st_storeU {T : TypeId} {x y : Operand} {g i v E : Nat} {o : List Nat} (h : St K Ob w0 w a n L Fs ((g, E, u32s o) :: Bs)) (hx : ev L x = some (.pointer (some ⟨g, 0 + i * 1, none⟩)))
    (hy : ev L y = some (.int .u32 (v : Int))) (hs : ∀ w, (Go.sizeOf T).run P w = .ok 1 w) (hi : i < o.length)
    (k : ∀ w', St K Ob w0 w' a n L Fs ((g, E, u32s (o.set i v)) :: Bs) → wpList P ops Q rest a w') :
    wpList P ops Q ({ dst := none, op := .store T x y, type := ty, pos := pos, after := after, guard := none } :: rest) a w := by
  have e : 0 + i * 1 = i := by omega
  rw [e] at hx
  refine st_store h 0 rfl hx hy hs rfl rfl (by rw [length_u32s]; rw [Nat.ble_eq]; exact hi) rfl fun w' h' => k w' ?_
  have e2 : upd (u32s o) i (Value.int .u32 (v : Int)).cells.toList = u32s (o.set i v) := upd_u32s o i v hi
  rw [e2] at h'
  exact h'
theorem St.u32s_cell {g E i x : Nat} {o : List Nat} (h : St K Ob w0 w a n L Fs ((g, E, u32s o) :: Bs)) (hx : o[i]? = some x) : w.cell? ⟨g, 0 + i * 1, none⟩ = some (.int .u32 (x : Int)) := by
  rw [h.own_cell (i := 0) rfl, getElem?_u32s, show 0 + i * 1 = i from by omega, hx]
  rfl
end Orr

namespace Orr

theorem take_set_same (o : List Nat) (i v : Nat) : (o.set i v).take i = o.take i := by
  apply List.ext_getElem?
  intro j
  rw [List.getElem?_take, List.getElem?_take]
  split
  · rw [List.getElem?_set_ne (by omega)]
  · rfl
theorem val_set (o : List Nat) (i v : Nat) (h : i < o.length) : val ((o.set i v).take (i + 1)) = val (o.take i) + 4294967296 ^ i * v := by
  rw [val_take_succ (o.set i v) i v (by rw [List.getElem?_set_self h]), take_set_same]
theorem take_of_le (r : List Nat) (i : Nat) (h : r.length ≤ i) : r.take (i + 1) = r.take i := by
  rw [List.take_of_length_le (by omega), List.take_of_length_le h]
theorem val_next {r : List Nat} {i y : Nat} (hy : r[i]? = some y ∨ (r.length ≤ i ∧ y = 0)) : val (r.take (i + 1)) = val (r.take i) + 4294967296 ^ i * y := by
  rcases hy with hy | ⟨h, rfl⟩
  · exact val_take_succ r i y hy
  · rw [take_of_le r i h]; omega
theorem add_step {o l r : List Nat} {i x y s cy : Nat} (ho : i < o.length) (hx : l[i]? = some x) (hy : r[i]? = some y ∨ (r.length ≤ i ∧ y = 0))
    (h : val (o.take i) + cy * 4294967296 ^ i = val (l.take i) + val (r.take i)) (hs : s = x + cy + y) :
    val ((o.set i (s % 4294967296)).take (i + 1)) + (s / 4294967296) * 4294967296 ^ (i + 1) = val (l.take (i + 1)) + val (r.take (i + 1)) := by
  rw [val_set o i _ ho, val_take_succ l i x hx, val_next hy, Nat.pow_succ]
  have e : s = 4294967296 * (s / 4294967296) + s % 4294967296 := (Nat.div_add_mod s 4294967296).symm
  generalize s / 4294967296 = q at *
  generalize s % 4294967296 = m at *
  generalize 4294967296 ^ i = p at *
  grind
theorem set_lt {o : List Nat} (h : ∀ x ∈ o, x < 4294967296) (i v : Nat) (hv : v < 4294967296) : ∀ x ∈ o.set i v, x < 4294967296 := by
  intro x hx
  rcases List.mem_or_eq_of_mem_set hx with h' | h'
  · exact h x h'
  · omega
/-- a borrow: what is taken is y + b, what is left s, round 2^64 -/
theorem sub_step {o l r : List Nat} {i x y s b : Nat} (ho : i < o.length) (hx : l[i]? = some x) (hy : r[i]? = some y ∨ (r.length ≤ i ∧ y = 0)) (hxb : x < 4294967296) (hyb : y < 4294967296) (hb : b ≤ 1)
    (h : val (o.take i) + val (r.take i) = val (l.take i) + b * 4294967296 ^ i) (hs : s = (x + 18446744073709551616 - b - y) % 18446744073709551616) :
    val ((o.set i (s % 4294967296)).take (i + 1)) + val (r.take (i + 1)) = val (l.take (i + 1)) + (s / 9223372036854775808) * 4294967296 ^ (i + 1) ∧ s / 9223372036854775808 ≤ 1 := by
  rw [val_set o i _ ho, val_take_succ l i x hx, val_next hy, Nat.pow_succ]
  by_cases hlt : x < b + y
  · have e1 : s = 18446744073709551616 + x - b - y := by omega
    have e2 : s / 9223372036854775808 = 1 := by omega
    have e3 : s % 4294967296 + b + y = x + 4294967296 := by omega
    rw [e2]
    generalize s % 4294967296 = m at *
    generalize 4294967296 ^ i = p at *
    exact ⟨by grind, by omega⟩
  · have e1 : s = x - b - y := by omega
    have e2 : s / 9223372036854775808 = 0 := by omega
    have e3 : s % 4294967296 + b + y = x := by omega
    rw [e2]
    generalize s % 4294967296 = m at *
    generalize 4294967296 ^ i = p at *
    exact ⟨by grind, by omega⟩

theorem val_set_eq (o : List Nat) (i v z : Nat) (hz : o[i]? = some z) : val (o.set i v) + 4294967296 ^ i * z = val o + 4294967296 ^ i * v := by
  have hi : i < o.length := (List.getElem?_eq_some_iff.1 hz).1
  have h1 := val_split o i z hz
  have h2 := val_split (o.set i v) i v (by rw [List.getElem?_set_self hi])
  have e : (o.set i v).drop (i + 1) = o.drop (i + 1) := by
    apply List.ext_getElem?
    intro j
    rw [List.getElem?_drop, List.getElem?_drop, List.getElem?_set_ne (by omega)]
  rw [take_set_same, e] at h2
  rw [h1, h2]
  generalize 4294967296 ^ i = p
  grind
theorem mul_le_limb {x y : Nat} (hx : x < 4294967296) (hy : y < 4294967296) : x * y ≤ 18446744065119617025 := by
  have := Nat.mul_le_mul (show x ≤ 4294967295 by omega) (show y ≤ 4294967295 by omega)
  omega
/-- a product's row: one limb more -/
theorem mul_step {o' r : List Nat} {i k x y z s cy V : Nat} (hz : o'[i + k]? = some z) (hy : r[k]? = some y)
    (h : val o' + cy * 4294967296 ^ (i + k) = V + 4294967296 ^ i * x * val (r.take k)) (hs : s = x * y + z + cy) :
    val (o'.set (i + k) (s % 4294967296)) + (s / 4294967296) * 4294967296 ^ (i + (k + 1)) = V + 4294967296 ^ i * x * val (r.take (k + 1)) := by
  have h1 := val_set_eq o' (i + k) (s % 4294967296) z hz
  rw [val_take_succ r k y hy, show i + (k + 1) = (i + k) + 1 from by omega, Nat.pow_succ]
  have e : s = 4294967296 * (s / 4294967296) + s % 4294967296 := (Nat.div_add_mod s 4294967296).symm
  have hp : (4294967296 : Nat) ^ (i + k) = 4294967296 ^ i * 4294967296 ^ k := Nat.pow_add _ _ _
  generalize s / 4294967296 = q at *
  generalize s % 4294967296 = m at *
  generalize val (o'.set (i + k) m) = A at *
  rw [hp] at h h1 ⊢
  clear hz hy hp
  generalize val (r.take k) = R at *
  generalize val o' = O at *
  generalize (4294967296 : Nat) ^ i = pi at *
  generalize (4294967296 : Nat) ^ k = pk at *
  grind
theorem mul_last {o' l r : List Nat} {i x cy V : Nat} (hz : o'[i + r.length]? = some 0) (hx : l[i]? = some x) (hcy : cy < 4294967296) (hV : V = val (l.take i) * val r)
    (h : val o' + cy * 4294967296 ^ (i + r.length) = V + 4294967296 ^ i * x * val (r.take r.length)) :
    val (o'.set (i + r.length) (cy % 4294967296)) = val (l.take (i + 1)) * val r := by
  have h1 := val_set_eq o' (i + r.length) (cy % 4294967296) 0 hz
  rw [Nat.mod_eq_of_lt hcy] at *
  rw [List.take_length] at h
  rw [val_take_succ l i x hx]
  clear hz hx
  generalize (4294967296 : Nat) ^ (i + r.length) = p at *
  generalize (4294967296 : Nat) ^ i = pi at *
  grind
end Orr
namespace Orr
theorem val_drop (l : List Nat) (k x : Nat) (hx : l[k]? = some x) : val (l.drop k) = x + 4294967296 * val (l.drop (k + 1)) := by
  obtain ⟨h, e⟩ := List.getElem?_eq_some_iff.1 hx
  rw [List.drop_eq_getElem_cons h, e]; rfl
theorem drop_set (o : List Nat) (i v k : Nat) (h : i < k) : (o.set i v).drop k = o.drop k := by
  apply List.ext_getElem?
  intro j
  rw [List.getElem?_drop, List.getElem?_drop, List.getElem?_set_ne (by omega)]
/-- one limb of a quotient by a limb -/
theorem one_step {l o : List Nat} {k x w r s : Nat} (hx : l[k]? = some x) (hxb : x < 4294967296) (ho : k < o.length) (hw : 0 < w) (hr : r < w)
    (h : val (l.drop (k + 1)) = w * val (o.drop (k + 1)) + r) (hs : s = r * 4294967296 + x) :
    s / w < 4294967296 ∧ s % w < w ∧ val (l.drop k) = w * val ((o.set k (s / w % 4294967296)).drop k) + s % w := by
  have h1 : s < w * 4294967296 := by
    have : (r + 1) * 4294967296 ≤ w * 4294967296 := Nat.mul_le_mul_right _ hr
    omega
  have h2 : s / w < 4294967296 := Nat.div_lt_of_lt_mul h1
  refine ⟨h2, Nat.mod_lt _ hw, ?_⟩
  rw [Nat.mod_eq_of_lt h2, val_drop l k x hx, val_drop (o.set k (s / w)) k (s / w) (List.getElem?_set_self ho), drop_set o k _ (k + 1) (by omega), h]
  have e := Nat.div_add_mod s w
  generalize s / w = q at *
  generalize s % w = m at *
  clear hx h
  grind
end Orr

namespace Orr
open Go

def Rel.intA : Rel Int := (Rel.bool.prod Rel.natA).view fun p z => z = if p.1 = true then -(p.2 : Int) else (p.2 : Int)
def Rel.intN : Rel Int := (Rel.bool.prod Rel.natN).view fun p z => p.2 = z.natAbs ∧ p.1 = decide (z < 0)
section
variable {w : World} {O : Nat → Prop} {cs : List Value} {z : Int}
theorem natA_shape {x : Nat} (h : Rel.natA.at_ w O cs x) : ∃ A n c, cs = [.slice A n c] := by
  obtain ⟨l, h1, _⟩ := h
  obtain ⟨A, c, e⟩ := row_shape h1
  exact ⟨A, l.length, c, e⟩
theorem natN_shape {x : Nat} (h : Rel.natN.at_ w O cs x) : ∃ A n c, cs = [.slice A n c] := natA_shape (natA_of_natN h)
theorem intA_shape (h : Rel.intA.at_ w O cs z) : ∃ b A n c, cs = [.bool b, .slice A n c] := by
  obtain ⟨p, ⟨c1, c2, rfl, h1, h2⟩, _⟩ := h
  obtain ⟨A, n, c, rfl⟩ := natA_shape h2
  have h1 : c1 = [.bool p.1] := h1
  subst h1
  exact ⟨_, A, n, c, rfl⟩
theorem intA_of_intN (h : Rel.intN.at_ w O cs z) : Rel.intA.at_ w O cs z := by
  obtain ⟨p, ⟨c1, c2, rfl, h1, h2⟩, h3, h4⟩ := h
  refine ⟨p, ⟨c1, c2, rfl, h1, natA_of_natN h2⟩, ?_⟩
  show z = if p.1 = true then -(p.2 : Int) else (p.2 : Int)
  rw [h4, h3]
  split <;> rename_i hc <;> simp at hc <;> omega
theorem intN_shape (h : Rel.intN.at_ w O cs z) : ∃ b A n c, cs = [.bool b, .slice A n c] := intA_shape (intA_of_intN h)
theorem intA_open {b : Bool} {A : Option Addr} {n c : Nat} (h : Rel.intA.at_ w O [.bool b, .slice A n c] z) : Rel.natA.at_ w O [.slice A n c] z.natAbs ∧ z = if b = true then -(z.natAbs : Int) else (z.natAbs : Int) := by
  obtain ⟨p, ⟨c1, c2, e, h1, h2⟩, hz⟩ := h
  have h1 : c1 = [.bool p.1] := h1
  subst h1
  simp only [List.cons_append, List.nil_append, List.cons.injEq, Value.bool.injEq] at e
  obtain ⟨e1, e2⟩ := e
  rw [e1, e2]
  have : z.natAbs = p.2 := by rw [hz]; split <;> omega
  rw [this]
  exact ⟨h2, hz⟩
theorem intN_open {b : Bool} {A : Option Addr} {n c : Nat} (h : Rel.intN.at_ w O [.bool b, .slice A n c] z) : Rel.natN.at_ w O [.slice A n c] z.natAbs ∧ b = decide (z < 0) := by
  obtain ⟨p, ⟨c1, c2, e, h1, h2⟩, h3, h4⟩ := h
  have h1 : c1 = [.bool p.1] := h1
  subst h1
  simp only [List.cons_append, List.nil_append, List.cons.injEq, Value.bool.injEq] at e
  obtain ⟨e1, e2⟩ := e
  rw [e1, e2, ← h3]
  exact ⟨h2, h4⟩
theorem intN_mk {b : Bool} {A : Option Addr} {n c : Nat} (h : Rel.natN.at_ w O [.slice A n c] z.natAbs) (hb : b = decide (z < 0)) : Rel.intN.at_ w O [.bool b, .slice A n c] z :=
  ⟨(b, z.natAbs), ⟨[.bool b], [.slice A n c], rfl, rfl, h⟩, rfl, hb⟩
theorem natN_nil : Rel.natN.at_ w O [.slice none 0 0] 0 :=
  ⟨[], ⟨none, 0, rfl, Nat.le_refl _, by decide, by decide, fun h => absurd h (by simp)⟩, ⟨by simp, fun h => absurd rfl h⟩, rfl⟩
theorem intN_zero : Rel.intN.at_ w O [.bool false, .slice none 0 0] 0 := intN_mk natN_nil rfl
/-- a normal row has no limbs just where it is 0 -/
theorem natN_len {A : Option Addr} {n c x : Nat} (h : Rel.natN.at_ w O [.slice A n c] x) : (n = 0 ↔ x = 0) ∧ 32 * n ≤ sz x + 31 := by
  obtain ⟨l, h1, h2, rfl⟩ := h
  obtain ⟨e, _, _⟩ := row_open h1
  subst e
  refine ⟨?_, nrm_len h2⟩
  rw [nrm_zero h2]
  exact List.length_eq_zero_iff
end
/-- a number by size and sign -/
def ofSign (b : Bool) (m : Nat) : Int := if b = true then -(m : Int) else (m : Int)
theorem ofSign_natAbs (b : Bool) (m : Nat) : (ofSign b m).natAbs = m := by unfold ofSign; split <;> omega
theorem ofSign_neg (b : Bool) (m : Nat) : decide (ofSign b m < 0) = (b && decide (0 < m)) := by
  unfold ofSign
  cases b <;> simp <;> omega
/-- how many binary digits -/
def isz (z : Int) : Nat := sz z.natAbs
theorem isz_mul (x y : Int) : isz (x * y) ≤ isz x + isz y := by unfold isz; rw [Int.natAbs_mul]; exact sz_mul _ _
theorem isz_add (x y : Int) : isz (x + y) ≤ max (isz x) (isz y) + 1 := by
  unfold isz
  exact Nat.le_trans (sz_mono (Int.natAbs_add_le x y)) (sz_add _ _)
theorem isz_neg (x : Int) : isz (-x) = isz x := by unfold isz; rw [Int.natAbs_neg]
theorem isz_sub (x y : Int) : isz (x - y) ≤ max (isz x) (isz y) + 1 := by
  rw [Int.sub_eq_add_neg]
  have := isz_add x (-y)
  rwa [isz_neg] at this
theorem isz_le {x : Int} {k : Nat} : isz x ≤ k ↔ x.natAbs < 2 ^ k := sz_le
theorem mul_ofSign {x y : Int} {b d : Bool} (hx : x = if b = true then -(x.natAbs : Int) else (x.natAbs : Int)) (hy : y = if d = true then -(y.natAbs : Int) else (y.natAbs : Int)) :
    x * y = ofSign (!(b == d)) (x.natAbs * y.natAbs) := by
  generalize x.natAbs = m at *
  generalize y.natAbs = k at *
  subst hx hy
  unfold ofSign
  cases b <;> cases d <;> simp [Int.neg_mul, Int.mul_neg]
end Orr

namespace Orr
open Go
variable {P : Program} {ops : Array Oper} {Q : Exit → Act → World → Prop}
variable {K Ob : Nat → Prop} {w0 w : World} {a : Act} {n : Nat} {L : List (Nat × Value)} {Fs : List Fact} {Bs : List Blk} {rest : List Oper}
variable {d : Nat} {ty : TypeId} {pos : String} {after : Array Edge}
theorem sz_shift {x k : Nat} (h : 2 ^ k ≤ x) : sz x = k + sz (x / 2 ^ k) := by
  have e : ∀ m, sz x ≤ m ↔ k + sz (x / 2 ^ k) ≤ m := by
    intro m
    by_cases hm : k ≤ m
    · obtain ⟨j, rfl⟩ := Nat.le.dest hm
      rw [Nat.add_le_add_iff_left, sz_le, sz_le, Nat.div_lt_iff_lt_mul (Nat.pow_pos (by decide)), ← Nat.pow_add, Nat.add_comm j k]
    · constructor
      · intro h1
        rw [sz_le] at h1
        have := Nat.pow_lt_pow_right (a := 2) (by decide) (Nat.lt_of_not_le hm)
        omega
      · intro h1
        omega
  exact Nat.le_antisymm ((e _).2 (Nat.le_refl _)) ((e _).1 (Nat.le_refl _))
theorem sz_val : ∀ {l : List Nat} {y : Nat}, Nrm l → l[l.length - 1]? = some y → sz (val l) = 32 * (l.length - 1) + sz y
  | [], y, _, h => by simp at h
  | [x], y, _, h => by
    simp at h
    subst h
    simp [val]
  | x :: z :: l, y, hn, h => by
    have h32 : (4294967296 : Nat) = 2 ^ 32 := by decide
    have hn' : Nrm (z :: l) := ⟨fun u hu => hn.1 u (List.mem_cons_of_mem _ hu), fun _ => by
      obtain ⟨u, hu, h0⟩ := hn.2 (by simp)
      exact ⟨u, by simpa using hu, h0⟩⟩
    have ih := sz_val hn' (y := y) (by simpa using h)
    have hx := hn.1 x (by simp)
    have hp : 0 < val (z :: l) := by
      rcases Nat.eq_zero_or_pos (val (z :: l)) with h0 | h0
      · exact absurd ((nrm_zero hn').1 h0) (by simp)
      · exact h0
    have e : val (x :: z :: l) = x + 4294967296 * val (z :: l) := rfl
    rw [sz_shift (k := 32) (by rw [e, ← h32]; omega), show val (x :: z :: l) / 2 ^ 32 = val (z :: l) from by rw [e, ← h32]; omega, ih]
    simp only [List.length_cons]
    omega
theorem st_byte {x y : Operand} {s : ByteArray} {i v : Nat} {t : TypeId} {kd : IntKind} (h : St K Ob w0 w a n L Fs Bs) (hx : ev L x = some (.string s)) (hy : ev L y = some (.int kd (i : Int)))
    (hu : ∀ w, (underlying t).run P w = .ok .string w) (hi : (s[i]?).map (·.toNat) = some v) (hd : Nat.blt d n = true)
    (k : ∀ a', St K Ob w0 w a' n ((d, .int .u8 (v : Int)) :: L) Fs Bs → wpList P ops Q rest a' w) :
    wpList P ops Q ({ dst := some d, op := .index t x y, type := ty, pos := pos, after := after, guard := none } :: rest) a w :=
  st_val h hd (by
    cases hs : s[i]? with
    | none => rw [hs] at hi; cases hi
    | some b =>
      rw [hs] at hi
      simp only [Option.map_some, Option.some.injEq] at hi
      subst hi
      simp [execOp, h.ev hx, h.ev hy, Instr.index, asIntOf, hu, hs]) k
theorem st_shrU {x y : Operand} {kd kd' : IntKind} {p m : Nat} {t t' : TypeId} (h : St K Ob w0 w a n L Fs Bs) (hx : ev L x = some (.int kd (p : Int))) (hy : ev L y = some (.int kd' (m : Int))) (hm : m ≤ kd.bits) (hd : Nat.blt d n = true)
    (k : ∀ a', St K Ob w0 w a' n ((d, .int kd ((p / 2 ^ m : Nat) : Int)) :: L) Fs Bs → wpList P ops Q rest a' w) :
    wpList P ops Q ({ dst := some d, op := .binOp .shr t x y t', type := ty, pos := pos, after := after, guard := none } :: rest) a w :=
  st_shr h hx hy hm hd fun a' h' => k a' (by simpa using h')
theorem st_to8 {x : Operand} {kd : IntKind} {p : Nat} {s t : TypeId} (h : St K Ob w0 w a n L Fs Bs) (hx : ev L x = some (.int kd (p : Int))) (hp : p < 256)
    (hus : ∀ w, (underlying s).run P w = .ok (.int kd) w) (hut : ∀ w, (underlying t).run P w = .ok (.int .u8) w) (hd : Nat.blt d n = true)
    (k : ∀ a', St K Ob w0 w a' n ((d, .int .u8 (p : Int)) :: L) Fs Bs → wpList P ops Q rest a' w) :
    wpList P ops Q ({ dst := some d, op := .convert s t x, type := ty, pos := pos, after := after, guard := none } :: rest) a w :=
  st_convert h hx hus hut hd fun a' h' => k a' (h'.respell (by
    have : IntKind.u8.wrap (p : Int) = (p : Int) := by
      simp [IntKind.wrap, IntKind.bits, IntKind.signed]
      omega
    rw [this]))
theorem add_ofSign {x y : Int} {b d : Bool} (hx : x = if b = true then -(x.natAbs : Int) else (x.natAbs : Int)) (hy : y = if d = true then -(y.natAbs : Int) else (y.natAbs : Int)) (h : (b == d) = true) :
    x + y = ofSign b (x.natAbs + y.natAbs) := by
  unfold ofSign
  cases b <;> cases d <;> simp at h hx hy ⊢ <;> omega
theorem sub_ofSign {x y : Int} {b d : Bool} (hx : x = if b = true then -(x.natAbs : Int) else (x.natAbs : Int)) (hy : y = if d = true then -(y.natAbs : Int) else (y.natAbs : Int)) (h : (b == d) = false) (hl : y.natAbs ≤ x.natAbs) :
    x + y = ofSign b (x.natAbs - y.natAbs) := by
  unfold ofSign
  cases b <;> cases d <;> simp at h hx hy ⊢ <;> omega
theorem sub_ofSign' {x y : Int} {b d : Bool} (hx : x = if b = true then -(x.natAbs : Int) else (x.natAbs : Int)) (hy : y = if d = true then -(y.natAbs : Int) else (y.natAbs : Int)) (h : (b == d) = false) (hl : x.natAbs < y.natAbs) :
    x + y = ofSign d (y.natAbs - x.natAbs) := by
  unfold ofSign
  cases b <;> cases d <;> simp at h hx hy ⊢ <;> omega
/-- which one is greater -/
def cmpZ (x y : Int) : Int := if x < y then -1 else if y < x then 1 else 0
theorem intA_mk {w : World} {O : Nat → Prop} {b : Bool} {A : Option Addr} {n c : Nat} {z : Int} {x : Nat} (h : Rel.natA.at_ w O [.slice A n c] x) (hz : z = ofSign b x) : Rel.intA.at_ w O [.bool b, .slice A n c] z :=
  ⟨(b, x), ⟨[.bool b], [.slice A n c], rfl, rfl, h⟩, hz⟩
theorem flip_ofSign {b : Bool} {z : Int} (hz : z = if b = true then -(z.natAbs : Int) else (z.natAbs : Int)) : -z = ofSign (!b) z.natAbs := by
  unfold ofSign
  cases b <;> simp at hz ⊢ <;> omega
end Orr
namespace Orr
theorem sz_eq_zero {x : Nat} : sz x = 0 ↔ x = 0 := by
  constructor
  · intro h
    have := lt_sz x
    rw [h] at this
    simpa using this
  · rintro rfl; rfl
theorem sign_sz (z : Int) : Int.sign z = if sz z.natAbs = 0 then 0 else if z < 0 then -1 else 1 := by
  rcases Int.lt_trichotomy z 0 with h | h | h
  · rw [Int.sign_eq_neg_one_of_neg h, if_neg (by rw [sz_eq_zero]; omega), if_pos h]
  · subst h; rfl
  · rw [Int.sign_eq_one_of_pos h, if_neg (by rw [sz_eq_zero]; omega), if_neg (by omega)]
theorem sign_cases (z : Int) : (z < 0 ∧ Int.sign z = -1) ∨ (z = 0 ∧ Int.sign z = 0) ∨ (0 < z ∧ Int.sign z = 1) := by
  rcases Int.lt_trichotomy z 0 with h | h | h
  · exact .inl ⟨h, Int.sign_eq_neg_one_of_neg h⟩
  · subst h; exact .inr (.inl ⟨rfl, rfl⟩)
  · exact .inr (.inr ⟨h, Int.sign_eq_one_of_pos h⟩)
end Orr
namespace Orr
open Go
variable {P : Program} {ops : Array Oper} {Q : Exit → Act → World → Prop}
variable {K Ob : Nat → Prop} {w0 w : World} {a : Act} {n : Nat} {L : List (Nat × Value)} {Fs : List Fact} {Bs : List Blk} {rest : List Oper}
variable {d : Nat} {ty : TypeId} {pos : String} {after : Array Edge}
theorem st_min {x y : Operand} {kd : IntKind} {p q r : Int} {ats : Array TypeId} (h : St K Ob w0 w a n L Fs Bs) (hx : ev L x = some (.int kd p)) (hy : ev L y = some (.int kd q)) (hr : (if q < p then q else p) = r) (hd : Nat.blt d n = true)
    (k : ∀ a', St K Ob w0 w a' n ((d, .int kd r) :: L) Fs Bs → wpList P ops Q rest a' w) :
    wpList P ops Q ({ dst := some d, op := .call { callee := .builtin .min, args := #[x, y], argTypes := ats }, type := ty, pos := pos, after := after, guard := none } :: rest) a w :=
  st_val h hd (by subst hr; simp [execOp, resolve, invoke, h.ev hx, h.ev hy, builtin, Builtin.min_, Builtin.min2]) k
theorem st_max {x y : Operand} {kd : IntKind} {p q r : Int} {ats : Array TypeId} (h : St K Ob w0 w a n L Fs Bs) (hx : ev L x = some (.int kd p)) (hy : ev L y = some (.int kd q)) (hr : (if q > p then q else p) = r) (hd : Nat.blt d n = true)
    (k : ∀ a', St K Ob w0 w a' n ((d, .int kd r) :: L) Fs Bs → wpList P ops Q rest a' w) :
    wpList P ops Q ({ dst := some d, op := .call { callee := .builtin .max, args := #[x, y], argTypes := ats }, type := ty, pos := pos, after := after, guard := none } :: rest) a w :=
  st_val h hd (by subst hr; simp [execOp, resolve, invoke, h.ev hx, h.ev hy, builtin, Builtin.max_, Builtin.max2]) k
/-- the first cells of a row, into an own block -/
theorem st_copy {x y : Operand} {g o m c m' k' sz T T' E : Nat} {v : Value} {cs zs : List Value} {ats : Array TypeId} (h : St K Ob w0 w a n L Fs Bs) (i : Nat) (hi : Bs[i]? = some (g, T', cs)) (hx : ev L x = some (.slice (some ⟨g, o, none⟩) m c)) (hy : ev L y = some v)
    (hu : ∀ w, (underlying T).run P w = .ok (.slice E) w) (hs : ∀ w, (Go.sizeOf E).run P w = .ok sz w) (hat : ats[0]? = some T) (hlen : ∀ w, (Builtin.lenOf v).run P w = .ok k' w) (hm' : Nat.min k' m = m')
    (hsrc : Src w v sz m' zs) (hl : o + zs.length ≤ cs.length) (h1 : ∀ u ∈ zs, one u = true) (hd : Nat.blt d n = true)
    (k : ∀ w' a', St K Ob w0 w' a' n ((d, .int .i64 (m' : Int)) :: L) Fs (Bs.set i (g, T', upd cs o zs)) → wpList P ops Q rest a' w') :
    wpList P ops Q ({ dst := some d, op := .call { callee := .builtin .copy, args := #[x, y], argTypes := ats }, type := ty, pos := pos, after := after, guard := none } :: rest) a w := by
  obtain ⟨w', hr, hw⟩ := St.storeCells (P := P) zs cs o 0 w Bs i h hi (by omega) h1
  refine step_value (w' := w') (v := .int .i64 (m' : Int)) rfl ?_ (k _ _ (hw.put _ hd))
  have hf := run_firstCells (P := P) hsrc
  simp only [execOp, resolve, invoke, builtin, Builtin.copy_, Sem.run_bind, Sem.run_pure, Result.andThen_ok]
  simp [h.ev hx, h.ev hy, hat, hu, hs, hlen, hm', hf, hr, goInt, Sem.run_bind]
end Orr
namespace Orr
theorem euclid {a b q r : Int} (hb : 0 < b) (h : r + b * q = a) (h0 : 0 ≤ r) (h1 : r < b) : a / b = q ∧ a % b = r := (Int.ediv_emod_unique hb).2 ⟨h, h0, h1⟩
theorem euclid' {a b q r : Int} (hb : b ≠ 0) (h : r + b * q = a) (h0 : 0 ≤ r) (h1 : r < b.natAbs) : a / b = q ∧ a % b = r := by
  rcases Int.lt_or_gt_of_ne hb with h' | h'
  · have := euclid (a := a) (b := -b) (q := -q) (r := r) (by omega) (by rw [Int.neg_mul_neg]; exact h) h0 (by omega)
    rw [Int.ediv_neg, Int.emod_neg] at this
    exact ⟨by omega, this.2⟩
  · exact euclid h' h h0 (by omega)
section
variable {x y : Int} {d : Bool} (hy : y = if d = true then -(y.natAbs : Int) else (y.natAbs : Int)) (hp : 0 < y.natAbs)
include hy hp
theorem div_pos_ofSign (hx : x = if false = true then -(x.natAbs : Int) else (x.natAbs : Int)) :
    x / y = ofSign (!(false == d)) (x.natAbs / y.natAbs) ∧ x % y = ofSign false (x.natAbs % y.natAbs) := by
  have e := Nat.div_add_mod x.natAbs y.natAbs
  have hl := Nat.mod_lt x.natAbs hp
  refine euclid' (by omega) ?_ ?_ ?_
  · generalize x.natAbs / y.natAbs = q at *
    generalize x.natAbs % y.natAbs = r at *
    generalize y.natAbs = n at *
    generalize x.natAbs = m at *
    subst hx hy e
    unfold ofSign
    cases d <;> simp [Int.neg_mul, Int.mul_neg] <;> omega
  · unfold ofSign; simp only [Bool.false_eq_true, if_false]; exact Int.natCast_nonneg _
  · unfold ofSign; simp; omega
theorem div_zero_ofSign (hx : x = if true = true then -(x.natAbs : Int) else (x.natAbs : Int)) (h0 : x.natAbs % y.natAbs = 0) :
    x / y = ofSign (!(true == d)) (x.natAbs / y.natAbs) ∧ x % y = ofSign false (x.natAbs % y.natAbs) := by
  have e := Nat.div_add_mod x.natAbs y.natAbs
  refine euclid' (by omega) ?_ ?_ ?_
  · rw [h0] at e ⊢
    generalize x.natAbs / y.natAbs = q at *
    generalize y.natAbs = n at *
    generalize x.natAbs = m at *
    subst hx hy e
    unfold ofSign
    cases d <;> simp [Int.neg_mul, Int.mul_neg]
  · unfold ofSign; simp only [Bool.false_eq_true, if_false]; exact Int.natCast_nonneg _
  · unfold ofSign; simp; omega
theorem div_neg_ofSign (hx : x = if true = true then -(x.natAbs : Int) else (x.natAbs : Int)) (h0 : 0 < x.natAbs % y.natAbs) :
    x / y = ofSign (!(true == d)) (x.natAbs / y.natAbs + 1) ∧ x % y = ofSign false (y.natAbs - x.natAbs % y.natAbs) := by
  have e := Nat.div_add_mod x.natAbs y.natAbs
  have hl := Nat.mod_lt x.natAbs hp
  refine euclid' (by omega) ?_ ?_ ?_
  · generalize x.natAbs / y.natAbs = q at *
    generalize x.natAbs % y.natAbs = r at *
    generalize y.natAbs = n at *
    generalize x.natAbs = m at *
    subst hx hy e
    unfold ofSign
    have e2 : ((n - r : Nat) : Int) = (n : Int) - (r : Int) := by omega
    cases d <;> simp [Int.neg_mul, Int.mul_neg, Int.mul_add, e2] <;> omega
  · unfold ofSign; simp only [Bool.false_eq_true, if_false]; exact Int.natCast_nonneg _
  · unfold ofSign; simp; omega
end
end Orr

namespace Orr
open Go
variable {P : Program} {ops : Array Oper} {Q : Exit → Act → World → Prop}
variable {K Ob : Nat → Prop} {w0 w : World} {a : Act} {n : Nat} {L : List (Nat × Value)} {Fs : List Fact} {Bs : List Blk} {rest : List Oper}
variable {d : Nat} {ty : TypeId} {pos : String} {after : Array Edge}
theorem St.adopt (h : St K Ob w0 w a n L Fs Bs) {w' : World} (hg : Grow w w') {g E : Nat} {cs : List Value} (h1 : w.heap.size ≤ g) (h2 : w'.heap[g]? = some (.cells cs.toArray E (0, 0))) :
    St K Ob w0 w' a n L Fs ((g, E, cs) :: Bs) := by
  have hgs : g < w'.heap.size := (Array.getElem?_eq_some_iff.1 h2).1
  have h' := h.grown hg
  refine { h' with own := fun g' T' cs' hm => ?_, nodup := ?_, facts := fun f hf => ?_, ownO := fun b hb => ?_ }
  · rcases List.mem_cons.1 hm with e | hm
    · injection e with e1 e2
      injection e2 with e2 e3
      subst e1 e2 e3
      refine ⟨fun hk => ?_, hgs, h2⟩
      have := h.base _ hk
      have := h.wsize
      omega
    · exact h'.own g' T' cs' hm
  · refine List.nodup_cons.2 ⟨fun hm => ?_, h.nodup⟩
    obtain ⟨⟨g', T', cs'⟩, hm', e⟩ := List.mem_map.1 hm
    have e : g' = g := e
    have := (h.own _ _ _ hm').2.1
    omega
  · refine f.keep ⟨hg.1, fun b hb _ => hg.2 b hb, fun b hb ho => ?_⟩ (h.facts f hf)
    rcases ho with ho | ho
    · exact .inl ho
    · rcases List.mem_cons.1 ho with e | ho
      · have e : b = g := e
        omega
      · exact .inr ho
  · rcases List.mem_cons.1 hb with e | hb
    · have e : b = g := e
      intro hO
      have := h.obase _ hO
      have := h.wsize
      omega
    · exact h.ownO b hb
/-- a call that hands over a fresh row -/
theorem st_callNew {f : FuncId} {fn : Func} {xs : List Operand} {vs : List Value} {ats : Array TypeId} {E : Nat} {Φ : Value → Nat → List Value → Prop} (h : St K Ob w0 w a n L Fs Bs)
    (hf : P.funcs[f]? = some fn) (hn : (fn.name == "runtime.NumGoroutine") = false) (hb : fn.body.isNone = false) (hx : evl L xs = some vs)
    (hc : Calls P f vs.toArray w fun e w' => ∃ r, e = .returned r ∧ Grow w w' ∧ ∃ g cs, w.heap.size ≤ g ∧ w'.heap[g]? = some (.cells cs.toArray E (0, 0)) ∧ Φ r g cs) (hd : Nat.blt d n = true)
    (k : ∀ r g cs w' a', Φ r g cs → St K Ob w0 w' a' n ((d, r) :: L) Fs ((g, E, cs) :: Bs) → wpList P ops Q rest a' w') :
    wpList P ops Q ({ dst := some d, op := .call { callee := .value (.func f), args := xs.toArray, argTypes := ats }, type := ty, pos := pos, after := after, guard := none } :: rest) a w := by
  refine wpList_plain rfl fun K' hK => ?_
  unfold Oper.wp
  have e : (execOp a.eval { dst := some d, op := .call { callee := .value (.func f), args := xs.toArray, argTypes := ats }, type := ty, pos := pos, after := after, guard := none }).run P w = .ok (.enter f vs.toArray) w := by
    have hxs := h.evl hx
    have he : a.eval (.func f) = .func (.func f) #[] #[] := rfl
    simp only [execOp, resolve, he, Deferred.ofValue, hxs, Sem.run_bind, Sem.run_pure, Result.andThen_ok, invoke]
    rw [show (#[] : Array Value) ++ vs.toArray ++ #[] = vs.toArray from by simp]
    exact run_callFunc w hf hn hb
  rw [e]
  simp only [Oper.upon]
  refine hc.mono fun e' w' hr => ?_
  obtain ⟨r, rfl, hg, g, cs, h1, h2, hΦ⟩ := hr
  exact hK _ _ (k r g cs w' _ hΦ ((h.adopt hg h1 h2).put r hd))
/-- all that a call may do that writes into one block of its caller -/
def Wrote (w w' : World) (g E : Nat) (cs : List Value) : Prop := w.heap.size ≤ w'.heap.size ∧ (∀ b, b < w.heap.size → b ≠ g → w'.heap[b]? = w.heap[b]?) ∧ w'.heap[g]? = some (.cells cs.toArray E (0, 0)) ∧ (w'.os = w.os ∧ w'.output = w.output)
theorem St.wrote {g E : Nat} {cs cs' : List Value} (h : St K Ob w0 w a n L Fs ((g, E, cs) :: Bs)) {w' : World} (hw : Wrote w w' g E cs') : St K Ob w0 w' a n L Fs ((g, E, cs') :: Bs) := by
  obtain ⟨h1, h2, h3, hio⟩ := hw
  have hg := h.own g E cs (List.mem_cons_self ..)
  refine { h with io := ⟨hio.1.trans h.io.1, hio.2.trans h.io.2⟩, wsize := Nat.le_trans h.wsize h1, grow := fun b hb => ?_, own := fun g' T' cs'' hm => ?_, facts := fun f hf => ?_ , nodup := h.nodup, ownO := h.ownO }
  · have hb0 := h.base b hb
    have := h.wsize
    rw [h2 b (by omega) (fun e => hg.1 (e ▸ hb))]
    exact h.grow b hb
  · rcases List.mem_cons.1 hm with e | hm
    · injection e with e1 e2
      injection e2 with e2 e3
      subst e1 e2 e3
      exact ⟨hg.1, Nat.lt_of_lt_of_le hg.2.1 h1, h3⟩
    · obtain ⟨q1, q2, q3⟩ := h.own g' T' cs'' (List.mem_cons_of_mem _ hm)
      have hne : g' ≠ g := fun e => by
        have := (List.nodup_cons.1 h.nodup).1
        exact this (List.mem_map.2 ⟨_, hm, e⟩)
      exact ⟨q1, Nat.lt_of_lt_of_le q2 h1, (h2 g' q2 hne).trans q3⟩
  · refine f.keep ⟨h1, fun b hb ho => h2 b hb (fun e => ho (.inr ?_)), fun b _ ho => ho⟩ (h.facts f hf)
    exact List.mem_cons.2 (.inl e)
theorem st_callOwn {f : FuncId} {fn : Func} {xs : List Operand} {vs : List Value} {ats : Array TypeId} {g E : Nat} {cs : List Value} {Φ : Value → List Value → Prop} (h : St K Ob w0 w a n L Fs ((g, E, cs) :: Bs))
    (hf : P.funcs[f]? = some fn) (hn : (fn.name == "runtime.NumGoroutine") = false) (hb : fn.body.isNone = false) (hx : evl L xs = some vs)
    (hc : Calls P f vs.toArray w fun e w' => ∃ r, e = .returned r ∧ ∃ cs', Wrote w w' g E cs' ∧ Φ r cs') (hd : Nat.blt d n = true)
    (k : ∀ r cs' w' a', Φ r cs' → St K Ob w0 w' a' n ((d, r) :: L) Fs ((g, E, cs') :: Bs) → wpList P ops Q rest a' w') :
    wpList P ops Q ({ dst := some d, op := .call { callee := .value (.func f), args := xs.toArray, argTypes := ats }, type := ty, pos := pos, after := after, guard := none } :: rest) a w := by
  refine wpList_plain rfl fun K' hK => ?_
  unfold Oper.wp
  have e : (execOp a.eval { dst := some d, op := .call { callee := .value (.func f), args := xs.toArray, argTypes := ats }, type := ty, pos := pos, after := after, guard := none }).run P w = .ok (.enter f vs.toArray) w := by
    have hxs := h.evl hx
    have he : a.eval (.func f) = .func (.func f) #[] #[] := rfl
    simp only [execOp, resolve, he, Deferred.ofValue, hxs, Sem.run_bind, Sem.run_pure, Result.andThen_ok, invoke]
    rw [show (#[] : Array Value) ++ vs.toArray ++ #[] = vs.toArray from by simp]
    exact run_callFunc w hf hn hb
  rw [e]
  simp only [Oper.upon]
  refine hc.mono fun e' w' hr => ?_
  obtain ⟨r, rfl, cs', hw, hΦ⟩ := hr
  exact hK _ _ (k r cs' w' _ hΦ ((h.wrote hw).put r hd))
/-- the start of a call that writes into a block of its caller -/
theorem enterOwn {f : FuncId} {fn : Func} {c : Code} {vs : List Value} {R : Ending → World → Prop} {g E : Nat} {cs : List Value} (hf : P.funcs[f]? = some fn) (hb : fn.body = some c) (hn : fn.ntmps = n) (hl : Nat.ble vs.length n = true)
    (hO : ∀ b, Ob b → b < w.heap.size) (hg : w.heap[g]? = some (.cells cs.toArray E (0, 0))) (hgO : ¬ Ob g) (hfs : ∀ f ∈ Fs, f.holds w (owns Ob [(g, E, cs)]))
    (k : ∀ a, St (fun b => b < w.heap.size ∧ b ≠ g) Ob w w a n (argsL 0 vs) Fs [(g, E, cs)] → c.wp P (bodyPost P fn R) a w) : Calls P f vs.toArray w R := by
  have hl' := Nat.le_of_ble_eq_true hl
  refine calls_of_wp hf hb (k _ ?_)
  refine ⟨by simp [hn]; omega, rfl, fun t v hv => ?_, Nat.le_refl _, fun _ _ => rfl, fun g' T' cs' hm => ?_, by simp, hfs, fun b hb => hb.1, hO, fun b hb => ?_, rfl, rfl⟩
  · obtain ⟨_, h2⟩ := look_argsL 0 vs t v hv
    have ht : t < vs.length := by
      have := (List.getElem?_eq_some_iff.1 h2).1; simpa using this
    simp only [Nat.sub_zero] at h2
    rw [Array.getElem?_append_left (by simpa using ht)]
    simpa using h2
  · rw [List.mem_singleton] at hm
    injection hm with e1 e2
    injection e2 with e2 e3
    subst e1 e2 e3
    exact ⟨fun h => h.2 rfl, (Array.getElem?_eq_some_iff.1 hg).1, hg⟩
  · have e : b = g := by simpa using hb
    subst e; exact hgO
/-- what was written -/
theorem St.wroteOut {W : World} {g E : Nat} {cs : List Value} (h : St (fun b => b < W.heap.size ∧ b ≠ g) Ob W w a n L Fs ((g, E, cs) :: Bs)) : Wrote W w g E cs :=
  ⟨h.wsize, fun b hb hn => h.grow b ⟨hb, hn⟩, (h.own g E cs (List.mem_cons_self ..)).2.2, h.io⟩
theorem St.factOwn {B : Blk} {f : Fact} (h : St K Ob w0 w a n L Fs (B :: Bs)) (k : Nat) (hk : Fs[k]? = some f) : f.holds w (owns (owns Ob Bs) [B]) := by
  refine f.keep ⟨Nat.le_refl _, fun _ _ _ => rfl, fun b _ ho => ?_⟩ (h.facts f (List.mem_of_getElem? hk))
  rcases ho with (ho | ho) | ho
  · exact .inl ho
  · exact .inr (List.mem_cons_of_mem _ ho)
  · have e : b = B.1 := by simpa using ho
    exact .inr (e ▸ List.mem_cons_self ..)
theorem St.ownNot {B : Blk} (h : St K Ob w0 w a n L Fs (B :: Bs)) : ¬ owns Ob Bs B.1 := by
  rintro (ho | ho)
  · exact h.ownO B.1 (List.mem_cons_self ..) ho
  · exact (List.nodup_cons.1 h.nodup).1 ho
theorem St.own0 {g E : Nat} {cs : List Value} (h : St K Ob w0 w a n L Fs ((g, E, cs) :: Bs)) : w.heap[g]? = some (.cells cs.toArray E (0, 0)) := (h.own g E cs (List.mem_cons_self ..)).2.2
theorem St.owns_lt0 {B : Blk} (h : St K Ob w0 w a n L Fs (B :: Bs)) : ∀ b, owns Ob Bs b → b < w.heap.size := fun b hb => h.owns_lt (Bs := B :: Bs) (hb.imp id (List.mem_cons_of_mem _))

theorem u32s_append (x y : List Nat) : u32s (x ++ y) = u32s x ++ u32s y := by simp [u32s]
/-- a window within an own row -/
theorem st_storeW {T : TypeId} {x y : Operand} {g i v E : Nat} {pre o post : List Nat} (h : St K Ob w0 w a n L Fs ((g, E, u32s (pre ++ o ++ post)) :: Bs)) (hx : ev L x = some (.pointer (some ⟨g, pre.length + i * 1, none⟩)))
    (hy : ev L y = some (.int .u32 (v : Int))) (hs : ∀ w, (Go.sizeOf T).run P w = .ok 1 w) (hi : i < o.length)
    (k : ∀ w', St K Ob w0 w' a n L Fs ((g, E, u32s (pre ++ o.set i v ++ post)) :: Bs) → wpList P ops Q rest a w') :
    wpList P ops Q ({ dst := none, op := .store T x y, type := ty, pos := pos, after := after, guard := none } :: rest) a w := by
  have hx' : ev L x = some (.pointer (some ⟨g, 0 + (pre.length + i) * 1, none⟩)) := by rw [hx]; simp
  refine st_storeU h hx' hy hs (by simp; omega) fun w' h' => k w' ?_
  have e : (pre ++ o ++ post).set (pre.length + i) v = pre ++ o.set i v ++ post := by
    rw [List.append_assoc, List.set_append_right _ _ (by omega), Nat.add_sub_cancel_left, List.set_append_left _ _ hi, List.append_assoc]
  rw [e] at h'
  exact h'
theorem St.cellW {g E i x : Nat} {pre o post : List Nat} (h : St K Ob w0 w a n L Fs ((g, E, u32s (pre ++ o ++ post)) :: Bs)) (hx : o[i]? = some x) : w.cell? ⟨g, pre.length + i * 1, none⟩ = some (.int .u32 (x : Int)) := by
  have hi := (List.getElem?_eq_some_iff.1 hx).1
  have h2 : (pre ++ o ++ post)[pre.length + i]? = some x := by
    rw [List.append_assoc, List.getElem?_append_right (by omega), Nat.add_sub_cancel_left, List.getElem?_append_left hi]
    exact hx
  have := h.u32s_cell h2
  rwa [show 0 + (pre.length + i) * 1 = pre.length + i * 1 from by omega] at this
end Orr
namespace Orr
open Go
variable {P : Program} {ops : Array Oper} {Q : Exit → Act → World → Prop}
variable {K Ob : Nat → Prop} {w0 w : World} {a : Act} {n : Nat} {L : List (Nat × Value)} {Fs : List Fact} {Bs : List Blk} {rest : List Oper}
variable {d : Nat} {ty : TypeId} {pos : String} {after : Array Edge}
theorem st_or32 {x y : Operand} {s k' p q : Nat} {t t' : TypeId} (h : St K Ob w0 w a n L Fs Bs) (hx : ev L x = some (.int .u32 (p : Int))) (hy : ev L y = some (.int .u32 (q : Int))) (hk : q = 2 ^ s * k') (hp : p < 2 ^ s) (hp2 : p < 4294967296) (hq : q < 4294967296) (hpq : p + q < 4294967296) (hd : Nat.blt d n = true)
    (k : ∀ a', St K Ob w0 w a' n ((d, .int .u32 ((p + q : Nat) : Int)) :: L) Fs Bs → wpList P ops Q rest a' w) :
    wpList P ops Q ({ dst := some d, op := .binOp .or t x y t', type := ty, pos := pos, after := after, guard := none } :: rest) a w :=
  st_val h hd (by
    have e1 : (BitVec.ofInt 32 (p : Int)).toNat = p := by rw [BitVec.toNat_ofInt]; omega
    have e2 : (BitVec.ofInt 32 (q : Int)).toNat = q := by rw [BitVec.toNat_ofInt]; omega
    have e3 : IntKind.u32.wrap ((BitVec.ofInt 32 (p : Int) ||| BitVec.ofInt 32 (q : Int)).toNat : Int) = ((p + q : Nat) : Int) := by
      rw [BitVec.toNat_or, e1, e2, hk, Nat.or_comm, ← Nat.two_pow_add_eq_or_of_lt hp k', ← hk, wrapu32_of]
      congr 1; omega
    simp only [execOp, h.ev hx, h.ev hy, eqGuard, Go.binOp, Op.intBits, Sem.run_bind, Sem.run_pure, Result.andThen_ok, ne_eq, not_true_eq_false, if_false]
    simp [Op.intBits]
    exact e3) k
theorem st_cutLH {T E : TypeId} {x y z : Operand} {b o m c l r sz : Nat} {kd kd' : IntKind} (h : St K Ob w0 w a n L Fs Bs) (hx : ev L x = some (.slice (some ⟨b, o, none⟩) m c)) (hy : ev L y = some (.int kd (l : Int))) (hz : ev L z = some (.int kd' (r : Int)))
    (hu : ∀ w, (underlying T).run P w = .ok (.slice E) w) (hs : ∀ w, (Go.sizeOf E).run P w = .ok sz w) (hlr : l ≤ r) (hrc : r ≤ c) (hlc : l < c) (hd : Nat.blt d n = true)
    (k : ∀ a', St K Ob w0 w a' n ((d, .slice (some ⟨b, o + l * sz, none⟩) (r - l) (c - l)) :: L) Fs Bs → wpList P ops Q rest a' w) :
    wpList P ops Q ({ dst := some d, op := .slice T x (some y) (some z) none, type := ty, pos := pos, after := after, guard := none } :: rest) a w :=
  st_val h hd (by
    have hne : ¬ (c = l) := by omega
    simp [execOp, h.ev hx, h.ev hy, h.ev hz, Instr.sliceAt, Instr.slice, Instr.sliceBounds, hu, hs, run_sliceBound _ hrc, run_sliceBound _ hlr, hne, add_spot]) k
theorem quo32 {s : Nat} (h : s ≤ 31) : IntKind.i64.wrap (((s : Nat) : Int).tdiv 32) = 0 := by
  rw [Int.tdiv_eq_zero_of_lt (by omega) (by omega)]; rfl
theorem rem32 {s : Nat} (h : s ≤ 31) : ((s : Nat) : Int).tmod 32 = (s : Int) := Int.tmod_eq_of_lt (by omega) (by omega)
/-- shifting left: one limb more -/
theorem shl_step {o l : List Nat} {i s x z : Nat} (hs : s ≤ 31) (hx : l[i]? = some x) (hxb : x < 4294967296) (hz : o[i]? = some z) (hzs : z < 2 ^ s) (hi1 : i + 1 < o.length) (h : val (o.take (i + 1)) = val (l.take i) * 2 ^ s) :
    z + x * 2 ^ s % 4294967296 < 4294967296 ∧ x * 2 ^ s / 2 ^ 32 < 2 ^ s ∧
    val (((o.set i (z + x * 2 ^ s % 4294967296)).set (i + 1) (x * 2 ^ s / 2 ^ 32 % 4294967296)).take (i + 2)) = val (l.take (i + 1)) * 2 ^ s ∧ x * 2 ^ s % 4294967296 = 2 ^ s * (x % 2 ^ (32 - s)) := by
  have e32 : (2 : Nat) ^ 32 = 4294967296 := by decide
  have ep : (4294967296 : Nat) = 2 ^ s * 2 ^ (32 - s) := by rw [← Nat.pow_add, ← e32]; congr 1; omega
  have hpos : 0 < 2 ^ s := Nat.pow_pos (by decide)
  have e1 : x * 2 ^ s % 4294967296 = 2 ^ s * (x % 2 ^ (32 - s)) := by rw [Nat.mul_comm x, ep, Nat.mul_mod_mul_left]
  have hq : x * 2 ^ s / 2 ^ 32 < 2 ^ s := by
    rw [Nat.div_lt_iff_lt_mul (Nat.pow_pos (by decide)), e32, Nat.mul_comm (2 ^ s)]
    exact Nat.mul_lt_mul_of_pos_right hxb hpos
  have hm : x % 2 ^ (32 - s) < 2 ^ (32 - s) := Nat.mod_lt _ (Nat.pow_pos (by decide))
  have hlow : z + x * 2 ^ s % 4294967296 < 4294967296 := by
    rw [e1]
    have : 2 ^ s * (x % 2 ^ (32 - s) + 1) ≤ 2 ^ s * 2 ^ (32 - s) := Nat.mul_le_mul_left _ hm
    rw [← ep, Nat.mul_add, Nat.mul_one] at this
    omega
  have hs31 : 2 ^ s ≤ 4294967296 := by rw [← e32]; exact Nat.pow_le_pow_right (by decide) (by omega)
  refine ⟨hlow, hq, ?_, e1⟩
  have t1 := val_take_succ o i z hz
  rw [val_set _ (i + 1) _ (by simpa using hi1), val_set o i _ (by omega), val_take_succ l i x hx, Nat.mod_eq_of_lt (Nat.lt_of_lt_of_le hq hs31), Nat.pow_succ]
  have e3 := Nat.div_add_mod (x * 2 ^ s) 4294967296
  rw [e32]
  rw [t1] at h
  generalize x * 2 ^ s / 4294967296 = qh at *
  generalize x * 2 ^ s % 4294967296 = ql at *
  generalize (4294967296 : Nat) ^ i = P' at *
  generalize 2 ^ s = S at *
  clear ep e1 hq hm hlow hs31 t1 hx hz hzs e32 hpos hxb
  have e4 : P' * (4294967296 * qh + ql) = P' * (x * S) := by rw [e3]
  have e5 : (val (l.take i) + P' * x) * S = val (l.take i) * S + P' * (x * S) := by grind
  rw [e5, ← h, ← e4]
  grind
/-- shifting right: one limb more -/
theorem shr_step {o l : List Nat} {i s x y : Nat} (hs : s ≤ 31) (hx : l[i]? = some x) (hy : l[i + 1]? = some y ∨ (l.length ≤ i + 1 ∧ y = 0)) (ho : i < o.length) (hb : ∀ u ∈ l, u < 4294967296) (h : val (o.take i) = val l / 2 ^ s % 4294967296 ^ i) :
    val ((o.set i ((x + y * 2 ^ 32) / 2 ^ s % 4294967296)).take (i + 1)) = val l / 2 ^ s % 4294967296 ^ (i + 1) := by
  rw [val_set o i _ ho, h, Nat.mod_pow_succ]
  congr 1
  congr 1
  have e32 : (2 : Nat) ^ 32 = 4294967296 := by decide
  have ep : (4294967296 : Nat) = 2 ^ s * 2 ^ (32 - s) := by rw [← Nat.pow_add, ← e32]; congr 1; omega
  have hsp := val_split l i x hx
  obtain ⟨R, hR⟩ : ∃ R, val (l.drop (i + 1)) = y + 4294967296 * R := by
    rcases hy with hy | ⟨h1, rfl⟩
    · exact ⟨_, val_drop l (i + 1) y hy⟩
    · exact ⟨0, by rw [List.drop_eq_nil_of_le h1]; rfl⟩
  have ht : val (l.take i) < 4294967296 ^ i := by
    have := val_lt (l.take i) (fun u hu => hb u (List.mem_of_mem_take hu))
    have hi := (List.getElem?_eq_some_iff.1 hx).1
    rwa [List.length_take, Nat.min_eq_left (by omega)] at this
  have e1 : val l / 2 ^ s / 4294967296 ^ i = (x + 4294967296 * (y + 4294967296 * R)) / 2 ^ s := by
    rw [Nat.div_div_eq_div_mul, Nat.mul_comm, ← Nat.div_div_eq_div_mul, hsp, hR, Nat.add_mul_div_left _ _ (Nat.pow_pos (by decide)), Nat.div_eq_of_lt ht, Nat.zero_add]
  rw [e1]
  have e2 : x + 4294967296 * (y + 4294967296 * R) = (x + y * 2 ^ 32) + 2 ^ s * (4294967296 * (2 ^ (32 - s) * R)) := by
    have : 2 ^ s * (4294967296 * (2 ^ (32 - s) * R)) = (2 ^ s * 2 ^ (32 - s)) * (4294967296 * R) := by grind
    rw [this, ← ep, e32]
    grind
  rw [e2, Nat.add_mul_div_left _ _ (Nat.pow_pos (by decide)), Nat.add_mul_mod_self_left]
end Orr
namespace Orr
theorem shl_lt {x s : Nat} (hs : s ≤ 31) (hx : x < 4294967296) : x * 2 ^ s < 18446744073709551616 := by
  have h1 : 2 ^ s ≤ 2 ^ 31 := Nat.pow_le_pow_right (by decide) hs
  have h2 : x * 2 ^ s ≤ 4294967295 * 2 ^ 31 := Nat.mul_le_mul (by omega) h1
  have h3 : 4294967295 * 2 ^ 31 < 18446744073709551616 := by decide
  omega
end Orr
namespace Orr
open Go
variable {P : Program} {ops : Array Oper} {Q : Exit → Act → World → Prop}
variable {K Ob : Nat → Prop} {w0 w : World} {a : Act} {n : Nat} {L : List (Nat × Value)} {Fs : List Fact} {Bs : List Blk} {rest : List Oper}
variable {d : Nat} {ty : TypeId} {pos : String} {after : Array Edge}
theorem st_orM {x y : Operand} {k' p q : Nat} {t t' : TypeId} (h : St K Ob w0 w a n L Fs Bs) (hx : ev L x = some (.int .u64 (p : Int))) (hy : ev L y = some (.int .u64 (q : Int))) (hk : q = 4294967296 * k') (hp : p < 4294967296) (hq : q < 18446744073709551616) (hd : Nat.blt d n = true)
    (k : ∀ a', St K Ob w0 w a' n ((d, .int .u64 ((p + q : Nat) : Int)) :: L) Fs Bs → wpList P ops Q rest a' w) :
    wpList P ops Q ({ dst := some d, op := .binOp .or t x y t', type := ty, pos := pos, after := after, guard := none } :: rest) a w :=
  st_val h hd (by
    have e1 : (BitVec.ofInt 64 (p : Int)).toNat = p := by rw [BitVec.toNat_ofInt]; omega
    have e2 : (BitVec.ofInt 64 (q : Int)).toNat = q := by rw [BitVec.toNat_ofInt]; omega
    have e3 : IntKind.u64.wrap ((BitVec.ofInt 64 (p : Int) ||| BitVec.ofInt 64 (q : Int)).toNat : Int) = ((p + q : Nat) : Int) := by
      rw [BitVec.toNat_or, e1, e2, hk, Nat.or_comm, or_add hp, ← hk, wrapu64_of (by omega) (by omega), Nat.add_comm]
    simp only [execOp, h.ev hx, h.ev hy, eqGuard, Go.binOp, Op.intBits, Sem.run_bind, Sem.run_pure, Result.andThen_ok, ne_eq, not_true_eq_false, if_false]
    simp [Op.intBits]
    exact e3) k
theorem upd_u32s_row : ∀ (o r : List Nat), r.length ≤ o.length → upd (u32s o) 0 (u32s r) = u32s (r ++ o.drop r.length)
  | o, [], _ => by cases o <;> simp [u32s, upd]
  | [], y :: r, h => by simp at h
  | x :: o, y :: r, h => by
    have ih := upd_u32s_row o r (by simpa using h)
    simp only [u32s, List.map_cons] at ih ⊢
    simp only [upd, ih, List.cons_append, List.length_cons, List.drop_succ_cons, List.map_cons]
theorem val_pad (r : List Nat) (k : Nat) : val (r ++ List.replicate k 0) = val r := by
  rw [val_append]
  have : val (List.replicate k 0) = 0 := by
    induction k with
    | zero => rfl
    | succ k ih => simp [List.replicate_succ, val, ih]
  rw [this]; simp
theorem nrm_le_pow {l : List Nat} (h : Nrm l) {k : Nat} (hv : val l < 4294967296 ^ k) : l.length ≤ k := by
  rcases Nat.lt_or_ge k l.length with hk | hk
  · exfalso
    obtain ⟨x, hx, hx0⟩ := h.2 (by intro e; subst e; simp at hk)
    obtain ⟨j, hj⟩ : ∃ j, l.length = j + 1 := ⟨l.length - 1, by omega⟩
    rw [hj, Nat.add_sub_cancel] at hx
    have e := val_take_succ l j x hx
    rw [List.take_of_length_le (by omega)] at e
    have h1 : 4294967296 ^ k ≤ 4294967296 ^ j := Nat.pow_le_pow_right (by decide) (by omega)
    have h2 : 4294967296 ^ j * 1 ≤ 4294967296 ^ j * x := Nat.mul_le_mul_left _ (by omega)
    omega
  · exact hk
end Orr
namespace Orr
open Go
theorem then_ret {Q : Exit → Act → World → Prop} {X : Act → World → Prop} {a : Act} {w : World} (h : Q .ret a w) : Exit.then X Q .ret a w := h
end Orr
namespace Orr
open Go
theorem blk_cut {P : Program} {Q : Exit → Act → World → Prop} {a : Act} {w : World} {x : Code} {N : Act → World → Prop} (I : Act → World → Prop) (hx : x.wp P (Exit.then I Q) a w) (hy : ∀ a w, I a w → N a w) : x.wp P (Exit.then N Q) a w :=
  wp_mono hx fun e a w h => by cases e <;> first | exact hy _ _ h | exact h
end Orr

namespace Orr
open Go
theorem flat_len {sz : Nat} : ∀ {xs : List (List Value)}, (∀ c ∈ xs, c.length = sz) → xs.flatten.length = xs.length * sz
  | [], _ => by simp
  | c :: xs, h => by
    rw [List.flatten_cons, List.length_append, h c (List.mem_cons_self ..), flat_len (fun d hd => h d (List.mem_cons_of_mem _ hd)), List.length_cons, Nat.succ_mul, Nat.add_comm]
theorem flat_get {sz : Nat} : ∀ {xs : List (List Value)}, (∀ c ∈ xs, c.length = sz) → ∀ {i j : Nat}, j < sz → xs.flatten[i * sz + j]? = (xs[i]?).bind (·[j]?)
  | [], _, i, j, _ => by simp
  | c :: xs, h, 0, j, hj => by
    have hc := h c (List.mem_cons_self ..)
    rw [List.flatten_cons, List.getElem?_append_left (by omega)]
    simp
  | c :: xs, h, i + 1, j, hj => by
    have hc := h c (List.mem_cons_self ..)
    have ih := flat_get (fun d hd => h d (List.mem_cons_of_mem _ hd)) (i := i) hj
    rw [List.flatten_cons, List.getElem?_append_right (by rw [hc, Nat.succ_mul]; omega), List.getElem?_cons_succ, ← ih]
    congr 1
    rw [hc, Nat.succ_mul]; omega
theorem upd_append_right : ∀ (a b : List Value) (k : Nat) (vs : List Value), upd (a ++ b) (a.length + k) vs = a ++ upd b k vs
  | [], b, k, vs => by simp
  | u :: a, b, k, vs => by
    have ih := upd_append_right a b k vs
    rw [List.cons_append, List.length_cons, show a.length + 1 + k = (a.length + k) + 1 from by omega]
    cases vs with
    | nil => simp [upd]
    | cons v vs => simp only [upd, ih, List.cons_append]
theorem upd_append_left : ∀ (a b vs : List Value), vs.length = a.length → upd (a ++ b) 0 vs = vs ++ b
  | [], b, [], _ => by cases b <;> simp [upd]
  | u :: a, b, [], h => by simp at h
  | [], b, v :: vs, h => by simp at h
  | u :: a, b, v :: vs, h => by
    have ih := upd_append_left a b vs (by simpa using h)
    simp only [List.cons_append, upd, ih]
theorem flat_upd {sz : Nat} : ∀ {xs : List (List Value)}, (∀ c ∈ xs, c.length = sz) → ∀ {i : Nat} {cs : List Value}, i < xs.length → cs.length = sz → upd xs.flatten (i * sz) cs = (xs.set i cs).flatten
  | [], _, i, cs, hi, _ => by simp at hi
  | c :: xs, h, 0, cs, hi, hc => by
    have := h c (List.mem_cons_self ..)
    rw [Nat.zero_mul, List.flatten_cons, upd_append_left _ _ _ (by omega)]
    rfl
  | c :: xs, h, i + 1, cs, hi, hc => by
    have h1 := h c (List.mem_cons_self ..)
    have ih := flat_upd (fun d hd => h d (List.mem_cons_of_mem _ hd)) (i := i) (cs := cs) (by simpa using hi) hc
    rw [List.flatten_cons, show (i + 1) * sz = c.length + i * sz from by rw [h1, Nat.succ_mul, Nat.add_comm], upd_append_right, ih]
    rfl
theorem set_all {sz : Nat} {xs : List (List Value)} (h : ∀ c ∈ xs, c.length = sz) {cs : List Value} (hc : cs.length = sz) (i : Nat) : ∀ c ∈ xs.set i cs, c.length = sz := by
  intro c hm
  rcases List.mem_or_eq_of_mem_set hm with h' | h'
  · exact h c h'
  · rw [h']; exact hc
/-- cells, struct by struct, and what they read as -/
def Rel.rows {α : Type} (R : Rel α) (xs : List (List Value)) (l : List α) : Fact where
  holds := fun w O => xs.length = l.length ∧ ∀ (i : Nat) x, l[i]? = some x → ∃ cs, xs[i]? = some cs ∧ R.at_ w O cs x
  keep := fun hle ⟨h1, h2⟩ => ⟨h1, fun i x hx => by
    obtain ⟨cs, h3, h4⟩ := h2 i x hx
    exact ⟨cs, h3, R.keep hle h4⟩⟩
section
variable {α : Type} {R : Rel α} {w : World} {O : Nat → Prop} {A : Option Addr} {m c : Nat} {l : List α}
theorem srow_open (h : R.slice.at_ w O [.slice A m c] l) : m = l.length ∧ l.length ≤ c ∧ l.length < 140737488355328 ∧ c < 9223372036854775808 := by
  obtain ⟨A', c', h1, h2, h4, h3, _⟩ := h
  simp at h1; obtain ⟨rfl, rfl, rfl⟩ := h1
  exact ⟨rfl, h2, h3, h4⟩
theorem srow_shape {cs : List Value} (h : R.slice.at_ w O cs l) : ∃ A n c, cs = [.slice A n c] := by
  obtain ⟨A', c', h1, _⟩ := h
  exact ⟨A', _, c', h1⟩
theorem srow_get (h : R.slice.at_ w O [.slice A m c] l) (hi : 0 < l.length) : ∃ b o, A = some ⟨b, o, none⟩ ∧ b < w.heap.size := by
  obtain ⟨A', c', h1, h2, h3, h4, hr⟩ := h
  simp at h1; obtain ⟨rfl, rfl, rfl⟩ := h1
  obtain ⟨b, o, hA, hlt, _⟩ := hr hi
  exact ⟨b, o, hA, hlt⟩
theorem srow_cells {b o : Nat} (h : R.slice.at_ w O [.slice (some ⟨b, o, none⟩) m c] l) {i : Nat} {x : α} (hx : l[i]? = some x) :
    ∃ cs, R.at_ w O cs x ∧ ∀ j v, cs[j]? = some v → w.cell? ⟨b, o + i * R.size + j, none⟩ = some v := by
  obtain ⟨A', c', h1, h2, h3, h4, hr⟩ := h
  simp at h1; obtain ⟨rfl, rfl, rfl⟩ := h1
  have hi := (List.getElem?_eq_some_iff.1 hx).1
  obtain ⟨b', o', e, _, _, hc⟩ := hr (by omega)
  injection e with e
  injection e with e1 e2
  subst e1; subst e2
  exact hc i x hx
theorem srow_nil : R.slice.at_ w O [.slice none 0 0] [] := ⟨none, 0, rfl, Nat.le_refl _, by decide, (show (0 : Nat) < 2 ^ 47 by decide), fun h => absurd h (by simp)⟩
/-- all cells of a row -/
theorem srow_src (h : R.slice.at_ w O [.slice A m c] l) : ∃ xs, (R.rows xs l).holds w O ∧ (∀ c ∈ xs, c.length = R.size) ∧ Src w (.slice A m c) R.size m xs.flatten := by
  obtain ⟨A', c', h1, h2, h3, h4, hr⟩ := h
  simp at h1; obtain ⟨rfl, rfl, rfl⟩ := h1
  rcases Nat.eq_zero_or_pos l.length with h0 | h0
  · have : l = [] := List.eq_nil_of_length_eq_zero h0
    subst this
    exact ⟨[], ⟨rfl, fun i x hx => by simp at hx⟩, by simp, by simp, A, c, rfl, fun h => absurd h (by simp)⟩
  · obtain ⟨b, o, rfl, _, _, hc⟩ := hr h0
    have hex : ∀ n, n ≤ l.length → ∃ xs : List (List Value), xs.length = n ∧ (∀ c ∈ xs, c.length = R.size) ∧ ∀ i x, i < n → l[i]? = some x → ∃ cs, xs[i]? = some cs ∧ R.at_ w O cs x ∧ ∀ j v, cs[j]? = some v → w.cell? ⟨b, o + i * R.size + j, none⟩ = some v := by
      intro n
      induction n with
      | zero => intro _; exact ⟨[], rfl, by simp, fun i x hi => absurd hi (by omega)⟩
      | succ n ih =>
        intro hn
        obtain ⟨xs, hl, hall, hxs⟩ := ih (by omega)
        obtain ⟨cs, hcs, hcell⟩ := hc n (l[n]'(by omega)) (List.getElem?_eq_getElem (by omega))
        refine ⟨xs ++ [cs], by simp [hl], ?_, fun i x hi hx => ?_⟩
        · intro d hd
          rcases List.mem_append.1 hd with hd | hd
          · exact hall d hd
          · simp at hd; subst hd; exact R.len hcs
        · rcases Nat.lt_or_ge i n with hlt | hge
          · obtain ⟨ds, h1, h2, h3⟩ := hxs i x hlt hx
            exact ⟨ds, by rw [List.getElem?_append_left (by omega)]; exact h1, h2, h3⟩
          · have e : i = n := by omega
            subst e
            have : x = l[i]'(by omega) := by
              rw [List.getElem?_eq_getElem (by omega)] at hx; injection hx with hx; exact hx.symm
            subst this
            exact ⟨cs, by rw [List.getElem?_append_right (by omega)]; simp [hl], hcs, hcell⟩
    obtain ⟨xs, hl, hall, hxs⟩ := hex l.length (Nat.le_refl _)
    refine ⟨xs, ⟨hl, fun i x hx => ?_⟩, hall, ?_, some ⟨b, o, none⟩, c, rfl, fun _ => ⟨b, o, rfl, fun j v hj => ?_⟩⟩
    · obtain ⟨cs, h1, h2, _⟩ := hxs i x (List.getElem?_eq_some_iff.1 hx).1 hx
      exact ⟨cs, h1, h2⟩
    · rw [flat_len hall, hl]
    · rcases Nat.eq_zero_or_pos R.size with hs | hs
      · have : xs.flatten = [] := List.eq_nil_of_length_eq_zero (by rw [flat_len hall, hs, Nat.mul_zero])
        rw [this] at hj; simp at hj
      · have e : j = j / R.size * R.size + j % R.size := by rw [Nat.mul_comm]; exact (Nat.div_add_mod j R.size).symm
        have hm := Nat.mod_lt j hs
        rw [e, flat_get hall hm] at hj
        cases hq : xs[j / R.size]? with
        | none => rw [hq] at hj; simp at hj
        | some ds =>
          rw [hq] at hj
          have hlt : j / R.size < l.length := by rw [← hl]; exact (List.getElem?_eq_some_iff.1 hq).1
          obtain ⟨cs, h1, _, h3⟩ := hxs (j / R.size) (l[j / R.size]) hlt (List.getElem?_eq_getElem hlt)
          rw [hq] at h1
          injection h1 with h1
          subst h1
          have := h3 (j % R.size) v (by simpa using hj)
          rw [e, ← Nat.add_assoc]
          exact this
end
section
variable {α : Type} {R : Rel α}
variable {P : Program} {ops : Array Oper} {Q : Exit → Act → World → Prop}
variable {K Ob : Nat → Prop} {w0 w : World} {a : Act} {n : Nat} {L : List (Nat × Value)} {Fs : List Fact} {Bs : List Blk} {rest : List Oper}
variable {d : Nat} {ty : TypeId} {pos : String} {after : Array Edge}
/-- an own row of structs is given away -/
theorem own_rows {g T : Nat} {cells : List Value} {xs : List (List Value)} {l : List α} (c : Nat) (h : St K Ob w0 w a n L Fs ((g, T, cells) :: Bs)) (hc : ∀ i, i < xs.flatten.length → cells[i]? = xs.flatten[i]?) (hr : (R.rows xs l).holds w (owns Ob ((g, T, cells) :: Bs)))
    (hall : ∀ c ∈ xs, c.length = R.size) (hl : l.length < 2 ^ 47) (hlc : l.length ≤ c) (hc63 : c < 2 ^ 63) : R.slice.at_ w (owns Ob Bs) [.slice (some ⟨g, 0, none⟩) l.length c] l := by
  refine ⟨_, c, rfl, hlc, hc63, hl, fun h0 => ⟨g, 0, rfl, (h.own g T cells (by simp)).2.1, own_notin h, fun i x hx => ?_⟩⟩
  obtain ⟨cs, h1, h2⟩ := hr.2 i x hx
  have hcl := R.len h2
  refine ⟨cs, R.keep ⟨Nat.le_refl _, fun _ _ _ => rfl, fun b _ ho => ho.imp id (List.mem_cons_of_mem _)⟩ h2, fun j v hj => ?_⟩
  have hj2 : j < R.size := by rw [← hcl]; exact (List.getElem?_eq_some_iff.1 hj).1
  have hfl : xs.flatten[i * R.size + j]? = some v := by rw [flat_get hall hj2, h1]; exact hj
  rw [show 0 + i * R.size + j = i * R.size + j from by omega, h.own_cell (i := 0) rfl, hc _ (List.getElem?_eq_some_iff.1 hfl).1, hfl]
theorem ownRow_rows {v : Value} {E m : Nat} {xs : List (List Value)} {l : List α} {Bo : List Blk} (h : St K Ob w0 w a n L Fs (Bo ++ Bs)) (ho : OwnRow v E R.size m xs.flatten Bo) (hr : (R.rows xs l).holds w (owns Ob (Bo ++ Bs)))
    (hall : ∀ c ∈ xs, c.length = R.size) (hs : 0 < R.size) (hl : l.length < 2 ^ 47) : ∃ A c, v = .slice A l.length c ∧ R.slice.at_ w (owns Ob Bs) [.slice A l.length c] l := by
  obtain ⟨hlen, ⟨rfl, rfl, rfl⟩ | ⟨g, c, ex, rfl, rfl, hl2, hmc, hc63⟩⟩ := ho
  · rw [flat_len hall, Nat.zero_mul] at hlen
    have h0 : xs.length = 0 := by
      rcases Nat.eq_zero_or_pos xs.length with h | h
      · exact h
      · have := Nat.mul_pos h hs; omega
    have : l = [] := List.eq_nil_of_length_eq_zero (by rw [← hr.1, h0])
    subst this
    exact ⟨none, 0, rfl, srow_nil⟩
  · rw [flat_len hall] at hlen
    have hm : xs.length = m := Nat.eq_of_mul_eq_mul_right hs hlen
    have hml : m = l.length := by rw [← hm, hr.1]
    subst hml
    exact ⟨_, c, rfl, own_rows c h (fun i hi => by rw [List.getElem?_append_left hi]) hr hall hl hmc hc63⟩
theorem rows_nil {O : Nat → Prop} : (R.rows [] []).holds w O := ⟨rfl, fun i x hx => by simp at hx⟩
theorem rows_snoc {O : Nat → Prop} {xs : List (List Value)} {l : List α} {cs : List Value} {x : α} (h : (R.rows xs l).holds w O) (hx : R.at_ w O cs x) : (R.rows (xs ++ [cs]) (l ++ [x])).holds w O := by
  refine ⟨by simp [h.1], fun i y hy => ?_⟩
  rcases Nat.lt_or_ge i l.length with hi | hi
  · rw [List.getElem?_append_left hi] at hy
    obtain ⟨ds, h1, h2⟩ := h.2 i y hy
    exact ⟨ds, by rw [List.getElem?_append_left (by rw [h.1]; exact hi)]; exact h1, h2⟩
  · rw [List.getElem?_append_right hi] at hy
    have hi2 : i - l.length = 0 := by
      rcases Nat.eq_zero_or_pos (i - l.length) with h | h
      · exact h
      · rw [List.getElem?_eq_none (by simp; omega)] at hy; cases hy
    rw [hi2] at hy
    simp at hy
    subst hy
    exact ⟨cs, by rw [List.getElem?_append_right (by rw [h.1]; exact hi), h.1, hi2]; rfl, hx⟩
theorem rows_append {O : Nat → Prop} {xs ys : List (List Value)} {l k : List α} (h : (R.rows xs l).holds w O) (h' : (R.rows ys k).holds w O) : (R.rows (xs ++ ys) (l ++ k)).holds w O := by
  refine ⟨by simp [h.1, h'.1], fun i y hy => ?_⟩
  rcases Nat.lt_or_ge i l.length with hi | hi
  · rw [List.getElem?_append_left hi] at hy
    obtain ⟨ds, h1, h2⟩ := h.2 i y hy
    exact ⟨ds, by rw [List.getElem?_append_left (by rw [h.1]; exact hi)]; exact h1, h2⟩
  · rw [List.getElem?_append_right hi] at hy
    obtain ⟨ds, h1, h2⟩ := h'.2 _ y hy
    exact ⟨ds, by rw [List.getElem?_append_right (by rw [h.1]; exact hi), h.1]; exact h1, h2⟩
theorem rows_set {O : Nat → Prop} {xs : List (List Value)} {l : List α} {cs : List Value} {x : α} {i : Nat} (h : (R.rows xs l).holds w O) (hx : R.at_ w O cs x) : (R.rows (xs.set i cs) (l.set i x)).holds w O := by
  refine ⟨by simp [h.1], fun k y hy => ?_⟩
  rw [List.getElem?_set] at hy ⊢
  split at hy
  · split at hy
    · injection hy with hy; subst hy
      rename_i e1 e2
      rw [if_pos e1, if_pos (by rw [h.1]; exact e2)]
      exact ⟨cs, rfl, hx⟩
    · cases hy
  · rename_i e1
    rw [if_neg e1]
    exact h.2 k y hy
theorem rows_take {O : Nat → Prop} {xs : List (List Value)} {l : List α} (k : Nat) (h : (R.rows xs l).holds w O) : (R.rows (xs.take k) (l.take k)).holds w O := by
  refine ⟨by simp [h.1], fun i y hy => ?_⟩
  rw [List.getElem?_take] at hy ⊢
  split at hy
  · rename_i e; rw [if_pos e]; exact h.2 i y hy
  · cases hy
/-- a struct of an own row is written -/
theorem st_storeR {T : TypeId} {x y : Operand} {g i E sz : Nat} {xs : List (List Value)} {v : Value} {vs : List Value} (h : St K Ob w0 w a n L Fs ((g, E, xs.flatten) :: Bs)) (hx : ev L x = some (.pointer (some ⟨g, 0 + i * sz, none⟩)))
    (hy : ev L y = some v) (hs : ∀ w, (Go.sizeOf T).run P w = .ok sz w) (hall : ∀ c ∈ xs, c.length = sz) (hv : v.cells.toList = vs) (hvl : vs.length = sz) (h1 : vs.all one = true) (hi : i < xs.length)
    (k : ∀ w', St K Ob w0 w' a n L Fs ((g, E, (xs.set i vs).flatten) :: Bs) → wpList P ops Q rest a w') :
    wpList P ops Q ({ dst := none, op := .store T x y, type := ty, pos := pos, after := after, guard := none } :: rest) a w := by
  have e : 0 + i * sz = i * sz := by omega
  rw [e] at hx
  refine st_store h 0 rfl hx hy hs hv hvl ?_ h1 fun w' h' => k w' ?_
  · rw [Nat.ble_eq, flat_len hall]
    have := Nat.mul_le_mul_right sz (show i + 1 ≤ xs.length from hi)
    rw [Nat.succ_mul] at this
    exact this
  · have h2 := flat_upd hall hi hvl
    simp only [List.set_cons_zero] at h'
    rw [h2] at h'
    exact h'
theorem reps_flat (m : Nat) (zs : List Value) : reps m zs = (List.replicate m zs).flatten := by
  induction m with
  | zero => rfl
  | succ m ih => simp [reps, ih, List.replicate_succ]
end
end Orr
namespace Orr
/-- the greatest that divides all -/
def gcdL (l : List Int) : Nat := l.foldl (fun g z => Nat.gcd g z.natAbs) 0
theorem gcdL_snoc {l : List Int} {i : Nat} {z : Int} (h : l[i]? = some z) : gcdL (l.take (i + 1)) = Nat.gcd (gcdL (l.take i)) z.natAbs := by
  unfold gcdL
  rw [List.take_add_one, h]
  simp [List.foldl_append]
theorem gcd_mod (g x : Nat) : Nat.gcd x (g % x) = Nat.gcd g x := by
  rw [Nat.gcd_comm g x, Nat.gcd_rec x g, Nat.gcd_comm]
theorem foldl_gcd_one (l : List Int) : l.foldl (fun g z => Nat.gcd g z.natAbs) 1 = 1 := by
  induction l with
  | nil => rfl
  | cons z l ih => simp [ih]
theorem gcdL_one {l : List Int} {i : Nat} (h : gcdL (l.take i) = 1) : gcdL l = 1 := by
  have e : l = l.take i ++ l.drop i := (List.take_append_drop i l).symm
  unfold gcdL at h ⊢
  rw [e, List.foldl_append, h, foldl_gcd_one]
end Orr
namespace Orr
open Go
/-- a row that is filled: i of it are done -/
def part {α β : Type} (f : α → β) (l : List α) (i : Nat) (z : β) : List β := (l.take i).map f ++ List.replicate (l.length - i) z
section
variable {α β : Type} {f : α → β} {l : List α} {i : Nat} {z : β}
theorem part_zero : part f l 0 z = List.replicate l.length z := by simp [part]
theorem part_len (h : i ≤ l.length) : (part f l i z).length = l.length := by simp [part]; omega
theorem part_all (h : l.length ≤ i) : part f l i z = l.map f := by
  unfold part
  rw [List.take_of_length_le h, show l.length - i = 0 from by omega]; simp
theorem part_set {x : α} (h : l[i]? = some x) : (part f l i z).set i (f x) = part f l (i + 1) z := by
  have hi := (List.getElem?_eq_some_iff.1 h).1
  unfold part
  obtain ⟨k, hk⟩ : ∃ k, l.length - i = k + 1 := ⟨l.length - i - 1, by omega⟩
  rw [hk, show l.length - (i + 1) = k from by omega, List.set_append_right _ _ (by simp; omega), List.length_map, List.length_take, Nat.min_eq_left (by omega), Nat.sub_self, List.take_add_one, h]
  simp [List.replicate_succ]
end
theorem rows_zero {α : Type} {R : Rel α} {w : World} {O : Nat → Prop} {zs : List Value} {z : α} (n : Nat) (h : R.at_ w O zs z) : (R.rows (List.replicate n zs) (List.replicate n z)).holds w O := by
  refine ⟨by simp, fun i x hx => ?_⟩
  rw [List.getElem?_replicate] at hx ⊢
  split at hx
  · rename_i e
    injection hx with hx; subst hx
    exact ⟨zs, by rw [if_pos e], h⟩
  · cases hx
theorem replicate_all {n sz : Nat} {zs : List Value} (h : zs.length = sz) : ∀ c ∈ List.replicate n zs, c.length = sz := fun c hc => by rw [List.eq_of_mem_replicate hc]; exact h
/-- without the zeros at the end -/
def trim : List Int → List Int
  | [] => []
  | x :: l => match trim l with
    | [] => if x = 0 then [] else [x]
    | y :: k => x :: y :: k
theorem trim_zeros : ∀ {l : List Int}, (∀ x ∈ l, x = 0) → trim l = []
  | [], _ => rfl
  | x :: l, h => by
    have ih := trim_zeros (l := l) (fun y hy => h y (List.mem_cons_of_mem _ hy))
    simp [trim, ih, h x (List.mem_cons_self ..)]
theorem trim_take : ∀ {l : List Int} {m : Nat} {y : Int}, (∀ j x, m < j → l[j]? = some x → x = 0) → l[m]? = some y → y ≠ 0 → trim l = l.take (m + 1)
  | [], m, y, _, h, _ => by simp at h
  | x :: l, 0, y, h1, h2, h3 => by
    have h0 : trim l = [] := trim_zeros fun z hz => by
      obtain ⟨j, hj⟩ := List.mem_iff_getElem?.1 hz
      exact h1 (j + 1) z (by omega) (by simpa using hj)
    simp at h2
    subst h2
    simp [trim, h0, h3]
  | x :: l, m + 1, y, h1, h2, h3 => by
    have ih := trim_take (l := l) (m := m) (y := y) (fun j z hj hz => h1 (j + 1) z (by omega) (by simpa using hz)) (by simpa using h2) h3
    cases hl : l with
    | nil => subst hl; simp at h2
    | cons u k =>
      subst hl
      rw [List.take_succ_cons] at ih
      simp only [trim] at ih ⊢
      rw [ih]
      simp
/-- no zero at the end -/
def Trim (l : List Int) : Prop := trim l = l
theorem trim_trim : ∀ (l : List Int), Trim (trim l)
  | [] => rfl
  | x :: l => by
    have ih := trim_trim l
    unfold Trim at ih ⊢
    cases h : trim l with
    | nil => by_cases hx : x = 0 <;> simp [trim, h, hx]
    | cons y k =>
      rw [h] at ih
      simp only [trim, h] at ih ⊢
      rw [ih]
/-- the place behind the last one that counts -/
theorem trim_cut {l : List Int} {m : Nat} (hm : m ≤ l.length) (h1 : ∀ j x, m ≤ j → l[j]? = some x → x = 0) (h2 : 0 < m → ∃ y, l[m - 1]? = some y ∧ y ≠ 0) : trim l = l.take m := by
  rcases Nat.eq_zero_or_pos m with h0 | h0
  · subst h0
    rw [trim_zeros fun z hz => ?_]; rfl
    obtain ⟨j, hj⟩ := List.mem_iff_getElem?.1 hz
    exact h1 j z (by omega) hj
  · obtain ⟨y, hy, hy0⟩ := h2 h0
    have := trim_take (l := l) (m := m - 1) (y := y) (fun j x hj hx => h1 j x (by omega) hx) hy hy0
    rwa [show m - 1 + 1 = m from by omega] at this
def Rel.polyN : Rel (List Int) := Rel.intN.slice.view fun l p => l = p ∧ Trim p
def Rel.polyA : Rel (List Int) := Rel.intA.slice
theorem slice_mono {α : Type} {R S : Rel α} (hs : R.size = S.size) (h : ∀ {w O cs x}, R.at_ w O cs x → S.at_ w O cs x) {w : World} {O : Nat → Prop} {cs : List Value} {l : List α} (hl : R.slice.at_ w O cs l) : S.slice.at_ w O cs l := by
  obtain ⟨A, c, h1, h2, h3, h4, hr⟩ := hl
  refine ⟨A, c, h1, h2, h3, h4, fun h0 => ?_⟩
  obtain ⟨b, o, hA, hlt, hno, hi⟩ := hr h0
  refine ⟨b, o, hA, hlt, hno, fun i x hx => ?_⟩
  obtain ⟨cs, hx', hc⟩ := hi i x hx
  exact ⟨cs, h hx', by rw [← hs]; exact hc⟩
theorem polyA_of_intsN {w : World} {O : Nat → Prop} {cs : List Value} {l : List Int} (h : Rel.intN.slice.at_ w O cs l) : Rel.polyA.at_ w O cs l := slice_mono (R := Rel.intN) (S := Rel.intA) rfl (fun h => intA_of_intN h) h
theorem intsN_of_polyN {w : World} {O : Nat → Prop} {cs : List Value} {l : List Int} (h : Rel.polyN.at_ w O cs l) : Rel.intN.slice.at_ w O cs l := by
  obtain ⟨p, h1, rfl, _⟩ := h
  exact h1
theorem polyA_of_polyN {w : World} {O : Nat → Prop} {cs : List Value} {l : List Int} (h : Rel.polyN.at_ w O cs l) : Rel.polyA.at_ w O cs l := polyA_of_intsN (intsN_of_polyN h)
theorem polyN_trim {w : World} {O : Nat → Prop} {cs : List Value} {l : List Int} (h : Rel.polyN.at_ w O cs l) : Trim l := by
  obtain ⟨p, h1, rfl, h2⟩ := h
  exact h2
theorem polyN_shape {w : World} {O : Nat → Prop} {cs : List Value} {l : List Int} (h : Rel.polyN.at_ w O cs l) : ∃ A n c, cs = [.slice A n c] := srow_shape (intsN_of_polyN h)
theorem polyN_nil {w : World} {O : Nat → Prop} : Rel.polyN.at_ w O [.slice none 0 0] [] := ⟨[], srow_nil, rfl, rfl⟩
theorem srow_take {α : Type} {R : Rel α} {w : World} {O : Nat → Prop} {A : Option Addr} {m c : Nat} {l : List α} (h : R.slice.at_ w O [.slice A m c] l) (k : Nat) (hk : k ≤ l.length) (sz : Nat) :
    R.slice.at_ w O [.slice (if c = 0 then A else A.map (·.add (0 * sz))) k c] (l.take k) := by
  obtain ⟨A', c', h1, h2, h3, h4, hr⟩ := h
  simp at h1; obtain ⟨rfl, rfl, rfl⟩ := h1
  have hl : (l.take k).length = k := by simp; omega
  refine ⟨_, c, by rw [hl], by omega, h3, by omega, fun h0 => ?_⟩
  obtain ⟨b, o, hA, hlt, hno, hc⟩ := hr (by omega)
  subst hA
  refine ⟨b, o, by rw [if_neg (by omega)]; simp [add_spot], hlt, hno, fun i x hx => hc i x ?_⟩
  rw [List.getElem?_take] at hx
  split at hx
  · exact hx
  · cases hx
end Orr

namespace Orr
open Go

/-- what one cell reads as. (ow, orow, oel: into what the call itself holds; a row r: none: nil, (g, c): block and capacity) -/
inductive LV where
  | int (k : IntKind) (n : Int)
  | bool (b : Bool)
  | str (s : ByteArray)
  | nilp
  | nils
  | row (l : List (List LV))
  | sh (l : List LV)
  | fn (f : Nat) (pre post : List LV)
  | ow (g off : Nat)
  | orow (r : Option (Nat × Nat)) (sz lo len : Nat)
  | oel (r : Option (Nat × Nat)) (sz i off : Nat)
  | ofn (f : Nat) (pre post : List LV)
  | frow (l : List (List LV))
  | any

inductive LRep (w : World) (O : Nat → Prop) : Value → LV → Prop
  | any (v : Value) (h : Orr.one v = true) : LRep w O v .any
  | int (k : IntKind) (n : Int) : LRep w O (.int k n) (.int k n)
  | bool (b : Bool) : LRep w O (.bool b) (.bool b)
  | str (s : ByteArray) : LRep w O (.string s) (.str s)
  | nilp : LRep w O (.pointer none) .nilp
  | nils : LRep w O (.slice none 0 0) .nils
  | row (A : Option Addr) (c sz b o : Nat) (l : List (List LV)) (f : Nat → Nat → Value)
      (hc : l.length ≤ c) (hc63 : c < 2 ^ 63) (hl : l.length < 2 ^ 47) (hs : ∀ cs ∈ l, cs.length = sz)
      (hA : 0 < l.length → A = some ⟨b, o, none⟩ ∧ b < w.heap.size ∧ ¬ O b)
      (hcell : ∀ (i : Nat) (cs : List LV), l[i]? = some cs → ∀ j, j < cs.length → w.cell? ⟨b, o + i * sz + j, none⟩ = some (f i j))
      (hrep : ∀ (i : Nat) (cs : List LV), l[i]? = some cs → ∀ (j : Nat) (x : LV), cs[j]? = some x → LRep w O (f i j) x) :
      LRep w O (.slice A l.length c) (.row l)
  | sh (b o : Nat) (l : List LV) (f : Nat → Value) (hb : b < w.heap.size) (hO : ¬ O b)
      (hcell : ∀ j, j < l.length → w.cell? ⟨b, o + j, none⟩ = some (f j)) (hrep : ∀ (j : Nat) (x : LV), l[j]? = some x → LRep w O (f j) x) :
      LRep w O (.pointer (some ⟨b, o, none⟩)) (.sh l)
  | fn (f : Nat) (pre post : List LV) (vs us : List Value) (h1 : vs.length = pre.length) (h2 : us.length = post.length)
      (h3 : ∀ (j : Nat) (v : Value) (x : LV), vs[j]? = some v → pre[j]? = some x → LRep w O v x)
      (h4 : ∀ (j : Nat) (v : Value) (x : LV), us[j]? = some v → post[j]? = some x → LRep w O v x) :
      LRep w O (.func (.func f) vs.toArray us.toArray) (.fn f pre post)

theorem cell_keep {w w' : World} {O O' : Nat → Prop} (hle : Le w O w' O') {b o : Nat} (hb : b < w.heap.size) (hO : ¬ O b) : w'.cell? ⟨b, o, none⟩ = w.cell? ⟨b, o, none⟩ := by
  simp only [World.cell?]
  rw [hle.2.1 b hb hO]
theorem LRep.keep {w w' : World} {O O' : Nat → Prop} (hle : Le w O w' O') {v : Value} {x : LV} (h : LRep w O v x) : LRep w' O' v x := by
  induction h with
  | any v h => exact .any v h
  | int k n => exact .int k n
  | bool b => exact .bool b
  | str s => exact .str s
  | nilp => exact .nilp
  | nils => exact .nils
  | row A c sz b o l f hc hc63 hl hs hA hcell hrep ih =>
    refine .row A c sz b o l f hc hc63 hl hs (fun h0 => ?_) (fun i cs hi j hj => ?_) ih
    · obtain ⟨h1, h2, h3⟩ := hA h0
      exact ⟨h1, Nat.lt_of_lt_of_le h2 hle.1, fun ho => h3 (hle.2.2 b h2 ho)⟩
    · have h0 : 0 < l.length := Nat.lt_of_le_of_lt (Nat.zero_le _) (List.getElem?_eq_some_iff.1 hi).1
      obtain ⟨_, h2, h3⟩ := hA h0
      rw [cell_keep hle h2 h3]
      exact hcell i cs hi j hj
  | sh b o l f hb hO hcell hrep ih =>
    refine .sh b o l f (Nat.lt_of_lt_of_le hb hle.1) (fun ho => hO (hle.2.2 b hb ho)) (fun j hj => ?_) ih
    rw [cell_keep hle hb hO]
    exact hcell j hj
  | fn f pre post vs us h1 h2 h3 h4 ih1 ih2 => exact .fn f pre post vs us h1 h2 ih1 ih2
theorem LRep.one {w : World} {O : Nat → Prop} {v : Value} {x : LV} (h : LRep w O v x) : Orr.one v = true := by cases h <;> first | rfl | assumption

/-- what a closure of one's own may hold: pointers to own blocks, and what is free -/
def YRep (w : World) (O : Nat → Prop) (v : Value) : LV → Prop
  | .ow g off => v = .pointer (some ⟨g, off, none⟩)
  | x => LRep w O v x
def YReps (w : World) (O : Nat → Prop) : List Value → List LV → Prop
  | [], [] => True
  | v :: vs, x :: xs => YRep w O v x ∧ YReps w O vs xs
  | _, _ => False
theorem YRep.keep {w w' : World} {O O' : Nat → Prop} (hle : Le w O w' O') {v : Value} {x : LV} (h : YRep w O v x) : YRep w' O' v x := by
  cases x <;> first | exact LRep.keep hle h | exact h
theorem YReps.keep {w w' : World} {O O' : Nat → Prop} (hle : Le w O w' O') : ∀ {vs : List Value} {xs : List LV}, YReps w O vs xs → YReps w' O' vs xs
  | [], [], _ => trivial
  | _ :: _, _ :: _, h => ⟨h.1.keep hle, YReps.keep hle h.2⟩
  | [], _ :: _, h => h.elim
  | _ :: _, [], h => h.elim
/-- own things too -/
def XRep (w : World) (O : Nat → Prop) (v : Value) : LV → Prop
  | .ow g off => v = .pointer (some ⟨g, off, none⟩)
  | .orow none _ lo len => v = .slice none 0 0 ∧ lo = 0 ∧ len = 0
  | .orow (some (g, c)) sz lo len => lo + len ≤ c ∧ ∃ a, v = .slice (some ⟨g, a, none⟩) len (c - lo) ∧ (lo = 0 ∨ lo < c → a = lo * sz)
  | .oel none _ _ _ => False
  | .oel (some (g, _)) sz i off => v = .pointer (some ⟨g, i * sz + off, none⟩)
  | .ofn f pre post => ∃ vs us : List Value, v = .func (.func f) vs.toArray us.toArray ∧ YReps w O vs pre ∧ YReps w O us post
  | .frow l => LRep w O v (.row l) ∧ ∃ A, v = .slice A l.length l.length
  | x => LRep w O v x
/-- what may be handed to anybody -/
def LV.free : LV → Bool
  | .ow _ _ => false
  | .orow _ _ _ _ => false
  | .oel _ _ _ _ => false
  | .ofn _ _ _ => false
  | .frow _ => false
  | _ => true
theorem XRep.free {w : World} {O : Nat → Prop} {v : Value} {x : LV} (h : XRep w O v x) (hx : x.free = true) : LRep w O v x := by
  cases x <;> first | exact h | cases hx
theorem LRep.x {w : World} {O : Nat → Prop} {v : Value} {x : LV} (h : LRep w O v x) : XRep w O v x := by
  cases x <;> first | exact h | cases h
theorem XRep.keep {w w' : World} {O O' : Nat → Prop} (hle : Le w O w' O') {v : Value} {x : LV} (h : XRep w O v x) : XRep w' O' v x := by
  cases x <;> first | exact LRep.keep hle h | skip
  · exact h
  · rename_i r _ _ _; rcases r with _ | ⟨g, c⟩ <;> exact h
  · rename_i r _ _ _; rcases r with _ | ⟨g, c⟩ <;> exact h
  · obtain ⟨vs, us, e, h1, h2⟩ := h; exact ⟨vs, us, e, h1.keep hle, h2.keep hle⟩
  · exact ⟨LRep.keep hle h.1, h.2⟩
theorem XRep.one {w : World} {O : Nat → Prop} {v : Value} {x : LV} (h : XRep w O v x) : Orr.one v = true := by
  cases x <;> first | exact LRep.one h | skip
  · rw [show v = _ from h]; rfl
  · rename_i r _ _ _; rcases r with _ | ⟨g, c⟩
    · rw [h.1]; rfl
    · obtain ⟨_, a, e, _⟩ := h; rw [e]; rfl
  · rename_i r _ _ _; rcases r with _ | ⟨g, c⟩
    · exact h.elim
    · rw [show v = _ from h]; rfl
  · obtain ⟨vs, us, e, _⟩ := h; rw [e]; rfl
  · exact LRep.one h.1

def XReps (w : World) (O : Nat → Prop) : List Value → List LV → Prop
  | [], [] => True
  | v :: vs, x :: xs => XRep w O v x ∧ XReps w O vs xs
  | _, _ => False
section
variable {w w' : World} {O O' : Nat → Prop}
theorem XReps.keep (hle : Le w O w' O') : ∀ {vs : List Value} {xs : List LV}, XReps w O vs xs → XReps w' O' vs xs
  | [], [], _ => trivial
  | v :: vs, x :: xs, h => ⟨h.1.keep hle, XReps.keep hle h.2⟩
  | [], _ :: _, h => h.elim
  | _ :: _, [], h => h.elim
theorem XReps.len : ∀ {vs : List Value} {xs : List LV}, XReps w O vs xs → vs.length = xs.length
  | [], [], _ => rfl
  | v :: vs, x :: xs, h => by simp [h.2.len]
  | [], _ :: _, h => h.elim
  | _ :: _, [], h => h.elim
theorem XReps.get : ∀ {vs : List Value} {xs : List LV}, XReps w O vs xs → ∀ {j : Nat} {x : LV}, xs[j]? = some x → ∃ v, vs[j]? = some v ∧ XRep w O v x
  | [], [], _, j, x, hx => by simp at hx
  | v :: vs, x :: xs, h, 0, y, hy => by simp at hy; subst hy; exact ⟨v, rfl, h.1⟩
  | v :: vs, x :: xs, h, j + 1, y, hy => by simpa using h.2.get (j := j) (by simpa using hy)
  | [], _ :: _, h, _, _, _ => h.elim
  | _ :: _, [], h, _, _, _ => h.elim
theorem XReps.get' : ∀ {vs : List Value} {xs : List LV}, XReps w O vs xs → ∀ {j : Nat} {x : LV} {v : Value}, vs[j]? = some v → xs[j]? = some x → XRep w O v x
  | vs, xs, h, j, x, v, hv, hx => by
    obtain ⟨u, hu, hr⟩ := h.get hx
    rw [hv] at hu; injection hu with hu; subst hu; exact hr
theorem XReps.of : ∀ {vs : List Value} {xs : List LV}, vs.length = xs.length → (∀ (j : Nat) (v : Value) (x : LV), vs[j]? = some v → xs[j]? = some x → XRep w O v x) → XReps w O vs xs
  | [], [], _, _ => trivial
  | v :: vs, x :: xs, hl, h => ⟨h 0 v x rfl rfl, XReps.of (by simpa using hl) fun j u y hu hy => h (j + 1) u y (by simpa using hu) (by simpa using hy)⟩
  | [], _ :: _, h, _ => by simp at h
  | _ :: _, [], h, _ => by simp at h
theorem XReps.append : ∀ {vs us : List Value} {xs ys : List LV}, XReps w O vs xs → XReps w O us ys → XReps w O (vs ++ us) (xs ++ ys)
  | [], _, [], _, _, h => h
  | v :: vs, _, x :: xs, _, h, h' => ⟨h.1, h.2.append h'⟩
  | [], _, _ :: _, _, h, _ => h.elim
  | _ :: _, _, [], _, h, _ => h.elim
theorem XReps.drop : ∀ {vs : List Value} {xs : List LV} (k : Nat), XReps w O vs xs → XReps w O (vs.drop k) (xs.drop k)
  | _, _, 0, h => by simpa using h
  | [], [], _ + 1, _ => trivial
  | v :: vs, x :: xs, k + 1, h => by simpa using XReps.drop k h.2
  | [], _ :: _, _ + 1, h => h.elim
  | _ :: _, [], _ + 1, h => h.elim
theorem XReps.take : ∀ {vs : List Value} {xs : List LV} (k : Nat), XReps w O vs xs → XReps w O (vs.take k) (xs.take k)
  | _, _, 0, _ => by simp [XReps]
  | [], [], _ + 1, _ => trivial
  | v :: vs, x :: xs, k + 1, h => ⟨h.1, XReps.take k h.2⟩
  | [], _ :: _, _ + 1, h => h.elim
  | _ :: _, [], _ + 1, h => h.elim
theorem XReps.one : ∀ {vs : List Value} {xs : List LV}, XReps w O vs xs → ∀ u ∈ vs, Orr.one u = true
  | [], _, _, u, hu => by cases hu
  | v :: vs, x :: xs, h, u, hu => by
    rcases List.mem_cons.1 hu with rfl | hu
    · exact h.1.one
    · exact h.2.one u hu
  | _ :: _, [], h, _, _ => h.elim
end
/-- leaves are written -/
def updL : List LV → Nat → List LV → List LV
  | l, _, [] => l
  | [], _, _ :: _ => []
  | _ :: l, 0, v :: vs => v :: updL l 0 vs
  | u :: l, i + 1, vs => u :: updL l i vs
theorem length_updL (cs : List LV) (off : Nat) (vs : List LV) : (updL cs off vs).length = cs.length := by
  induction cs generalizing off vs with
  | nil => cases vs <;> simp [updL]
  | cons c cs ih =>
    cases vs with
    | nil => simp [updL]
    | cons v vs => cases off <;> simp [updL, ih]
theorem XReps.upd {w : World} {O : Nat → Prop} : ∀ {cs : List Value} {xs : List LV} {vs : List Value} {ys : List LV} (off : Nat), XReps w O cs xs → XReps w O vs ys → XReps w O (upd cs off vs) (updL xs off ys)
  | cs, xs, [], [], off, h, _ => by cases cs <;> cases xs <;> first | exact h | (simp [XReps] at h)
  | [], [], v :: vs, y :: ys, off, h, _ => by simp [Orr.upd, updL, XReps]
  | c :: cs, x :: xs, v :: vs, y :: ys, 0, h, h' => ⟨h'.1, XReps.upd 0 h.2 h'.2⟩
  | c :: cs, x :: xs, v :: vs, y :: ys, off + 1, h, h' => ⟨h.1, XReps.upd off h.2 h'⟩
  | [], _ :: _, _, _, _, h, _ => h.elim
  | _ :: _, [], _, _, _, h, _ => h.elim
  | _, _, [], _ :: _, _, _, h => h.elim
  | _, _, _ :: _, [], _, _, h => h.elim

/-- a slot's value -/
inductive AV where
  | one (x : LV)
  | agg (xs : List LV)
  | tup (l : List AV)
  | un
def TRep (w : World) (O : Nat → Prop) (v : Value) : AV → Prop
  | .one x => XRep w O v x
  | .agg xs => ∃ vs : List Value, v = .agg vs.toArray ∧ XReps w O vs xs
  | _ => False
def TReps (w : World) (O : Nat → Prop) : List Value → List AV → Prop
  | [], [] => True
  | v :: vs, x :: xs => TRep w O v x ∧ TReps w O vs xs
  | _, _ => False
def ARep (w : World) (O : Nat → Prop) (v : Value) : AV → Prop
  | .tup l => ∃ vs : List Value, v = .tuple vs.toArray ∧ TReps w O vs l
  | .un => True
  | x => TRep w O v x
section
variable {w w' : World} {O O' : Nat → Prop}
theorem TRep.keep (hle : Le w O w' O') {v : Value} {x : AV} (h : TRep w O v x) : TRep w' O' v x := by
  cases x with
  | one x => exact XRep.keep hle h
  | agg xs => obtain ⟨vs, e, h⟩ := h; exact ⟨vs, e, h.keep hle⟩
  | tup l => exact h.elim
  | un => exact h.elim
theorem TRep.a {v : Value} {x : AV} (h : TRep w O v x) : ARep w O v x := by cases x <;> first | exact h | exact h.elim
theorem TReps.keep (hle : Le w O w' O') : ∀ {vs : List Value} {xs : List AV}, TReps w O vs xs → TReps w' O' vs xs
  | [], [], _ => trivial
  | v :: vs, x :: xs, h => ⟨h.1.keep hle, TReps.keep hle h.2⟩
  | [], _ :: _, h => h.elim
  | _ :: _, [], h => h.elim
theorem ARep.keep (hle : Le w O w' O') {v : Value} {x : AV} (h : ARep w O v x) : ARep w' O' v x := by
  cases x with
  | one x => exact TRep.keep (x := .one x) hle h
  | agg xs => exact TRep.keep (x := .agg xs) hle h
  | tup l => obtain ⟨vs, e, h⟩ := h; exact ⟨vs, e, h.keep hle⟩
  | un => trivial
theorem TReps.len : ∀ {vs : List Value} {xs : List AV}, TReps w O vs xs → vs.length = xs.length
  | [], [], _ => rfl
  | v :: vs, x :: xs, h => by simp [h.2.len]
  | [], _ :: _, h => h.elim
  | _ :: _, [], h => h.elim
theorem TReps.get : ∀ {vs : List Value} {xs : List AV}, TReps w O vs xs → ∀ {j : Nat} {x : AV}, xs[j]? = some x → ∃ v, vs[j]? = some v ∧ TRep w O v x
  | [], [], _, j, x, hx => by simp at hx
  | v :: vs, x :: xs, h, 0, y, hy => by simp at hy; subst hy; exact ⟨v, rfl, h.1⟩
  | v :: vs, x :: xs, h, j + 1, y, hy => by simpa using h.2.get (j := j) (by simpa using hy)
  | [], _ :: _, h, _, _, _ => h.elim
  | _ :: _, [], h, _, _, _ => h.elim
end

/-! ### what the call holds itself -/
inductive OB where
  | blk (g : Nat) (T : TypeId) (xs : List LV)
  | row (r : Option (Nat × Nat)) (E sz : Nat) (ls : List (List LV))
def RReps (w : World) (O : Nat → Prop) : List (List Value) → List (List LV) → Prop
  | [], [] => True
  | v :: vs, x :: xs => XReps w O v x ∧ RReps w O vs xs
  | _, _ => False
def OBRep (w : World) (O : Nat → Prop) : OB → List Blk → Prop
  | .blk g T xs, Bo => ∃ cs, Bo = [(g, T, cs)] ∧ XReps w O cs xs
  | .row none _ sz ls, Bo => 0 < sz ∧ ls = [] ∧ Bo = []
  | .row (some (g, c)) E sz ls, Bo => 0 < sz ∧ (∀ c ∈ ls, c.length = sz) ∧ (∀ c ∈ ls, ∀ x ∈ c, x.free = true) ∧ ∃ (vss : List (List Value)) (ex : List Value), RReps w O vss ls ∧ Bo = [(g, E, vss.flatten ++ ex)] ∧ (vss.flatten ++ ex).length = c * sz ∧ ls.length ≤ c ∧ c < 2 ^ 63
def BsRep (w : World) (O : Nat → Prop) : List OB → List Blk → Prop
  | [], Bs => Bs = []
  | b :: B, Bs => ∃ Bo Bs', Bs = Bo ++ Bs' ∧ OBRep w O b Bo ∧ BsRep w O B Bs'
section
variable {w w' : World} {O O' : Nat → Prop}
theorem RReps.keep (hle : Le w O w' O') : ∀ {vs : List (List Value)} {xs : List (List LV)}, RReps w O vs xs → RReps w' O' vs xs
  | [], [], _ => trivial
  | v :: vs, x :: xs, h => ⟨h.1.keep hle, RReps.keep hle h.2⟩
  | [], _ :: _, h => h.elim
  | _ :: _, [], h => h.elim
theorem RReps.len : ∀ {vs : List (List Value)} {xs : List (List LV)}, RReps w O vs xs → vs.length = xs.length
  | [], [], _ => rfl
  | v :: vs, x :: xs, h => by simp [h.2.len]
  | [], _ :: _, h => h.elim
  | _ :: _, [], h => h.elim
theorem RReps.get : ∀ {vs : List (List Value)} {xs : List (List LV)}, RReps w O vs xs → ∀ {j : Nat} {x : List LV}, xs[j]? = some x → ∃ v, vs[j]? = some v ∧ XReps w O v x
  | [], [], _, j, x, hx => by simp at hx
  | v :: vs, x :: xs, h, 0, y, hy => by simp at hy; subst hy; exact ⟨v, rfl, h.1⟩
  | v :: vs, x :: xs, h, j + 1, y, hy => by simpa using h.2.get (j := j) (by simpa using hy)
  | [], _ :: _, h, _, _, _ => h.elim
  | _ :: _, [], h, _, _, _ => h.elim
theorem RReps.of : ∀ {vs : List (List Value)} {xs : List (List LV)}, vs.length = xs.length → (∀ (j : Nat) (v : List Value) (x : List LV), vs[j]? = some v → xs[j]? = some x → XReps w O v x) → RReps w O vs xs
  | [], [], _, _ => trivial
  | v :: vs, x :: xs, hl, h => ⟨h 0 v x rfl rfl, RReps.of (by simpa using hl) fun j u y hu hy => h (j + 1) u y (by simpa using hu) (by simpa using hy)⟩
  | [], _ :: _, h, _ => by simp at h
  | _ :: _, [], h, _ => by simp at h
theorem RReps.get' {vs : List (List Value)} {xs : List (List LV)} (h : RReps w O vs xs) {j : Nat} {x : List LV} {v : List Value} (hv : vs[j]? = some v) (hx : xs[j]? = some x) : XReps w O v x := by
  obtain ⟨u, hu, hr⟩ := h.get hx
  rw [hv] at hu; injection hu with hu; subst hu; exact hr
theorem RReps.append : ∀ {vs us : List (List Value)} {xs ys : List (List LV)}, RReps w O vs xs → RReps w O us ys → RReps w O (vs ++ us) (xs ++ ys)
  | [], _, [], _, _, h => h
  | v :: vs, _, x :: xs, _, h, h' => ⟨h.1, h.2.append h'⟩
  | [], _, _ :: _, _, h, _ => h.elim
  | _ :: _, _, [], _, h, _ => h.elim
theorem RReps.all {sz : Nat} {vs : List (List Value)} {xs : List (List LV)} (h : RReps w O vs xs) (hx : ∀ c ∈ xs, c.length = sz) : ∀ c ∈ vs, c.length = sz := by
  intro c hc
  obtain ⟨j, hj⟩ := List.mem_iff_getElem?.1 hc
  have hl := (List.getElem?_eq_some_iff.1 hj).1
  rw [h.len] at hl
  have := (h.get' hj (List.getElem?_eq_getElem hl)).len
  rw [this]; exact hx _ (List.getElem_mem hl)
theorem OBRep.keep (hle : Le w O w' O') {b : OB} {Bo : List Blk} (h : OBRep w O b Bo) : OBRep w' O' b Bo := by
  cases b with
  | blk g T xs => obtain ⟨cs, e, h⟩ := h; exact ⟨cs, e, h.keep hle⟩
  | row r E sz ls =>
    rcases r with _ | ⟨g, c⟩
    · exact h
    · obtain ⟨h1, h2, h2', vss, ex, h3, h4⟩ := h
      exact ⟨h1, h2, h2', vss, ex, h3.keep hle, h4⟩
theorem BsRep.keep (hle : Le w O w' O') : ∀ {B : List OB} {Bs : List Blk}, BsRep w O B Bs → BsRep w' O' B Bs
  | [], _, h => h
  | b :: B, Bs, h => by
    obtain ⟨Bo, Bs', e, h1, h2⟩ := h
    exact ⟨Bo, Bs', e, h1.keep hle, h2.keep hle⟩
/-- one of them set ahead -/
theorem BsRep.front : ∀ {B : List OB} {Bs : List Blk} {i : Nat} {b : OB}, BsRep w O B Bs → B[i]? = some b → ∃ Bo Bs', Bs.Perm (Bo ++ Bs') ∧ OBRep w O b Bo ∧ BsRep w O (B.eraseIdx i) Bs'
  | [], _, i, b, _, hi => by simp at hi
  | x :: B, Bs, 0, b, h, hi => by
    simp at hi; subst hi
    obtain ⟨Bo, Bs', e, h1, h2⟩ := h
    exact ⟨Bo, Bs', e ▸ .refl _, h1, h2⟩
  | x :: B, Bs, i + 1, b, h, hi => by
    obtain ⟨Bx, Bs1, e, h1, h2⟩ := h
    obtain ⟨Bo, Bs', hp, h3, h4⟩ := h2.front (i := i) (by simpa using hi)
    refine ⟨Bo, Bx ++ Bs', ?_, h3, ⟨Bx, Bs', rfl, h1, h4⟩⟩
    subst e
    refine (hp.append_left Bx).trans ?_
    rw [← List.append_assoc, ← List.append_assoc]
    exact List.perm_append_comm.append_right _
end

/-! ### the state -/
def lk : List (Nat × AV) → Nat → Option AV
  | [], _ => none
  | (t, v) :: l, s => match Nat.beq s t with
    | true => some v
    | false => lk l s
def SA (K Ob : Nat → Prop) (w0 w : World) (a : Act) (n : Nat) (L : List (Nat × AV)) (B : List OB) : Prop :=
  ∃ L' Bs, St K Ob w0 w a n L' [] Bs ∧ (∀ t x, lk L t = some x → ∃ v, look L' t = some v ∧ ARep w (owns Ob Bs) v x) ∧ BsRep w (owns Ob Bs) B Bs
def cst : Value → Option AV
  | .int k n => some (.one (.int k n))
  | .bool b => some (.one (.bool b))
  | .string s => some (.one (.str s))
  | .pointer none => some (.one .nilp)
  | .slice none 0 0 => some (.one .nils)
  | _ => none
def evA (L : List (Nat × AV)) : Operand → Option AV
  | .tmp t => lk L t
  | .const v => cst v
  | .func f => some (.one (.fn f [] []))
  | .global _ => none
def evAl (L : List (Nat × AV)) : List Operand → Option (List AV)
  | [] => some []
  | x :: r => match evA L x with
    | none => none
    | some v => match evAl L r with
      | none => none
      | some vs => some (v :: vs)
def evAp (L : List (Nat × AV)) : List (Nat × Operand) → Option (List (Nat × AV))
  | [] => some []
  | (i, x) :: r => match evA L x with
    | none => none
    | some v => match evAp L r with
      | none => none
      | some vs => some ((i, v) :: vs)
theorem cst_rep {w : World} {O : Nat → Prop} {v : Value} {x : AV} (h : cst v = some x) : ARep w O v x := by
  unfold cst at h
  split at h <;> first | cases h | (injection h with h; subst h)
  · exact LRep.int _ _
  · exact LRep.bool _
  · exact LRep.str _
  · exact LRep.nilp
  · exact LRep.nils
section
variable {K Ob : Nat → Prop} {w0 w : World} {a : Act} {n : Nat} {L : List (Nat × AV)} {B : List OB} {L' : List (Nat × Value)} {Bs : List Blk} {O : Nat → Prop}
theorem ev_of (hL : ∀ t x, lk L t = some x → ∃ v, look L' t = some v ∧ ARep w O v x) {x : Operand} {u : AV} (h : evA L x = some u) : ∃ v, ev L' x = some v ∧ ARep w O v u := by
  cases x with
  | tmp t => exact hL t u h
  | const v => exact ⟨v, rfl, cst_rep h⟩
  | func f =>
    simp only [evA, Option.some.injEq] at h
    subst h
    exact ⟨_, rfl, LRep.fn f [] [] [] [] rfl rfl (fun j v x h => by simp at h) (fun j v x h => by simp at h)⟩
  | global g => cases h
theorem evl_of (hL : ∀ t x, lk L t = some x → ∃ v, look L' t = some v ∧ ARep w O v x) : ∀ {xs : List Operand} {us : List AV}, evAl L xs = some us → ∃ vs, evl L' xs = some vs ∧ vs.length = us.length ∧ ∀ (j : Nat) (v : Value) (u : AV), vs[j]? = some v → us[j]? = some u → ARep w O v u
  | [], us, h => by simp [evAl] at h; subst h; exact ⟨[], rfl, rfl, fun j v u hv => by simp at hv⟩
  | x :: r, us, h => by
    simp only [evAl] at h
    split at h
    · cases h
    · rename_i u hx
      split at h
      · cases h
      · rename_i us' hr
        injection h with h; subst h
        obtain ⟨v, h1, h2⟩ := ev_of hL hx
        obtain ⟨vs, h3, h4, h5⟩ := evl_of hL hr
        refine ⟨v :: vs, by simp [evl, h1, h3], by simp [h4], fun j y z hy hz => ?_⟩
        cases j with
        | zero => simp at hy hz; subst hy; subst hz; exact h2
        | succ j => exact h5 j y z (by simpa using hy) (by simpa using hz)
theorem evp_of (hL : ∀ t x, lk L t = some x → ∃ v, look L' t = some v ∧ ARep w O v x) : ∀ {xs : List (Nat × Operand)} {us : List (Nat × AV)}, evAp L xs = some us → ∃ vs, evp L' xs = some vs ∧ vs.length = us.length ∧ ∀ (j : Nat) (v : Nat × Value) (u : Nat × AV), vs[j]? = some v → us[j]? = some u → v.1 = u.1 ∧ ARep w O v.2 u.2
  | [], us, h => by simp [evAp] at h; subst h; exact ⟨[], rfl, rfl, fun j v u hv => by simp at hv⟩
  | (i, x) :: r, us, h => by
    simp only [evAp] at h
    split at h
    · cases h
    · rename_i u hx
      split at h
      · cases h
      · rename_i us' hr
        injection h with h; subst h
        obtain ⟨v, h1, h2⟩ := ev_of hL hx
        obtain ⟨vs, h3, h4, h5⟩ := evp_of hL hr
        refine ⟨(i, v) :: vs, by simp [evp, h1, h3], by simp [h4], fun j y z hy hz => ?_⟩
        cases j with
        | zero => simp at hy hz; subst hy; subst hz; exact ⟨rfl, h2⟩
        | succ j => exact h5 j y z (by simpa using hy) (by simpa using hz)
/-- a slot more, memory as it is -/
theorem put_of {d : Nat} {v : Value} {u : AV} (hL : ∀ t x, lk L t = some x → ∃ v, look L' t = some v ∧ ARep w O v x) (hv : ARep w O v u) : ∀ t x, lk ((d, u) :: L) t = some x → ∃ y, look ((d, v) :: L') t = some y ∧ ARep w O y x := by
  intro t x hx
  simp only [lk] at hx
  simp only [look]
  cases e : Nat.beq t d <;> rw [e] at hx
  · exact hL t x hx
  · injection hx with hx; subst hx; exact ⟨v, rfl, hv⟩
theorem keep_of {w' : World} {O' : Nat → Prop} (hle : Le w O w' O') (hL : ∀ t x, lk L t = some x → ∃ v, look L' t = some v ∧ ARep w O v x) : ∀ t x, lk L t = some x → ∃ v, look L' t = some v ∧ ARep w' O' v x := fun t x hx => by
  obtain ⟨v, h1, h2⟩ := hL t x hx
  exact ⟨v, h1, h2.keep hle⟩
end
/-- slots that stay known -/
def pickL (L : List (Nat × AV)) : List Nat → Option (List (Nat × AV))
  | [] => some []
  | t :: ts => match lk L t with
    | none => none
    | some v => match pickL L ts with
      | none => none
      | some l => some ((t, v) :: l)
theorem lk_pick {L : List (Nat × AV)} : ∀ {ts : List Nat} {L2 : List (Nat × AV)}, pickL L ts = some L2 → ∀ {t x}, lk L2 t = some x → lk L t = some x
  | [], L2, h, t, x, hx => by simp [pickL] at h; subst h; simp [lk] at hx
  | s :: ts, L2, h, t, x, hx => by
    simp only [pickL] at h
    split at h
    · cases h
    · rename_i v hv
      split at h
      · cases h
      · rename_i l hl
        injection h with h; subst h
        simp only [lk] at hx
        split at hx
        · rename_i e
          have e : t = s := Nat.eq_of_beq_eq_true e
          injection hx with hx
          subst hx; subst e; exact hv
        · exact lk_pick hl hx
theorem SA.pick {K Ob : Nat → Prop} {w0 w : World} {a : Act} {n : Nat} {L L2 : List (Nat × AV)} {B : List OB} (h : SA K Ob w0 w a n L B) {ts : List Nat} (ht : pickL L ts = some L2) : SA K Ob w0 w a n L2 B := by
  obtain ⟨L', Bs, h1, h2, h3⟩ := h
  exact ⟨L', Bs, h1, fun t x hx => h2 t x (lk_pick ht hx), h3⟩

/-! ### what is to be shown of code, told in such data -/
abbrev Sg := List (Nat × AV)
def lift (K Ob : Nat → Prop) (w0 : World) (n : Nat) (Q : Exit → Sg → List OB → Prop) : Exit → Act → World → Prop := fun e a w => ∃ L B, SA K Ob w0 w a n L B ∧ Q e L B
def AC (P : Program) (n : Nat) (c : Code) (Q : Exit → Sg → List OB → Prop) (L : Sg) (B : List OB) : Prop :=
  ∀ K Ob w0 w a, SA K Ob w0 w a n L B → c.wp P (lift K Ob w0 n Q) a w
def AW (P : Program) (ops : Array Oper) (n : Nat) (rest : List Oper) (N : Sg → List OB → Prop) (L : Sg) (B : List OB) : Prop :=
  ∀ K Ob w0 w a (Q : Exit → Act → World → Prop), SA K Ob w0 w a n L B → (∀ a' w', (∃ L' B', SA K Ob w0 w' a' n L' B' ∧ N L' B') → Q .normal a' w') → wpList P ops Q rest a w
end Orr
