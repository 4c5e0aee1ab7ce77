/- The table of the types. Rows of limbs: cut, Norm, Cmp, Add, Sub. Rows of limbs: Add, Sub, Mul. Rows of limbs: one, Bits, Shl, Shr, wide. Rows of limbs: wide, digit. Rows of limbs: quotients. Whole numbers. Rows of whole numbers, polynomials, rationals: plain laws. Whole numbers: the greatest common divisor of a row. Polynomials as rows of whole numbers: plain laws. Rational numbers as leaves: plain laws. Curves: plain laws. Points by rising names: plain laws. Signs just after a rational time; predicates: plain laws. Certificates, told in data: plain laws. -/
import Derived.Test.YtbnjginelkkonaaGreatPart03
import Derived.Laws.StructEq
import Derived.Test.YtbnjginelkkonaaGreatProg
set_option linter.all false

namespace Orr
open Go Go.Proofs
theorem eqT_3 (d : Nat) (x y : Int) (w : World) : (Op.equalIn (d + 1) 3 (.int .i64 x) (.int .i64 y)).run Tryz.prog w = .ok (decide (x = y)) w := by
  simp [Op.equalIn, Tryz.runUnderlying3]
  rfl
def ti3 : TI Tryz.prog := tiO 3 Tryz.isAgg3 Tryz.sizeOf3 Tryz.underlying3 Tryz.zeroValue3 Tryz.typeInfo3 8 rfl
def ti4 : TI Tryz.prog := tiO 4 Tryz.isAgg4 Tryz.sizeOf4 Tryz.underlying4 Tryz.zeroValue4 Tryz.typeInfo4 1 rfl
def ti5 : TI Tryz.prog := tiO 5 Tryz.isAgg5 Tryz.sizeOf5 Tryz.underlying5 Tryz.zeroValue5 Tryz.typeInfo5 1 rfl
def ti9 : TI Tryz.prog := tiO 9 Tryz.isAgg9 Tryz.sizeOf9 Tryz.underlying9 Tryz.zeroValue9 Tryz.typeInfo9 16 rfl
def ti22 : TI Tryz.prog := tiO 22 Tryz.isAgg22 Tryz.sizeOf22 Tryz.underlying22 Tryz.zeroValue22 Tryz.typeInfo22 24 rfl
def ti23 : TI Tryz.prog := tiO 23 Tryz.isAgg23 Tryz.sizeOf23 Tryz.underlying23 Tryz.zeroValue23 Tryz.typeInfo23 8 rfl
def ti24 : TI Tryz.prog := tiO 24 Tryz.isAgg24 Tryz.sizeOf24 Tryz.underlying24 Tryz.zeroValue24 Tryz.typeInfo24 24 rfl
def ti25 : TI Tryz.prog := tiO 25 Tryz.isAgg25 Tryz.sizeOf25 Tryz.underlying25 Tryz.zeroValue25 Tryz.typeInfo25 24 rfl
def ti26 : TI Tryz.prog := tiO 26 Tryz.isAgg26 Tryz.sizeOf26 Tryz.underlying26 Tryz.zeroValue26 Tryz.typeInfo26 24 rfl
def ti27 : TI Tryz.prog := tiO 27 Tryz.isAgg27 Tryz.sizeOf27 Tryz.underlying27 Tryz.zeroValue27 Tryz.typeInfo27 24 rfl
def ti29 : TI Tryz.prog := tiS (ks := [1, 1]) (ag := [false, false]) 29 Tryz.isAgg29 Tryz.sizeOf29 Tryz.underlying29 Tryz.zeroValue29 Tryz.typeInfo29 32 rfl ⟨Tryz.sizeOf4, Tryz.sizeOf27, trivial⟩ ⟨Tryz.isAgg4, Tryz.isAgg27, trivial⟩ rfl
def ti31 : TI Tryz.prog := tiS (ks := [1, 1, 2]) (ag := [false, false, true]) 31 Tryz.isAgg31 Tryz.sizeOf31 Tryz.underlying31 Tryz.zeroValue31 Tryz.typeInfo31 80 rfl ⟨Tryz.sizeOf26, Tryz.sizeOf26, Tryz.sizeOf29, trivial⟩ ⟨Tryz.isAgg26, Tryz.isAgg26, Tryz.isAgg29, trivial⟩ rfl
def ti35 : TI Tryz.prog := tiS (ks := [4, 1]) (ag := [true, false]) 35 Tryz.isAgg35 Tryz.sizeOf35 Tryz.underlying35 Tryz.zeroValue35 Tryz.typeInfo35 88 rfl ⟨Tryz.sizeOf31, Tryz.sizeOf3, trivial⟩ ⟨Tryz.isAgg31, Tryz.isAgg3, trivial⟩ rfl
def ti36 : TI Tryz.prog := tiO 36 Tryz.isAgg36 Tryz.sizeOf36 Tryz.underlying36 Tryz.zeroValue36 Tryz.typeInfo36 8 rfl
def ti37 : TI Tryz.prog := tiO 37 Tryz.isAgg37 Tryz.sizeOf37 Tryz.underlying37 Tryz.zeroValue37 Tryz.typeInfo37 8 rfl
def ti41 : TI Tryz.prog := tiS (ks := [2, 2]) (ag := [true, true]) 41 Tryz.isAgg41 Tryz.sizeOf41 Tryz.underlying41 Tryz.zeroValue41 Tryz.typeInfo41 64 rfl ⟨Tryz.sizeOf29, Tryz.sizeOf29, trivial⟩ ⟨Tryz.isAgg29, Tryz.isAgg29, trivial⟩ rfl
def ti45 : TI Tryz.prog := tiO 45 Tryz.isAgg45 Tryz.sizeOf45 Tryz.underlying45 Tryz.zeroValue45 Tryz.typeInfo45 24 rfl
def ti47 : TI Tryz.prog := tiS (ks := [1, 1]) (ag := [false, false]) 47 Tryz.isAgg47 Tryz.sizeOf47 Tryz.underlying47 Tryz.zeroValue47 Tryz.typeInfo47 32 rfl ⟨Tryz.sizeOf45, Tryz.sizeOf4, trivial⟩ ⟨Tryz.isAgg45, Tryz.isAgg4, trivial⟩ rfl
def ti49 : TI Tryz.prog := tiS (ks := [2, 2]) (ag := [true, true]) 49 Tryz.isAgg49 Tryz.sizeOf49 Tryz.underlying49 Tryz.zeroValue49 Tryz.typeInfo49 64 rfl ⟨Tryz.sizeOf47, Tryz.sizeOf47, trivial⟩ ⟨Tryz.isAgg47, Tryz.isAgg47, trivial⟩ rfl
def ti55 : TI Tryz.prog := tiO 55 Tryz.isAgg55 Tryz.sizeOf55 Tryz.underlying55 Tryz.zeroValue55 Tryz.typeInfo55 8 rfl
def ti67 : TI Tryz.prog := tiS (ks := [1, 4, 4]) (ag := [false, true, true]) 67 Tryz.isAgg67 Tryz.sizeOf67 Tryz.underlying67 Tryz.zeroValue67 Tryz.typeInfo67 152 rfl ⟨Tryz.sizeOf26, Tryz.sizeOf41, Tryz.sizeOf41, trivial⟩ ⟨Tryz.isAgg26, Tryz.isAgg41, Tryz.isAgg41, trivial⟩ rfl
def ti68 : TI Tryz.prog := tiO 68 Tryz.isAgg68 Tryz.sizeOf68 Tryz.underlying68 Tryz.zeroValue68 Tryz.typeInfo68 24 rfl
def ti70 : TI Tryz.prog := tiS (ks := [1, 9, 1, 1]) (ag := [false, true, false, false]) 70 Tryz.isAgg70 Tryz.sizeOf70 Tryz.underlying70 Tryz.zeroValue70 Tryz.typeInfo70 192 rfl ⟨Tryz.sizeOf4, Tryz.sizeOf67, Tryz.sizeOf68, Tryz.sizeOf3, trivial⟩ ⟨Tryz.isAgg4, Tryz.isAgg67, Tryz.isAgg68, Tryz.isAgg3, trivial⟩ rfl
def ti72 : TI Tryz.prog := tiS (ks := [1]) (ag := [false]) 72 Tryz.isAgg72 Tryz.sizeOf72 Tryz.underlying72 Tryz.zeroValue72 Tryz.typeInfo72 24 rfl ⟨Tryz.sizeOf24, trivial⟩ ⟨Tryz.isAgg24, trivial⟩ rfl
def ti74 : TI Tryz.prog := tiS (ks := [12, 1, 1]) (ag := [true, true, false]) 74 Tryz.isAgg74 Tryz.sizeOf74 Tryz.underlying74 Tryz.zeroValue74 Tryz.typeInfo74 240 rfl ⟨Tryz.sizeOf70, Tryz.sizeOf72, Tryz.sizeOf24, trivial⟩ ⟨Tryz.isAgg70, Tryz.isAgg72, Tryz.isAgg24, trivial⟩ rfl
def ti77 : TI Tryz.prog := tiO 77 Tryz.isAgg77 Tryz.sizeOf77 Tryz.underlying77 Tryz.zeroValue77 Tryz.typeInfo77 24 rfl
def ti84 : TI Tryz.prog := tiO 84 Tryz.isAgg84 Tryz.sizeOf84 Tryz.underlying84 Tryz.zeroValue84 Tryz.typeInfo84 24 rfl
def ti86 : TI Tryz.prog := tiS (ks := [12, 1, 1, 1]) (ag := [true, true, false, false]) 86 Tryz.isAgg86 Tryz.sizeOf86 Tryz.underlying86 Tryz.zeroValue86 Tryz.typeInfo86 264 rfl ⟨Tryz.sizeOf70, Tryz.sizeOf72, Tryz.sizeOf24, Tryz.sizeOf84, trivial⟩ ⟨Tryz.isAgg70, Tryz.isAgg72, Tryz.isAgg24, Tryz.isAgg84, trivial⟩ rfl
def ti88 : TI Tryz.prog := tiO 88 Tryz.isAgg88 Tryz.sizeOf88 Tryz.underlying88 Tryz.zeroValue88 Tryz.typeInfo88 8 rfl
def ti93 : TI Tryz.prog := tiO 93 Tryz.isAgg93 Tryz.sizeOf93 Tryz.underlying93 Tryz.zeroValue93 Tryz.typeInfo93 24 rfl
set_option maxRecDepth 20000 in
theorem eqT_94' (d : Nat) (x0 x1 y0 y1 : Int) (w : World) : (Op.equalIn (d + 1 + 1) 94 (.agg #[.int .i64 x0, .int .i64 x1]) (.agg #[.int .i64 y0, .int .i64 y1])).run Tryz.prog w = .ok (decide ([x0, x1] = [y0, y1])) w := by
  rw [run_equalIn_array w (d + 1) _ _ (n := 2) (e := 3) rfl rfl]
  rw [show List.range 2 = [0, 1] from rfl, show Tryz.prog.cellsOf 3 = 1 from rfl]
  simp [Op.eqItems, Go.part, Tryz.isAgg3, eqT_3]
  by_cases h0 : x0 = y0 <;> by_cases h1 : x1 = y1 <;> simp [h0, h1]
theorem eqT_94 (a b : List Int) (ha : a.length = 2) (hb : b.length = 2) (w : World) : (Op.equal 94 (.agg (a.map (Value.int .i64)).toArray) (.agg (b.map (Value.int .i64)).toArray)).run Tryz.prog w = .ok (decide (a = b)) w := by
  match a, ha, b, hb with
  | [x0, x1], _, [y0, y1], _ => exact eqT_94' 9998 x0 x1 y0 y1 w
def ti94 : TI Tryz.prog := { tiA 94 Tryz.isAgg94 Tryz.sizeOf94 Tryz.underlying94 Tryz.zeroValue94 Tryz.typeInfo94 16 rfl Tryz.sizeOf3 with eqn := some 2, heq := fun k h => by injection h with h; subst h; exact ⟨Tryz.eqGuardType94, eqT_94⟩ }
def ti96 : TI Tryz.prog := tiS (ks := [12, 1, 1]) (ag := [true, true, false]) 96 Tryz.isAgg96 Tryz.sizeOf96 Tryz.underlying96 Tryz.zeroValue96 Tryz.typeInfo96 240 rfl ⟨Tryz.sizeOf70, Tryz.sizeOf72, Tryz.sizeOf24, trivial⟩ ⟨Tryz.isAgg70, Tryz.isAgg72, Tryz.isAgg24, trivial⟩ rfl
def ti97 : TI Tryz.prog := tiO 97 Tryz.isAgg97 Tryz.sizeOf97 Tryz.underlying97 Tryz.zeroValue97 Tryz.typeInfo97 24 rfl
def ti99 : TI Tryz.prog := tiO 99 Tryz.isAgg99 Tryz.sizeOf99 Tryz.underlying99 Tryz.zeroValue99 Tryz.typeInfo99 24 rfl
def ti100 : TI Tryz.prog := tiO 100 Tryz.isAgg100 Tryz.sizeOf100 Tryz.underlying100 Tryz.zeroValue100 Tryz.typeInfo100 24 rfl
def ti102 : TI Tryz.prog := tiS (ks := [1, 1, 4, 4]) (ag := [false, false, true, true]) 102 Tryz.isAgg102 Tryz.sizeOf102 Tryz.underlying102 Tryz.zeroValue102 Tryz.typeInfo102 176 rfl ⟨Tryz.sizeOf99, Tryz.sizeOf100, Tryz.sizeOf49, Tryz.sizeOf49, trivial⟩ ⟨Tryz.isAgg99, Tryz.isAgg100, Tryz.isAgg49, Tryz.isAgg49, trivial⟩ rfl
def ti103 : TI Tryz.prog := tiO 103 Tryz.isAgg103 Tryz.sizeOf103 Tryz.underlying103 Tryz.zeroValue103 Tryz.typeInfo103 24 rfl
def ti104 : TI Tryz.prog := tiO 104 Tryz.isAgg104 Tryz.sizeOf104 Tryz.underlying104 Tryz.zeroValue104 Tryz.typeInfo104 24 rfl
def ti106 : TI Tryz.prog := tiS (ks := [10, 1, 1, 1]) (ag := [true, false, false, false]) 106 Tryz.isAgg106 Tryz.sizeOf106 Tryz.underlying106 Tryz.zeroValue106 Tryz.typeInfo106 232 rfl ⟨Tryz.sizeOf102, Tryz.sizeOf103, Tryz.sizeOf3, Tryz.sizeOf104, trivial⟩ ⟨Tryz.isAgg102, Tryz.isAgg103, Tryz.isAgg3, Tryz.isAgg104, trivial⟩ rfl
def ti108 : TI Tryz.prog := tiS (ks := [1, 4, 13]) (ag := [false, true, true]) 108 Tryz.isAgg108 Tryz.sizeOf108 Tryz.underlying108 Tryz.zeroValue108 Tryz.typeInfo108 320 rfl ⟨Tryz.sizeOf97, Tryz.sizeOf49, Tryz.sizeOf106, trivial⟩ ⟨Tryz.isAgg97, Tryz.isAgg49, Tryz.isAgg106, trivial⟩ rfl
def ti110 : TI Tryz.prog := tiS (ks := [1, 1, 4]) (ag := [false, false, true]) 110 Tryz.isAgg110 Tryz.sizeOf110 Tryz.underlying110 Tryz.zeroValue110 Tryz.typeInfo110 128 rfl ⟨Tryz.sizeOf99, Tryz.sizeOf99, Tryz.sizeOf31, trivial⟩ ⟨Tryz.isAgg99, Tryz.isAgg99, Tryz.isAgg31, trivial⟩ rfl
def ti112 : TI Tryz.prog := tiS (ks := [6, 1]) (ag := [true, false]) 112 Tryz.isAgg112 Tryz.sizeOf112 Tryz.underlying112 Tryz.zeroValue112 Tryz.typeInfo112 136 rfl ⟨Tryz.sizeOf110, Tryz.sizeOf3, trivial⟩ ⟨Tryz.isAgg110, Tryz.isAgg3, trivial⟩ rfl
def ti128 : TI Tryz.prog := tiS (ks := [1, 4, 13]) (ag := [false, true, true]) 128 Tryz.isAgg128 Tryz.sizeOf128 Tryz.underlying128 Tryz.zeroValue128 Tryz.typeInfo128 320 rfl ⟨Tryz.sizeOf97, Tryz.sizeOf49, Tryz.sizeOf106, trivial⟩ ⟨Tryz.isAgg97, Tryz.isAgg49, Tryz.isAgg106, trivial⟩ rfl
def ti134 : TI Tryz.prog := tiS (ks := [1, 4, 13]) (ag := [false, true, true]) 134 Tryz.isAgg134 Tryz.sizeOf134 Tryz.underlying134 Tryz.zeroValue134 Tryz.typeInfo134 320 rfl ⟨Tryz.sizeOf97, Tryz.sizeOf49, Tryz.sizeOf106, trivial⟩ ⟨Tryz.isAgg97, Tryz.isAgg49, Tryz.isAgg106, trivial⟩ rfl
def ti136 : TI Tryz.prog := tiO 136 Tryz.isAgg136 Tryz.sizeOf136 Tryz.underlying136 Tryz.zeroValue136 Tryz.typeInfo136 8 rfl
set_option maxRecDepth 20000 in
theorem eqT_157' (d : Nat) (x0 x1 x2 x3 y0 y1 y2 y3 : Int) (w : World) : (Op.equalIn (d + 1 + 1) 157 (.agg #[.int .i64 x0, .int .i64 x1, .int .i64 x2, .int .i64 x3]) (.agg #[.int .i64 y0, .int .i64 y1, .int .i64 y2, .int .i64 y3])).run Tryz.prog w = .ok (decide ([x0, x1, x2, x3] = [y0, y1, y2, y3])) w := by
  rw [run_equalIn_array w (d + 1) _ _ (n := 4) (e := 3) rfl rfl]
  rw [show List.range 4 = [0, 1, 2, 3] from rfl, show Tryz.prog.cellsOf 3 = 1 from rfl]
  simp [Op.eqItems, Go.part, Tryz.isAgg3, eqT_3]
  by_cases h0 : x0 = y0 <;> by_cases h1 : x1 = y1 <;> by_cases h2 : x2 = y2 <;> by_cases h3 : x3 = y3 <;> simp [h0, h1, h2, h3]
def ti157 : TI Tryz.prog := tiA 157 Tryz.isAgg157 Tryz.sizeOf157 Tryz.underlying157 Tryz.zeroValue157 Tryz.typeInfo157 32 rfl Tryz.sizeOf3
set_option maxRecDepth 20000 in
theorem eqT_159' (d : Nat) (x x0 x1 x2 x3 y y0 y1 y2 y3 : Int) (w : World) : (Op.equalIn (d + 1 + 1 + 1) 159 (.agg #[.int .i64 x, .int .i64 x0, .int .i64 x1, .int .i64 x2, .int .i64 x3]) (.agg #[.int .i64 y, .int .i64 y0, .int .i64 y1, .int .i64 y2, .int .i64 y3])).run Tryz.prog w = .ok (decide ([x, x0, x1, x2, x3] = [y, y0, y1, y2, y3])) w := by
  rw [run_equalIn_struct w (d + 1 + 1) 159 _ _ rfl Tryz.stoodInHeld159]
  have hf : (Tryz.prog.fieldsOf 159).toList = [{ name := "Kind", type := 3, offset := 0, embedded := false, tag := "", pkgPath := "", byteOffset := 0 }, { name := "Ids", type := 157, offset := 1, embedded := false, tag := "", pkgPath := "", byteOffset := 8 }] := by simp [Program.fieldsOf, Tryz.underlying159]
  rw [hf]
  simp [Op.eqFields, Go.part, Tryz.isAgg3, Tryz.isAgg157, Tryz.sizeOf157, Tryz.sizeOf3, eqT_3, eqT_157']
  by_cases h : x = y <;> by_cases h0 : x0 = y0 <;> by_cases h1 : x1 = y1 <;> by_cases h2 : x2 = y2 <;> by_cases h3 : x3 = y3 <;> simp [h, h0, h1, h2, h3]
theorem eqT_159 (a b : List Int) (ha : a.length = 5) (hb : b.length = 5) (w : World) : (Op.equal 159 (.agg (a.map (Value.int .i64)).toArray) (.agg (b.map (Value.int .i64)).toArray)).run Tryz.prog w = .ok (decide (a = b)) w := by
  match a, ha, b, hb with
  | [x, x0, x1, x2, x3], _, [y, y0, y1, y2, y3], _ => exact eqT_159' 9997 x x0 x1 x2 x3 y y0 y1 y2 y3 w
def ti159 : TI Tryz.prog := { tiS (ks := [1, 4]) (ag := [false, true]) 159 Tryz.isAgg159 Tryz.sizeOf159 Tryz.underlying159 Tryz.zeroValue159 Tryz.typeInfo159 40 rfl ⟨Tryz.sizeOf3, Tryz.sizeOf157, trivial⟩ ⟨Tryz.isAgg3, Tryz.isAgg157, trivial⟩ rfl with eqn := some 5, heq := fun k h => by injection h with h; subst h; exact ⟨Tryz.eqGuardType159, eqT_159⟩ }
def ti161 : TI Tryz.prog := tiS (ks := [5, 1, 1]) (ag := [true, false, false]) 161 Tryz.isAgg161 Tryz.sizeOf161 Tryz.underlying161 Tryz.zeroValue161 Tryz.typeInfo161 72 rfl ⟨Tryz.sizeOf159, Tryz.sizeOf26, Tryz.sizeOf3, trivial⟩ ⟨Tryz.isAgg159, Tryz.isAgg26, Tryz.isAgg3, trivial⟩ rfl
def ti164 : TI Tryz.prog := tiS (ks := [7, 1, 1, 9]) (ag := [true, false, false, true]) 164 Tryz.isAgg164 Tryz.sizeOf164 Tryz.underlying164 Tryz.zeroValue164 Tryz.typeInfo164 232 rfl ⟨Tryz.sizeOf161, Tryz.sizeOf4, Tryz.sizeOf4, Tryz.sizeOf67, trivial⟩ ⟨Tryz.isAgg161, Tryz.isAgg4, Tryz.isAgg4, Tryz.isAgg67, trivial⟩ rfl
def ti169 : TI Tryz.prog := tiO 169 Tryz.isAgg169 Tryz.sizeOf169 Tryz.underlying169 Tryz.zeroValue169 Tryz.typeInfo169 4 rfl
def ti182 : TI Tryz.prog := tiS (ks := [12, 1, 1]) (ag := [true, true, false]) 182 Tryz.isAgg182 Tryz.sizeOf182 Tryz.underlying182 Tryz.zeroValue182 Tryz.typeInfo182 240 rfl ⟨Tryz.sizeOf70, Tryz.sizeOf72, Tryz.sizeOf24, trivial⟩ ⟨Tryz.isAgg70, Tryz.isAgg72, Tryz.isAgg24, trivial⟩ rfl
def ti189 : TI Tryz.prog := tiO 189 Tryz.isAgg189 Tryz.sizeOf189 Tryz.underlying189 Tryz.zeroValue189 Tryz.typeInfo189 8 rfl
def ti192 : TI Tryz.prog := tiO 192 Tryz.isAgg192 Tryz.sizeOf192 Tryz.underlying192 Tryz.zeroValue192 Tryz.typeInfo192 8 rfl
def ti206 : TI Tryz.prog := tiO 206 Tryz.isAgg206 Tryz.sizeOf206 Tryz.underlying206 Tryz.zeroValue206 Tryz.typeInfo206 24 rfl
def ti212 : TI Tryz.prog := tiA 212 Tryz.isAgg212 Tryz.sizeOf212 Tryz.underlying212 Tryz.zeroValue212 Tryz.typeInfo212 176 rfl Tryz.sizeOf35
def ti252 : TI Tryz.prog := tiO 252 Tryz.isAgg252 Tryz.sizeOf252 Tryz.underlying252 Tryz.zeroValue252 Tryz.typeInfo252 24 rfl
def ti265 : TI Tryz.prog := tiS (ks := [5, 1, 1, 1, 1]) (ag := [true, false, false, false, false]) 265 Tryz.isAgg265 Tryz.sizeOf265 Tryz.underlying265 Tryz.zeroValue265 Tryz.typeInfo265 104 rfl ⟨Tryz.sizeOf159, Tryz.sizeOf99, Tryz.sizeOf3, Tryz.sizeOf104, Tryz.sizeOf4, trivial⟩ ⟨Tryz.isAgg159, Tryz.isAgg99, Tryz.isAgg3, Tryz.isAgg104, Tryz.isAgg4, trivial⟩ rfl
def ti278 : TI Tryz.prog := tiO 278 Tryz.isAgg278 Tryz.sizeOf278 Tryz.underlying278 Tryz.zeroValue278 Tryz.typeInfo278 24 rfl
def ti299 : TI Tryz.prog := tiS (ks := [1]) (ag := [false]) 299 Tryz.isAgg299 Tryz.sizeOf299 Tryz.underlying299 Tryz.zeroValue299 Tryz.typeInfo299 24 rfl ⟨Tryz.sizeOf278, trivial⟩ ⟨Tryz.isAgg278, trivial⟩ rfl
def ti303 : TI Tryz.prog := tiO 303 Tryz.isAgg303 Tryz.sizeOf303 Tryz.underlying303 Tryz.zeroValue303 Tryz.typeInfo303 24 rfl
def ti317 : TI Tryz.prog := tiO 317 Tryz.isAgg317 Tryz.sizeOf317 Tryz.underlying317 Tryz.zeroValue317 Tryz.typeInfo317 24 rfl
def ti320 : TI Tryz.prog := tiA 320 Tryz.isAgg320 Tryz.sizeOf320 Tryz.underlying320 Tryz.zeroValue320 Tryz.typeInfo320 272 rfl Tryz.sizeOf112
def ti350 : TI Tryz.prog := tiO 350 Tryz.isAgg350 Tryz.sizeOf350 Tryz.underlying350 Tryz.zeroValue350 Tryz.typeInfo350 24 rfl
def ti351 : TI Tryz.prog := tiO 351 Tryz.isAgg351 Tryz.sizeOf351 Tryz.underlying351 Tryz.zeroValue351 Tryz.typeInfo351 24 rfl
def tt : TT Tryz.prog := (.nd (.nd (.nd (.nd (.nd (.nd (.nd .nil ti3 .nil) ti4 .nil) ti5 (.nd .nil ti9 .nil)) ti22 (.nd (.nd .nil ti23 .nil) ti24 (.nd .nil ti25 .nil))) ti26 (.nd (.nd (.nd .nil ti27 .nil) ti29 (.nd .nil ti31 .nil)) ti35 (.nd (.nd .nil ti36 .nil) ti37 (.nd .nil ti41 .nil)))) ti45 (.nd (.nd (.nd (.nd .nil ti47 .nil) ti49 (.nd .nil ti55 .nil)) ti67 (.nd (.nd .nil ti68 .nil) ti70 (.nd .nil ti72 .nil))) ti74 (.nd (.nd (.nd .nil ti77 .nil) ti84 (.nd .nil ti86 .nil)) ti88 (.nd (.nd .nil ti93 .nil) ti94 (.nd .nil ti96 .nil))))) ti97 (.nd (.nd (.nd (.nd (.nd .nil ti99 .nil) ti100 (.nd .nil ti102 .nil)) ti103 (.nd (.nd .nil ti104 .nil) ti106 (.nd .nil ti108 .nil))) ti110 (.nd (.nd (.nd .nil ti112 .nil) ti128 (.nd .nil ti134 .nil)) ti136 (.nd (.nd .nil ti157 .nil) ti159 (.nd .nil ti161 .nil)))) ti164 (.nd (.nd (.nd (.nd .nil ti169 .nil) ti182 (.nd .nil ti189 .nil)) ti192 (.nd (.nd .nil ti206 .nil) ti212 (.nd .nil ti252 .nil))) ti265 (.nd (.nd (.nd .nil ti278 .nil) ti299 (.nd .nil ti303 .nil)) ti317 (.nd (.nd .nil ti320 .nil) ti350 (.nd .nil ti351 .nil))))))
instance : Mo Tryz.prog := ⟨rfl⟩
end Orr

namespace Orr
open Go Go.Proofs
set_option maxRecDepth 10000
def lm (l : List Nat) : List (List LV) := l.map fun (x : Nat) => [.int .u32 (x : Int)]
abbrev lr (l : List Nat) : TV := .one (.row (lm l))
theorem lm_len (l : List Nat) : (lm l).length = l.length := by simp [lm]
theorem lm_get {l : List Nat} {i x : Nat} (h : l[i]? = some x) : (lm l)[i]? = some [.int .u32 (x : Int)] := by simp [lm, h]
def trm : List Nat → List Nat
  | [] => []
  | x :: l => match trm l with
    | [] => if x = 0 then [] else [x]
    | r => x :: r
theorem trm_nil {l : List Nat} : trm l = [] ↔ ∀ x ∈ l, x = 0 := by
  induction l with
  | nil => simp [trm]
  | cons x l ih =>
    simp only [trm]
    split
    · rename_i e
      have h1 := ih.1 e
      by_cases h : x = 0
      · simp [h]; exact h1
      · simp [h]
    · rename_i r hne
      simp only [reduceCtorEq, List.mem_cons, forall_eq_or_imp, false_iff, not_and]
      exact fun _ h => hne (ih.2 h)
theorem trm_take : ∀ {l : List Nat} {n : Nat}, n ≤ l.length → (∀ j, n ≤ j → j < l.length → l[j]? = some 0) → (n = 0 ∨ ∃ x, l[n - 1]? = some x ∧ x ≠ 0) → l.take n = trm l
  | [], n, h, _, _ => by simp at h; subst h; rfl
  | x :: l, 0, h, hz, _ => by
    rw [List.take_zero]
    refine (trm_nil.2 fun y hy => ?_).symm
    obtain ⟨j, hj⟩ := List.mem_iff_getElem?.1 hy
    have := hz j (Nat.zero_le _) (List.getElem?_eq_some_iff.1 hj).1
    rw [hj] at this; injection this
  | x :: l, n + 1, h, hz, ht => by
    simp only [List.length_cons, Nat.add_le_add_iff_right] at h
    have hz' : ∀ j, n ≤ j → j < l.length → l[j]? = some 0 := fun j h1 h2 => by simpa using hz (j + 1) (by omega) (by simpa using h2)
    cases n with
    | zero =>
      have e : trm l = [] := (trm_take (n := 0) h hz' (.inl rfl)).symm
      rcases ht with h | ⟨y, h1, h2⟩
      · omega
      · simp at h1; subst h1; simp [trm, e, h2]
    | succ n =>
      have ih := trm_take (n := n + 1) h hz' (.inr (by rcases ht with h | ⟨y, h1, h2⟩; (· omega); exact ⟨y, by simpa using h1, h2⟩))
      simp only [List.take_succ_cons, trm]
      rw [← ih]
      cases hl : l with
      | nil => rw [hl] at h; simp at h
      | cons y l' => simp [List.take_succ_cons]
theorem t_cut (l : List Nat) : Does Tryz.prog 172 [lr l] [lr (trm l)] := by
  refine fnD Tryz.func172 rfl (ln 0 rfl rfl fun hl => ?_)
  rw [lm_len] at hl
  refine go tt [] rfl trivial ?_
  refine lp (S := Nat) 0 (fun L1 n => (3, .v (.one (.int .i64 (n : Int)))) :: L1) (fun _ => []) id (fun n => n ≤ l.length ∧ ∀ j, n ≤ j → j < l.length → l[j]? = some 0) (lm l).length ⟨by rw [lm_len]; exact Nat.le_refl _, fun j h1 h2 => by rw [lm_len] at h1; omega⟩ rfl (fun _ _ => rfl) rfl fun n ⟨h1, h2⟩ => ?_
  cases n with
  | zero => exact en tt [.f (by simp), .f rfl, .i 0] rfl (by rw [← trm_take h1 h2 (.inl rfl)]; simp [lm]) (by simp [AllP, appP])
  | succ n =>
    obtain ⟨x, hx⟩ : ∃ x, l[n]? = some x := ⟨_, List.getElem?_eq_getElem (by omega)⟩
    by_cases h0 : x = 0
    · refine go tt [.t (by simp), .r 11 (v := .one (.int .i64 (n : Int))) (by simp), .x (lm_get hx), .t (by simp [h0]), .r 17 (v := .one (.int .i64 (n : Int))) (by simp)] rfl (by simp [AllP, appP]; omega) ?_
      exact rd n (by simp) ⟨by omega, fun j h3 h4 => by
          rcases Nat.eq_or_lt_of_le h3 with rfl | h3
          · rw [hx, h0]
          · exact h2 j h3 h4⟩ rfl
    · exact en tt [.t (by simp), .r 11 (v := .one (.int .i64 (n : Int))) (by simp), .x (lm_get hx), .f (by simp [h0]), .i (n + 1)] rfl (by rw [← trm_take h1 h2 (.inr ⟨x, hx, h0⟩)]; simp [lm]) (by simp [AllP, appP, lm_len] <;> omega)
def Sm (l : List Nat) : Prop := ∀ x ∈ l, x < 4294967296
theorem trm_cut : ∀ l : List Nat, Cut l (trm l).length ∧ l.take (trm l).length = trm l
  | [] => ⟨⟨Nat.le_refl _, fun j _ h => by simp at h, fun h => by simp [trm] at h⟩, rfl⟩
  | x :: l => by
    obtain ⟨⟨h1, h2, h3⟩, h4⟩ := trm_cut l
    simp only [trm]
    split
    · rename_i e
      rw [e] at h2 h3
      by_cases h : x = 0
      · rw [if_pos h]
        refine ⟨⟨Nat.zero_le _, fun j _ hj => ?_, fun h => by simp at h⟩, rfl⟩
        cases j with
        | zero => simp [h]
        | succ j => simpa using h2 j (Nat.zero_le _) (by simpa using hj)
      · rw [if_neg h]
        refine ⟨⟨by simp, fun j h5 hj => ?_, fun _ => ⟨x, rfl, h⟩⟩, rfl⟩
        cases j with
        | zero => simp at h5
        | succ j => simpa using h2 j (Nat.zero_le _) (by simpa using hj)
    · rename_i r hne
      refine ⟨⟨by simp [h1], fun j h5 hj => ?_, fun _ => ?_⟩, by simp [h4]⟩
      · cases j with
        | zero => simp at h5
        | succ j => simpa using h2 j (by simpa using h5) (by simpa using hj)
      · have hp : 0 < (trm l).length := by
          cases e : trm l with
          | nil => exact absurd e hne
          | cons => simp
        obtain ⟨y, h5, h6⟩ := h3 hp
        refine ⟨y, ?_, h6⟩
        rw [List.length_cons, show (trm l).length + 1 - 1 = ((trm l).length - 1) + 1 from by omega]
        simpa using h5
theorem trm_limbs {l : List Nat} (h : Sm l) : trm l = limbs (val l) := by
  obtain ⟨h1, h2⟩ := trm_cut l
  refine limbs_of ?_ ?_
  · rw [← h2]; exact cut_nrm h1 h
  · rw [← h2]; exact cut_val h1
theorem sm_limbs (x : Nat) : Sm (limbs x) := (nrm_limbs x).1
theorem limbs_len {x k : Nat} (h : sz x ≤ k) : 32 * (limbs x).length ≤ k + 31 := by
  have := nrm_len (nrm_limbs x)
  rw [val_limbs] at this; omega
theorem c_cut {l : List Nat} (h : Sm l) : Does Tryz.prog 172 [lr l] [lr (limbs (val l))] := trm_limbs h ▸ t_cut l
theorem lm_one (l : List Nat) : ∀ c ∈ lm l, c.length = 1 := fun c hc => by
  obtain ⟨x, _, rfl⟩ := List.mem_map.1 hc; rfl
theorem c_Norm {l : List Nat} (h : Sm l) (hs : sz (val l) ≤ 4294967296) : Does Tryz.prog 123 [lr l] [lr (limbs (val l))] :=
  w tt Tryz.func123 rfl [.c [] (c_cut h), .s (lm_one (limbs (val l)))] rfl rfl (by have := limbs_len hs; simp [AllP, appP, lm_len]; omega)
theorem cutd {a : List Nat} (ha : Sm a) : ∃ p, Does Tryz.prog 172 [lr a] [lr p] ∧ Nrm p ∧ val p = val a ∧ p.length ≤ a.length ∧ p = limbs (val a) :=
  ⟨_, c_cut ha, nrm_limbs _, val_limbs _, by rw [← trm_limbs ha]; exact (trm_cut a).1.1, rfl⟩
theorem c_Cmp {a b : List Nat} (ha : Sm a) (hb : Sm b) : Does Tryz.prog 216 [lr a, lr b] [.one (.int .i64 (cmpN (val a) (val b)))] := by
  refine fnD Tryz.func216 rfl (ln 0 rfl rfl fun hl => ln 1 rfl rfl fun hl' => ?_)
  rw [lm_len] at hl hl'
  obtain ⟨p, ca, np, vp, lp', _⟩ := cutd ha
  obtain ⟨q, cb, nq, vq, lq, _⟩ := cutd hb
  rw [← vp, ← vq]
  by_cases h : p.length = q.length
  · refine go tt [.c [] ca, .c [] cb, .f (by simp [lm_len, h])] rfl (by simp [AllP, appP, lm_len] <;> omega) ?_
    refine lp (S := Int) 0 (fun L1 i => (5, .v (.one (.int .i64 i))) :: L1) (fun _ => []) (fun i => (i + 1).toNat) (fun i => -1 ≤ i ∧ i < p.length ∧ p.drop (i + 1).toNat = q.drop (i + 1).toNat) (((lm p).length : Int) - 1) ⟨by omega, by simp [lm_len]; omega, by simp [lm_len, h]⟩ rfl (fun _ _ => rfl) rfl fun i ⟨h1, h2, h3⟩ => ?_
    rcases Int.lt_or_le i 0 with hi | hi
    · obtain rfl : i = -1 := by omega
      exact en tt [.f (by decide)] rfl (by rw [cmpN_eq]; exact congrArg val (by simpa using h3)) trivial
    · obtain ⟨k, rfl⟩ := Int.eq_ofNat_of_zero_le hi
      have e : ((k : Int) + 1).toNat = k + 1 := by omega
      rw [e] at h3
      obtain ⟨x, hx⟩ : ∃ x, p[k]? = some x := ⟨_, List.getElem?_eq_getElem (by omega)⟩
      obtain ⟨y, hy⟩ : ∃ y, q[k]? = some y := ⟨_, List.getElem?_eq_getElem (by omega)⟩
      rcases Nat.lt_trichotomy x y with hxy | rfl | hxy
      · exact en tt [.t (by simp), .x (lm_get hx), .x (lm_get hy), .t (by simp; omega)] rfl (by rw [cmpN_lt (val_top np.1 h3 hx hy hxy)]) (by simp [AllP, appP, lm_len] <;> omega)
      · refine go tt [.t (by simp), .x (lm_get hx), .x (lm_get hy), .f (by simp), .x (lm_get hx), .x (lm_get hy), .f (by simp)] rfl (by simp [AllP, appP, lm_len] <;> omega) ?_
        exact rd ((k : Int) - 1) (by omega) ⟨by omega, by omega, by rw [show ((k : Int) - 1 + 1).toNat = k from by omega]; exact drop_same h3 hx hy⟩ rfl
      · exact en tt [.t (by simp), .x (lm_get hx), .x (lm_get hy), .f (by simp; omega), .x (lm_get hx), .x (lm_get hy), .t (by simp; omega)] rfl (by rw [cmpN_gt (val_top nq.1 h3.symm hy hx hxy)]) (by simp [AllP, appP, lm_len] <;> omega)
  · by_cases h2 : p.length < q.length
    · exact en tt [.c [] ca, .c [] cb, .t (by simp [lm_len]; omega), .t (by simp [lm_len]; omega)] rfl (by rw [cmpN_lt (nrm_lt_of_len np nq h2)]) (by simp [AllP, appP])
    · exact en tt [.c [] ca, .c [] cb, .t (by simp [lm_len]; omega), .f (by simp [lm_len]; omega)] rfl (by rw [cmpN_gt (nrm_lt_of_len nq np (by omega))]) (by simp [AllP, appP])
end Orr

namespace Orr
open Go Go.Proofs
set_option maxRecDepth 10000
theorem rep_lm (m : Nat) : List.replicate m [LV.int .u32 0] = lm (List.replicate m 0) := by simp [lm]
theorem lm_set (l : List Nat) (i x : Nat) : (lm l).set i [.int .u32 (x : Int)] = lm (l.set i x) := by simp [lm, List.map_set]
theorem e64 {a b : Int} (h : a = b) : TV.one (LV.int .u64 a) = .one (.int .u64 b) := h ▸ rfl
theorem e32 {a b : Int} (h : a = b) : TV.one (LV.int .u32 a) = .one (.int .u32 b) := h ▸ rfl
theorem eI {a b : Int} (h : a = b) : TV.one (LV.int .i64 a) = .one (.int .i64 b) := h ▸ rfl
theorem w32 (z : Int) : IntKind.u32.wrap z = z % 4294967296 := by simp [IntKind.wrap, IntKind.bits, IntKind.signed]
theorem w64 (z : Int) : IntKind.u64.wrap z = z % 18446744073709551616 := by simp [IntKind.wrap, IntKind.bits, IntKind.signed]
theorem c_Add {a b : List Nat} (ha : Sm a) (hb : Sm b) (h1 : sz (val a) ≤ 4294967296) (h2 : sz (val b) ≤ 4294967296) : Does Tryz.prog 166 [lr a, lr b] [lr (limbs (val a + val b))] := by
  refine fnD Tryz.func166 rfl ?_
  obtain ⟨p, ca, np, vp, _, ep⟩ := cutd ha
  obtain ⟨q, cb, nq, vq, _, eq⟩ := cutd hb
  have lp' := limbs_len h1
  have lq := limbs_len h2
  rw [← ep] at lp'
  rw [← eq] at lq
  rw [← vp, ← vq]
  refine go tt [.c [] ca, .c [] cb] rfl trivial ?_
  refine ct 1 (S := List Nat × List Nat) (fun s => [(0, .v (lr s.1)), (1, .v (lr s.2))]) (fun _ => []) (fun s => Nrm s.1 ∧ Nrm s.2 ∧ 32 * s.1.length ≤ 4294967327 ∧ s.2.length ≤ s.1.length ∧ val s.1 + val s.2 = val p + val q) rfl ?_ ?_
  · by_cases h : p.length < q.length
    · exact go tt [.t (by simp [lm_len]; omega)] rfl trivial (rc (q, p) ⟨nq, np, lq, Nat.le_of_lt h, Nat.add_comm _ _⟩ rfl)
    · exact go tt [.f (by simp [lm_len]; omega)] rfl trivial (rc (p, q) ⟨np, nq, lp', Nat.le_of_not_lt h, rfl⟩ rfl)
  · intro ⟨p', q'⟩ ⟨np, nq, hp, hq, e⟩
    dsimp only at np nq hp hq e
    rw [← e]
    clear ca cb e vp vq ep eq
    refine go tt [.i ((lm p').length + 1), .i ((lm p').length + 1)] rfl (by simp [AllP, appP, lm_len] <;> omega) ?_
    rw [rep_lm]
    refine lp (S := Nat × List Nat × Nat) 1 (fun L1 s => (27, .v (.one (.int .i64 (s.1 : Int)))) :: (6, .v (.one (.int .u64 (s.2.2 : Int)))) :: L1) (fun s => [.row false 169 1 (lm s.2.1)]) (fun s => p'.length - s.1)
      (fun s => s.1 ≤ p'.length ∧ s.2.1.length = p'.length + 1 ∧ Sm s.2.1 ∧ s.2.2 ≤ 1 ∧ val (s.2.1.take s.1) + s.2.2 * 4294967296 ^ s.1 = val (p'.take s.1) + val (q'.take s.1)) (0, List.replicate ((lm p').length + 1) 0, 0)
      ⟨Nat.zero_le _, by simp [lm_len], fun x hx => by rw [List.eq_of_mem_replicate hx]; decide, Nat.zero_le _, by simp [val]⟩ rfl (fun _ _ => rfl) rfl fun ⟨i, o, c⟩ ⟨j1, j2, j3, j4, j5⟩ => ?_
    dsimp only at j1 j2 j3 j4 j5 ⊢
    by_cases hi : i < p'.length
    · obtain ⟨x, hx⟩ : ∃ x, p'[i]? = some x := ⟨_, List.getElem?_eq_getElem hi⟩
      have xb := np.1 x (List.mem_of_getElem? hx)
      have fin : ∀ y s, (q'[i]? = some y ∨ q'.length ≤ i ∧ y = 0) → y < 4294967296 → s = x + c + y → p'.length - (i + 1) < p'.length - i ∧ i + 1 ≤ p'.length ∧ (o.set i (s % 4294967296)).length = p'.length + 1 ∧ Sm (o.set i (s % 4294967296)) ∧ s / 4294967296 ≤ 1 ∧
          val ((o.set i (s % 4294967296)).take (i + 1)) + s / 4294967296 * 4294967296 ^ (i + 1) = val (p'.take (i + 1)) + val (q'.take (i + 1)) := fun y s hy hyb hs =>
        ⟨by omega, hi, by simp [j2], set_lt j3 i _ (by omega), by omega, add_step (by omega) hx hy j5 hs⟩
      by_cases hi2 : i < q'.length
      · obtain ⟨y, hy⟩ : ∃ y, q'[i]? = some y := ⟨_, List.getElem?_eq_getElem hi2⟩
        have yb := nq.1 y (List.mem_of_getElem? hy)
        refine go tt [.t (by simp [lm_len]; omega), .x (lm_get hx), .t (by simp [lm_len]; omega), .x (lm_get hy), .w 2, .r 50 (v := .one (.int .u32 (((x + c + y) % 4294967296 : Nat) : Int))) (by simp [IntKind.wrap, IntKind.bits, IntKind.signed]), .i 32, .r 52 (v := .one (.int .u64 (((x + c + y) / 4294967296 : Nat) : Int))) (by simp), .i i] rfl (by simp [AllP, appP, lm_len, IntKind.bits] <;> omega) ?_
        rw [lm_set]
        exact rd (i + 1, o.set i ((x + c + y) % 4294967296), (x + c + y) / 4294967296) (fin y _ (.inl hy) yb rfl).1 (fin y _ (.inl hy) yb rfl).2 rfl
      · refine go tt [.t (by simp [lm_len]; omega), .x (lm_get hx), .f (by simp [lm_len]; omega), .w 0, .r 50 (v := .one (.int .u32 (((x + c + 0) % 4294967296 : Nat) : Int))) (by simp [IntKind.wrap, IntKind.bits, IntKind.signed]), .i 32, .r 52 (v := .one (.int .u64 (((x + c + 0) / 4294967296 : Nat) : Int))) (by simp), .i i] rfl (by simp [AllP, appP, lm_len, IntKind.bits] <;> omega) ?_
        rw [lm_set]
        exact rd (i + 1, o.set i ((x + c + 0) % 4294967296), (x + c + 0) / 4294967296) (fin 0 _ (.inr ⟨by omega, rfl⟩) (by decide) rfl).1 (fin 0 _ (.inr ⟨by omega, rfl⟩) (by decide) rfl).2 rfl
    · obtain rfl : i = p'.length := by omega
      refine go tt [.f (by simp [lm_len]), .w 0, .r 59 (v := .one (.int .u32 (c : Int))) (by simp [IntKind.wrap, IntKind.bits, IntKind.signed]; omega), .i (lm p').length] rfl (by simp [AllP, appP, lm_len, j2]) ?_
      rw [lm_len, lm_set]
      have e : val (o.set p'.length c) = val p' + val q' := by
        have h1 := val_set o p'.length c (by omega)
        rw [List.take_of_length_le (by simp; omega)] at h1
        rw [List.take_of_length_le (Nat.le_refl _), List.take_of_length_le hq] at j5
        rw [h1, ← j5, Nat.mul_comm]
      rw [← e]
      exact en tt [.c [] (c_cut (set_lt j3 _ c (by omega)))] rfl rfl trivial
theorem cmpN_neg {x y : Nat} : cmpN x y < 0 ↔ x < y := by unfold cmpN; split <;> (try split) <;> omega
theorem c_Sub {a b : List Nat} (ha : Sm a) (hb : Sm b) (h1 : sz (val a) ≤ 4294967296) : Does Tryz.prog 167 [lr a, lr b] (if val b ≤ val a then [lr (limbs (val a - val b)), .one (.bool true)] else [lr [], .one (.bool false)]) := by
  refine fnD Tryz.func167 rfl ?_
  obtain ⟨p, ca, np, vp, _, ep⟩ := cutd ha
  obtain ⟨q, cb, nq, vq, _, _⟩ := cutd hb
  have hp := limbs_len h1
  rw [← ep] at hp
  rw [← vp, ← vq]
  have cc := c_Cmp np.1 nq.1
  by_cases hlt : val p < val q
  · rw [if_neg (by omega)]
    exact en tt [.c [] ca, .c [] cb, .c [] cc, .t (by simpa using cmpN_neg.2 hlt)] rfl rfl trivial
  rw [if_pos (by omega)]
  have hq : q.length ≤ p.length := Nat.le_of_not_lt fun h => hlt (nrm_lt_of_len np nq h)
  refine go tt [.c [] ca, .c [] cb, .c [] cc, .f (by have := mt cmpN_neg.1 hlt; simpa using this), .i (lm p).length, .i (lm p).length] rfl (by simp [AllP, appP, lm_len] <;> omega) ?_
  rw [rep_lm]
  refine lp (S := Nat × List Nat × Nat) 1 (fun L1 s => (24, .v (.one (.int .i64 (s.1 : Int)))) :: (7, .v (.one (.int .u64 (s.2.2 : Int)))) :: L1) (fun s => [.row false 169 1 (lm s.2.1)]) (fun s => p.length - s.1)
    (fun s => s.1 ≤ p.length ∧ s.2.1.length = p.length ∧ Sm s.2.1 ∧ s.2.2 ≤ 1 ∧ val (s.2.1.take s.1) + val (q.take s.1) = val (p.take s.1) + s.2.2 * 4294967296 ^ s.1) (0, List.replicate (lm p).length 0, 0)
    ⟨Nat.zero_le _, by simp [lm_len], fun x hx => by rw [List.eq_of_mem_replicate hx]; decide, Nat.zero_le _, by simp [val]⟩ rfl (fun _ _ => rfl) rfl fun ⟨i, o, c⟩ ⟨j1, j2, j3, j4, j5⟩ => ?_
  dsimp only at j1 j2 j3 j4 j5 ⊢
  by_cases hi : i < p.length
  · obtain ⟨x, hx⟩ : ∃ x, p[i]? = some x := ⟨_, List.getElem?_eq_getElem hi⟩
    have xb := np.1 x (List.mem_of_getElem? hx)
    have fin : ∀ y s, (q[i]? = some y ∨ q.length ≤ i ∧ y = 0) → y < 4294967296 → s = (x + 18446744073709551616 - c - y) % 18446744073709551616 → p.length - (i + 1) < p.length - i ∧ i + 1 ≤ p.length ∧ (o.set i (s % 4294967296)).length = p.length ∧ Sm (o.set i (s % 4294967296)) ∧ s / 9223372036854775808 ≤ 1 ∧
        val ((o.set i (s % 4294967296)).take (i + 1)) + val (q.take (i + 1)) = val (p.take (i + 1)) + s / 9223372036854775808 * 4294967296 ^ (i + 1) := fun y s hy hyb hs => by
      obtain ⟨h1, h2⟩ := sub_step (o := o) (by omega) hx hy xb hyb j4 j5 hs
      exact ⟨by omega, hi, by simp [j2], set_lt j3 i _ (by omega), h2, h1⟩
    by_cases hi2 : i < q.length
    · obtain ⟨y, hy⟩ : ∃ y, q[i]? = some y := ⟨_, List.getElem?_eq_getElem hi2⟩
      have yb := nq.1 y (List.mem_of_getElem? hy)
      obtain ⟨s, hs⟩ : ∃ s, s = (x + 18446744073709551616 - c - y) % 18446744073709551616 := ⟨_, rfl⟩
      refine go tt [.t (by simp [lm_len]; omega), .x (lm_get hx), .w 1, .r 32 (e64 (b := (((x + 18446744073709551616 - c) % 18446744073709551616 : Nat) : Int)) (by rw [w64]; omega)), .t (by simp [lm_len]; omega), .x (lm_get hy), .w 1, .r 43 (e64 (b := (s : Int)) (by rw [w64]; omega)), .w 0, .r 47 (e32 (b := ((s % 4294967296 : Nat) : Int)) (by rw [w32]; omega)), .i 63, .r 49 (e64 (b := ((s / 9223372036854775808 : Nat) : Int)) (by simp)), .i i] rfl (by simp [AllP, appP, lm_len, IntKind.bits] <;> omega) ?_
      rw [lm_set]
      exact rd (i + 1, o.set i (s % 4294967296), s / 9223372036854775808) (fin y _ (.inl hy) yb hs).1 (fin y _ (.inl hy) yb hs).2 rfl
    · obtain ⟨s, hs⟩ : ∃ s, s = (x + 18446744073709551616 - c - 0) % 18446744073709551616 := ⟨_, rfl⟩
      have hf := fin 0 _ (.inr ⟨by omega, rfl⟩) (by decide) hs
      refine go tt [.t (by simp [lm_len]; omega), .x (lm_get hx), .w 1, .r 32 (e64 (b := (s : Int)) (by rw [w64]; omega)), .f (by simp [lm_len]; omega), .w 0, .r 47 (e32 (b := ((s % 4294967296 : Nat) : Int)) (by rw [w32]; omega)), .i 63, .r 49 (e64 (b := ((s / 9223372036854775808 : Nat) : Int)) (by simp)), .i i] rfl (by simp [AllP, appP, lm_len, IntKind.bits] <;> omega) ?_
      rw [lm_set]
      exact rd (i + 1, o.set i (s % 4294967296), s / 9223372036854775808) hf.1 hf.2 rfl
  · obtain rfl : i = p.length := by omega
    have e : val o = val p - val q := by
      rw [List.take_of_length_le (Nat.le_of_eq j2), List.take_of_length_le hq, List.take_of_length_le (Nat.le_refl _)] at j5
      have h1 := val_lt o j3
      rw [j2] at h1
      rcases Nat.le_one_iff_eq_zero_or_eq_one.1 j4 with rfl | rfl <;> omega
    rw [← e]
    exact en tt [.f (by simp [lm_len]), .c [] (c_cut j3)] rfl rfl trivial
theorem c_Mul {a b : List Nat} (ha : Sm a) (hb : Sm b) (h1 : sz (val a) ≤ 4294967296) (h2 : sz (val b) ≤ 4294967296) : Does Tryz.prog 232 [lr a, lr b] [lr (limbs (val a * val b))] := by
  refine fnD Tryz.func232 rfl ?_
  obtain ⟨p, ca, np, vp, _, ep⟩ := cutd ha
  obtain ⟨q, cb, nq, vq, _, eq⟩ := cutd hb
  have hp := limbs_len h1
  have hq := limbs_len h2
  rw [← ep] at hp
  rw [← eq] at hq
  rw [← vp, ← vq]
  refine go tt [.c [] ca, .c [] cb, .i ((lm p).length + (lm q).length), .i ((lm p).length + (lm q).length)] rfl (by simp [AllP, appP, lm_len] <;> omega) ?_
  rw [rep_lm]
  refine lp (S := Nat × List Nat) 1 (fun L1 s => (24, .v (.one (.int .i64 (s.1 : Int)))) :: L1) (fun s => [.row false 169 1 (lm s.2)]) (fun s => p.length - s.1)
    (fun s => s.1 ≤ p.length ∧ s.2.length = p.length + q.length ∧ Sm s.2 ∧ (∀ j, s.1 + q.length ≤ j → j < s.2.length → s.2[j]? = some 0) ∧ val s.2 = val (p.take s.1) * val q) (0, List.replicate ((lm p).length + (lm q).length) 0)
    ⟨Nat.zero_le _, by simp [lm_len], fun x hx => by rw [List.eq_of_mem_replicate hx]; decide, fun j _ hj => by rw [List.getElem?_replicate, if_pos (by simpa using hj)], by simp [val, val_zeros]⟩ rfl (fun _ _ => rfl) rfl fun ⟨i, o⟩ ⟨j1, j2, j3, j4, j5⟩ => ?_
  dsimp only at j1 j2 j3 j4 j5 ⊢
  by_cases hi : i < p.length
  · obtain ⟨x, hx⟩ : ∃ x, p[i]? = some x := ⟨_, List.getElem?_eq_getElem hi⟩
    have xb := np.1 x (List.mem_of_getElem? hx)
    refine go tt [.t (by simp [lm_len]; omega), .x (lm_get hx)] rfl trivial ?_
    refine lp (S := Nat × List Nat × Nat) 1 (fun L1 s => (31, .v (.one (.int .i64 (s.1 : Int)))) :: (8, .v (.one (.int .u64 (s.2.2 : Int)))) :: L1) (fun s => [.row false 169 1 (lm s.2.1)]) (fun s => q.length - s.1)
      (fun s => s.1 ≤ q.length ∧ s.2.1.length = p.length + q.length ∧ Sm s.2.1 ∧ (∀ j, i + q.length ≤ j → j < s.2.1.length → s.2.1[j]? = some 0) ∧ s.2.2 < 4294967296 ∧ val s.2.1 + s.2.2 * 4294967296 ^ (i + s.1) = val (p.take i) * val q + 4294967296 ^ i * x * val (q.take s.1)) (0, o, 0)
      ⟨Nat.zero_le _, j2, j3, j4, by simp, by simp [val, j5]⟩ rfl (fun _ _ => rfl) rfl fun ⟨k, o', c⟩ ⟨k1, k2, k3, k4, k5, k6⟩ => ?_
    dsimp only at k1 k2 k3 k4 k5 k6 ⊢
    by_cases hk : k < q.length
    · obtain ⟨y, hy⟩ : ∃ y, q[k]? = some y := ⟨_, List.getElem?_eq_getElem hk⟩
      have yb := nq.1 y (List.mem_of_getElem? hy)
      obtain ⟨z, hz⟩ : ∃ z, o'[i + k]? = some z := ⟨_, List.getElem?_eq_getElem (by omega)⟩
      have zb := k3 z (List.mem_of_getElem? hz)
      have hm := mul_le_limb xb yb
      have hm2 : (x : Int) * (y : Int) = ((x * y : Nat) : Int) := by push_cast; rfl
      obtain ⟨s, hs⟩ : ∃ s, s = x * y + z + c := ⟨_, rfl⟩
      refine go tt [.t (by simp [lm_len]; omega), .x (lm_get hy), .r 40 (e64 (b := ((x * y : Nat) : Int)) (by push_cast; rfl)), .i (i + k), .x (lm_get hz), .r 50 (e64 (b := (s : Int)) (by omega)), .w 1, .r 56 (e32 (b := ((s % 4294967296 : Nat) : Int)) (by rw [w32]; omega)), .i 32, .r 58 (e64 (b := ((s / 4294967296 : Nat) : Int)) (by simp)), .i (i + k)] rfl ?_ ?_
      · simp [AllP, appP, lm_len, IntKind.bits] <;> omega
      · rw [lm_set]
        exact rd (k + 1, o'.set (i + k) (s % 4294967296), s / 4294967296) (show q.length - (k + 1) < q.length - k by omega) ⟨hk, by simp [k2], set_lt k3 _ _ (by omega), fun j h3 h4 => by
          rw [List.getElem?_set_ne (by omega)]; exact k4 j h3 (by simpa using h4), (show s / 4294967296 < 4294967296 from by omega), mul_step hz hy k6 hs⟩ rfl
    · obtain rfl : k = q.length := by omega
      by_cases hq0 : 0 < q.length
      · refine go tt [.f (by simp [lm_len]), .t (by simp [lm_len]; omega), .w 1, .r 70 (e32 (b := ((c % 4294967296 : Nat) : Int)) (by rw [w32]; omega)), .i (i + (lm q).length)] rfl (by simp [AllP, appP, lm_len, IntKind.bits] <;> omega) ?_
        rw [lm_set]
        refine rd (i + 1, o'.set (i + (lm q).length) (c % 4294967296)) (show p.length - (i + 1) < p.length - i by omega) ⟨hi, by simp [k2], set_lt k3 _ _ (by omega), fun j h3 h4 => ?_, ?_⟩ rfl
        · rw [lm_len, List.getElem?_set_ne (by dsimp only at h3; omega)]
          exact k4 j (by dsimp only at h3; omega) (by simpa using h4)
        · rw [lm_len]
          exact mul_last (k4 _ (Nat.le_refl _) (by omega)) hx k5 rfl k6
      · have q0 : q = [] := List.eq_nil_of_length_eq_zero (by omega)
        refine go tt [.f (by simp [lm_len]), .f (by simp [lm_len, q0])] rfl (by simp [AllP, appP, lm_len, IntKind.bits] <;> omega) ?_
        refine rd (i + 1, o') (show p.length - (i + 1) < p.length - i by omega) ⟨hi, k2, k3, fun j h3 h4 => k4 j (by dsimp only at h3; omega) h4, ?_⟩ rfl
        have c0 : c * 4294967296 ^ (i + q.length) = 0 ∧ val o' = 0 := by
          subst q0
          simp only [val, List.take_nil, Nat.mul_zero] at k6
          omega
        rw [c0.2, q0]; rfl
  · obtain rfl : i = p.length := by omega
    rw [List.take_of_length_le (Nat.le_refl _)] at j5
    rw [← j5]
    exact en tt [.f (by simp [lm_len]), .c [] (c_cut j3)] rfl rfl trivial
end Orr

namespace Orr
open Go Go.Proofs
set_option maxRecDepth 10000
theorem o64 {k q : Nat} (hq : q < 4294967296) (hb : 4294967296 * k + q < 18446744073709551616) : orI .u64 ((4294967296 * k : Nat) : Int) (q : Int) = ((4294967296 * k + q : Nat) : Int) := by
  have e1 : (BitVec.ofInt 64 ((4294967296 * k : Nat) : Int)).toNat = 4294967296 * k := by rw [BitVec.toNat_ofInt]; omega
  have e2 : (BitVec.ofInt 64 (q : Int)).toNat = q := by rw [BitVec.toNat_ofInt]; omega
  show IntKind.u64.wrap ((BitVec.ofInt 64 ((4294967296 * k : Nat) : Int) ||| BitVec.ofInt 64 (q : Int)).toNat : Int) = _
  rw [BitVec.toNat_or, e1, e2, or_add hq, w64]; omega
theorem oM {k p : Nat} (hp : p < 4294967296) (hb : 4294967296 * k + p < 18446744073709551616) : orI .u64 (p : Int) ((4294967296 * k : Nat) : Int) = ((4294967296 * k + p : Nat) : Int) := by
  have := o64 hp hb
  unfold orI at this ⊢
  rw [BitVec.or_comm]; exact this
theorem o32 {s k p : Nat} (hp : p < 2 ^ s) (h1 : p < 4294967296) (h2 : 2 ^ s * k < 4294967296) (hb : p + 2 ^ s * k < 4294967296) : orI .u32 (p : Int) ((2 ^ s * k : Nat) : Int) = ((p + 2 ^ s * k : Nat) : Int) := by
  have e1 : (BitVec.ofInt 32 ((2 ^ s * k : Nat) : Int)).toNat = 2 ^ s * k := by rw [BitVec.toNat_ofInt]; omega
  have e2 : (BitVec.ofInt 32 (p : Int)).toNat = p := by rw [BitVec.toNat_ofInt]; omega
  have e3 : p ||| 2 ^ s * k = p + 2 ^ s * k := by
    have := Nat.two_pow_add_eq_or_of_lt (i := s) (b := p) hp k
    rw [Nat.or_comm, ← this, Nat.add_comm]
  show IntKind.u32.wrap ((BitVec.ofInt 32 (p : Int) ||| BitVec.ofInt 32 ((2 ^ s * k : Nat) : Int)).toNat : Int) = _
  rw [BitVec.toNat_or, e1, e2, e3, w32]; omega
theorem c_one {l : List Nat} {v : Nat} (hl : Sm l) (hn : l.length < 274877906944) (h0 : 0 < v) (hv : v < 4294967296) : Does Tryz.prog 219 [lr l, .one (.int .u32 (v : Int))] [lr (limbs (val l / v)), .one (.int .u32 ((val l % v : Nat) : Int))] := by
  refine fnD Tryz.func219 rfl ?_
  refine go tt [.i (lm l).length, .i (lm l).length] rfl (by simp [AllP, appP, lm_len] <;> omega) ?_
  rw [rep_lm]
  refine lp (S := Int × List Nat × Nat) 1 (fun L1 s => (8, .v (.one (.int .i64 s.1))) :: (7, .v (.one (.int .u64 (s.2.2 : Int)))) :: L1) (fun s => [.row false 169 1 (lm s.2.1)]) (fun s => (s.1 + 1).toNat)
    (fun s => -1 ≤ s.1 ∧ s.1 < l.length ∧ s.2.1.length = l.length ∧ Sm s.2.1 ∧ s.2.2 < v ∧ val (l.drop (s.1 + 1).toNat) = v * val (s.2.1.drop (s.1 + 1).toNat) + s.2.2) (((lm l).length : Int) - 1, List.replicate (lm l).length 0, 0)
    ⟨by simp [lm_len]; omega, by simp [lm_len]; omega, by simp [lm_len], fun x hx => by rw [List.eq_of_mem_replicate hx]; decide, h0, by simp [lm_len, val]⟩ rfl (fun _ _ => rfl) rfl fun ⟨i, o, r⟩ ⟨j1, j2, j3, j4, j5, j6⟩ => ?_
  dsimp only at j1 j2 j3 j4 j5 j6 ⊢
  rcases Int.lt_or_le i 0 with hi | hi
  · obtain rfl : i = -1 := by omega
    simp only [show ((-1 : Int) + 1).toNat = 0 from rfl, List.drop_zero] at j6
    have e1 : val l / v = val o := by rw [j6, Nat.mul_add_div h0, Nat.div_eq_of_lt j5, Nat.add_zero]
    have e2 : val l % v = r := by rw [j6, Nat.mul_add_mod, Nat.mod_eq_of_lt j5]
    rw [e1, e2]
    exact en tt [.f (by decide), .c [] (c_cut j4)] rfl rfl (by simp [AllP, appP, lm_len, IntKind.bits] <;> omega)
  · obtain ⟨k, rfl⟩ := Int.eq_ofNat_of_zero_le hi
    have e : ((k : Int) + 1).toNat = k + 1 := by omega
    rw [e] at j6
    obtain ⟨x, hx⟩ : ∃ x, l[k]? = some x := ⟨_, List.getElem?_eq_getElem (by omega)⟩
    have xb := hl x (List.mem_of_getElem? hx)
    obtain ⟨s, hs⟩ : ∃ s, s = r * 4294967296 + x := ⟨_, rfl⟩
    obtain ⟨k1, k2, k3⟩ := one_step hx xb (show k < o.length by omega) h0 j5 j6 hs
    obtain ⟨q, hq⟩ : ∃ q, q = s / v := ⟨_, rfl⟩
    obtain ⟨u, hu⟩ : ∃ u, u = s % v := ⟨_, rfl⟩
    have hqi : (s : Int).tdiv v = (q : Int) := by rw [Int.tdiv_eq_ediv_of_nonneg (by omega), hq]; rfl
    have hui : (s : Int).tmod v = (u : Int) := by rw [Int.tmod_eq_emod_of_nonneg (by omega), hu]; rfl
    rw [← hq, ← hu] at k3
    rw [← hq] at k1
    rw [← hu] at k2
    refine go tt [.t (by simp), .i 32, .r 21 (e64 (b := ((4294967296 * r : Nat) : Int)) (by omega)), .x (lm_get hx), .r 27 (e64 (b := (s : Int)) (by rw [o64 xb (by omega)]; omega)),
      .r 33 (e64 (b := (q : Int)) hqi), .w 0, .r 34 (e32 (b := ((q % 4294967296 : Nat) : Int)) (by rw [w32]; omega)), .r 38 (e64 (b := (u : Int)) hui), .i k] rfl (by simp [AllP, appP, lm_len, IntKind.bits, hqi] <;> omega) ?_
    rw [lm_set]
    exact rd ((k : Int) - 1, o.set k (q % 4294967296), u) (by dsimp only; omega) ⟨by dsimp only; omega, by dsimp only; omega, by simp [j3], set_lt j4 _ _ (by omega), k2, by dsimp only; rw [show ((k : Int) - 1 + 1).toNat = k from by omega]; exact k3⟩ rfl
theorem byte_tab {i : Nat} {s : ByteArray} (h : ∀ i, i < 256 → (s[i]?).map (·.toNat) = some (sz i)) (hi : i < 256) : (s[i]?).map (·.toNat) = some (sz i) := h i hi
set_option maxRecDepth 100000 in
theorem c_Len32 {x : Nat} (hx : x < 4294967296) : Does Tryz.prog 262 [.one (.int .u32 (x : Int))] [.one (.int .i64 (sz x : Int))] := by
  refine fnD Tryz.func262 rfl ?_
  have h31 : sz x ≤ 32 := sz_le.2 (by omega)
  by_cases h1 : 65536 ≤ x
  · have e1 : sz x = 16 + sz (x / 2 ^ 16) := sz_shift (by omega)
    obtain ⟨y, hy⟩ : ∃ y, y = x / 2 ^ 16 := ⟨_, rfl⟩
    rw [← hy] at e1
    by_cases h2 : 256 ≤ y
    · have e2 : sz y = 8 + sz (y / 2 ^ 8) := sz_shift (by omega)
      obtain ⟨z, hz⟩ : ∃ z, z = y / 2 ^ 8 := ⟨_, rfl⟩
      rw [← hz] at e2
      exact en tt [.t (by simp; omega), .i 16, .r 6 (e32 (b := (y : Int)) (by simp [hy])), .t (by simp; omega), .i 8, .r 10 (e32 (b := (z : Int)) (by simp [hz])), .y (byte_tab (i := z) (by decide) (by omega))] rfl (by rw [e1, e2]; simp; omega) (by simp [AllP, appP, IntKind.bits] <;> omega)
    · exact en tt [.t (by simp; omega), .i 16, .r 6 (e32 (b := (y : Int)) (by simp [hy])), .f (by simp; omega), .y (byte_tab (i := y) (by decide) (by omega))] rfl (by rw [e1]; simp) (by simp [AllP, appP, IntKind.bits] <;> omega)
  · by_cases h2 : 256 ≤ x
    · have e2 : sz x = 8 + sz (x / 2 ^ 8) := sz_shift (by omega)
      obtain ⟨z, hz⟩ : ∃ z, z = x / 2 ^ 8 := ⟨_, rfl⟩
      rw [← hz] at e2
      exact en tt [.f (by simp; omega), .t (by simp; omega), .i 8, .r 10 (e32 (b := (z : Int)) (by simp [hz])), .y (byte_tab (i := z) (by decide) (by omega))] rfl (by rw [e2]; simp) (by simp [AllP, appP, IntKind.bits] <;> omega)
    · exact en tt [.f (by simp; omega), .f (by simp; omega), .y (byte_tab (i := x) (by decide) (by omega))] rfl (by simp) (by simp [AllP, appP, IntKind.bits] <;> omega)
theorem c_Lead {x : Nat} (hx : x < 4294967296) : Does Tryz.prog 220 [.one (.int .u32 (x : Int))] [.one (.int .i64 ((32 - sz x : Nat) : Int))] := by
  have h31 : sz x ≤ 32 := sz_le.2 (by omega)
  exact w tt Tryz.func220 rfl [.c [] (c_Len32 hx)] rfl (by simp; omega) (by simp [AllP, appP] <;> omega)
theorem c_Bits {l : List Nat} (hl : Sm l) (hs : sz (val l) ≤ 4294967296) : Does Tryz.prog 266 [lr l] [.one (.int .i64 (sz (val l) : Int))] := by
  refine fnD Tryz.func266 rfl ?_
  obtain ⟨p, ca, np, vp, _, ep⟩ := cutd hl
  have hp := limbs_len hs
  rw [← ep] at hp
  rw [← vp] at hs ⊢
  by_cases h0 : p = []
  · subst h0
    exact en tt [.c [] ca, .t (by simp [lm])] rfl rfl (by simp [AllP, appP])
  · have hpl : 0 < p.length := List.length_pos_iff.2 h0
    obtain ⟨x, hx, hx0⟩ := np.2 h0
    have xb := np.1 x (List.mem_of_getElem? hx)
    have e := sz_val np hx
    have h31 : sz x ≤ 32 := sz_le.2 (by omega)
    have hn : (lm p).length ≠ 0 := by rw [lm_len]; omega
    refine en tt [.c [] ca, .f (by simp [lm_len]; omega), .r 15 (eI (b := ((p.length - 1 : Nat) : Int)) (by rw [lm_len]; omega)), .x (lm_get hx), .c [] (c_Len32 xb)] rfl (by rw [e, lm_len]; simp; omega) (by simp [AllP, appP, lm_len] <;> omega)
theorem quo32 {s : Nat} (h : s ≤ 31) : ((s : Nat) : Int).tdiv 32 = ((0 : Nat) : Int) := by
  rw [Int.tdiv_eq_ediv_of_nonneg (by omega)]; omega
theorem rem32 {s : Nat} (h : s ≤ 31) : ((s : Nat) : Int).tmod 32 = (s : Int) := Int.tmod_eq_of_lt (by omega) (by omega)
theorem mm32 {s : Nat} (h : s ≤ 31) : max 0 (min (s : Int) 65536) = (s : Int) := by omega
theorem c_Shl {a : List Nat} {s : Nat} (ha : Sm a) (h1 : sz (val a) ≤ 4294967400) (hs : s ≤ 31) : Does Tryz.prog 263 [lr a, .one (.int .i64 (s : Int))] [lr (limbs (val a * 2 ^ s))] := by
  refine fnD Tryz.func263 rfl ?_
  obtain ⟨p, ca, np, vp, _, ep⟩ := cutd ha
  have hp := limbs_len h1
  rw [← ep] at hp
  rw [← vp]
  have hq : ((s : Nat) : Int).tdiv 32 = 0 := quo32 hs
  by_cases h0 : p = []
  · subst h0
    exact en tt [.c [] ca, .t (by simp [lm])] rfl (by simp [val, limbs_zero, lm]) (by simp [AllP, appP])
  have hpl : 0 < p.length := List.length_pos_iff.2 h0
  refine go tt [.c [] ca, .r 15 (eI (b := (s : Int)) (mm32 hs)), .f (by simp [lm_len]; omega), .r 20 (eI (b := ((0 : Nat) : Int)) (quo32 hs)), .r 22 (eI (b := (s : Int)) (rem32 hs)), .r 28 (eI (b := (((lm p).length + 1 : Nat) : Int)) (by omega)), .i ((lm p).length + 1), .i ((lm p).length + 1)] rfl (by have e := lm_len p; simp only [AllP, appP]; omega) ?_
  rw [rep_lm]
  refine lp (S := Nat × List Nat) 1 (fun L1 s => (32, .v (.one (.int .i64 (s.1 : Int)))) :: L1) (fun s => [.row false 169 1 (lm s.2)]) (fun s => p.length - s.1)
    (fun r => r.1 ≤ p.length ∧ r.2.length = p.length + 1 ∧ Sm r.2 ∧ (∃ z, r.2[r.1]? = some z ∧ z < 2 ^ s) ∧ val (r.2.take (r.1 + 1)) = val (p.take r.1) * 2 ^ s) (0, List.replicate ((lm p).length + 1) 0)
    ⟨Nat.zero_le _, by simp [lm_len], fun x hx => by rw [List.eq_of_mem_replicate hx]; decide, ⟨0, by simp, Nat.pow_pos (by decide)⟩, by simp [val, List.replicate_succ]⟩ rfl (fun _ _ => rfl) rfl fun ⟨i, o⟩ ⟨j1, j2, j3, ⟨z, hz, hzs⟩, j5⟩ => ?_
  dsimp only at j1 j2 j3 hz hzs j5 ⊢
  by_cases hi : i < p.length
  · obtain ⟨x, hx⟩ : ∃ x, p[i]? = some x := ⟨_, List.getElem?_eq_getElem hi⟩
    have xb := np.1 x (List.mem_of_getElem? hx)
    have zb := j3 z (List.mem_of_getElem? hz)
    obtain ⟨k1, k2, k3, k4⟩ := shl_step hs hx xb hz hzs (by omega) j5
    have hxs := shl_lt hs xb
    have h31 : 2 ^ s ≤ 2 ^ 31 := Nat.pow_le_pow_right (by decide) hs
    have ec : (x : Int) * 2 ^ s = ((x * 2 ^ s : Nat) : Int) := by push_cast; rfl
    obtain ⟨m, hm⟩ : ∃ m, m = x * 2 ^ s := ⟨_, rfl⟩
    rw [← hm] at k1 k2 k3 k4 hxs ec
    refine go tt [.t (by simp [lm_len]; omega), .x (lm_get hx), .i s, .r 40 (e64 (b := (m : Int)) ec), .i i, .x (lm_get hz), .w 0, .r 52 (e32 (b := ((m % 4294967296 : Nat) : Int)) (by rw [w32]; omega)), .r 53 (e32 (b := ((z + m % 4294967296 : Nat) : Int)) (by rw [k4, o32 hzs zb (by omega) (by omega)])), .i i,
      .i 32, .r 61 (e64 (b := ((m / 2 ^ 32 : Nat) : Int)) (by simp)), .w 0, .r 62 (e32 (b := ((m / 2 ^ 32 % 4294967296 : Nat) : Int)) (by rw [w32]; omega)), .i (i + 1)] rfl (by simp [AllP, appP, lm_len, IntKind.bits, ec] <;> omega) ?_
    rw [lm_set, lm_set]
    exact rd (i + 1, (o.set i (z + m % 4294967296)).set (i + 1) (m / 2 ^ 32 % 4294967296)) (show p.length - (i + 1) < p.length - i by omega) ⟨hi, by simp [j2], set_lt (set_lt j3 _ _ (by omega)) _ _ (by omega), ⟨_, by rw [List.getElem?_set_self (by simp; omega)], by omega⟩, k3⟩ rfl
  · obtain rfl : i = p.length := by omega
    rw [List.take_of_length_le (by omega), List.take_of_length_le (Nat.le_refl _)] at j5
    rw [← j5]
    exact en tt [.f (by simp [lm_len]), .c [] (c_cut j3)] rfl rfl trivial
theorem c_Shr {a : List Nat} {s : Nat} (ha : Sm a) (h1 : sz (val a) ≤ 4294967400) (hs : s ≤ 31) : Does Tryz.prog 223 [lr a, .one (.int .i64 (s : Int))] [lr (limbs (val a / 2 ^ s))] := by
  refine fnD Tryz.func223 rfl ?_
  obtain ⟨p, ca, np, vp, _, ep⟩ := cutd ha
  have hp := limbs_len h1
  rw [← ep] at hp
  rw [← vp]
  have hq : ((s : Nat) : Int).tdiv 32 = 0 := quo32 hs
  by_cases h0 : p = []
  · subst h0
    exact en tt [.c [] ca, .r 14 (eI (b := (s : Int)) (mm32 hs)), .r 16 (eI (b := ((0 : Nat) : Int)) (quo32 hs)), .r 18 (eI (b := (s : Int)) (rem32 hs)), .t (by simp [lm])] rfl (by simp [val, limbs_zero, lm]) (by simp only [AllP, appP]; omega)
  have hpl : 0 < p.length := List.length_pos_iff.2 h0
  refine go tt [.c [] ca, .r 14 (eI (b := (s : Int)) (mm32 hs)), .r 16 (eI (b := ((0 : Nat) : Int)) (quo32 hs)), .r 18 (eI (b := (s : Int)) (rem32 hs)), .f (by simp [lm_len]; omega), .r 27 (eI (b := ((lm p).length : Int)) (by omega)), .i (lm p).length, .i (lm p).length] rfl (by have e := lm_len p; simp only [AllP, appP]; omega) ?_
  rw [rep_lm]
  refine lp (S := Nat × List Nat) 1 (fun L1 s => (31, .v (.one (.int .i64 (s.1 : Int)))) :: L1) (fun s => [.row false 169 1 (lm s.2)]) (fun s => p.length - s.1)
    (fun r => r.1 ≤ p.length ∧ r.2.length = p.length ∧ Sm r.2 ∧ val (r.2.take r.1) = val p / 2 ^ s % 4294967296 ^ r.1) (0, List.replicate (lm p).length 0)
    ⟨Nat.zero_le _, by simp [lm_len], fun x hx => by rw [List.eq_of_mem_replicate hx]; decide, by simp [val]; omega⟩ rfl (fun _ _ => rfl) rfl fun ⟨i, o⟩ ⟨j1, j2, j3, j5⟩ => ?_
  dsimp only at j1 j2 j3 j5 ⊢
  by_cases hi : i < p.length
  · obtain ⟨x, hx⟩ : ∃ x, p[i]? = some x := ⟨_, List.getElem?_eq_getElem hi⟩
    have xb := np.1 x (List.mem_of_getElem? hx)
    have fin : ∀ y m, (p[i + 1]? = some y ∨ p.length ≤ i + 1 ∧ y = 0) → m = (x + y * 2 ^ 32) / 2 ^ s → p.length - (i + 1) < p.length - i ∧ i + 1 ≤ p.length ∧ (o.set i (m % 4294967296)).length = p.length ∧ Sm (o.set i (m % 4294967296)) ∧ val ((o.set i (m % 4294967296)).take (i + 1)) = val p / 2 ^ s % 4294967296 ^ (i + 1) := fun y m hy hm =>
      ⟨by omega, hi, by simp [j2], set_lt j3 _ _ (by omega), by subst hm; exact shr_step hs hx hy (by omega) np.1 j5⟩
    have hsp : 0 < 2 ^ s := Nat.pow_pos (by decide)
    by_cases hy0 : i + 1 < p.length
    · obtain ⟨y, hy⟩ : ∃ y, p[i + 1]? = some y := ⟨_, List.getElem?_eq_getElem hy0⟩
      have yb := np.1 y (List.mem_of_getElem? hy)
      obtain ⟨v, hv⟩ : ∃ v, v = 4294967296 * y + x := ⟨_, rfl⟩
      obtain ⟨m, hm⟩ : ∃ m, m = v / 2 ^ s := ⟨_, rfl⟩
      have hml : m ≤ v := hm ▸ Nat.div_le_self _ _
      have hf := fin y m (.inl hy) (by rw [hm, hv]; congr 1; omega)
      refine go tt [.t (by simp [lm_len]; omega), .x (lm_get hx), .t (by simp [lm_len]; omega), .x (lm_get hy), .i 32, .r 57 (e64 (b := ((4294967296 * y : Nat) : Int)) (by omega)), .r 58 (e64 (b := (v : Int)) (by rw [oM xb (by omega)]; omega)),
        .i s, .r 63 (e64 (b := (m : Int)) (by rw [hm]; push_cast; rfl)), .w 0, .r 64 (e32 (b := ((m % 4294967296 : Nat) : Int)) (by rw [w32]; omega)), .i i] rfl (by simp [AllP, appP, lm_len, IntKind.bits] <;> omega) ?_
      rw [lm_set]
      exact rd (i + 1, o.set i (m % 4294967296)) hf.1 hf.2 rfl
    · obtain ⟨m, hm⟩ : ∃ m, m = x / 2 ^ s := ⟨_, rfl⟩
      have hml : m ≤ x := hm ▸ Nat.div_le_self _ _
      have hf := fin 0 m (.inr ⟨by omega, rfl⟩) (by rw [hm]; simp)
      refine go tt [.t (by simp [lm_len]; omega), .x (lm_get hx), .f (by simp [lm_len]; omega),
        .i s, .r 63 (e64 (b := (m : Int)) (by rw [hm]; push_cast; rfl)), .w 0, .r 64 (e32 (b := ((m % 4294967296 : Nat) : Int)) (by rw [w32]; omega)), .i i] rfl (by simp [AllP, appP, lm_len, IntKind.bits] <;> omega) ?_
      rw [lm_set]
      exact rd (i + 1, o.set i (m % 4294967296)) hf.1 hf.2 rfl
  · obtain rfl : i = p.length := by omega
    have hvl := val_lt p np.1
    rw [List.take_of_length_le (by omega), Nat.mod_eq_of_lt (Nat.lt_of_le_of_lt (Nat.div_le_self _ _) hvl)] at j5
    rw [← j5]
    exact en tt [.f (by simp [lm_len, j2]), .c [] (c_cut j3)] rfl rfl trivial
end Orr

namespace Orr
open Go Go.Proofs
set_option maxRecDepth 10000
/-- k limbs -/
def dgs : Nat → Nat → List Nat
  | 0, _ => []
  | k + 1, v => v % 4294967296 :: dgs k (v / 4294967296)
theorem dgs_of : ∀ {l : List Nat}, Sm l → l = dgs l.length (val l)
  | [], _ => rfl
  | x :: l, h => by
    have hx := h x (.head _)
    have ih := dgs_of (l := l) fun y hy => h y (.tail _ hy)
    simp only [List.length_cons, dgs, val]
    rw [show (x + 4294967296 * val l) % 4294967296 = x by omega, show (x + 4294967296 * val l) / 4294967296 = val l by omega, ← ih]
theorem dgs_eq {l : List Nat} {k v : Nat} (h : Sm l) (hk : l.length = k) (hv : val l = v) : dgs k v = l := by
  rw [← hk, ← hv]; exact (dgs_of h).symm
theorem dgs_ok : ∀ {k v : Nat}, (dgs k v).length = k ∧ Sm (dgs k v) ∧ (v < 4294967296 ^ k → val (dgs k v) = v)
  | 0, v => ⟨rfl, fun x hx => by (cases hx), fun h => by simp at h; subst h; rfl⟩
  | k + 1, v => by
    obtain ⟨h1, h2, h3⟩ := dgs_ok (k := k) (v := v / 4294967296)
    refine ⟨by simp [dgs, h1], fun x hx => ?_, fun h => ?_⟩
    · rcases List.mem_cons.1 hx with rfl | hx
      · exact Nat.mod_lt _ (by decide)
      · exact h2 x hx
    · simp only [dgs, val]
      rw [h3 (by rw [Nat.pow_succ] at h; exact Nat.div_lt_of_lt_mul (by rw [Nat.mul_comm]; exact h))]
      omega
theorem c_wide {a : List Nat} {s n : Nat} (ha : Sm a) (h1 : sz (val a) ≤ 4294967400) (hs : s ≤ 31) (hn : n < 274877906944) (h0 : 0 < n) (hv : val a * 2 ^ s < 4294967296 ^ n) :
    DoesD Tryz.prog 221 [lr a, .one (.int .i64 (s : Int)), .one (.int .i64 (n : Int))] [] [.one (.orow 0 1 none)] [.row false 169 1 (lm (dgs n (val a * 2 ^ s)))] := by
  refine fnD Tryz.func221 rfl ?_
  obtain ⟨v, hvv⟩ : ∃ v, v = val a * 2 ^ s := ⟨_, rfl⟩
  have cs := c_Shl ha h1 hs
  rw [← hvv] at cs hv ⊢
  have hl : (limbs v).length ≤ n := by
    apply Classical.byContradiction
    intro hh
    have h2 := nrm_low (nrm_limbs v) (fun e => by rw [e] at hh; simp at hh)
    rw [val_limbs] at h2
    have h3 : 4294967296 ^ n ≤ 4294967296 ^ ((limbs v).length - 1) := Nat.pow_le_pow_right (by decide) (by omega)
    omega
  refine go tt [.i n, .i n, .c [] cs, .s (lm_one (limbs v)), .i (limbs v).length] rfl (by simp [AllP, appP, lm_len] <;> omega) ?_
  have e : List.take 0 (List.replicate n [LV.int .u32 0]) ++ (List.take (limbs v).length (lm (limbs v)) ++ List.drop (0 + (limbs v).length) (List.replicate n [LV.int .u32 0])) = lm (dgs n v) := by
    rw [dgs_eq (l := limbs v ++ List.replicate (n - (limbs v).length) 0) (fun x hx => ?_) (by simp; omega) (by rw [val_append, val_zeros, val_limbs]; simp)]
    · rw [List.take_zero, List.nil_append, List.take_of_length_le (by rw [lm_len]; exact Nat.le_refl _)]
      simp [lm]
    · rcases List.mem_append.1 hx with hx | hx
      · exact sm_limbs v x hx
      · rw [List.eq_of_mem_replicate hx]; decide
  rw [e]
  exact ed tt [] [0] [] rfl trivial
theorem wget {pre x post : List Nat} {i u : Nat} (h : x[i]? = some u) : (lm (pre ++ x ++ post))[pre.length + i]? = some [.int .u32 (u : Int)] := lm_get (by
  have hi := (List.getElem?_eq_some_iff.1 h).1
  rw [List.append_assoc, List.getElem?_append_right (by omega), Nat.add_sub_cancel_left, List.getElem?_append_left hi]; exact h)
theorem wset {pre x post : List Nat} {i v : Nat} (h : i < x.length) : (lm (pre ++ x ++ post)).set (pre.length + i) [.int .u32 (v : Int)] = lm (pre ++ x.set i v ++ post) := by
  rw [lm_set, List.append_assoc, List.set_append_right _ _ (by omega), Nat.add_sub_cancel_left, List.set_append_left _ _ h, ← List.append_assoc]
theorem c_digit {pre x post ly : List Nat} {top nx xn x1 x2 : Nat} (D : Dig x ly ly.length top nx xn x1 x2) (hn : ly.length < 274877906944) :
    DoesD Tryz.prog 222 [.one (.orow 0 1 (some (pre.length, x.length))), lr ly] [.row true 169 1 (lm (pre ++ x ++ post))] [.one (.int .u32 ((val x / val ly : Nat) : Int))] [.row true 169 1 (lm (pre ++ dgs x.length (val x % val ly) ++ post))] := by
  refine fnD Tryz.func222 rfl ?_
  have hxl := D.hx
  have hn2 := D.hn
  have hb := D.bnd
  obtain ⟨head, hh⟩ : ∃ head, head = xn * 2 ^ 32 + x1 := ⟨_, rfl⟩
  obtain ⟨g0, hg0⟩ : ∃ g, g = head / top := ⟨_, rfl⟩
  obtain ⟨r0, hr0⟩ : ∃ r, r = head % top := ⟨_, rfl⟩
  have hst := D.start
  rw [← hh, ← hg0] at hst
  have ht0 := D.top0
  have hg0l : g0 ≤ head := hg0 ▸ Nat.div_le_self _ _
  have hr0l : r0 < top := hr0 ▸ Nat.mod_lt _ ht0
  have htd : (head : Int).tdiv top = (g0 : Int) := by rw [Int.tdiv_eq_ediv_of_nonneg (by omega), hg0]; rfl
  have htm : (head : Int).tmod top = (r0 : Int) := by rw [Int.tmod_eq_emod_of_nonneg (by omega), hr0]; rfl
  refine go tt [.r 23 (eI (b := (ly.length : Int)) (by rw [lm_len])), .r 26 (eI (b := ((ly.length - 1 : Nat) : Int)) (by omega)), .x (lm_get D.ltop), .r 32 (eI (b := ((ly.length - 2 : Nat) : Int)) (by omega)), .x (lm_get D.lnx),
    .i ly.length, .x (wget D.xn), .i 32, .r 41 (e64 (b := ((4294967296 * xn : Nat) : Int)) (by omega)), .r 44 (eI (b := ((ly.length - 1 : Nat) : Int)) (by omega)), .i (ly.length - 1), .x (wget D.x1), .r 48 (e64 (b := (head : Int)) (by rw [o64 hb.2.2.2.1 (by omega)]; omega)),
    .r 51 (e64 (b := (g0 : Int)) htd), .r 54 (e64 (b := (r0 : Int)) htm)] rfl ?_ ?_
  · simp only [AllP, appP, htd, IntKind.bits]; omega
  refine ct 2 (S := Nat) (fun g => [(0, .v (.one (.orow 0 1 (some (pre.length, x.length))))), (1, .v (lr ly)), (5, .v (.one (.int .i64 (ly.length : Int)))), (9, .v (.one (.int .u64 (g : Int))))]) (fun _ => [.row true 169 1 (lm (pre ++ x ++ post))]) (fun g => val x / val ly ≤ g ∧ (g - 1) * val ly ≤ val x ∧ g ≤ 4294967296) rfl ?_ ?_
  · refine lp (S := Nat × Nat) 1 (fun L1 s => (9, .v (.one (.int .u64 (s.1 : Int)))) :: (10, .v (.one (.int .u64 (s.2 : Int)))) :: L1) (fun _ => [.row true 169 1 (lm (pre ++ x ++ post))]) (fun s => 4294967296 - s.2)
      (fun s => s.1 * top + s.2 = xn * 2 ^ 32 + x1 ∧ val x / val ly ≤ s.1 ∧ s.2 < 4294967296 ∧ s.1 < 18446744073709551616) (g0, r0)
      ⟨by rw [← hh, hg0, hr0, Nat.mul_comm]; exact Nat.div_add_mod _ _, hst, by dsimp only; omega, by dsimp only; omega⟩ rfl (fun _ _ => rfl) rfl fun ⟨g, r⟩ ⟨j1, j2, j3, j4⟩ => ?_
    dsimp only at j1 j2 j3 j4 ⊢
    by_cases hge : 4294967296 ≤ g
    · have hrd := D.round j1 j2 (.inl hge)
      by_cases h2 : 4294967296 ≤ r + top
      · exact go tt [.t (by simp; omega), .t rfl, .r 73 (e64 (b := ((g - 1 : Nat) : Int)) (by omega)), .t (by simp; omega)] rfl (by simp [AllP, appP] <;> omega) (rc (g - 1) ⟨hrd.2.1, (hrd.2.2.2 h2).1, (hrd.2.2.2 h2).2⟩ rfl)
      · exact go tt [.t (by simp; omega), .t rfl, .r 73 (e64 (b := ((g - 1 : Nat) : Int)) (by omega)), .f (by simp; omega)] rfl (by simp [AllP, appP] <;> omega) (rd (g - 1, r + top) (by dsimp only; omega) ⟨hrd.2.2.1, hrd.2.1, by dsimp only; omega, by dsimp only; omega⟩ rfl)
    · have hgn := mul_le_limb (x := g) (y := nx) (by omega) hb.2.1
      by_cases hc : r * 2 ^ 32 + x2 < g * nx
      · have hrd := D.round j1 j2 (.inr hc)
        have e1 : (g : Int) * (nx : Int) = ((g * nx : Nat) : Int) := by push_cast; rfl
        obtain ⟨m, hm⟩ : ∃ m, m = g * nx := ⟨_, rfl⟩
        rw [← hm] at e1 hgn hc
        by_cases h2 : 4294967296 ≤ r + top
        · exact go tt [.f (by simp; omega), .r 60 (e64 (b := (m : Int)) e1), .i 32, .r 62 (e64 (b := ((4294967296 * r : Nat) : Int)) (by omega)), .r 65 (eI (b := ((ly.length - 2 : Nat) : Int)) (by omega)), .i (ly.length - 2), .x (wget D.x2), .r 69 (e64 (b := ((4294967296 * r + x2 : Nat) : Int)) (o64 hb.2.2.2.2 (by omega))), .t (by simp; omega), .r 73 (e64 (b := ((g - 1 : Nat) : Int)) (by omega)), .t (by simp; omega)] rfl (by simp only [AllP, appP, e1, IntKind.bits]; omega) (rc (g - 1) ⟨hrd.2.1, (hrd.2.2.2 h2).1, (hrd.2.2.2 h2).2⟩ rfl)
        · exact go tt [.f (by simp; omega), .r 60 (e64 (b := (m : Int)) e1), .i 32, .r 62 (e64 (b := ((4294967296 * r : Nat) : Int)) (by omega)), .r 65 (eI (b := ((ly.length - 2 : Nat) : Int)) (by omega)), .i (ly.length - 2), .x (wget D.x2), .r 69 (e64 (b := ((4294967296 * r + x2 : Nat) : Int)) (o64 hb.2.2.2.2 (by omega))), .t (by simp; omega), .r 73 (e64 (b := ((g - 1 : Nat) : Int)) (by omega)), .f (by simp; omega)] rfl (by simp only [AllP, appP, e1, IntKind.bits]; omega) (rd (g - 1, r + top) (by dsimp only; omega) ⟨hrd.2.2.1, hrd.2.1, by dsimp only; omega, by dsimp only; omega⟩ rfl)
      · have hf := D.fin j1 (by omega) (by omega)
        have e1 : (g : Int) * (nx : Int) = ((g * nx : Nat) : Int) := by push_cast; rfl
        obtain ⟨m, hm⟩ : ∃ m, m = g * nx := ⟨_, rfl⟩
        rw [← hm] at e1 hgn hc
        exact go tt [.f (by simp; omega), .r 60 (e64 (b := (m : Int)) e1), .i 32, .r 62 (e64 (b := ((4294967296 * r : Nat) : Int)) (by omega)), .r 65 (eI (b := ((ly.length - 2 : Nat) : Int)) (by omega)), .i (ly.length - 2), .x (wget D.x2), .r 69 (e64 (b := ((4294967296 * r + x2 : Nat) : Int)) (o64 hb.2.2.2.2 (by omega))), .f (by simp; omega)] rfl (by simp only [AllP, appP, e1, IntKind.bits]; omega) (rc g ⟨j2, hf, by omega⟩ rfl)
  · intro g ⟨q1, q2, q3⟩
    refine go tt [.r 80 (eI (b := (ly.length : Int)) (by rw [lm_len]))] rfl trivial ?_
    refine lp (S := Nat × List Nat × Nat × Nat) 1 (fun L1 s => (81, .v (.one (.int .i64 (s.1 : Int)))) :: (11, .v (.one (.int .u64 (s.2.2.1 : Int)))) :: (12, .v (.one (.int .u64 (s.2.2.2 : Int)))) :: L1) (fun s => [.row true 169 1 (lm (pre ++ s.2.1 ++ post))]) (fun s => ly.length - s.1)
      (fun s => s.1 ≤ ly.length ∧ s.2.1.length = ly.length + 1 ∧ Sm s.2.1 ∧ s.2.2.2 ≤ 1 ∧ s.2.2.1 < 4294967296 ∧ val (s.2.1.take s.1) + g * val (ly.take s.1) = val (x.take s.1) + (s.2.2.1 + s.2.2.2) * 4294967296 ^ s.1 ∧ s.2.1.drop s.1 = x.drop s.1) (0, x, 0, 0)
      ⟨Nat.zero_le _, hxl, D.xb, Nat.zero_le _, by simp, by simp [val], rfl⟩ rfl (fun _ _ => rfl) rfl fun ⟨i, o, cy, bw⟩ ⟨j1, j2, j3, j4, j5, j6, j7⟩ => ?_
    dsimp only at j1 j2 j3 j4 j5 j6 j7 ⊢
    by_cases hi : i < ly.length
    · obtain ⟨w1, hw1⟩ : ∃ y, ly[i]? = some y := ⟨_, List.getElem?_eq_getElem hi⟩
      obtain ⟨u, hu⟩ : ∃ y, x[i]? = some y := ⟨_, List.getElem?_eq_getElem (by omega)⟩
      have wb := D.lb w1 (List.mem_of_getElem? hw1)
      have ub := D.xb u (List.mem_of_getElem? hu)
      have hou := (drop_get j7).trans hu
      have hgw : g * w1 ≤ 18446744069414584320 := by
        have := Nat.mul_le_mul q3 (show w1 ≤ 4294967295 by omega)
        omega
      obtain ⟨s, hs⟩ : ∃ s, s = ((u + 18446744073709551616 - (g * w1 + cy) % 4294967296) % 18446744073709551616 + 18446744073709551616 - bw) % 18446744073709551616 := ⟨_, rfl⟩
      have hstep := mulsub_step' (o := o) (by omega) hu hw1 ub j4 j6 rfl hs
      have e1 : (g : Int) * (w1 : Int) = ((g * w1 : Nat) : Int) := by push_cast; rfl
      obtain ⟨m, hm⟩ : ∃ m, m = g * w1 := ⟨_, rfl⟩
      rw [← hm] at e1 hgw hs hstep
      obtain ⟨p, hp⟩ : ∃ p, p = m + cy := ⟨_, rfl⟩
      rw [← hp] at hs hstep
      refine go tt [.t (by simp; omega), .x (lm_get hw1), .r 89 (e64 (b := (m : Int)) e1), .r 91 (e64 (b := (p : Int)) (by omega)), .i 32, .r 93 (e64 (b := ((p / 2 ^ 32 : Nat) : Int)) (by simp)), .i i, .x (wget hou), .w 1, .r 100 (e32 (b := ((p % 4294967296 : Nat) : Int)) (by rw [w32]; omega)), .w 1, .r 102 (e64 (b := (((u + 18446744073709551616 - p % 4294967296) % 18446744073709551616 : Nat) : Int)) (by rw [w64]; omega)), .w 0, .r 104 (e64 (b := (s : Int)) (by rw [w64]; omega)),
        .w 0, .r 108 (e32 (b := ((s % 4294967296 : Nat) : Int)) (by rw [w32]; omega)), .i 63, .r 110 (e64 (b := ((s / 2 ^ 63 : Nat) : Int)) (by simp)), .i i] rfl (by simp only [AllP, appP, e1, IntKind.bits, lm_len, List.length_append]; omega) ?_
      rw [wset (by omega)]
      exact rd (i + 1, o.set i (s % 4294967296), p / 2 ^ 32, s / 2 ^ 63) (by dsimp only; omega) ⟨hi, by simp [j2], set_lt j3 _ _ (by omega), hstep.2, by dsimp only; omega, hstep.1, drop_next j7⟩ rfl
    · obtain rfl : i = ly.length := by omega
      have hon := (drop_get j7).trans D.xn
      rw [List.take_of_length_le (l := ly) (Nat.le_refl _)] at j6
      obtain ⟨s, hs⟩ : ∃ s, s = ((xn + 18446744073709551616 - cy) % 18446744073709551616 + 18446744073709551616 - bw) % 18446744073709551616 := ⟨_, rfl⟩
      obtain ⟨oa, hoa⟩ : ∃ oa, oa = o.set ly.length (s % 4294967296) := ⟨_, rfl⟩
      have oal : oa.length = ly.length + 1 := by rw [hoa, List.length_set]; exact j2
      have oab : Sm oa := hoa ▸ set_lt j3 _ _ (by omega)
      by_cases hs0 : s / 2 ^ 63 = 0
      · have hf := D.fin0 j2 j5 j4 q1 j6 hs hs0
        refine go tt [.f (by simp), .i ly.length, .x (wget hon), .w 1, .r 119 (e64 (b := (((xn + 18446744073709551616 - cy) % 18446744073709551616 : Nat) : Int)) (by rw [w64]; omega)), .w 0, .r 121 (e64 (b := (s : Int)) (by rw [w64]; omega)), .w 0, .r 125 (e32 (b := ((s % 4294967296 : Nat) : Int)) (by rw [w32]; omega)), .i ly.length, .i 63, .r 128 (e64 (b := ((s / 2 ^ 63 : Nat) : Int)) (by simp)), .t (by simp; omega), .w 0, .r 131 (e32 (b := ((val x / val ly : Nat) : Int)) (by rw [w32]; omega))] rfl (by simp only [AllP, appP, IntKind.bits, lm_len, List.length_append]; omega) ?_
        rw [wset (by omega), ← dgs_eq (l := o.set ly.length (s % 4294967296)) (k := x.length) (hoa ▸ oab) (by rw [← hoa, oal, hxl]) hf.2]
        exact ed tt [] [0] [] rfl trivial
      · have hf := D.fin1 j2 j3 j5 j4 q2 j6 hs hs0
        rw [← hoa] at hf
        obtain ⟨v1, hv1⟩ : ∃ y, oa[ly.length]? = some y := ⟨_, List.getElem?_eq_getElem (by omega)⟩
        refine go tt [.f (by simp), .i ly.length, .x (wget hon), .w 1, .r 119 (e64 (b := (((xn + 18446744073709551616 - cy) % 18446744073709551616 : Nat) : Int)) (by rw [w64]; omega)), .w 0, .r 121 (e64 (b := (s : Int)) (by rw [w64]; omega)), .w 0, .r 125 (e32 (b := ((s % 4294967296 : Nat) : Int)) (by rw [w32]; omega)), .i ly.length, .i 63, .r 128 (e64 (b := ((s / 2 ^ 63 : Nat) : Int)) (by simp)), .f (by simp; omega), .r 133 (eI (b := (ly.length : Int)) (by rw [lm_len]))] rfl (by simp only [AllP, appP, IntKind.bits, lm_len, List.length_append]; omega) ?_
        rw [wset (by omega), ← hoa]
        refine lp (S := Nat × List Nat × Nat) 1 (fun L1 s => (134, .v (.one (.int .i64 (s.1 : Int)))) :: (18, .v (.one (.int .u64 (s.2.2 : Int)))) :: L1) (fun s => [.row true 169 1 (lm (pre ++ s.2.1 ++ post))]) (fun s => ly.length - s.1)
          (fun s => s.1 ≤ ly.length ∧ s.2.1.length = ly.length + 1 ∧ Sm s.2.1 ∧ s.2.2 ≤ 1 ∧ val (s.2.1.take s.1) + s.2.2 * 4294967296 ^ s.1 = val (oa.take s.1) + val (ly.take s.1) ∧ s.2.1.drop s.1 = oa.drop s.1) (0, oa, 0)
          ⟨Nat.zero_le _, oal, oab, Nat.zero_le _, by simp [val], rfl⟩ rfl (fun _ _ => rfl) rfl fun ⟨j, o2, bk⟩ ⟨r1, r2, r3, r4, r5, r6⟩ => ?_
        dsimp only at r1 r2 r3 r4 r5 r6 ⊢
        by_cases hj : j < ly.length
        · obtain ⟨w1, hw1⟩ : ∃ y, ly[j]? = some y := ⟨_, List.getElem?_eq_getElem hj⟩
          obtain ⟨u, hu⟩ : ∃ y, oa[j]? = some y := ⟨_, List.getElem?_eq_getElem (by omega)⟩
          have wb := D.lb w1 (List.mem_of_getElem? hw1)
          have ub := oab u (List.mem_of_getElem? hu)
          have hou := (drop_get r6).trans hu
          obtain ⟨m, hm⟩ : ∃ m, m = u + bk + w1 := ⟨_, rfl⟩
          have hstep := add_step (o := o2) (by omega) hu (.inl hw1) r5 hm
          refine go tt [.t (by simp; omega), .x (lm_get hw1), .i j, .x (wget hou), .r 148 (e64 (b := (m : Int)) (by omega)), .w 0, .r 152 (e32 (b := ((m % 4294967296 : Nat) : Int)) (by rw [w32]; omega)), .i 32, .r 154 (e64 (b := ((m / 4294967296 : Nat) : Int)) (by simp)), .i j] rfl (by simp only [AllP, appP, IntKind.bits, lm_len, List.length_append]; omega) ?_
          rw [wset (by omega)]
          exact rd (j + 1, o2.set j (m % 4294967296), m / 4294967296) (by dsimp only; omega) ⟨hj, by simp [r2], set_lt r3 _ _ (by omega), by dsimp only; omega, hstep, drop_next r6⟩ rfl
        · obtain rfl : j = ly.length := by omega
          have hon2 := (drop_get r6).trans hv1
          have vb := oab v1 (List.mem_of_getElem? hv1)
          rw [List.take_of_length_le (l := ly) (Nat.le_refl _)] at r5
          have hf2 := D.fin2 oal oab r2 r3 hv1 r4 hf.2 r5
          refine go tt [.f (by simp), .i ly.length, .x (wget hon2), .w 1, .r 165 (e32 (b := (((v1 + bk) % 4294967296 : Nat) : Int)) (by rw [w32]; omega)), .i ly.length, .w 0, .r 168 (e32 (b := ((g % 4294967296 : Nat) : Int)) (by rw [w32]; omega)), .w 0, .r 169 (e32 (b := ((val x / val ly : Nat) : Int)) (sub32 hf.1 D.qlt))] rfl (by simp only [AllP, appP, IntKind.bits, lm_len, List.length_append]; omega) ?_
          rw [wset (by omega), ← dgs_eq (l := o2.set ly.length ((v1 + bk) % 4294967296)) (k := x.length) (set_lt r3 _ _ (by omega)) (by rw [List.length_set, r2, hxl]) hf2]
          exact ed tt [] [0] [] rfl trivial
end Orr

namespace Orr
open Go Go.Proofs
set_option maxRecDepth 10000
theorem c_digit' {o ly : List Nat} {lo top nx xn x1 x2 : Nat} (hlo : lo + (ly.length + 1) ≤ o.length) (D : Dig (win o lo ly.length) ly ly.length top nx xn x1 x2) (hn : ly.length < 274877906944) :
    DoesD Tryz.prog 222 [.one (.orow 0 1 (some (lo, ly.length + 1))), lr ly] [.row true 169 1 (lm o)] [.one (.int .u32 ((val (win o lo ly.length) / val ly : Nat) : Int))] [.row true 169 1 (lm (o.take lo ++ dgs (ly.length + 1) (val (win o lo ly.length) % val ly) ++ o.drop (lo + ly.length + 1)))] := by
  have := c_digit (pre := o.take lo) (post := o.drop (lo + ly.length + 1)) D hn
  have e1 : (o.take lo).length = lo := by rw [List.length_take]; omega
  have e2 := win_len (o := o) (i := lo) (n := ly.length) (by omega)
  rw [e1, e2, win_split] at this
  exact this
theorem c_DivMod {a b : List Nat} (ha : Sm a) (hb : Sm b) (h1 : sz (val a) ≤ 4294967296) (h2 : sz (val b) ≤ 4294967296) (hy : 0 < val b) : Does Tryz.prog 170 [lr a, lr b] [lr (limbs (val a / val b)), lr (limbs (val a % val b)), .one (.int .i64 0)] := by
  refine fnD Tryz.func170 rfl ?_
  obtain ⟨p, ca, np, vp, _, ep⟩ := cutd ha
  obtain ⟨q, cb, nq, vq, _, eq⟩ := cutd hb
  have hp := limbs_len h1
  have hq := limbs_len h2
  rw [← ep] at hp
  rw [← eq] at hq
  rw [← vp, ← vq]
  rw [← vp] at h1
  rw [← vq] at h2 hy
  have q0 : q ≠ [] := fun e => by rw [e] at hy; simp [val] at hy
  have qp : 0 < q.length := List.length_pos_iff.2 q0
  have c1 : ¬ ((lm q).length : Int) = 0 := by rw [lm_len]; omega
  by_cases hlt : p.length < q.length
  · have hv := nrm_lt_of_len np nq hlt
    rw [Nat.div_eq_of_lt hv, Nat.mod_eq_of_lt hv, limbs_zero]
    exact en tt [.c [] ca, .c [] cb, .f (by simpa using c1), .t (by simp [lm_len]; omega), .c [] (c_Norm np.1 h1)] rfl rfl (by simp [AllP, appP])
  by_cases hone : q.length = 1
  · obtain ⟨y, rfl⟩ : ∃ y, q = [y] := by
      match q, hone with
      | [y], _ => exact ⟨y, rfl⟩
    have yb := nq.1 y (.head _)
    have vy : val [y] = y := by simp [val]
    rw [vy] at hy ⊢
    have co := c_one np.1 (by omega) hy yb
    have sm : Sm [val p % y] := fun z hz => by
      simp at hz; subst hz; exact Nat.lt_trans (Nat.mod_lt _ hy) yb
    have cc := c_cut sm
    rw [show val [val p % y] = val p % y from by simp [val]] at cc
    exact en tt [.c [] ca, .c [] cb, .f (by simp [lm]), .f (by simp [lm_len]; omega), .t (by simp [lm]), .x (lm_get (l := [y]) (i := 0) rfl), .c [] co, .c [] cc] rfl rfl (by simp [AllP, appP])
  · have hle : q.length ≤ p.length := Nat.le_of_not_lt hlt
    obtain ⟨y1, hy1, hy10⟩ := nq.2 q0
    have y1b := nq.1 y1 (List.mem_of_getElem? hy1)
    have hszy := sz_val nq hy1
    have hsz1 : sz y1 ≤ 32 := sz_le.2 (by omega)
    have hsz0 : 0 < sz y1 := sz_pos (by omega)
    obtain ⟨s, hs⟩ : ∃ s, s = 32 - sz y1 := ⟨_, rfl⟩
    have hs31 : s ≤ 31 := by omega
    have e32 : (2 : Nat) ^ 32 = 4294967296 := by decide
    obtain ⟨x, hx⟩ : ∃ x, x = val p := ⟨_, rfl⟩
    obtain ⟨y, hyv⟩ : ∃ y, y = val q := ⟨_, rfl⟩
    have cl := c_Lead y1b
    rw [← hs] at cl
    have hvx : val p * 2 ^ s < 4294967296 ^ (p.length + 1) := by
      have h1 := val_lt p np.1
      rw [Nat.pow_succ]
      exact Nat.lt_of_lt_of_le (Nat.mul_lt_mul_of_pos_right h1 (show 0 < 2 ^ s from Nat.pow_pos (by decide))) (Nat.mul_le_mul_left _ (by rw [← e32]; exact Nat.pow_le_pow_right (by decide) (by omega)))
    have hvy : val q * 2 ^ s < 4294967296 ^ q.length := by
      have h1 := lt_sz (val q)
      rw [← e32, ← Nat.pow_mul]
      have h2 : val q * 2 ^ s < 2 ^ sz (val q) * 2 ^ s := Nat.mul_lt_mul_of_pos_right h1 (Nat.pow_pos (by decide))
      rw [← Nat.pow_add] at h2
      rw [show 32 * q.length = sz (val q) + s from by omega]
      exact h2
    have cx := c_wide np.1 (show sz (val p) ≤ 4294967400 by omega) hs31 (show p.length + 1 < 274877906944 by omega) (by omega) hvx
    have cy := c_wide nq.1 (show sz (val q) ≤ 4294967400 by omega) hs31 (show q.length < 274877906944 by omega) qp hvy
    obtain ⟨hXl, hXb, hXv⟩ := dgs_ok (k := p.length + 1) (v := val p * 2 ^ s)
    obtain ⟨hYl, hYb, hYv⟩ := dgs_ok (k := q.length) (v := val q * 2 ^ s)
    have hXv := hXv hvx
    have hYv := hYv hvy
    obtain ⟨X, hX⟩ : ∃ X, X = dgs (p.length + 1) (val p * 2 ^ s) := ⟨_, rfl⟩
    obtain ⟨Y, hY⟩ : ∃ Y, Y = dgs q.length (val q * 2 ^ s) := ⟨_, rfl⟩
    rw [← hX] at hXl hXb hXv cx
    rw [← hY] at hYl hYb hYv cy
    have hyB : 4294967296 ^ (q.length - 1) ≤ val q := nrm_low nq q0
    have hR := rest_start hXv hYv hXl hXb hYl hYb (show 2 ≤ q.length by omega) (val_lt p np.1) hyB hle
    refine go tt [.c [] ca, .c [] cb, .f (by simpa using c1), .f (by simp [lm_len]; omega), .f (by simp [lm_len]; omega), .r 49 (eI (b := ((q.length - 1 : Nat) : Int)) (by rw [lm_len]; omega)), .x (lm_get hy1), .c [] cl, .r 57 (eI (b := ((p.length + 1 : Nat) : Int)) (by rw [lm_len]; omega)), .c [0] cx, .r 62 (eI (b := (q.length : Int)) (by rw [lm_len])), .c [1] cy, .r 65 (eI (b := (q.length : Int)) (by rw [lm_len, hYl])), .r 70 (eI (b := ((p.length - q.length + 1 : Nat) : Int)) (by rw [lm_len]; omega)), .i (p.length - q.length + 1), .i (p.length - q.length + 1), .r 73 (eI (b := ((p.length - q.length + 1 : Nat) : Int)) (by simp))] rfl ?_ ?_
    · simp only [AllP, appP, IntKind.bits, lm_len]
      omega
    · rw [rep_lm]
      refine pb 1 rfl rfl ?_
      refine lp (S := Int × List Nat × List Nat) 3 (fun L1 s => (13, .v (.one (.int .i64 s.1))) :: L1) (fun s => [.row false 169 1 (lm s.2.2), .gone, .row false 169 1 (lm s.2.1)]) (fun s => (s.1 + 1).toNat)
        (fun s => -1 ≤ s.1 ∧ s.1 < p.length - q.length + 1 ∧ s.2.1.length = p.length - q.length + 1 ∧ Sm s.2.1 ∧ Rest s.2.2 Y p.length q.length (s.1 + 1).toNat ∧ val (s.2.1.drop (s.1 + 1).toNat) * 4294967296 ^ (s.1 + 1).toNat * val Y + val s.2.2 = val X) (((p.length - q.length + 1 : Nat) : Int) - 1, List.replicate (p.length - q.length + 1) 0, X)
        ⟨by dsimp only; omega, by dsimp only; omega, by simp, fun x hx => by rw [List.eq_of_mem_replicate hx]; decide, by simpa using hR, by simp [val]⟩ rfl (fun _ _ => rfl) rfl fun ⟨i, oq, ox⟩ ⟨j1, j2, j3, j4, j5, j6⟩ => ?_
      dsimp only at j1 j2 j3 j4 j5 j6 ⊢
      rcases Int.lt_or_le i 0 with hi | hi
      · obtain rfl : i = -1 := by omega
        simp only [show ((-1 : Int) + 1).toNat = 0 from rfl, List.drop_zero, Nat.pow_zero, Nat.mul_one] at j5 j6
        have hlt' : val ox < val q * 2 ^ s := by have := j5.lt; rw [hYv] at this; simpa using this
        have hfin := rest_end (x := val p) (y := val q) (s := s) (r := val ox) (q := oq) hy (by rw [← hXv, ← hYv]; exact j6) hlt'
        have hoxl := j5.ol
        have hox := take_small (o := ox) (n := q.length) (by omega) (Nat.lt_trans hlt' hvy)
        have hszm : sz (val (ox.take q.length)) ≤ 4294967400 := by
          rw [hox, hfin.2]
          have h1 := sz_mul (val p % val q) (2 ^ s)
          have h2' := sz_mono (Nat.le_of_lt (Nat.mod_lt (val p) hy))
          have h3 : sz (2 ^ s) ≤ s + 1 := sz_le.2 (Nat.pow_lt_pow_right (by decide) (by omega))
          omega
        have cs := c_Shr (a := ox.take q.length) (fun u hu => j5.ob u (List.mem_of_mem_take hu)) hszm hs31
        rw [hox, hfin.2, Nat.mul_div_cancel _ (Nat.pow_pos (by decide))] at cs
        have cq := c_cut j4
        rw [hfin.1] at cq
        exact en tt [.f (by decide), .p 2, .p 0, .c [] cq, .i q.length, .r 95 (v := lr (ox.take q.length)) (by simp [lm]), .c [] cs] rfl rfl (by simp [AllP, appP, lm_len]; omega)
      · obtain ⟨k, rfl⟩ := Int.eq_ofNat_of_zero_le hi
        have e : ((k : Int) + 1).toNat = k + 1 := by omega
        rw [e] at j5 j6
        obtain ⟨top, nx, xn, x1, x2, D⟩ := j5.dig
        have hoxl := j5.ol
        have hm := j5.hm
        have cd := c_digit' (o := ox) (lo := k) (by omega) (hYl.symm ▸ D) (by omega)
        rw [hYl] at cd
        have hwl := win_len (o := ox) (i := k) (n := q.length) (by omega)
        have hwlt : val (win ox k q.length) % val Y < 4294967296 ^ (q.length + 1) := by
          have h3 := val_lt (win ox k q.length) D.xb
          rw [hwl] at h3
          exact Nat.lt_of_le_of_lt (Nat.mod_le _ _) h3
        obtain ⟨d1, d2, d3⟩ := dgs_ok (k := q.length + 1) (v := val (win ox k q.length) % val Y)
        have hnx := j5.next (w' := dgs (q.length + 1) (val (win ox k q.length) % val Y)) (d1.trans hwl.symm) d2 (d3 hwlt) (q := oq) (by omega) j6
        have hdg := D.qlt
        refine go tt [.t (by simp), .i k, .i (k + q.length + 1), .r 87 (v := .one (.orow 0 1 (some (k, q.length + 1)))) (by rw [show k + q.length + 1 - k = q.length + 1 by omega]), .c [0] cd, .i k] rfl ?_ ?_
        · simp only [AllP, lm_len]; omega
        · rw [lm_set]
          refine rd ((k : Int) - 1, oq.set k (val (win ox k q.length) / val Y), ox.take k ++ dgs (q.length + 1) (val (win ox k q.length) % val Y) ++ ox.drop (k + q.length + 1)) (by dsimp only; omega) ⟨by dsimp only; omega, by dsimp only; omega, by simp [j3], set_lt j4 _ _ hdg, ?_, ?_⟩ rfl
          · dsimp only; rw [show ((k : Int) - 1 + 1).toNat = k from by omega]; exact hnx.1
          · dsimp only; rw [show ((k : Int) - 1 + 1).toNat = k from by omega]; exact hnx.2
end Orr

namespace Orr
open Go Go.Proofs
set_option maxRecDepth 10000
/-- a whole number's two leaves -/
def sg (z : Int) : LV := .bool (decide (z < 0))
def mg (z : Int) : LV := .row (lm (limbs z.natAbs))
abbrev ofI (z : Int) : List LV := [sg z, mg z]
/-- in any form -/
def IsInt (x y : LV) (z : Int) : Prop := ∃ b l, x = .bool b ∧ y = .row (lm l) ∧ Sm l ∧ z = ofSign b (val l)
theorem isInt_n (z : Int) : IsInt (sg z) (mg z) z := by
  refine ⟨_, _, rfl, rfl, sm_limbs _, ?_⟩
  rw [val_limbs]
  unfold ofSign
  by_cases h : z < 0 <;> simp [h] <;> omega
theorem ofI_mk (b : Bool) (m : Nat) : [LV.bool (b && decide (0 < m)), LV.row (lm (limbs m))] = ofI (ofSign b m) := by
  simp only [ofI, sg, mg, ofSign_neg, ofSign_natAbs]
theorem limbs_pos_len {m : Nat} : 0 < (limbs m).length ↔ 0 < m := by
  rcases Nat.eq_zero_or_pos m with h | h
  · subst h; rw [limbs_zero]; simp
  · rw [limbs_pos (by omega)]; simp [h]
theorem c_made (b : Bool) (m : Nat) : Does Tryz.prog 122 [lr (limbs m), .one (.bool b)] [.agg (ofI (ofSign b m))] := by
  rw [← ofI_mk]
  have e := limbs_pos_len (m := m)
  cases b with
  | false => exact w tt Tryz.func122 rfl [.f rfl] rfl rfl trivial
  | true => exact w tt Tryz.func122 rfl [.t rfl] rfl (by simp [lm_len, e]) trivial
theorem ofSign_sz {b : Bool} {m : Nat} {k : Nat} (h : isz (ofSign b m) ≤ k) : sz m ≤ k := by
  unfold isz at h; rwa [ofSign_natAbs] at h
theorem c_WNorm {x y : LV} {z : Int} (hi : IsInt x y z) (hs : isz z ≤ 4294967295) : Does Tryz.prog 116 [.agg [x, y]] [.agg (ofI z)] := by
  obtain ⟨b, l, rfl, rfl, hl, rfl⟩ := hi
  exact w tt Tryz.func116 rfl [.c [] (c_Norm hl (Nat.le_trans (ofSign_sz hs) (by decide))), .c [] (c_made _ _)] rfl rfl trivial
theorem flip_ofSign' (b : Bool) (m : Nat) : ofSign (!b) m = -(ofSign b m) := by unfold ofSign; cases b <;> simp
theorem c_Neg {x y : LV} {z : Int} (hi : IsInt x y z) (hs : isz z ≤ 4294967295) : Does Tryz.prog 119 [.agg [x, y]] [.agg (ofI (-z))] := by
  obtain ⟨b, l, rfl, rfl, hl, rfl⟩ := hi
  rw [← flip_ofSign']
  exact w tt Tryz.func119 rfl [.c [] (c_Norm hl (Nat.le_trans (ofSign_sz hs) (by decide))), .c [] (c_made _ _)] rfl rfl trivial
theorem c_WMul {x y x' y' : LV} {z z' : Int} (hi : IsInt x y z) (hi' : IsInt x' y' z') (hs : isz z ≤ 4294967295) (hs' : isz z' ≤ 4294967295) : Does Tryz.prog 182 [.agg [x, y], .agg [x', y']] [.agg (ofI (z * z'))] := by
  obtain ⟨b, l, rfl, rfl, hl, rfl⟩ := hi
  obtain ⟨b', l', rfl, rfl, hl', rfl⟩ := hi'
  have e : ofSign b (val l) * ofSign b' (val l') = ofSign (b != b') (val l * val l') := by
    unfold ofSign; cases b <;> cases b' <;> simp [Int.neg_mul, Int.mul_neg]
  rw [e]
  exact w tt Tryz.func182 rfl [.c [] (c_Mul hl hl' (Nat.le_trans (ofSign_sz hs) (by decide)) (Nat.le_trans (ofSign_sz hs') (by decide))), .c [] (c_made _ _)] rfl rfl trivial
theorem c_Sub_le {a b : List Nat} (ha : Sm a) (hb : Sm b) (h1 : sz (val a) ≤ 4294967296) (h : val b ≤ val a) : Does Tryz.prog 167 [lr a, lr b] [lr (limbs (val a - val b)), .one (.bool true)] := by
  have := c_Sub ha hb h1; rwa [if_pos h] at this
theorem c_Sub_lt {a b : List Nat} (ha : Sm a) (hb : Sm b) (h1 : sz (val a) ≤ 4294967296) (h : val a < val b) : Does Tryz.prog 167 [lr a, lr b] [lr [], .one (.bool false)] := by
  have := c_Sub ha hb h1; rwa [if_neg (by omega)] at this
theorem c_WAdd {x y x' y' : LV} {z z' : Int} (hi : IsInt x y z) (hi' : IsInt x' y' z') (hs : isz z ≤ 4294967295) (hs' : isz z' ≤ 4294967295) : Does Tryz.prog 111 [.agg [x, y], .agg [x', y']] [.agg (ofI (z + z'))] := by
  obtain ⟨b, l, rfl, rfl, hl, rfl⟩ := hi
  obtain ⟨b', l', rfl, rfl, hl', rfl⟩ := hi'
  have s1 := Nat.le_trans (ofSign_sz hs) (show 4294967295 ≤ 4294967296 by decide)
  have s2 := Nat.le_trans (ofSign_sz hs') (show 4294967295 ≤ 4294967296 by decide)
  by_cases hb : b = b'
  · subst hb
    have e : ofSign b (val l) + ofSign b (val l') = ofSign b (val l + val l') := by unfold ofSign; cases b <;> simp <;> omega
    rw [e]
    exact w tt Tryz.func111 rfl [.t (by simp), .c [] (c_Add hl hl' s1 s2), .c [] (c_made _ _)] rfl rfl trivial
  · by_cases hle : val l' ≤ val l
    · have e : ofSign b (val l) + ofSign b' (val l') = ofSign b (val l - val l') := by unfold ofSign; cases b <;> cases b' <;> simp at hb ⊢ <;> omega
      rw [e]
      exact w tt Tryz.func111 rfl [.f (by simpa using hb), .c [] (c_Sub_le hl hl' s1 hle), .t rfl, .c [] (c_made _ _)] rfl rfl trivial
    · have e : ofSign b (val l) + ofSign b' (val l') = ofSign b' (val l' - val l) := by unfold ofSign; cases b <;> cases b' <;> simp at hb ⊢ <;> omega
      rw [e]
      exact w tt Tryz.func111 rfl [.f (by simpa using hb), .c [] (c_Sub_lt hl hl' s1 (by omega)), .f rfl, .c [] (c_Sub_le hl' hl s2 (by omega)), .c [] (c_made _ _)] rfl rfl trivial
theorem c_WSub {x y x' y' : LV} {z z' : Int} (hi : IsInt x y z) (hi' : IsInt x' y' z') (hs : isz z ≤ 4294967295) (hs' : isz z' ≤ 4294967295) : Does Tryz.prog 234 [.agg [x, y], .agg [x', y']] [.agg (ofI (z - z'))] := by
  obtain ⟨b', l', rfl, rfl, hl', rfl⟩ := hi'
  have hn : IsInt (.bool (!b')) (.row (lm l')) (-(ofSign b' (val l'))) := ⟨_, _, rfl, rfl, hl', (flip_ofSign' _ _).symm⟩
  rw [Int.sub_eq_add_neg]
  have hi2 := hi
  obtain ⟨b, l, rfl, rfl, hl, _⟩ := hi
  exact w tt Tryz.func234 rfl [.c [] (c_WAdd hi2 hn hs (by rw [isz_neg]; exact hs'))] rfl rfl trivial
theorem c_sign {x y : LV} {z : Int} (hi : IsInt x y z) (hs : isz z ≤ 4294967295) : Does Tryz.prog 242 [.agg [x, y]] [.one (.int .i64 (Int.sign z))] := by
  obtain ⟨b, l, rfl, rfl, hl, rfl⟩ := hi
  have s1 := Nat.le_trans (ofSign_sz hs) (show 4294967295 ≤ 4294967296 by decide)
  have cb := c_Bits hl s1
  by_cases h0 : val l = 0
  · have e : ofSign b (val l) = 0 := by unfold ofSign; rw [h0]; cases b <;> simp
    rw [e]
    exact w tt Tryz.func242 rfl [.c [] cb, .t (by simp [sz_eq_zero, h0])] rfl rfl trivial
  · have hs0 : sz (val l) ≠ 0 := fun h => h0 (sz_eq_zero.1 h)
    cases b
    · have e : (ofSign false (val l)).sign = 1 := Int.sign_eq_one_of_pos (by unfold ofSign; simp; omega)
      rw [e]
      exact w tt Tryz.func242 rfl [.c [] cb, .f (by simp; omega), .f rfl] rfl rfl trivial
    · have e : (ofSign true (val l)).sign = -1 := Int.sign_eq_neg_one_of_neg (by unfold ofSign; simp; omega)
      rw [e]
      exact w tt Tryz.func242 rfl [.c [] cb, .f (by simp; omega), .t rfl] rfl rfl trivial
theorem c_WCmp {x y x' y' : LV} {z z' : Int} (hi : IsInt x y z) (hi' : IsInt x' y' z') (hs : isz z ≤ 4294967295) (hs' : isz z' ≤ 4294967295) : Does Tryz.prog 199 [.agg [x, y], .agg [x', y']] [.one (.int .i64 (cmpZ z z'))] := by
  have c1 := c_sign hi hs
  have c2 := c_sign hi' hs'
  obtain ⟨b, l, rfl, rfl, hl, hz⟩ := hi
  obtain ⟨b', l', rfl, rfl, hl', hz'⟩ := hi'
  have k1 := sign_cases z
  have k2 := sign_cases z'
  have zl : z.natAbs = val l := by rw [hz, ofSign_natAbs]
  have zl' : z'.natAbs = val l' := by rw [hz', ofSign_natAbs]
  by_cases h1 : z.sign < z'.sign
  · have e : cmpZ z z' = -1 := by unfold cmpZ; rw [if_pos (by omega)]
    rw [e]
    exact w tt Tryz.func199 rfl [.c [] c1, .c [] c2, .t (by simpa using h1)] rfl rfl trivial
  · by_cases h2 : z'.sign < z.sign
    · have e : cmpZ z z' = 1 := by unfold cmpZ; rw [if_neg (by omega), if_pos (by omega)]
      rw [e]
      exact w tt Tryz.func199 rfl [.c [] c1, .c [] c2, .f (by simpa using h1), .t (by simpa using h2)] rfl rfl trivial
    · by_cases h3 : z.sign < 0
      · have e : cmpN (val l') (val l) = cmpZ z z' := by unfold cmpZ cmpN; rw [← zl, ← zl']; split <;> split <;> (try split) <;> (try split) <;> omega
        have cc := c_Cmp hl' hl
        rw [e] at cc
        exact w tt Tryz.func199 rfl [.c [] c1, .c [] c2, .f (by simpa using h1), .f (by simpa using h2), .t (by simpa using h3), .c [] cc] rfl rfl trivial
      · have e : cmpN (val l) (val l') = cmpZ z z' := by unfold cmpZ cmpN; rw [← zl, ← zl']; split <;> split <;> (try split) <;> (try split) <;> omega
        have cc := c_Cmp hl hl'
        rw [e] at cc
        exact w tt Tryz.func199 rfl [.c [] c1, .c [] c2, .f (by simpa using h1), .f (by simpa using h2), .f (by simpa using h3), .c [] cc] rfl rfl trivial
theorem c_Zero {z : Int} : Does Tryz.prog 117 [.agg (ofI z)] [.one (.bool (decide (z = 0)))] :=
  w tt Tryz.func117 rfl [] rfl (by simp only [lm_len]; congr 3; have := limbs_pos_len (m := z.natAbs); rw [decide_eq_decide]; omega) trivial
theorem c_Of {z : Int} (h1 : -9223372036854775808 ≤ z ∧ z ≤ 9223372036854775807) : Does Tryz.prog 75 [.one (.int .i64 z)] [.agg (ofI z)] := by
  obtain ⟨m, hm⟩ : ∃ m, m = z.natAbs := ⟨_, rfl⟩
  have sm : Sm [m % 4294967296, m / 4294967296] := fun x hx => by
    simp at hx; rcases hx with rfl | rfl <;> omega
  have hv : val [m % 4294967296, m / 4294967296] = m := by simp only [val]; omega
  have cn := c_Norm sm (by rw [hv]; exact Nat.le_trans (sz_le.2 (show m < 2 ^ 64 by omega)) (show 64 ≤ 4294967296 by decide))
  rw [hv] at cn
  by_cases hz : z < 0
  · have e : ofSign true m = z := by unfold ofSign; simp; omega
    have cm := c_made true m
    rw [e] at cm
    exact w tt Tryz.func75 rfl [.w 0, .r 5 (e64 (b := ((18446744073709551616 - m : Nat) : Int)) (by rw [w64]; omega)), .t (by simpa using hz), .w 0, .r 9 (e64 (b := (m : Int)) (by rw [w64]; omega)), .w 0, .r 11 (e32 (b := ((m % 4294967296 : Nat) : Int)) (by rw [w32]; omega)), .i 32, .r 13 (e64 (b := ((m / 4294967296 : Nat) : Int)) (by simp)), .c [] cn, .r 18 (v := .one (.bool true)) (by simp [hz]), .c [] cm] rfl rfl (by simp [AllP, IntKind.bits] <;> omega)
  · have e : ofSign false m = z := by unfold ofSign; simp; omega
    have cm := c_made false m
    rw [e] at cm
    exact w tt Tryz.func75 rfl [.w 0, .r 5 (e64 (b := (m : Int)) (by rw [w64]; omega)), .f (by simpa using hz), .w 0, .r 11 (e32 (b := ((m % 4294967296 : Nat) : Int)) (by rw [w32]; omega)), .i 32, .r 13 (e64 (b := ((m / 4294967296 : Nat) : Int)) (by simp)), .c [] cn, .r 18 (v := .one (.bool false)) (by simp; omega), .c [] cm] rfl rfl (by simp [AllP, IntKind.bits] <;> omega)
theorem c_DivMod_l {m n : Nat} (h1 : sz m ≤ 4294967296) (h2 : sz n ≤ 4294967296) (hn : 0 < n) : Does Tryz.prog 170 [lr (limbs m), lr (limbs n)] [lr (limbs (m / n)), lr (limbs (m % n)), .one (.int .i64 0)] := by
  have := c_DivMod (sm_limbs m) (sm_limbs n) (by rw [val_limbs]; exact h1) (by rw [val_limbs]; exact h2) (by rw [val_limbs]; exact hn)
  rwa [val_limbs, val_limbs] at this
theorem c_WDivMod {x y x' y' : LV} {z z' : Int} (hi : IsInt x y z) (hi' : IsInt x' y' z') (hs : isz z ≤ 4294967295) (hs' : isz z' ≤ 4294967295) (hz : z' ≠ 0) : Does Tryz.prog 171 [.agg [x, y], .agg [x', y']] [.agg (ofI (z / z')), .agg (ofI (z % z')), .one (.int .i64 0)] := by
  obtain ⟨b, l, rfl, rfl, hl, hz1⟩ := hi
  obtain ⟨b', l', rfl, rfl, hl', hz2⟩ := hi'
  have zl : z.natAbs = val l := by rw [hz1, ofSign_natAbs]
  have zl' : z'.natAbs = val l' := by rw [hz2, ofSign_natAbs]
  have s1 : sz (val l) ≤ 4294967296 := Nat.le_trans (ofSign_sz (hz1 ▸ hs)) (by decide)
  have s2 : sz (val l') ≤ 4294967296 := Nat.le_trans (ofSign_sz (hz2 ▸ hs')) (by decide)
  have hp : 0 < z'.natAbs := by omega
  have e1 : z = if b = true then -(z.natAbs : Int) else (z.natAbs : Int) := by rw [zl]; exact hz1
  have e2 : z' = if b' = true then -(z'.natAbs : Int) else (z'.natAbs : Int) := by rw [zl']; exact hz2
  have cd := c_DivMod hl hl' s1 s2 (by omega)
  rw [← zl, ← zl'] at cd
  have s0 : sz (z.natAbs % z'.natAbs) ≤ 4294967296 := Nat.le_trans (sz_mono (Nat.le_of_lt (Nat.mod_lt _ hp))) (by rw [zl']; exact s2)
  cases b with
  | false =>
    obtain ⟨d1, d2⟩ := div_pos_ofSign e2 hp e1
    rw [d1, d2]
    exact w tt Tryz.func171 rfl [.c [] cd, .f rfl, .c [] (c_made _ _), .c [] (c_made _ _), .f rfl, .f rfl] rfl rfl trivial
  | true =>
    by_cases h0 : z.natAbs % z'.natAbs = 0
    · obtain ⟨d1, d2⟩ := div_zero_ofSign e2 hp e1 h0
      rw [d1, d2]
      exact w tt Tryz.func171 rfl [.c [] cd, .f rfl, .c [] (c_made _ _), .c [] (c_made _ _), .t rfl, .f (by rw [h0, limbs_zero]; rfl)] rfl rfl trivial
    · obtain ⟨d1, d2⟩ := div_neg_ofSign e2 hp e1 (by omega)
      rw [d1, d2]
      have ca := c_Add (a := limbs (z.natAbs / z'.natAbs)) (b := [1]) (sm_limbs _) (fun x hx => by simp at hx; subst hx; decide) (by rw [val_limbs]; exact Nat.le_trans (sz_mono (Nat.div_le_self _ _)) (by rw [zl]; exact s1)) (by decide)
      have cs := c_Sub_le (a := l') (b := limbs (z.natAbs % z'.natAbs)) hl' (sm_limbs _) s2 (by rw [val_limbs, ← zl']; exact Nat.le_of_lt (Nat.mod_lt _ hp))
      rw [val_limbs] at ca cs
      rw [← zl'] at cs
      have hl0 := limbs_pos_len (m := z.natAbs % z'.natAbs)
      exact w tt Tryz.func171 rfl [.c [] cd, .f rfl, .c [] (c_made _ _), .c [] (c_made _ _), .t rfl, .t (by simp [lm_len]; omega), .c [] ca, .c [] cs, .c [] (c_made _ _), .c [] (c_made _ _)] rfl rfl trivial
theorem c_Exact {x y x' y' : LV} {z z' : Int} (hi : IsInt x y z) (hi' : IsInt x' y' z') (hs : isz z ≤ 4294967295) (hs' : isz z' ≤ 4294967295) (hz : z' ≠ 0) (hd : z % z' = 0) : Does Tryz.prog 120 [.agg [x, y], .agg [x', y']] [.agg (ofI (z / z')), .one (.int .i64 0)] := by
  have cd := c_WDivMod hi hi' hs hs' hz
  obtain ⟨b, l, rfl, rfl, _⟩ := hi
  obtain ⟨b', l', rfl, rfl, _⟩ := hi'
  exact w tt Tryz.func120 rfl [.c [] cd, .f rfl, .f (by rw [hd]; simp [lm_len, limbs_zero])] rfl rfl trivial
end Orr

namespace Orr
open Go
abbrev u32r (l : List Nat) : LV := .row (lm l)
/-- the greatest that divides all -/
def gcdL (l : List Int) : Nat := l.foldl (fun g z => Nat.gcd g z.natAbs) 0
theorem gcdL_snoc {l : List Int} {i : Nat} {z : Int} (h : l[i]? = some z) : gcdL (l.take (i + 1)) = Nat.gcd (gcdL (l.take i)) z.natAbs := by
  unfold gcdL
  rw [List.take_add_one, h]
  simp [List.foldl_append]
theorem gcd_mod (g x : Nat) : Nat.gcd x (g % x) = Nat.gcd g x := by
  rw [Nat.gcd_comm g x, Nat.gcd_rec x g, Nat.gcd_comm]
theorem foldl_gcd_one (l : List Int) : l.foldl (fun g z => Nat.gcd g z.natAbs) 1 = 1 := by
  induction l with
  | nil => rfl
  | cons z l ih => simp [ih]
theorem gcdL_one {l : List Int} {i : Nat} (h : gcdL (l.take i) = 1) : gcdL l = 1 := by
  have e : l = l.take i ++ l.drop i := (List.take_append_drop i l).symm
  unfold gcdL at h ⊢
  rw [e, List.foldl_append, h, foldl_gcd_one]
/-- without the zeros at the end -/
def trim : List Int → List Int
  | [] => []
  | x :: l => match trim l with
    | [] => if x = 0 then [] else [x]
    | y :: k => x :: y :: k
theorem trim_zeros : ∀ {l : List Int}, (∀ x ∈ l, x = 0) → trim l = []
  | [], _ => rfl
  | x :: l, h => by
    have ih := trim_zeros (l := l) (fun y hy => h y (List.mem_cons_of_mem _ hy))
    simp [trim, ih, h x (List.mem_cons_self ..)]
theorem trim_take : ∀ {l : List Int} {m : Nat} {y : Int}, (∀ j x, m < j → l[j]? = some x → x = 0) → l[m]? = some y → y ≠ 0 → trim l = l.take (m + 1)
  | [], m, y, _, h, _ => by simp at h
  | x :: l, 0, y, h1, h2, h3 => by
    have h0 : trim l = [] := trim_zeros fun z hz => by
      obtain ⟨j, hj⟩ := List.mem_iff_getElem?.1 hz
      exact h1 (j + 1) z (by omega) (by simpa using hj)
    simp at h2
    subst h2
    simp [trim, h0, h3]
  | x :: l, m + 1, y, h1, h2, h3 => by
    have ih := trim_take (l := l) (m := m) (y := y) (fun j z hj hz => h1 (j + 1) z (by omega) (by simpa using hz)) (by simpa using h2) h3
    cases hl : l with
    | nil => subst hl; simp at h2
    | cons u k =>
      subst hl
      rw [List.take_succ_cons] at ih
      simp only [trim] at ih ⊢
      rw [ih]
      simp
/-- no zero at the end -/
def Trim (l : List Int) : Prop := trim l = l
theorem trim_trim : ∀ (l : List Int), Trim (trim l)
  | [] => rfl
  | x :: l => by
    have ih := trim_trim l
    unfold Trim at ih ⊢
    cases h : trim l with
    | nil => by_cases hx : x = 0 <;> simp [trim, h, hx]
    | cons y k =>
      rw [h] at ih
      simp only [trim, h] at ih ⊢
      rw [ih]
/-- the place behind the last one that counts -/
theorem trim_cut {l : List Int} {m : Nat} (hm : m ≤ l.length) (h1 : ∀ j x, m ≤ j → l[j]? = some x → x = 0) (h2 : 0 < m → ∃ y, l[m - 1]? = some y ∧ y ≠ 0) : trim l = l.take m := by
  rcases Nat.eq_zero_or_pos m with h0 | h0
  · subst h0
    rw [trim_zeros fun z hz => ?_]; rfl
    obtain ⟨j, hj⟩ := List.mem_iff_getElem?.1 hz
    exact h1 j z (by omega) hj
  · obtain ⟨y, hy, hy0⟩ := h2 h0
    have := trim_take (l := l) (m := m - 1) (y := y) (fun j x hj hx => h1 j x (by omega) hx) hy hy0
    rwa [show m - 1 + 1 = m from by omega] at this
/-- rows of whole numbers -/
def IsInts : List (List LV) → List Int → Prop
  | [], [] => True
  | x :: l, z :: p => (∃ a b, x = [a, b] ∧ IsInt a b z) ∧ IsInts l p
  | _, _ => False
theorem IsInts.len : ∀ {l : List (List LV)} {p : List Int}, IsInts l p → l.length = p.length
  | [], [], _ => rfl
  | x :: l, z :: p, h => by simp [h.2.len]
  | [], _ :: _, h => h.elim
  | _ :: _, [], h => h.elim
theorem IsInts.get : ∀ {l : List (List LV)} {p : List Int}, IsInts l p → ∀ {i : Nat} {z : Int}, p[i]? = some z → ∃ a b, l[i]? = some [a, b] ∧ IsInt a b z
  | [], [], _, i, z, h => by simp at h
  | x :: l, y :: p, h, 0, z, hz => by
    simp at hz; subst hz
    obtain ⟨a, b, rfl, hi⟩ := h.1
    exact ⟨a, b, rfl, hi⟩
  | x :: l, y :: p, h, i + 1, z, hz => by simpa using h.2.get (i := i) (by simpa using hz)
  | [], _ :: _, h, _, _, _ => h.elim
  | _ :: _, [], h, _, _, _ => h.elim
theorem isInts_n : ∀ (p : List Int), IsInts (p.map ofI) p
  | [] => trivial
  | z :: p => ⟨⟨_, _, rfl, isInt_n z⟩, isInts_n p⟩
theorem IsInts.append : ∀ {l l' : List (List LV)} {p p' : List Int}, IsInts l p → IsInts l' p' → IsInts (l ++ l') (p ++ p')
  | [], _, [], _, _, h => h
  | x :: l, _, z :: p, _, h, h' => ⟨h.1, h.2.append h'⟩
  | [], _, _ :: _, _, h, _ => h.elim
  | _ :: _, _, [], _, h, _ => h.elim
/-- a row of whole numbers, as a leaf -/
def pl (p : List Int) : LV := .row (p.map ofI)
def ids (l : List Int) : LV := .row (l.map fun (x : Int) => [.int .i64 x])
theorem isInt_zero : IsInt (.bool false) (.row []) 0 := ⟨false, [], rfl, rfl, (fun x hx => by cases hx), rfl⟩
theorem sg_zero : sg 0 = .bool false := rfl
theorem limbs_nil {z : Int} : (limbs z.natAbs).length = 0 ↔ z = 0 := by
  constructor
  · intro h
    have h0 := List.eq_nil_of_length_eq_zero h
    have := (nrm_zero (nrm_limbs z.natAbs)).2 h0
    rw [val_limbs] at this; omega
  · rintro rfl; rw [show (0 : Int).natAbs = 0 from rfl, limbs_zero]; rfl
theorem map_get {α β : Type} {f : α → β} {l : List α} {i : Nat} {x : α} (h : l[i]? = some x) : (l.map f)[i]? = some (f x) := by rw [List.getElem?_map, h]; rfl
theorem map_w {α : Type} {f : α → List LV} {sz : Nat} (l : List α) (h : ∀ x, (f x).length = sz) : ∀ c ∈ l.map f, c.length = sz := fun c hc => by
  obtain ⟨x, _, rfl⟩ := List.mem_map.1 hc
  exact h x
theorem mg_zero : mg 0 = .row [] := by simp [mg, limbs_zero, lm]
theorem ofI_zero : ofI 0 = [LV.bool false, LV.row []] := by simp [ofI, sg_zero, mg_zero]
end Orr

namespace Orr
open Go Go.Proofs
set_option maxRecDepth 10000
theorem gcdL_sz {p : List Int} (hs : ∀ z ∈ p, isz z ≤ 4294967295) : sz (gcdL p) ≤ 4294967295 := by
  have key : ∀ (p : List Int) (g : Nat), sz g ≤ 4294967295 → (∀ z ∈ p, isz z ≤ 4294967295) → sz (p.foldl (fun g z => Nat.gcd g z.natAbs) g) ≤ 4294967295 := by
    intro p
    induction p with
    | nil => exact fun g h _ => h
    | cons z p ih =>
      intro g h hs
      refine ih _ ?_ fun y hy => hs y (.tail _ hy)
      rcases Nat.eq_zero_or_pos g with h0 | h0
      · subst h0; show sz (Nat.gcd 0 z.natAbs) ≤ _; rw [Nat.gcd_zero_left]; exact hs z (.head _)
      · exact Nat.le_trans (sz_mono (Nat.gcd_le_left _ h0)) h
  exact key p 0 (by decide) hs
theorem c_Gcd {l : List (List LV)} {p : List Int} (hi : IsInts l p) (hs : ∀ z ∈ p, isz z ≤ 4294967295) : Does Tryz.prog 118 [.one (.row l)] [.agg (ofI ((gcdL p : Nat) : Int))] := by
  refine fnD Tryz.func118 rfl (ln 0 rfl rfl fun hl => ?_)
  have hlp := hi.len
  refine go tt [.z 3, .r 3 (v := lr (limbs (gcdL (p.take 0)))) (by simp [gcdL, limbs_zero, lm])] rfl trivial ?_
  refine ct 2 (S := Unit) (fun _ => [(2, .v (.one (.ow 0 0))), (3, .v (lr (limbs (gcdL p))))]) (fun _ => [.blk 29 [.bool false, .nils], .gone]) (fun _ => True) rfl ?_ ?_
  · refine lp (S := Nat) 1 (fun L1 i => (12, .v (.one (.int .i64 (i : Int)))) :: (3, .v (lr (limbs (gcdL (p.take i))))) :: L1) (fun _ => [.blk 29 [.bool false, .nils]]) (fun i => p.length - i) (fun i => i ≤ p.length) 0 (Nat.zero_le _) rfl (fun _ _ => rfl) rfl fun i hip => ?_
    by_cases h : i < p.length
    · have hlt : i < l.length := by omega
      obtain ⟨c, hc⟩ : ∃ c, l[i]? = some c := ⟨_, List.getElem?_eq_getElem hlt⟩
      obtain ⟨z, hz⟩ : ∃ z, p[i]? = some z := ⟨_, List.getElem?_eq_getElem h⟩
      obtain ⟨x, y, hc', b, r, rfl, rfl, hr, hzz⟩ := hi.get hz
      rw [hc] at hc'; injection hc' with hc'; subst hc'
      have hsz := hs z (List.mem_of_getElem? hz)
      have hg0 : sz (gcdL (p.take i)) ≤ 4294967295 := gcdL_sz fun y hy => hs y (List.mem_of_mem_take hy)
      have ezr : z.natAbs = val r := by rw [hzz, ofSign_natAbs]
      have cn := c_Norm hr (by rw [← ezr]; exact Nat.le_trans hsz (by decide))
      rw [← ezr] at cn
      refine go tt [.t (by simp; omega), .x hc, .c [] cn] rfl trivial ?_
      refine lp (S := Nat × Nat) 2 (fun L1 s => (3, .v (lr (limbs s.1))) :: (6, .v (lr (limbs s.2))) :: L1) (fun _ => [.blk 29 [.bool false, .nils], .blk 29 [.bool b, .row (lm r)]]) (fun s => s.2) (fun s => Nat.gcd s.1 s.2 = Nat.gcd (gcdL (p.take i)) z.natAbs ∧ sz s.1 ≤ 4294967295 ∧ sz s.2 ≤ 4294967295) (gcdL (p.take i), z.natAbs) ⟨rfl, hg0, hsz⟩ rfl (fun _ _ => rfl) rfl fun ⟨g, u⟩ ⟨j1, j2, j3⟩ => ?_
      dsimp only at j1 j2 j3 ⊢
      have hul := limbs_pos_len (m := u)
      by_cases hu : 0 < u
      · have cd := c_DivMod_l (m := g) (n := u) (by omega) (by omega) hu
        refine go tt [.t (by simp [lm_len]; omega), .c [] cd] rfl trivial ?_
        exact rd (u, g % u) (Nat.mod_lt _ hu) ⟨(gcd_mod g u).trans j1, j3, Nat.le_trans (sz_mono (Nat.le_of_lt (Nat.mod_lt _ hu))) j3⟩ rfl
      · obtain rfl : u = 0 := by omega
        rw [Nat.gcd_zero_right, ← gcdL_snoc hz] at j1
        subst j1
        by_cases h1 : gcdL (p.take (i + 1)) = 1
        · have e1 : limbs (gcdL (p.take (i + 1))) = [1] := by rw [h1, limbs_pos (by decide)]; simp [limbs_zero]
          refine go tt [.f (by simp [limbs_zero, lm]), .t (by rw [e1]; rfl), .x (lm_get (i := 0) (x := 1) (by rw [e1]; rfl)), .t rfl] rfl trivial ?_
          exact rc () trivial (by rw [h1, gcdL_one h1]; rfl)
        · obtain ⟨g, hg⟩ : ∃ g, g = gcdL (p.take (i + 1)) := ⟨_, rfl⟩
          rw [← hg] at h1 j2 ⊢
          by_cases h2 : (limbs g).length = 1
          · obtain ⟨v, hv⟩ : ∃ v, limbs g = [v] := by
              match hm : limbs g, h2 with
              | [v], _ => exact ⟨v, rfl⟩
            have hv1 : v ≠ 1 := fun e => h1 (by rw [← val_limbs g, hv, e]; rfl)
            refine go tt [.f (by simp [limbs_zero, lm]), .t (by simp [lm_len, h2]), .x (lm_get (i := 0) (x := v) (by rw [hv]; rfl)), .f (by simp; omega)] rfl (by simp [AllP] <;> omega) ?_
            exact rd (i + 1) (by omega) h (by rw [← hg]; rfl)
          · refine go tt [.f (by simp [limbs_zero, lm]), .f (by simp [lm_len]; omega), .f rfl] rfl (by simp [AllP] <;> omega) ?_
            exact rd (i + 1) (by omega) h (by rw [← hg]; rfl)
    · obtain rfl : i = p.length := by omega
      refine go tt [.f (by simp; omega)] rfl trivial ?_
      rw [List.take_length]
      exact rc () trivial rfl
  · intro _ _
    have cn := c_Norm (sm_limbs (gcdL p)) (by rw [val_limbs]; exact Nat.le_trans (gcdL_sz hs) (by decide))
    rw [val_limbs] at cn
    exact en tt [.c [] cn, .c [] (c_made false _)] rfl (by simp [ofSign]) trivial
end Orr

namespace Orr
/-- all coefficients have at most s binary digits -/
def Bd (s : Nat) (p : List Int) : Prop := ∀ z ∈ p, isz z ≤ s
theorem isz_zero : isz 0 = 0 := rfl
theorem bd_get {s : Nat} {p : List Int} (h : Bd s p) {i : Nat} {z : Int} (hz : p[i]? = some z) : isz z ≤ s := h z (List.mem_of_getElem? hz)
theorem bd_getD {s : Nat} {p : List Int} (h : Bd s p) (k : Nat) : isz (p.getD k 0) ≤ s := by
  rw [List.getD_eq_getElem?_getD]
  cases hk : p[k]? with
  | none => rw [Option.getD_none, isz_zero]; exact Nat.zero_le _
  | some z => exact bd_get h hk
theorem bd_mono {s t : Nat} {p : List Int} (h : Bd s p) (ht : s ≤ t) : Bd t p := fun z hz => Nat.le_trans (h z hz) ht
theorem bd_nil {s : Nat} : Bd s [] := fun z hz => by cases hz
theorem bd_map {s : Nat} {n : Nat} {g : Nat → Int} (h : ∀ k, k < n → isz (g k) ≤ s) : Bd s ((List.range n).map g) := fun z hz => by
  obtain ⟨k, hk, rfl⟩ := List.mem_map.1 hz
  exact h k (List.mem_range.1 hk)
theorem trim_sub : ∀ (l : List Int), ∀ z ∈ trim l, z ∈ l
  | [], z, h => by cases h
  | x :: l, z, h => by
    have ih := trim_sub l
    cases hl : trim l with
    | nil =>
      simp only [trim, hl] at h
      split at h
      · cases h
      · rw [List.mem_singleton] at h; rw [h]; exact List.mem_cons_self ..
    | cons y k =>
      simp only [trim, hl] at h
      rcases List.mem_cons.1 h with rfl | h
      · exact List.mem_cons_self ..
      · exact List.mem_cons_of_mem _ (ih z (by rw [hl]; exact h))
theorem trim_len (l : List Int) : (trim l).length ≤ l.length := by
  induction l with
  | nil => exact Nat.le_refl _
  | cons x l ih =>
    cases hl : trim l with
    | nil => simp only [trim, hl]; split <;> simp
    | cons y k => simp only [trim, hl]; rw [hl] at ih; simp at ih ⊢; exact ih
theorem bd_trim {s : Nat} {p : List Int} (h : Bd s p) : Bd s (trim p) := fun z hz => h z (trim_sub p z hz)
theorem trim_getD : ∀ (l : List Int) (k : Nat), (trim l).getD k 0 = l.getD k 0
  | [], k => rfl
  | x :: l, k => by
    have ih := trim_getD l
    cases hl : trim l with
    | nil =>
      rw [hl] at ih
      simp only [trim, hl]
      split
      · rename_i hx
        cases k with
        | zero => simp [hx]
        | succ k => have := ih k; simp at this ⊢; exact this
      · cases k with
        | zero => simp
        | succ k => have := ih k; simp at this ⊢; exact this
    | cons y m =>
      rw [hl] at ih
      simp only [trim, hl]
      cases k with
      | zero => simp
      | succ k => have := ih k; simp at this ⊢; exact this
/-- the coefficients g 0, g 1, .., cut -/
def each (n : Nat) (g : Nat → Int) : List Int := trim ((List.range n).map g)
theorem each_trim (n : Nat) (g : Nat → Int) : Trim (each n g) := trim_trim _
theorem each_len (n : Nat) (g : Nat → Int) : (each n g).length ≤ n := Nat.le_trans (trim_len _) (by simp)
theorem each_getD (n : Nat) (g : Nat → Int) (k : Nat) : (each n g).getD k 0 = if k < n then g k else 0 := by
  unfold each
  rw [trim_getD, List.getD_eq_getElem?_getD, List.getElem?_map]
  split
  · rename_i h; rw [List.getElem?_range h]; rfl
  · rename_i h; rw [List.getElem?_eq_none (by simpa using h)]; rfl
theorem bd_each {s n : Nat} {g : Nat → Int} (h : ∀ k, k < n → isz (g k) ≤ s) : Bd s (each n g) := bd_trim (bd_map h)
def padd (p q : List Int) : List Int := each (max p.length q.length) fun k => p.getD k 0 + q.getD k 0
def psub (p q : List Int) : List Int := each (max p.length q.length) fun k => p.getD k 0 - q.getD k 0
def pneg (p : List Int) : List Int := each p.length fun k => -(p.getD k 0)
def pscale (p : List Int) (c : Int) : List Int := each p.length fun k => p.getD k 0 * c
def pder (p : List Int) : List Int := each (p.length - 1) fun k => p.getD (k + 1) 0 * ((k + 1 : Nat) : Int)
theorem bd_padd {s t : Nat} {p q : List Int} (h : Bd s p) (h' : Bd t q) : Bd (max s t + 1) (padd p q) := bd_each fun k _ => Nat.le_trans (isz_add _ _) (by have := bd_getD h k; have := bd_getD h' k; omega)
theorem bd_psub {s t : Nat} {p q : List Int} (h : Bd s p) (h' : Bd t q) : Bd (max s t + 1) (psub p q) := bd_each fun k _ => Nat.le_trans (isz_sub _ _) (by have := bd_getD h k; have := bd_getD h' k; omega)
theorem bd_pneg {s : Nat} {p : List Int} (h : Bd s p) : Bd s (pneg p) := bd_each fun k _ => by rw [isz_neg]; exact bd_getD h k
theorem bd_pscale {s t : Nat} {p : List Int} {c : Int} (h : Bd s p) (hc : isz c ≤ t) : Bd (s + t) (pscale p c) := bd_each fun k _ => Nat.le_trans (isz_mul _ _) (by have := bd_getD h k; omega)
theorem len_padd (p q : List Int) : (padd p q).length ≤ max p.length q.length := each_len _ _
theorem len_psub (p q : List Int) : (psub p q).length ≤ max p.length q.length := each_len _ _
theorem len_pneg (p : List Int) : (pneg p).length ≤ p.length := each_len _ _
theorem len_pscale (p : List Int) (c : Int) : (pscale p c).length ≤ p.length := each_len _ _
theorem len_pder (p : List Int) : (pder p).length ≤ p.length - 1 := each_len _ _
theorem isz_nat {k t : Nat} (h : k < 2 ^ t) : isz (k : Int) ≤ t := by rw [isz_le]; simpa using h
theorem isz_nat38 {k : Nat} (h : k < 274877906944) : isz (k : Int) ≤ 4294967295 := Nat.le_trans (isz_nat (t := 38) (Nat.lt_of_lt_of_eq h (by decide))) (by omega)
theorem bd_pder {s t : Nat} {p : List Int} (h : Bd s p) (hl : p.length ≤ 2 ^ t) : Bd (s + t) (pder p) := bd_each fun k hk => Nat.le_trans (isz_mul _ _) (by
  have := bd_getD h (k + 1)
  have := isz_nat (k := k + 1) (t := t) (by omega)
  omega)
/-! ### products -/
def mulk (x : Int) (b : List Int) (i : Nat) (o : List Int) : Nat → List Int
  | 0 => o
  | k + 1 => (mulk x b i o k).set (i + k) ((mulk x b i o k).getD (i + k) 0 + x * b.getD k 0)
def muli (a b o : List Int) : Nat → List Int
  | 0 => o
  | i + 1 => mulk (a.getD i 0) b i (muli a b o i) b.length
/-- the product of normal polynomials -/
def pmul (a b : List Int) : List Int := if a.length = 0 ∨ b.length = 0 then [] else trim (muli a b (List.replicate (a.length + b.length - 1) 0) a.length)
theorem mulk_len (x : Int) (b : List Int) (i : Nat) (o : List Int) (k : Nat) : (mulk x b i o k).length = o.length := by
  induction k with
  | zero => rfl
  | succ k ih => simp [mulk, ih]
theorem muli_len (a b o : List Int) (i : Nat) : (muli a b o i).length = o.length := by
  induction i with
  | zero => rfl
  | succ i ih => simp [muli, mulk_len, ih]
theorem getD_set (l : List Int) (i m : Nat) (v : Int) (h : i < l.length) : (l.set i v).getD m 0 = if m = i then v else l.getD m 0 := by
  rw [List.getD_eq_getElem?_getD, List.getElem?_set, List.getD_eq_getElem?_getD]
  by_cases e : i = m
  · subst e; simp [h]
  · rw [if_neg e, if_neg (fun h => e h.symm)]
theorem mulk_getD (x : Int) (b : List Int) (i : Nat) (o : List Int) (k m : Nat) (h : i + k ≤ o.length) : (mulk x b i o k).getD m 0 = if i ≤ m ∧ m < i + k then o.getD m 0 + x * b.getD (m - i) 0 else o.getD m 0 := by
  induction k with
  | zero => simp only [mulk]; rw [if_neg (by omega)]
  | succ k ih =>
    have ih := ih (by omega)
    simp only [mulk]
    rw [getD_set _ _ _ _ (by rw [mulk_len]; omega)]
    by_cases e : m = i + k
    · subst e
      rw [if_pos rfl, if_pos (by omega), show i + k - i = k from by omega]
      rw [ih, if_neg (by omega)]
    · rw [if_neg e, ih]
      by_cases h1 : i ≤ m ∧ m < i + k
      · rw [if_pos h1, if_pos (by omega)]
      · rw [if_neg h1, if_neg (by omega)]
theorem natAbs_mul_bd {x y : Int} {s t : Nat} (hx : isz x ≤ s) (hy : isz y ≤ t) : (x * y).natAbs ≤ 2 ^ (s + t) := by
  have h := Nat.le_trans (isz_mul x y) (show _ ≤ s + t by omega)
  rw [isz_le] at h; omega
theorem mulk_bd {x : Int} {b : List Int} {i : Nat} {o : List Int} {k M : Nat} (h : i + k ≤ o.length) (ho : ∀ m, (o.getD m 0).natAbs ≤ i * M) (hx : ∀ j, (x * b.getD j 0).natAbs ≤ M) (m : Nat) : ((mulk x b i o k).getD m 0).natAbs ≤ (i + 1) * M := by
  rw [mulk_getD x b i o k m h, Nat.succ_mul]
  have h1 := ho m
  split
  · have h2 := hx (m - i)
    generalize i * M = q at *
    omega
  · omega
theorem muli_bd {a b o : List Int} {i M : Nat} (h : ∀ j, j < i → j + b.length ≤ o.length) (ho : ∀ m, o.getD m 0 = 0) (hx : ∀ i j, (a.getD i 0 * b.getD j 0).natAbs ≤ M) (m : Nat) : ((muli a b o i).getD m 0).natAbs ≤ i * M := by
  induction i generalizing m with
  | zero => simp only [muli]; rw [ho]; simp
  | succ i ih =>
    simp only [muli]
    exact mulk_bd (by rw [muli_len]; exact h i (by omega)) (ih fun j hj => h j (by omega)) (hx i) m
theorem isz_of_natAbs {z : Int} {i s t : Nat} (h : z.natAbs ≤ i * 2 ^ s) (hi : i < 2 ^ t) : isz z ≤ s + t := by
  rw [isz_le]
  have h1 : i * 2 ^ s < 2 ^ t * 2 ^ s := Nat.mul_lt_mul_of_pos_right hi (Nat.pow_pos (by decide))
  rw [← Nat.pow_add, Nat.add_comm t s] at h1
  omega
theorem getD_replicate (n m : Nat) : (List.replicate n (0 : Int)).getD m 0 = 0 := by
  rw [List.getD_eq_getElem?_getD, List.getElem?_replicate]; split <;> rfl
theorem bd_of_getD {s : Nat} {p : List Int} (h : ∀ m, isz (p.getD m 0) ≤ s) : Bd s p := fun z hz => by
  obtain ⟨i, hi⟩ := List.mem_iff_getElem?.1 hz
  have := h i
  rw [List.getD_eq_getElem?_getD, hi] at this
  exact this
theorem len_pmul (a b : List Int) : (pmul a b).length ≤ a.length + b.length - 1 := by
  unfold pmul
  split
  · simp
  · refine Nat.le_trans (trim_len _) ?_
    rw [muli_len]; simp
theorem bd_pmul {s t u : Nat} {a b : List Int} (ha : Bd s a) (hb : Bd t b) (hl : a.length < 2 ^ u) : Bd (s + t + u) (pmul a b) := by
  unfold pmul
  split
  · exact bd_nil
  · refine bd_trim (bd_of_getD fun m => ?_)
    exact isz_of_natAbs (muli_bd (M := 2 ^ (s + t)) (fun j hj => by simp; omega) (getD_replicate _) (fun i j => natAbs_mul_bd (bd_getD ha i) (bd_getD hb j)) m) hl
theorem trim_pmul (a b : List Int) : Trim (pmul a b) := by
  unfold pmul
  split
  · rfl
  · exact trim_trim _
/-! ### values -/
/-- what poly.value reckons, from the last coefficient down: v and the power, k of them left -/
def valk (a : List Int) (n d : Int) : Nat → Int × Int
  | 0 => (0, 1)
  | k + 1 => ((valk a n d k).1 * n + a.getD (a.length - 1 - k) 0 * (valk a n d k).2, (valk a n d k).2 * d)
def pval (a : List Int) (n d : Int) : Int := (valk a n d a.length).1
theorem valk_bd {a : List Int} {n d : Int} {s t k : Nat} (ha : Bd s a) (hn : isz n ≤ t) (hd : isz d ≤ t) : isz (valk a n d k).1 ≤ s + 2 + k * (t + 1) ∧ isz (valk a n d k).2 ≤ 1 + k * t := by
  induction k with
  | zero => exact ⟨by simp [valk, isz_zero], by simp [valk]; decide⟩
  | succ k ih =>
    obtain ⟨h1, h2⟩ := ih
    have h3 := bd_getD ha (a.length - 1 - k)
    have e1 : k * (t + 1) = k * t + k := by rw [Nat.mul_add, Nat.mul_one]
    rw [Nat.succ_mul, Nat.succ_mul]
    refine ⟨?_, ?_⟩
    · simp only [valk]
      refine Nat.le_trans (isz_add _ _) ?_
      have h4 := isz_mul (valk a n d k).1 n
      have h5 := isz_mul (a.getD (a.length - 1 - k) 0) (valk a n d k).2
      generalize k * t = q at *
      rw [e1] at h1 ⊢
      omega
    · simp only [valk]
      have h4 := isz_mul (valk a n d k).2 d
      generalize k * t = q at *
      omega
end Orr
namespace Orr
theorem getD_some {l : List Int} {i : Nat} (h : i < l.length) : l[i]? = some (l.getD i 0) := by
  rw [List.getD_eq_getElem?_getD, List.getElem?_eq_getElem h]; rfl
theorem cmpZ_eq {x y : Int} : cmpZ x y = 0 ↔ x = y := by
  unfold cmpZ
  constructor
  · intro h
    split at h
    · omega
    · split at h <;> omega
  · rintro rfl; simp
theorem trim_zero {p : List Int} (h : Trim p) (h0 : 0 < p.length) : p.getD (p.length - 1) 0 ≠ 0 := by
  induction p with
  | nil => simp at h0
  | cons x l ih =>
    unfold Trim at h
    cases hl : trim l with
    | nil =>
      simp only [trim, hl] at h
      split at h
      · cases h
      · rename_i hx
        injection h with h1 h2
        subst h2
        simpa using hx
    | cons y k =>
      simp only [trim, hl] at h
      injection h with h1 h2
      rw [← hl] at h2
      have ih := ih h2 (by rw [← h2, hl]; simp)
      have h3 : 0 < l.length := by rw [← h2, hl]; simp
      simp only [List.length_cons, Nat.add_sub_cancel]
      obtain ⟨m, hm⟩ : ∃ m, l.length = m + 1 := ⟨l.length - 1, by omega⟩
      rw [hm] at ih ⊢
      simpa using ih
end Orr
namespace Orr
theorem map_getD (p : List Int) : (List.range p.length).map (fun k => p.getD k 0) = p := by
  apply List.ext_getElem?
  intro i
  rw [List.getElem?_map]
  rcases Nat.lt_or_ge i p.length with h | h
  · rw [List.getElem?_range h]
    simp [List.getElem?_eq_getElem h]
  · rw [List.getElem?_eq_none (by simpa using h), List.getElem?_eq_none h]; rfl
theorem eq_of_getD {p q : List Int} (hl : p.length = q.length) (h : ∀ j, j < p.length → p.getD j 0 = q.getD j 0) : p = q := by
  rw [← map_getD p, ← map_getD q, ← hl]
  exact List.map_congr_left fun j hj => h j (List.mem_range.1 hj)
end Orr

namespace Orr
/-- a rational number's four leaves -/
abbrev rl (q : Rat) : List LV := [sg q.num, mg q.num, sg (q.den : Int), mg (q.den : Int)]
theorem gcdL_two (n d : Int) : gcdL [n, d] = Int.gcd d n := by
  unfold gcdL
  simp only [List.foldl_cons, List.foldl_nil, Nat.gcd_zero_left]
  exact Nat.gcd_comm _ _
theorem gcdL_pos {n d : Int} (hd : d ≠ 0) : (0 : Int) < ((gcdL [n, d] : Nat) : Int) := by
  rw [gcdL_two]
  have := Int.gcd_pos_of_ne_zero_left n hd
  omega
theorem gcdL_dvd_l (n d : Int) : n % ((gcdL [n, d] : Nat) : Int) = 0 := by
  rw [gcdL_two]; exact Int.emod_eq_zero_of_dvd (Int.gcd_dvd_right ..)
theorem gcdL_dvd_r (n d : Int) : d % ((gcdL [n, d] : Nat) : Int) = 0 := by
  rw [gcdL_two]; exact Int.emod_eq_zero_of_dvd (Int.gcd_dvd_left ..)
theorem neg_mod {n g : Int} (h : n % g = 0) : -n % g = 0 := by
  exact Int.emod_eq_zero_of_dvd (Int.dvd_neg.2 (Int.dvd_of_emod_eq_zero h))
theorem isz_gcd {n d : Int} {s : Nat} (hd : d ≠ 0) (h : isz d ≤ s) : isz ((gcdL [n, d] : Nat) : Int) ≤ s := by
  rw [gcdL_two]
  refine Nat.le_trans (sz_mono ?_) h
  have := Nat.le_of_dvd (by omega : 0 < d.natAbs) (show Int.gcd d n ∣ d.natAbs from Nat.gcd_dvd_left _ _)
  simpa using this
theorem low_pos {n d : Int} (hd : 0 < d) : n / ((gcdL [n, d] : Nat) : Int) = (Rat.divInt n d).num ∧ d / ((gcdL [n, d] : Nat) : Int) = ((Rat.divInt n d).den : Int) := by
  rw [gcdL_two, Rat.num_divInt, Rat.den_divInt, if_neg (by omega), Int.sign_eq_one_of_pos hd, Int.one_mul]
  refine ⟨rfl, ?_⟩
  rw [Int.natCast_ediv, Int.natAbs_of_nonneg (by omega)]
theorem low_neg {n d : Int} (hd : d < 0) : -n / ((gcdL [n, d] : Nat) : Int) = (Rat.divInt n d).num ∧ -d / ((gcdL [n, d] : Nat) : Int) = ((Rat.divInt n d).den : Int) := by
  rw [gcdL_two, Rat.num_divInt, Rat.den_divInt, if_neg (by omega), Int.sign_eq_neg_one_of_neg hd, Int.neg_mul, Int.one_mul]
  refine ⟨rfl, ?_⟩
  rw [Int.natCast_ediv, Int.ofNat_natAbs_of_nonpos (by omega)]
theorem isz_div' (u g : Int) : isz (u / g) ≤ isz u := by
  unfold isz
  exact sz_mono (Int.natAbs_ediv_le_natAbs u g)
theorem isz_divInt_num {n d : Int} {s : Nat} (h : isz n ≤ s) : isz (Rat.divInt n d).num ≤ s := by
  rw [Rat.num_divInt]
  refine Nat.le_trans (isz_div' _ _) ?_
  unfold isz
  rw [Int.natAbs_mul]
  refine Nat.le_trans (sz_mono ?_) h
  have : d.sign.natAbs ≤ 1 := by rcases sign_cases d with ⟨_, e⟩ | ⟨_, e⟩ | ⟨_, e⟩ <;> rw [e] <;> decide
  calc d.sign.natAbs * n.natAbs ≤ 1 * n.natAbs := Nat.mul_le_mul_right _ this
    _ = n.natAbs := Nat.one_mul _
theorem isz_divInt_den {n d : Int} {s : Nat} (h : isz d ≤ s) (h1 : 1 ≤ s) : isz ((Rat.divInt n d).den : Int) ≤ s := by
  rw [Rat.den_divInt]
  split
  · exact h1
  · refine Nat.le_trans (sz_mono ?_) h
    exact Nat.div_le_self _ _
/-- sizes -/
def Qs (s : Nat) (q : Rat) : Prop := isz q.num ≤ s ∧ isz (q.den : Int) ≤ s
theorem Qs.mono {s t : Nat} {q : Rat} (h : Qs s q) (ht : s ≤ t) : Qs t q := ⟨Nat.le_trans h.1 ht, Nat.le_trans h.2 ht⟩
theorem Qs.divInt {s : Nat} {n d : Int} (h : isz n ≤ s) (h' : isz d ≤ s) (h1 : 1 ≤ s) : Qs s (Rat.divInt n d) := ⟨isz_divInt_num h, isz_divInt_den h' h1⟩
theorem den_ne (q : Rat) : (q.den : Int) ≠ 0 := by have := q.den_nz; omega
theorem den_pos (q : Rat) : (0 : Int) < (q.den : Int) := by have := q.den_nz; omega
/-- a number over another one, as it counts -/
def ratOf (n d : Int) : Rat := Rat.divInt n (if d = 0 then 1 else d)
theorem ratOf_q (q : Rat) : ratOf q.num q.den = q := by
  unfold ratOf
  rw [if_neg (den_ne q)]; exact Rat.num_divInt_den q
def cmpQ (a b : Rat) : Int := cmpZ (a.num * (b.den : Int)) (b.num * (a.den : Int))
theorem cmpQ_lt {a b : Rat} : cmpQ a b < 0 ↔ a < b := by
  rw [Rat.lt_iff]; unfold cmpQ cmpZ
  constructor
  · intro h; split at h
    · assumption
    · split at h <;> omega
  · intro h; rw [if_pos h]; decide
theorem cmpQ_gt {a b : Rat} : 0 < cmpQ a b ↔ b < a := by
  rw [Rat.lt_iff]; unfold cmpQ cmpZ
  constructor
  · intro h; split at h
    · omega
    · split at h
      · assumption
      · omega
  · intro h; rw [if_neg (by omega), if_pos h]; decide
theorem cmpQ_self (a : Rat) : cmpQ a a = 0 := by unfold cmpQ cmpZ; simp
end Orr

namespace Orr
structure Crv where
  x : List Int
  y : List Int
  d : Int
/-- a curve's leaves -/
abbrev cl (k : Crv) : List LV := [pl k.x, pl k.y, sg k.d, mg k.d]
/-- the denominator as it counts -/
def Crv.d' (k : Crv) : Int := if k.d = 0 then 1 else k.d
/-- what all its numbers are divided by -/
def Crv.g (k : Crv) : Int := if k.d' < 0 then -((gcdL (k.d' :: (trim k.x ++ trim k.y)) : Nat) : Int) else (gcdL (k.d' :: (trim k.x ++ trim k.y)) : Nat)
/-- a curve as it counts -/
def Crv.norm (k : Crv) : Crv := ⟨trim ((trim k.x).map (· / k.g)), trim ((trim k.y).map (· / k.g)), k.d' / k.g⟩
theorem gcdL_dvd {l : List Int} : ∀ z ∈ l, ((gcdL l : Nat) : Int) ∣ z := by
  have key : ∀ (l : List Int) (g : Nat), (l.foldl (fun g z => Nat.gcd g z.natAbs) g ∣ g) ∧ ∀ z ∈ l, l.foldl (fun g z => Nat.gcd g z.natAbs) g ∣ z.natAbs := by
    intro l
    induction l with
    | nil => intro g; exact ⟨Nat.dvd_refl _, by simp⟩
    | cons u l ih =>
      intro g
      obtain ⟨h1, h2⟩ := ih (Nat.gcd g u.natAbs)
      refine ⟨Nat.dvd_trans h1 (Nat.gcd_dvd_left _ _), fun z hz => ?_⟩
      rcases List.mem_cons.1 hz with rfl | hz
      · exact Nat.dvd_trans h1 (Nat.gcd_dvd_right _ _)
      · exact h2 z hz
  intro z hz
  have := (key l 0).2 z hz
  exact Int.ofNat_dvd_left.2 this
theorem Crv.d'_ne (k : Crv) : k.d' ≠ 0 := by unfold Crv.d'; split <;> omega
theorem Crv.gcd_ne (k : Crv) : gcdL (k.d' :: (trim k.x ++ trim k.y)) ≠ 0 := by
  intro e
  have h := gcdL_dvd (l := k.d' :: (trim k.x ++ trim k.y)) k.d' (List.mem_cons_self ..)
  rw [e] at h
  exact k.d'_ne (by simpa using h)
theorem Crv.g_ne (k : Crv) : k.g ≠ 0 := by
  have h0 := k.gcd_ne
  unfold Crv.g
  split <;> omega
theorem Crv.g_dvd (k : Crv) : ∀ z ∈ k.d' :: (trim k.x ++ trim k.y), z % k.g = 0 := by
  intro z hz
  have h := gcdL_dvd z hz
  refine Int.emod_eq_zero_of_dvd ?_
  unfold Crv.g
  split
  · exact Int.neg_dvd.2 h
  · exact h
theorem Crv.isz_g (k : Crv) {s : Nat} (h : isz k.d' ≤ s) : isz k.g ≤ s := by
  have hd := gcdL_dvd (l := k.d' :: (trim k.x ++ trim k.y)) k.d' (List.mem_cons_self ..)
  have hle : gcdL (k.d' :: (trim k.x ++ trim k.y)) ≤ k.d'.natAbs := Nat.le_of_dvd (by have := k.d'_ne; omega) (Int.ofNat_dvd_left.1 hd)
  refine Nat.le_trans (sz_mono ?_) h
  unfold Crv.g
  split <;> simp <;> exact hle
/-- sizes of a curve -/
structure Cs (s n : Nat) (k : Crv) : Prop where
  x : Bd s k.x
  y : Bd s k.y
  d : isz k.d ≤ s
  lx : k.x.length ≤ n
  ly : k.y.length ≤ n
theorem isz_d' {k : Crv} {s : Nat} (h : isz k.d ≤ s) (h1 : 1 ≤ s) : isz k.d' ≤ s := by unfold Crv.d'; split <;> first | exact h1 | exact h
theorem bd_div {s : Nat} {p : List Int} (h : Bd s p) (g : Int) : Bd s (p.map (· / g)) := fun z hz => by
  obtain ⟨u, hu, rfl⟩ := List.mem_map.1 hz
  exact Nat.le_trans (isz_div' u g) (h u hu)
theorem Cs.norm {s n : Nat} {k : Crv} (h : Cs s n k) (h1 : 1 ≤ s) : Cs s n k.norm := by
  refine ⟨bd_trim (bd_div (bd_trim h.x) _), bd_trim (bd_div (bd_trim h.y) _), Nat.le_trans (isz_div' _ _) (isz_d' h.d h1), ?_, ?_⟩
  · refine Nat.le_trans (trim_len _) ?_; rw [List.length_map]; exact Nat.le_trans (trim_len _) h.lx
  · refine Nat.le_trans (trim_len _) ?_; rw [List.length_map]; exact Nat.le_trans (trim_len _) h.ly
theorem Cs.mono {s n t m : Nat} {k : Crv} (h : Cs s n k) (hs : s ≤ t) (hn : n ≤ m) : Cs t m k := ⟨bd_mono h.x hs, bd_mono h.y hs, Nat.le_trans h.d hs, Nat.le_trans h.lx hn, Nat.le_trans h.ly hn⟩
/-- a normal curve -/
def Nml (k : Crv) : Prop := Trim k.x ∧ Trim k.y ∧ 0 < k.d ∧ gcdL (k.d :: (k.x ++ k.y)) = 1
theorem Crv.norm_of {k : Crv} (h : Nml k) : k.norm = k := by
  obtain ⟨h1, h2, h3, h4⟩ := h
  have hd : k.d' = k.d := by unfold Crv.d'; rw [if_neg (by omega)]
  have hx : trim k.x = k.x := h1
  have hy : trim k.y = k.y := h2
  have hg : k.g = 1 := by unfold Crv.g; rw [hd, hx, hy, h4, if_neg (by omega)]; rfl
  unfold Crv.norm
  rw [hg, hd, hx, hy]
  simp [hx, hy]
theorem gcdL_map_div {l : List Int} {g : Int} (hg : g ≠ 0) (hga : g.natAbs = gcdL l) : gcdL (l.map (· / g)) = 1 := by
  have key : ∀ (l : List Int) (a : Nat), (∀ z ∈ l, g ∣ z) → l.foldl (fun a z => Nat.gcd a z.natAbs) (a * g.natAbs) = ((l.map (· / g)).foldl (fun a z => Nat.gcd a z.natAbs) a) * g.natAbs := by
    intro l
    induction l with
    | nil => intro a _; rfl
    | cons z l ih =>
      intro a h
      simp only [List.map_cons, List.foldl_cons]
      have hz : z.natAbs = (z / g).natAbs * g.natAbs := by
        obtain ⟨q, rfl⟩ := h z (List.mem_cons_self ..)
        rw [Int.mul_ediv_cancel_left _ hg, Int.natAbs_mul, Nat.mul_comm]
      rw [hz, Nat.gcd_mul_right]
      exact ih _ fun u hu => h u (List.mem_cons_of_mem _ hu)
  have h := key l 0 fun z hz => Int.natAbs_dvd_natAbs.1 (by rw [hga]; exact Int.natAbs_dvd_natAbs.2 (gcdL_dvd z hz))
  rw [Nat.zero_mul] at h
  have h' : gcdL l = gcdL (l.map (· / g)) * g.natAbs := h
  rw [← hga] at h'
  have hp : 0 < g.natAbs := by omega
  exact Nat.eq_of_mul_eq_mul_right hp (by rw [Nat.one_mul]; exact h'.symm)
theorem trim_id_of_map {l : List Int} {g : Int} (ht : Trim l) (hg : g ≠ 0) (hd : ∀ z ∈ l, g ∣ z) : Trim (l.map (· / g)) := by
  induction l with
  | nil => rfl
  | cons x l ih =>
    have hne : ∀ z ∈ x :: l, z ≠ 0 → z / g ≠ 0 := fun z hz h0 h1 => by
      obtain ⟨q, rfl⟩ := hd z hz
      rw [Int.mul_ediv_cancel_left _ hg] at h1
      rw [h1] at h0; simp at h0
    unfold Trim at ht ih ⊢
    cases hl : trim l with
    | nil =>
      simp only [trim, hl] at ht
      split at ht
      · cases ht
      · rename_i hx
        injection ht with _ h2
        subst h2
        simp [trim, hne x (List.mem_cons_self ..) hx]
    | cons y k =>
      simp only [trim, hl] at ht
      injection ht with _ h2
      have hll : trim l = l := by rw [hl]; exact h2
      have ih := ih hll fun z hz => hd z (List.mem_cons_of_mem _ hz)
      rw [List.map_cons]
      have hne2 : l.map (· / g) ≠ [] := by rw [← hll, hl]; simp
      cases hm : l.map (· / g) with
      | nil => exact absurd hm hne2
      | cons u w =>
        rw [hm] at ih
        have e : trim (x / g :: u :: w) = match trim (u :: w) with | [] => if x / g = 0 then [] else [x / g] | y :: k => x / g :: y :: k := rfl
        rw [e, ih]
theorem Crv.nml (k : Crv) : Nml k.norm := by
  have hg := k.g_ne
  have hdv : ∀ z ∈ k.d' :: (trim k.x ++ trim k.y), k.g ∣ z := fun z hz => Int.dvd_of_emod_eq_zero (k.g_dvd z hz)
  have hx := trim_id_of_map (g := k.g) (trim_trim k.x) hg fun z hz => hdv z (by simp [hz])
  have hy := trim_id_of_map (g := k.g) (trim_trim k.y) hg fun z hz => hdv z (by simp [hz])
  refine ⟨trim_trim _, trim_trim _, ?_, ?_⟩
  · show 0 < k.d' / k.g
    obtain ⟨q, hq⟩ := hdv k.d' (List.mem_cons_self ..)
    have h0 := k.d'_ne
    have hgc := k.gcd_ne
    have e : k.d' / k.g = q := by rw [hq, Int.mul_ediv_cancel_left _ hg]
    rw [e]
    unfold Crv.g at hq hg
    have hq0 : q ≠ 0 := fun e => by rw [e, Int.mul_zero] at hq; exact h0 hq
    split at hq
    · rename_i hneg
      rcases Int.lt_or_gt_of_ne hq0 with h | h
      · have := Int.mul_pos_of_neg_of_neg (a := -((gcdL (k.d' :: (trim k.x ++ trim k.y)) : Nat) : Int)) (b := q) (by omega) h
        omega
      · exact h
    · rename_i hneg
      rcases Int.lt_or_gt_of_ne hq0 with h | h
      · have := Int.mul_neg_of_pos_of_neg (a := ((gcdL (k.d' :: (trim k.x ++ trim k.y)) : Nat) : Int)) (b := q) (by omega) h
        omega
      · exact h
  · show gcdL (k.d' / k.g :: (trim ((trim k.x).map (· / k.g)) ++ trim ((trim k.y).map (· / k.g)))) = 1
    rw [show trim ((trim k.x).map (· / k.g)) = (trim k.x).map (· / k.g) from hx, show trim ((trim k.y).map (· / k.g)) = (trim k.y).map (· / k.g) from hy, ← List.map_append, ← List.map_cons (f := (· / k.g))]
    refine gcdL_map_div hg ?_
    unfold Crv.g
    split <;> omega
/-- a point -/
structure Pt where
  c : Crv
  id : Int
def ofPt (p : Pt) : List LV := [pl p.c.x, pl p.c.y, sg p.c.d, mg p.c.d, .int .i64 p.id]
def pts (l : List Pt) : LV := .row (l.map ofPt)
end Orr

namespace Orr
/-- the place of a name, or where it would stand -/
def pos : List Pt → Int → Nat
  | [], _ => 0
  | p :: l, id => if p.id < id then pos l id + 1 else 0
def has (l : List Pt) (id : Int) : Bool := match l[pos l id]? with
  | some p => decide (p.id = id)
  | none => false
theorem pos_le (l : List Pt) (id : Int) : pos l id ≤ l.length := by
  induction l with
  | nil => exact Nat.le_refl _
  | cons p l ih => simp only [pos]; split <;> simp <;> omega
theorem pos_eq : ∀ {l : List Pt} {id : Int} {k : Nat}, (∀ j p, j < k → l[j]? = some p → p.id < id) → (k = l.length ∨ ∃ p, l[k]? = some p ∧ ¬ p.id < id) → pos l id = k
  | [], id, k, _, h => by
    rcases h with h | ⟨p, h, _⟩
    · subst h; rfl
    · simp at h
  | q :: l, id, 0, _, h => by
    rcases h with h | ⟨p, h, h2⟩
    · simp at h
    · simp at h; subst h; simp [pos, h2]
  | q :: l, id, k + 1, h1, h => by
    have hq := h1 0 q (by omega) rfl
    simp only [pos, hq, if_true]
    rw [pos_eq (k := k) (fun j p hj hp => h1 (j + 1) p (by omega) (by simpa using hp))]
    rcases h with h | ⟨p, h, h2⟩
    · left; simpa using h
    · right; exact ⟨p, by simpa using h, h2⟩
/-- with one more -/
def put (l : List Pt) (q : Pt) : List Pt := l.take (pos l q.id) ++ q :: l.drop (pos l q.id)
def putE (l : List Pt) (q : Pt) : Int := if has l q.id = true then 6 else if 6 ≤ l.length then 9 else 0
/-- points that are as they are to be -/
def PtOk (s n : Nat) (p : Pt) : Prop := Nml p.c ∧ Cs s n p.c
theorem put_len (l : List Pt) (q : Pt) : (put l q).length = l.length + 1 := by
  have := pos_le l q.id
  simp [put]; omega
/-- points put in one behind the other: what there is, and the error -/
def newL : List Pt → List Pt → List Pt × Int
  | acc, [] => (acc, 0)
  | acc, q :: qs => if putE acc q = 0 then newL (put acc q) qs else ([], putE acc q)
def crvEq (a b : Crv) : Bool := decide (a.x = b.x ∧ a.y = b.y ∧ a.d = b.d)
/-- of those that are one way the first one -/
def waysF (out : List Pt) (p : Pt) : List Pt := if out.any (fun q => crvEq p.c q.c) = true then out else out ++ [p]
def ways (l : List Pt) : List Pt := l.foldl waysF []
theorem foldl_take_succ {α β : Type} (f : β → α → β) (b : β) (l : List α) {i : Nat} {x : α} (h : l[i]? = some x) : (l.take (i + 1)).foldl f b = f ((l.take i).foldl f b) x := by
  rw [List.take_add_one, h]; simp [List.foldl_append]
/-- a point in any form -/
def IsPt (s n : Nat) (z : List LV) (q : Pt) : Prop := ∃ lx ly b l px py d, z = [.row lx, .row ly, .bool b, u32r l, .int .i64 q.id] ∧ IsInts lx px ∧ IsInts ly py ∧ IsInt (.bool b) (u32r l) d ∧ Cs s n ⟨px, py, d⟩ ∧ q.c = Crv.norm ⟨px, py, d⟩
theorem isPt_n {s n : Nat} {p : Pt} (h : PtOk s n p) : IsPt s n (ofPt p) p := by
  obtain ⟨b, l, h1, h2, h3, h4⟩ := isInt_n p.c.d
  refine ⟨_, _, decide (p.c.d < 0), limbs p.c.d.natAbs, _, _, p.c.d, rfl, isInts_n _, isInts_n _, isInt_n _, h.2, (Crv.norm_of h.1).symm⟩
def IsPts (s n : Nat) : List (List LV) → List Pt → Prop
  | [], [] => True
  | z :: zs, q :: qs => IsPt s n z q ∧ IsPts s n zs qs
  | _, _ => False
theorem IsPts.len {s n : Nat} : ∀ {zs : List (List LV)} {qs : List Pt}, IsPts s n zs qs → zs.length = qs.length
  | [], [], _ => rfl
  | _ :: _, _ :: _, h => by simp [h.2.len]
  | [], _ :: _, h => h.elim
  | _ :: _, [], h => h.elim
theorem IsPts.get {s n : Nat} : ∀ {zs : List (List LV)} {qs : List Pt}, IsPts s n zs qs → ∀ {i : Nat} {q : Pt}, qs[i]? = some q → ∃ z, zs[i]? = some z ∧ IsPt s n z q
  | [], [], _, i, q, h => by simp at h
  | z :: zs, q :: qs, h, 0, r, hr => by simp at hr; subst hr; exact ⟨z, rfl, h.1⟩
  | z :: zs, q :: qs, h, i + 1, r, hr => by simpa using h.2.get (i := i) (by simpa using hr)
  | [], _ :: _, h, _, _, _ => h.elim
  | _ :: _, [], h, _, _, _ => h.elim
theorem isPts_n {s n : Nat} : ∀ {l : List Pt}, (∀ p ∈ l, PtOk s n p) → IsPts s n (l.map ofPt) l
  | [], _ => trivial
  | p :: l, h => ⟨isPt_n (h p (List.mem_cons_self ..)), isPts_n fun q hq => h q (List.mem_cons_of_mem _ hq)⟩
theorem IsPt.ok {s n : Nat} {z : List LV} {q : Pt} (h : IsPt s n z q) (h1 : 1 ≤ s) : PtOk s n q := by
  obtain ⟨lx, ly, b, l, px, py, d, _, _, _, _, hc, e⟩ := h
  unfold PtOk
  rw [e]
  exact ⟨Crv.nml _, hc.norm h1⟩
/-- the first error, or all of them -/
theorem newL_step (acc qs : List Pt) {i : Nat} {q : Pt} (hi : qs[i]? = some q) (h : newL acc (qs.take i) = ((newL acc (qs.take i)).1, 0)) : newL acc (qs.take (i + 1)) = if putE (newL acc (qs.take i)).1 q = 0 then (put (newL acc (qs.take i)).1 q, 0) else ([], putE (newL acc (qs.take i)).1 q) := by
  induction qs generalizing acc i with
  | nil => simp at hi
  | cons x qs ih =>
    cases i with
    | zero => simp at hi; subst hi; simp [newL]
    | succ i =>
      simp only [List.take_succ_cons, newL] at h ⊢
      by_cases h0 : putE acc x = 0
      · simp only [h0, if_true] at h ⊢
        exact ih (put acc x) (by simpa using hi) h
      · simp only [h0, if_false] at h
        injection h with _ h
        exact absurd h h0
theorem newL_err (acc qs : List Pt) {i : Nat} {e : Int} (he : e ≠ 0) (h : newL acc (qs.take i) = ([], e)) : newL acc qs = ([], e) := by
  induction qs generalizing acc i with
  | nil => simp [newL] at h; exact absurd h.2.symm he
  | cons x qs ih =>
    cases i with
    | zero => simp [newL] at h; exact absurd h.2.symm he
    | succ i =>
      simp only [List.take_succ_cons, newL] at h ⊢
      by_cases h0 : putE acc x = 0
      · simp only [h0, if_true] at h ⊢; exact ih _ h
      · simp only [h0, if_false] at h ⊢; exact h
end Orr

namespace Orr
def psign (p : List Int) (q : Rat) : Int := cmpZ (pval p q.num q.den) 0
/-- a rational time, as an algebraic number's leaves -/
abbrev qa (q : Rat) : List LV := pl [-q.num, (q.den : Int)] :: (rl q ++ rl q)
/-- the first sign that is not 0, of a polynomial and its derivatives -/
def gfirst (sgn : List Int → Int) : Nat → List Int → Int
  | 0, _ => 0
  | k + 1, p => if p.length = 0 then 0 else if sgn p = 0 then gfirst sgn k (pder p) else sgn p
theorem gfirst_fuel (sgn : List Int → Int) : ∀ (k : Nat) (p : List Int), p.length ≤ k → gfirst sgn k p = gfirst sgn p.length p
  | 0, p, h => by
    have : p.length = 0 := by omega
    rw [this]
  | k + 1, p, h => by
    cases hp : p.length with
    | zero => simp [gfirst, hp]
    | succ m =>
      simp only [gfirst]
      have h1 := len_pder p
      rw [gfirst_fuel sgn k (pder p) (by omega), gfirst_fuel sgn m (pder p) (by omega)]
theorem gfirst_zero (sgn : List Int → Int) {p : List Int} (h : p.length = 0) : gfirst sgn p.length p = 0 := by rw [h]; rfl
theorem gfirst_here (sgn : List Int → Int) {p : List Int} (h : 0 < p.length) (hs : sgn p ≠ 0) : gfirst sgn p.length p = sgn p := by
  obtain ⟨m, hm⟩ : ∃ m, p.length = m + 1 := ⟨p.length - 1, by omega⟩
  rw [hm]; simp only [gfirst]; rw [if_neg (by omega), if_neg hs]
theorem gfirst_next (sgn : List Int → Int) {p : List Int} (h : 0 < p.length) (hs : sgn p = 0) : gfirst sgn p.length p = gfirst sgn (pder p).length (pder p) := by
  obtain ⟨m, hm⟩ : ∃ m, p.length = m + 1 := ⟨p.length - 1, by omega⟩
  rw [hm]; simp only [gfirst]; rw [if_neg (by omega), if_pos hs]
  exact gfirst_fuel sgn m _ (by have := len_pder p; omega)
/-- a time: a polynomial, and an interval -/
structure Tm where
  p : List Int
  lo : Rat
  hi : Rat
abbrev ta (t : Tm) : List LV := pl t.p :: (rl t.lo ++ rl t.hi)
/-- a rational one -/
abbrev tq (q : Rat) : Tm := ⟨[-q.num, (q.den : Int)], q, q⟩
/-- the sign just after a time at which polynomials have the signs sg -/
def germ (sg : List Int → Int) (p : List Int) : Int := gfirst sg p.length p
/-- polynomials that are small enough -/
structure Pb (p : List Int) : Prop where
  t : Trim p
  l : p.length ≤ 64
  b : Bd 16777216 p
abbrev Qb (q : Rat) : Prop := Qs 16777216 q
abbrev Cb (k : Crv) : Prop := Cs 1048576 16 k
def pright (a b : Crv) : List Int := psub (pscale b.x a.d) (pscale a.x b.d)
def pabove (a b : Crv) : List Int := psub (pscale b.y a.d) (pscale a.y b.d)
theorem pb_right {a b : Crv} (ha : Cb a) (hb : Cb b) : Pb (pright a b) ∧ (pright a b).length ≤ 16 ∧ Bd 2097153 (pright a b) := by
  have h1 : Bd 2097153 (pright a b) := bd_mono (bd_psub (bd_pscale hb.x ha.d) (bd_pscale ha.x hb.d)) (by omega)
  have h2 : (pright a b).length ≤ 16 := by
    refine Nat.le_trans (len_psub _ _) ?_
    have := len_pscale b.x a.d; have := len_pscale a.x b.d; have := ha.lx; have := hb.lx
    omega
  exact ⟨⟨each_trim _ _, by omega, bd_mono h1 (by omega)⟩, h2, h1⟩
theorem pb_above {a b : Crv} (ha : Cb a) (hb : Cb b) : Pb (pabove a b) ∧ (pabove a b).length ≤ 16 ∧ Bd 2097153 (pabove a b) := by
  have h1 : Bd 2097153 (pabove a b) := bd_mono (bd_psub (bd_pscale hb.y ha.d) (bd_pscale ha.y hb.d)) (by omega)
  have h2 : (pabove a b).length ≤ 16 := by
    refine Nat.le_trans (len_psub _ _) ?_
    have := len_pscale b.y a.d; have := len_pscale a.y b.d; have := ha.ly; have := hb.ly
    omega
  exact ⟨⟨each_trim _ _, by omega, bd_mono h1 (by omega)⟩, h2, h1⟩
/-- by the first polynomial that is not 0 for ever; by names, if there is none -/
def pfirst (sg : List Int → Int) (a b : Pt) : List (List Int) → Bool
  | [] => decide (a.id < b.id)
  | p :: l => if 0 < p.length then decide (0 < germ sg p) else pfirst sg a b l
def before (sg : List Int → Int) (a b : Pt) : Bool := pfirst sg a b [pright a.c b.c, pabove a.c b.c]
end Orr

namespace Orr
open Go
structure Ct where
  kind : Int
  i0 : Int
  i1 : Int
  i2 : Int
  i3 : Int
  p : List Int
  want : Int
/-- a certificate's seven leaves -/
abbrev ofCt (c : Ct) : List LV := [.int .i64 c.kind, .int .i64 c.i0, .int .i64 c.i1, .int .i64 c.i2, .int .i64 c.i3, pl c.p, .int .i64 c.want]
/-- by the first number that is another one -/
def lessI : List Int → List Int → Bool
  | x :: l, y :: m => if x = y then lessI l m else decide (x < y)
  | _, _ => false
def lessC (a b : Ct) : Bool := lessI [a.kind, a.i0, a.i1, a.i2, a.i3] [b.kind, b.i0, b.i1, b.i2, b.i3]
/-- where a certificate comes, told from behind -/
def posC (out : List Ct) (c : Ct) : Nat → Nat
  | 0 => 0
  | k + 1 => match out[k]? with
    | some x => if lessC c x = true then posC out c k else k + 1
    | none => k + 1
theorem posC_le (out : List Ct) (c : Ct) : ∀ k, posC out c k ≤ k
  | 0 => Nat.le_refl _
  | k + 1 => by
    simp only [posC]
    split
    · split
      · exact Nat.le_succ_of_le (posC_le out c k)
      · exact Nat.le_refl _
    · exact Nat.le_refl _
theorem posC_on {out : List Ct} {c x : Ct} {k : Nat} (hx : out[k]? = some x) (h : lessC c x = true) : posC out c (k + 1) = posC out c k := by
  simp only [posC, hx, h, if_true]
theorem posC_off {out : List Ct} {c x : Ct} {k : Nat} (hx : out[k]? = some x) (h : lessC c x = false) : posC out c (k + 1) = k + 1 := by
  simp [posC, hx, h]
def insC (out : List Ct) (c : Ct) : List Ct := out.take (posC out c out.length) ++ c :: out.drop (posC out c out.length)
theorem insC_len (out : List Ct) (c : Ct) : (insC out c).length = out.length + 1 := by
  have := posC_le out c out.length
  simp [insC]; omega
theorem insC_mem {out : List Ct} {c x : Ct} (h : x ∈ insC out c) : x = c ∨ x ∈ out := by
  simp only [insC, List.mem_append, List.mem_cons] at h
  rcases h with h | h | h
  · exact .inr (List.mem_of_mem_take h)
  · exact .inl h
  · exact .inr (List.mem_of_mem_drop h)
def sortC (l : List Ct) : List Ct := l.foldl insC []
theorem sortC_snoc (l : List Ct) (c : Ct) : sortC (l ++ [c]) = insC (sortC l) c := by simp [sortC, List.foldl_append]
theorem sortC_take {l : List Ct} {i : Nat} {c : Ct} (h : l[i]? = some c) : sortC (l.take (i + 1)) = insC (sortC (l.take i)) c := by
  rw [List.take_succ, h]; exact sortC_snoc _ _
theorem foldl_len : ∀ (l acc : List Ct), (l.foldl insC acc).length = acc.length + l.length
  | [], acc => by simp
  | c :: l, acc => by simp only [List.foldl_cons]; rw [foldl_len l (insC acc c), insC_len]; simp; omega
theorem sortC_len (l : List Ct) : (sortC l).length = l.length := by unfold sortC; rw [foldl_len]; simp
theorem foldl_mem : ∀ (l acc : List Ct) {x : Ct}, x ∈ l.foldl insC acc → x ∈ l ∨ x ∈ acc
  | [], acc, x, h => .inr h
  | c :: l, acc, x, h => by
    simp only [List.foldl_cons] at h
    rcases foldl_mem l _ h with h | h
    · exact .inl (List.mem_cons_of_mem _ h)
    · rcases insC_mem h with rfl | h
      · exact .inl (List.mem_cons_self ..)
      · exact .inr h
theorem sortC_mem {l : List Ct} {x : Ct} (h : x ∈ sortC l) : x ∈ l := by
  rcases foldl_mem l [] h with h | h
  · exact h
  · cases h
/-- a place is made, and filled -/
theorem ins_copy {α : Type} (l : List α) (z x : α) {k m' : Nat} (hk : k ≤ l.length) (hm : m' = l.length - k) :
    ((l ++ [z]).take (k + 1) ++ ((l ++ [z]).drop k).take m' ++ (l ++ [z]).drop (k + 1 + m')).set k x = l.take k ++ x :: l.drop k := by
  subst hm
  have e1 : ((l ++ [z]).drop k).take (l.length - k) = l.drop k := by
    rw [List.drop_append_of_le_length hk, List.take_append_of_le_length (by simp), List.take_of_length_le (by simp)]
  have e2 : (l ++ [z]).drop (k + 1 + (l.length - k)) = [] := List.drop_eq_nil_of_le (by simp; omega)
  rw [e1, e2, List.append_nil]
  have e3 : (l ++ [z]).take (k + 1) = (l ++ [z]).take k ++ [(l ++ [z])[k]'(by simp; omega)] := by rw [List.take_succ_eq_append_getElem]
  rw [e3, List.take_append_of_le_length hk, List.append_assoc, List.set_append, if_neg (by simp; omega)]
  simp [Nat.min_eq_left hk]
end Orr
