/- Ntt L1 L2 L3 L4 L5 M1 P2 M2 DigL R1 -/
import Derived.Test.YtbnjginelkkonaaGreatPart03
import Derived.Laws.StructEq
import Derived.Test.YtbnjginelkkonaaGreatProg
set_option linter.all false

namespace Orr
open Go Go.Proofs
theorem Qs7 (d : Nat) (x y : Int) (w : World) : (Op.equalIn (d + 1) 3 (.int .i64 x) (.int .i64 y)).run Tryz.prog w = .ok (decide (x = y)) w := by
  simp [Op.equalIn,Tryz.runUnderlying3]
  rfl
def ti3 : TI Tryz.prog := Sf 3 Tryz.isAgg3 Tryz.sizeOf3 Tryz.underlying3 Tryz.zeroValue3 Tryz.typeInfo3 8 rfl
def ti4 : TI Tryz.prog := Sf 4 Tryz.isAgg4 Tryz.sizeOf4 Tryz.underlying4 Tryz.zeroValue4 Tryz.typeInfo4 1 rfl
def ti5 : TI Tryz.prog := Sf 5 Tryz.isAgg5 Tryz.sizeOf5 Tryz.underlying5 Tryz.zeroValue5 Tryz.typeInfo5 1 rfl
def ti9 : TI Tryz.prog := Sf 9 Tryz.isAgg9 Tryz.sizeOf9 Tryz.underlying9 Tryz.zeroValue9 Tryz.typeInfo9 16 rfl
def Q9y : TI Tryz.prog := Sf 22 Tryz.isAgg22 Tryz.sizeOf22 Tryz.underlying22 Tryz.zeroValue22 Tryz.typeInfo22 24 rfl
def Q9z : TI Tryz.prog := Sf 23 Tryz.isAgg23 Tryz.sizeOf23 Tryz.underlying23 Tryz.zeroValue23 Tryz.typeInfo23 8 rfl
def Q90 : TI Tryz.prog := Sf 24 Tryz.isAgg24 Tryz.sizeOf24 Tryz.underlying24 Tryz.zeroValue24 Tryz.typeInfo24 24 rfl
def Q91 : TI Tryz.prog := Sf 25 Tryz.isAgg25 Tryz.sizeOf25 Tryz.underlying25 Tryz.zeroValue25 Tryz.typeInfo25 24 rfl
def Q92 : TI Tryz.prog := Sf 26 Tryz.isAgg26 Tryz.sizeOf26 Tryz.underlying26 Tryz.zeroValue26 Tryz.typeInfo26 24 rfl
def Q93 : TI Tryz.prog := Sf 27 Tryz.isAgg27 Tryz.sizeOf27 Tryz.underlying27 Tryz.zeroValue27 Tryz.typeInfo27 24 rfl
def Q94 : TI Tryz.prog := Lz (ks := [1,1]) (ag := [false,false]) 29 Tryz.isAgg29 Tryz.sizeOf29 Tryz.underlying29 Tryz.zeroValue29 Tryz.typeInfo29 32 rfl ⟨Tryz.sizeOf4,Tryz.sizeOf27,trivial⟩ ⟨Tryz.isAgg4,Tryz.isAgg27,trivial⟩ rfl
def Q95 : TI Tryz.prog := Lz (ks := [1,1,2]) (ag := [false,false,true]) 31 Tryz.isAgg31 Tryz.sizeOf31 Tryz.underlying31 Tryz.zeroValue31 Tryz.typeInfo31 80 rfl ⟨Tryz.sizeOf26,Tryz.sizeOf26,Tryz.sizeOf29,trivial⟩ ⟨Tryz.isAgg26,Tryz.isAgg26,Tryz.isAgg29,trivial⟩ rfl
def Q96 : TI Tryz.prog := Lz (ks := [4,1]) (ag := [true,false]) 35 Tryz.isAgg35 Tryz.sizeOf35 Tryz.underlying35 Tryz.zeroValue35 Tryz.typeInfo35 88 rfl ⟨Tryz.sizeOf31,Tryz.sizeOf3,trivial⟩ ⟨Tryz.isAgg31,Tryz.isAgg3,trivial⟩ rfl
def Q97 : TI Tryz.prog := Sf 36 Tryz.isAgg36 Tryz.sizeOf36 Tryz.underlying36 Tryz.zeroValue36 Tryz.typeInfo36 8 rfl
def Q98 : TI Tryz.prog := Sf 37 Tryz.isAgg37 Tryz.sizeOf37 Tryz.underlying37 Tryz.zeroValue37 Tryz.typeInfo37 8 rfl
def Q99 : TI Tryz.prog := Lz (ks := [2,2]) (ag := [true,true]) 41 Tryz.isAgg41 Tryz.sizeOf41 Tryz.underlying41 Tryz.zeroValue41 Tryz.typeInfo41 64 rfl ⟨Tryz.sizeOf29,Tryz.sizeOf29,trivial⟩ ⟨Tryz.isAgg29,Tryz.isAgg29,trivial⟩ rfl
def Zaa : TI Tryz.prog := Sf 45 Tryz.isAgg45 Tryz.sizeOf45 Tryz.underlying45 Tryz.zeroValue45 Tryz.typeInfo45 24 rfl
def Zab : TI Tryz.prog := Lz (ks := [1,1]) (ag := [false,false]) 47 Tryz.isAgg47 Tryz.sizeOf47 Tryz.underlying47 Tryz.zeroValue47 Tryz.typeInfo47 32 rfl ⟨Tryz.sizeOf45,Tryz.sizeOf4,trivial⟩ ⟨Tryz.isAgg45,Tryz.isAgg4,trivial⟩ rfl
def Zac : TI Tryz.prog := Lz (ks := [2,2]) (ag := [true,true]) 49 Tryz.isAgg49 Tryz.sizeOf49 Tryz.underlying49 Tryz.zeroValue49 Tryz.typeInfo49 64 rfl ⟨Tryz.sizeOf47,Tryz.sizeOf47,trivial⟩ ⟨Tryz.isAgg47,Tryz.isAgg47,trivial⟩ rfl
def Zad : TI Tryz.prog := Sf 55 Tryz.isAgg55 Tryz.sizeOf55 Tryz.underlying55 Tryz.zeroValue55 Tryz.typeInfo55 8 rfl
def Zae : TI Tryz.prog := Lz (ks := [1,4,4]) (ag := [false,true,true]) 67 Tryz.isAgg67 Tryz.sizeOf67 Tryz.underlying67 Tryz.zeroValue67 Tryz.typeInfo67 152 rfl ⟨Tryz.sizeOf26,Tryz.sizeOf41,Tryz.sizeOf41,trivial⟩ ⟨Tryz.isAgg26,Tryz.isAgg41,Tryz.isAgg41,trivial⟩ rfl
def Zaf : TI Tryz.prog := Sf 68 Tryz.isAgg68 Tryz.sizeOf68 Tryz.underlying68 Tryz.zeroValue68 Tryz.typeInfo68 24 rfl
def Zag : TI Tryz.prog := Lz (ks := [1,9,1,1]) (ag := [false,true,false,false]) 70 Tryz.isAgg70 Tryz.sizeOf70 Tryz.underlying70 Tryz.zeroValue70 Tryz.typeInfo70 192 rfl ⟨Tryz.sizeOf4,Tryz.sizeOf67,Tryz.sizeOf68,Tryz.sizeOf3,trivial⟩ ⟨Tryz.isAgg4,Tryz.isAgg67,Tryz.isAgg68,Tryz.isAgg3,trivial⟩ rfl
def Zah : TI Tryz.prog := Lz (ks := [1]) (ag := [false]) 72 Tryz.isAgg72 Tryz.sizeOf72 Tryz.underlying72 Tryz.zeroValue72 Tryz.typeInfo72 24 rfl ⟨Tryz.sizeOf24,trivial⟩ ⟨Tryz.isAgg24,trivial⟩ rfl
def Zai : TI Tryz.prog := Lz (ks := [12,1,1]) (ag := [true,true,false]) 74 Tryz.isAgg74 Tryz.sizeOf74 Tryz.underlying74 Tryz.zeroValue74 Tryz.typeInfo74 240 rfl ⟨Tryz.sizeOf70,Tryz.sizeOf72,Tryz.sizeOf24,trivial⟩ ⟨Tryz.isAgg70,Tryz.isAgg72,Tryz.isAgg24,trivial⟩ rfl
def Zaj : TI Tryz.prog := Sf 77 Tryz.isAgg77 Tryz.sizeOf77 Tryz.underlying77 Tryz.zeroValue77 Tryz.typeInfo77 24 rfl
def Zak : TI Tryz.prog := Sf 84 Tryz.isAgg84 Tryz.sizeOf84 Tryz.underlying84 Tryz.zeroValue84 Tryz.typeInfo84 24 rfl
def Zal : TI Tryz.prog := Lz (ks := [12,1,1,1]) (ag := [true,true,false,false]) 86 Tryz.isAgg86 Tryz.sizeOf86 Tryz.underlying86 Tryz.zeroValue86 Tryz.typeInfo86 264 rfl ⟨Tryz.sizeOf70,Tryz.sizeOf72,Tryz.sizeOf24,Tryz.sizeOf84,trivial⟩ ⟨Tryz.isAgg70,Tryz.isAgg72,Tryz.isAgg24,Tryz.isAgg84,trivial⟩ rfl
def Zam : TI Tryz.prog := Sf 88 Tryz.isAgg88 Tryz.sizeOf88 Tryz.underlying88 Tryz.zeroValue88 Tryz.typeInfo88 8 rfl
def Zan : TI Tryz.prog := Sf 93 Tryz.isAgg93 Tryz.sizeOf93 Tryz.underlying93 Tryz.zeroValue93 Tryz.typeInfo93 24 rfl
set_option maxRecDepth 20000 in
theorem Qza (d : Nat) (x0 x1 y0 y1 : Int) (w : World) : (Op.equalIn (d + 1 + 1) 94 (.agg #[.int .i64 x0,.int .i64 x1]) (.agg #[.int .i64 y0,.int .i64 y1])).run Tryz.prog w = .ok (decide ([x0,x1] = [y0,y1])) w := by
  rw [run_equalIn_array w (d + 1) _ _ (n := 2) (e := 3) rfl rfl]
  rw [show List.range 2 = [0,1] from rfl,show Tryz.prog.cellsOf 3 = 1 from rfl]
  simp [Op.eqItems,Go.part,Tryz.isAgg3,Qs7]
  by_cases h0 : x0 = y0 <;> by_cases h1 : x1 = y1 <;> simp [h0,h1]
theorem Q3z (a b : List Int) (ha : a.length = 2) (hb : b.length = 2) (w : World) : (Op.equal 94 (.agg (a.map (Value.int .i64)).toArray) (.agg (b.map (Value.int .i64)).toArray)).run Tryz.prog w = .ok (decide (a = b)) w := by
  match a,ha,b,hb with
  | [x0,x1],_,[y0,y1],_ => exact Qza 9998 x0 x1 y0 y1 w
def Zao : TI Tryz.prog := { tiA 94 Tryz.isAgg94 Tryz.sizeOf94 Tryz.underlying94 Tryz.zeroValue94 Tryz.typeInfo94 16 rfl Tryz.sizeOf3 with eqn := some 2,heq := fun k h => by injection h with h; subst h; exact ⟨Tryz.eqGuardType94,Q3z⟩ }
def Zap : TI Tryz.prog := Lz (ks := [12,1,1]) (ag := [true,true,false]) 96 Tryz.isAgg96 Tryz.sizeOf96 Tryz.underlying96 Tryz.zeroValue96 Tryz.typeInfo96 240 rfl ⟨Tryz.sizeOf70,Tryz.sizeOf72,Tryz.sizeOf24,trivial⟩ ⟨Tryz.isAgg70,Tryz.isAgg72,Tryz.isAgg24,trivial⟩ rfl
def Zaq : TI Tryz.prog := Sf 97 Tryz.isAgg97 Tryz.sizeOf97 Tryz.underlying97 Tryz.zeroValue97 Tryz.typeInfo97 24 rfl
def Zar : TI Tryz.prog := Sf 99 Tryz.isAgg99 Tryz.sizeOf99 Tryz.underlying99 Tryz.zeroValue99 Tryz.typeInfo99 24 rfl
def Q7k : TI Tryz.prog := Sf 100 Tryz.isAgg100 Tryz.sizeOf100 Tryz.underlying100 Tryz.zeroValue100 Tryz.typeInfo100 24 rfl
def Q7l : TI Tryz.prog := Lz (ks := [1,1,4,4]) (ag := [false,false,true,true]) 102 Tryz.isAgg102 Tryz.sizeOf102 Tryz.underlying102 Tryz.zeroValue102 Tryz.typeInfo102 176 rfl ⟨Tryz.sizeOf99,Tryz.sizeOf100,Tryz.sizeOf49,Tryz.sizeOf49,trivial⟩ ⟨Tryz.isAgg99,Tryz.isAgg100,Tryz.isAgg49,Tryz.isAgg49,trivial⟩ rfl
def Q7m : TI Tryz.prog := Sf 103 Tryz.isAgg103 Tryz.sizeOf103 Tryz.underlying103 Tryz.zeroValue103 Tryz.typeInfo103 24 rfl
def Q7n : TI Tryz.prog := Sf 104 Tryz.isAgg104 Tryz.sizeOf104 Tryz.underlying104 Tryz.zeroValue104 Tryz.typeInfo104 24 rfl
def Q7o : TI Tryz.prog := Lz (ks := [10,1,1,1]) (ag := [true,false,false,false]) 106 Tryz.isAgg106 Tryz.sizeOf106 Tryz.underlying106 Tryz.zeroValue106 Tryz.typeInfo106 232 rfl ⟨Tryz.sizeOf102,Tryz.sizeOf103,Tryz.sizeOf3,Tryz.sizeOf104,trivial⟩ ⟨Tryz.isAgg102,Tryz.isAgg103,Tryz.isAgg3,Tryz.isAgg104,trivial⟩ rfl
def Q7p : TI Tryz.prog := Lz (ks := [1,4,13]) (ag := [false,true,true]) 108 Tryz.isAgg108 Tryz.sizeOf108 Tryz.underlying108 Tryz.zeroValue108 Tryz.typeInfo108 320 rfl ⟨Tryz.sizeOf97,Tryz.sizeOf49,Tryz.sizeOf106,trivial⟩ ⟨Tryz.isAgg97,Tryz.isAgg49,Tryz.isAgg106,trivial⟩ rfl
def Q7q : TI Tryz.prog := Lz (ks := [1,1,4]) (ag := [false,false,true]) 110 Tryz.isAgg110 Tryz.sizeOf110 Tryz.underlying110 Tryz.zeroValue110 Tryz.typeInfo110 128 rfl ⟨Tryz.sizeOf99,Tryz.sizeOf99,Tryz.sizeOf31,trivial⟩ ⟨Tryz.isAgg99,Tryz.isAgg99,Tryz.isAgg31,trivial⟩ rfl
def Q7r : TI Tryz.prog := Lz (ks := [6,1]) (ag := [true,false]) 112 Tryz.isAgg112 Tryz.sizeOf112 Tryz.underlying112 Tryz.zeroValue112 Tryz.typeInfo112 136 rfl ⟨Tryz.sizeOf110,Tryz.sizeOf3,trivial⟩ ⟨Tryz.isAgg110,Tryz.isAgg3,trivial⟩ rfl
def Q7s : TI Tryz.prog := Lz (ks := [1,4,13]) (ag := [false,true,true]) 128 Tryz.isAgg128 Tryz.sizeOf128 Tryz.underlying128 Tryz.zeroValue128 Tryz.typeInfo128 320 rfl ⟨Tryz.sizeOf97,Tryz.sizeOf49,Tryz.sizeOf106,trivial⟩ ⟨Tryz.isAgg97,Tryz.isAgg49,Tryz.isAgg106,trivial⟩ rfl
def Q7t : TI Tryz.prog := Lz (ks := [1,4,13]) (ag := [false,true,true]) 134 Tryz.isAgg134 Tryz.sizeOf134 Tryz.underlying134 Tryz.zeroValue134 Tryz.typeInfo134 320 rfl ⟨Tryz.sizeOf97,Tryz.sizeOf49,Tryz.sizeOf106,trivial⟩ ⟨Tryz.isAgg97,Tryz.isAgg49,Tryz.isAgg106,trivial⟩ rfl
def Q7u : TI Tryz.prog := Sf 136 Tryz.isAgg136 Tryz.sizeOf136 Tryz.underlying136 Tryz.zeroValue136 Tryz.typeInfo136 8 rfl
set_option maxRecDepth 20000 in
theorem Qs5 (d : Nat) (x0 x1 x2 x3 y0 y1 y2 y3 : Int) (w : World) : (Op.equalIn (d + 1 + 1) 157 (.agg #[.int .i64 x0,.int .i64 x1,.int .i64 x2,.int .i64 x3]) (.agg #[.int .i64 y0,.int .i64 y1,.int .i64 y2,.int .i64 y3])).run Tryz.prog w = .ok (decide ([x0,x1,x2,x3] = [y0,y1,y2,y3])) w := by
  rw [run_equalIn_array w (d + 1) _ _ (n := 4) (e := 3) rfl rfl]
  rw [show List.range 4 = [0,1,2,3] from rfl,show Tryz.prog.cellsOf 3 = 1 from rfl]
  simp [Op.eqItems,Go.part,Tryz.isAgg3,Qs7]
  by_cases h0 : x0 = y0 <;> by_cases h1 : x1 = y1 <;> by_cases h2 : x2 = y2 <;> by_cases h3 : x3 = y3 <;> simp [h0,h1,h2,h3]
def Q7v : TI Tryz.prog := tiA 157 Tryz.isAgg157 Tryz.sizeOf157 Tryz.underlying157 Tryz.zeroValue157 Tryz.typeInfo157 32 rfl Tryz.sizeOf3
set_option maxRecDepth 20000 in
theorem Qs6 (d : Nat) (x x0 x1 x2 x3 y y0 y1 y2 y3 : Int) (w : World) : (Op.equalIn (d + 1 + 1 + 1) 159 (.agg #[.int .i64 x,.int .i64 x0,.int .i64 x1,.int .i64 x2,.int .i64 x3]) (.agg #[.int .i64 y,.int .i64 y0,.int .i64 y1,.int .i64 y2,.int .i64 y3])).run Tryz.prog w = .ok (decide ([x,x0,x1,x2,x3] = [y,y0,y1,y2,y3])) w := by
  rw [run_equalIn_struct w (d + 1 + 1) 159 _ _ rfl Tryz.stoodInHeld159]
  have hf : (Tryz.prog.fieldsOf 159).toList = [{ name := "Kind",type := 3,offset := 0,embedded := false,tag := "",pkgPath := "",byteOffset := 0 },{ name := "Ids",type := 157,offset := 1,embedded := false,tag := "",pkgPath := "",byteOffset := 8 }] := by simp [Program.fieldsOf,Tryz.underlying159]
  rw [hf]
  simp [Op.eqFields,Go.part,Tryz.isAgg3,Tryz.isAgg157,Tryz.sizeOf157,Tryz.sizeOf3,Qs7,Qs5]
  by_cases h : x = y <;> by_cases h0 : x0 = y0 <;> by_cases h1 : x1 = y1 <;> by_cases h2 : x2 = y2 <;> by_cases h3 : x3 = y3 <;> simp [h,h0,h1,h2,h3]
theorem Qy9 (a b : List Int) (ha : a.length = 5) (hb : b.length = 5) (w : World) : (Op.equal 159 (.agg (a.map (Value.int .i64)).toArray) (.agg (b.map (Value.int .i64)).toArray)).run Tryz.prog w = .ok (decide (a = b)) w := by
  match a,ha,b,hb with
  | [x,x0,x1,x2,x3],_,[y,y0,y1,y2,y3],_ => exact Qs6 9997 x x0 x1 x2 x3 y y0 y1 y2 y3 w
def Q7w : TI Tryz.prog := { Lz (ks := [1,4]) (ag := [false,true]) 159 Tryz.isAgg159 Tryz.sizeOf159 Tryz.underlying159 Tryz.zeroValue159 Tryz.typeInfo159 40 rfl ⟨Tryz.sizeOf3,Tryz.sizeOf157,trivial⟩ ⟨Tryz.isAgg3,Tryz.isAgg157,trivial⟩ rfl with eqn := some 5,heq := fun k h => by injection h with h; subst h; exact ⟨Tryz.eqGuardType159,Qy9⟩ }
def Q7x : TI Tryz.prog := Lz (ks := [5,1,1]) (ag := [true,false,false]) 161 Tryz.isAgg161 Tryz.sizeOf161 Tryz.underlying161 Tryz.zeroValue161 Tryz.typeInfo161 72 rfl ⟨Tryz.sizeOf159,Tryz.sizeOf26,Tryz.sizeOf3,trivial⟩ ⟨Tryz.isAgg159,Tryz.isAgg26,Tryz.isAgg3,trivial⟩ rfl
def Q7y : TI Tryz.prog := Lz (ks := [7,1,1,9]) (ag := [true,false,false,true]) 164 Tryz.isAgg164 Tryz.sizeOf164 Tryz.underlying164 Tryz.zeroValue164 Tryz.typeInfo164 232 rfl ⟨Tryz.sizeOf161,Tryz.sizeOf4,Tryz.sizeOf4,Tryz.sizeOf67,trivial⟩ ⟨Tryz.isAgg161,Tryz.isAgg4,Tryz.isAgg4,Tryz.isAgg67,trivial⟩ rfl
def Q7z : TI Tryz.prog := Sf 169 Tryz.isAgg169 Tryz.sizeOf169 Tryz.underlying169 Tryz.zeroValue169 Tryz.typeInfo169 4 rfl
def Q70 : TI Tryz.prog := Lz (ks := [12,1,1]) (ag := [true,true,false]) 182 Tryz.isAgg182 Tryz.sizeOf182 Tryz.underlying182 Tryz.zeroValue182 Tryz.typeInfo182 240 rfl ⟨Tryz.sizeOf70,Tryz.sizeOf72,Tryz.sizeOf24,trivial⟩ ⟨Tryz.isAgg70,Tryz.isAgg72,Tryz.isAgg24,trivial⟩ rfl
def Q71 : TI Tryz.prog := Sf 189 Tryz.isAgg189 Tryz.sizeOf189 Tryz.underlying189 Tryz.zeroValue189 Tryz.typeInfo189 8 rfl
def Q72 : TI Tryz.prog := Sf 192 Tryz.isAgg192 Tryz.sizeOf192 Tryz.underlying192 Tryz.zeroValue192 Tryz.typeInfo192 8 rfl
def Q73 : TI Tryz.prog := Sf 206 Tryz.isAgg206 Tryz.sizeOf206 Tryz.underlying206 Tryz.zeroValue206 Tryz.typeInfo206 24 rfl
def Q74 : TI Tryz.prog := tiA 212 Tryz.isAgg212 Tryz.sizeOf212 Tryz.underlying212 Tryz.zeroValue212 Tryz.typeInfo212 176 rfl Tryz.sizeOf35
def Q75 : TI Tryz.prog := Sf 252 Tryz.isAgg252 Tryz.sizeOf252 Tryz.underlying252 Tryz.zeroValue252 Tryz.typeInfo252 24 rfl
def Q76 : TI Tryz.prog := Lz (ks := [5,1,1,1,1]) (ag := [true,false,false,false,false]) 265 Tryz.isAgg265 Tryz.sizeOf265 Tryz.underlying265 Tryz.zeroValue265 Tryz.typeInfo265 104 rfl ⟨Tryz.sizeOf159,Tryz.sizeOf99,Tryz.sizeOf3,Tryz.sizeOf104,Tryz.sizeOf4,trivial⟩ ⟨Tryz.isAgg159,Tryz.isAgg99,Tryz.isAgg3,Tryz.isAgg104,Tryz.isAgg4,trivial⟩ rfl
def Q77 : TI Tryz.prog := Sf 278 Tryz.isAgg278 Tryz.sizeOf278 Tryz.underlying278 Tryz.zeroValue278 Tryz.typeInfo278 24 rfl
def Q78 : TI Tryz.prog := Lz (ks := [1]) (ag := [false]) 299 Tryz.isAgg299 Tryz.sizeOf299 Tryz.underlying299 Tryz.zeroValue299 Tryz.typeInfo299 24 rfl ⟨Tryz.sizeOf278,trivial⟩ ⟨Tryz.isAgg278,trivial⟩ rfl
def Q79 : TI Tryz.prog := Sf 303 Tryz.isAgg303 Tryz.sizeOf303 Tryz.underlying303 Tryz.zeroValue303 Tryz.typeInfo303 24 rfl
def Q8a : TI Tryz.prog := Sf 317 Tryz.isAgg317 Tryz.sizeOf317 Tryz.underlying317 Tryz.zeroValue317 Tryz.typeInfo317 24 rfl
def Q8b : TI Tryz.prog := tiA 320 Tryz.isAgg320 Tryz.sizeOf320 Tryz.underlying320 Tryz.zeroValue320 Tryz.typeInfo320 272 rfl Tryz.sizeOf112
def Q8c : TI Tryz.prog := Sf 350 Tryz.isAgg350 Tryz.sizeOf350 Tryz.underlying350 Tryz.zeroValue350 Tryz.typeInfo350 24 rfl
def Q8d : TI Tryz.prog := Sf 351 Tryz.isAgg351 Tryz.sizeOf351 Tryz.underlying351 Tryz.zeroValue351 Tryz.typeInfo351 24 rfl
def tt : TT Tryz.prog := (.nd (.nd (.nd (.nd (.nd (.nd (.nd .nil ti3 .nil) ti4 .nil) ti5 (.nd .nil ti9 .nil)) Q9y (.nd (.nd .nil Q9z .nil) Q90 (.nd .nil Q91 .nil))) Q92 (.nd (.nd (.nd .nil Q93 .nil) Q94 (.nd .nil Q95 .nil)) Q96 (.nd (.nd .nil Q97 .nil) Q98 (.nd .nil Q99 .nil)))) Zaa (.nd (.nd (.nd (.nd .nil Zab .nil) Zac (.nd .nil Zad .nil)) Zae (.nd (.nd .nil Zaf .nil) Zag (.nd .nil Zah .nil))) Zai (.nd (.nd (.nd .nil Zaj .nil) Zak (.nd .nil Zal .nil)) Zam (.nd (.nd .nil Zan .nil) Zao (.nd .nil Zap .nil))))) Zaq (.nd (.nd (.nd (.nd (.nd .nil Zar .nil) Q7k (.nd .nil Q7l .nil)) Q7m (.nd (.nd .nil Q7n .nil) Q7o (.nd .nil Q7p .nil))) Q7q (.nd (.nd (.nd .nil Q7r .nil) Q7s (.nd .nil Q7t .nil)) Q7u (.nd (.nd .nil Q7v .nil) Q7w (.nd .nil Q7x .nil)))) Q7y (.nd (.nd (.nd (.nd .nil Q7z .nil) Q70 (.nd .nil Q71 .nil)) Q72 (.nd (.nd .nil Q73 .nil) Q74 (.nd .nil Q75 .nil))) Q76 (.nd (.nd (.nd .nil Q77 .nil) Q78 (.nd .nil Q79 .nil)) Q8a (.nd (.nd .nil Q8b .nil) Q8c (.nd .nil Q8d .nil))))))
instance : Mo Tryz.prog := ⟨rfl⟩
end Orr

namespace Orr
open Go Go.Proofs
set_option maxRecDepth 10000
def lm (l : List Nat) : List (List LV) := l.map fun (x : Nat) => [.int .u32 (x : Int)]
abbrev lr (l : List Nat) : TV := .one (.row (lm l))
theorem Qf (l : List Nat) : (lm l).length = l.length := by simp [lm]
theorem Zf {l : List Nat} {i x : Nat} (h : l[i]? = some x) : (lm l)[i]? = some [.int .u32 (x : Int)] := by simp [lm,h]
def trm : List Nat → List Nat
  | [] => []
  |
   x :: l => match trm l with
   | [] => if x = 0 then [] else [x]
   | r => x :: r
theorem Q1d {l : List Nat} : trm l = [] ↔ ∀ x ∈ l,x = 0 := by
  induction l with
  | nil => simp [trm]
  |
   cons x l ih =>
   simp only [trm]
   split
   · rename_i e
     have h1 := ih.1 e
     by_cases h : x = 0
     · simp [h]; exact h1
     · simp [h]
   · rename_i r hne
     simp only [reduceCtorEq,List.mem_cons,forall_eq_or_imp,false_iff,not_and]
     exact fun _ h => hne (ih.2 h)
theorem Bu : ∀ {l : List Nat} {n : Nat},n ≤ l.length → (∀ j,n ≤ j → j < l.length → l[j]? = some 0) → (n = 0 ∨ ∃ x,l[n - 1]? = some x ∧ x ≠ 0) → l.take n = trm l
  | [],n,h,_,_ => by simp at h; subst h; rfl
  |
   x :: l,0,h,hz,_ => by
   rw [List.take_zero]
   refine (Q1d.2 fun y hy => ?_).symm
   obtain ⟨j,hj⟩ := List.mem_iff_getElem?.1 hy
   have := hz j (Nat.zero_le _) (List.getElem?_eq_some_iff.1 hj).1
   rw [hj] at this; injection this
  |
   x :: l,n + 1,h,hz,ht => by
   simp only [List.length_cons,Nat.add_le_add_iff_right] at h
   have hz' : ∀ j,n ≤ j → j < l.length → l[j]? = some 0 := fun j h1 h2 => by simpa using hz (j + 1) (by omega) (by simpa using h2)
   cases n with
   |
    zero =>
    have e : trm l = [] := (Bu (n := 0) h hz' (.inl rfl)).symm
    rcases ht with h | ⟨y,h1,h2⟩
    · omega
    · simp at h1; subst h1; simp [trm,e,h2]
   |
    succ n =>
    have ih := Bu (n := n + 1) h hz' (.inr (by rcases ht with h | ⟨y,h1,h2⟩; (· omega); exact ⟨y,by simpa using h1,h2⟩))
    simp only [List.take_succ_cons,trm]
    rw [← ih]
    cases hl : l with
    | nil => rw [hl] at h; simp at h
    | cons y l' => simp [List.take_succ_cons]
theorem Q7j (l : List Nat) : Qc Tryz.prog 172 [lr l] [lr (trm l)] := by
  refine Z6 Tryz.func172 rfl (ln 0 rfl rfl fun hl => ?_)
  rw [Qf] at hl
  refine go tt [] rfl trivial ?_
  refine lp (S := Nat) 0 (fun L1 n => (3,.v (.one (.int .i64 (n : Int)))) :: L1) (fun _ => []) id (fun n => n ≤ l.length ∧ ∀ j,n ≤ j → j < l.length → l[j]? = some 0) (lm l).length ⟨by rw [Qf]; exact Nat.le_refl _,fun j h1 h2 => by rw [Qf] at h1; omega⟩ rfl (fun _ _ => rfl) rfl fun n ⟨h1,h2⟩ => ?_
  cases n with
  | zero => exact en tt [.f (by simp),.f rfl,.i 0] rfl (by rw [← Bu h1 h2 (.inl rfl)]; simp [lm]) (by simp [Qa,Z3])
  |
   succ n =>
   obtain ⟨x,hx⟩ : ∃ x,l[n]? = some x := ⟨_,List.getElem?_eq_getElem (by omega)⟩
   by_cases h0 : x = 0
   · refine go tt [.t (by simp),.r 11 (v := .one (.int .i64 (n : Int))) (by simp),.x (Zf hx),.t (by simp [h0]),.r 17 (v := .one (.int .i64 (n : Int))) (by simp)] rfl (by simp [Qa,Z3]; omega) ?_
     exact rd n (by simp) ⟨by omega, fun j h3 h4 => by
         rcases Nat.eq_or_lt_of_le h3 with rfl | h3
         · rw [hx,h0]
         · exact h2 j h3 h4⟩ rfl
   · exact en tt [.t (by simp),.r 11 (v := .one (.int .i64 (n : Int))) (by simp),.x (Zf hx),.f (by simp [h0]),.i (n + 1)] rfl (by rw [← Bu h1 h2 (.inr ⟨x,hx,h0⟩)]; simp [lm]) (by simp [Qa,Z3,Qf] <;> omega)
def Sm (l : List Nat) : Prop := ∀ x ∈ l,x < 4294967296
theorem Qeb : ∀ l : List Nat,Cut l (trm l).length ∧ l.take (trm l).length = trm l
  | [] => ⟨⟨Nat.le_refl _,fun j _ h => by simp at h,fun h => by simp [trm] at h⟩,rfl⟩
  |
   x :: l => by
   obtain ⟨⟨h1,h2,h3⟩,h4⟩ := Qeb l
   simp only [trm]
   split
   · rename_i e
     rw [e] at h2 h3
     by_cases h : x = 0
     · rw [if_pos h]
       refine ⟨⟨Nat.zero_le _,fun j _ hj => ?_,fun h => by simp at h⟩,rfl⟩
       cases j with
       | zero => simp [h]
       | succ j => simpa using h2 j (Nat.zero_le _) (by simpa using hj)
     · rw [if_neg h]
       refine ⟨⟨by simp,fun j h5 hj => ?_,fun _ => ⟨x,rfl,h⟩⟩,rfl⟩
       cases j with
       | zero => simp at h5
       | succ j => simpa using h2 j (Nat.zero_le _) (by simpa using hj)
   · rename_i r hne
     refine ⟨⟨by simp [h1],fun j h5 hj => ?_,fun _ => ?_⟩,by simp [h4]⟩
     · cases j with
       | zero => simp at h5
       | succ j => simpa using h2 j (by simpa using h5) (by simpa using hj)
     · have hp : 0 < (trm l).length := by
         cases e : trm l with
         | nil => exact absurd e hne
         | cons => simp
       obtain ⟨y,h5,h6⟩ := h3 hp
       refine ⟨y,?_,h6⟩
       rw [List.length_cons,show (trm l).length + 1 - 1 = ((trm l).length - 1) + 1 from by omega]
       simpa using h5
theorem Qb4 {l : List Nat} (h : Sm l) : trm l = Qw (val l) := by
  obtain ⟨h1,h2⟩ := Qeb l
  refine Qt9 ?_ ?_
  · rw [← h2]; exact Qy2 h1 h
  · rw [← h2]; exact Qy3 h1
theorem W7 (x : Nat) : Sm (Qw x) := (Wa x).1
theorem X6 {x k : Nat} (h : sz x ≤ k) : 32 * (Qw x).length ≤ k + 31 := by
  have := Qz0 (Wa x)
  rw [Zc] at this; omega
theorem Po {l : List Nat} (h : Sm l) : Qc Tryz.prog 172 [lr l] [lr (Qw (val l))] := Qb4 h ▸ Q7j l
theorem Qua (l : List Nat) : ∀ c ∈ lm l,c.length = 1 := fun c hc => by
  obtain ⟨x,_,rfl⟩ := List.mem_map.1 hc; rfl
theorem P0 {l : List Nat} (h : Sm l) (hs : sz (val l) ≤ 4294967296) : Qc Tryz.prog 123 [lr l] [lr (Qw (val l))] :=
  w tt Tryz.func123 rfl [.c [] (Po h),.s (Qua (Qw (val l)))] rfl rfl (by have := X6 hs; simp [Qa,Z3,Qf]; omega)
theorem Cj {a : List Nat} (ha : Sm a) : ∃ p,Qc Tryz.prog 172 [lr a] [lr p] ∧ Nrm p ∧ val p = val a ∧ p.length ≤ a.length ∧ p = Qw (val a) :=
  ⟨_,Po ha,Wa _,Zc _,by rw [← Qb4 ha]; exact (Qeb a).1.1,rfl⟩
theorem Qqq {a b : List Nat} (ha : Sm a) (hb : Sm b) : Qc Tryz.prog 216 [lr a,lr b] [.one (.int .i64 (Rd (val a) (val b)))] := by
  refine Z6 Tryz.func216 rfl (ln 0 rfl rfl fun hl => ln 1 rfl rfl fun hl' => ?_)
  rw [Qf] at hl hl'
  obtain ⟨p,ca,np,vp,lp',_⟩ := Cj ha
  obtain ⟨q,cb,nq,vq,lq,_⟩ := Cj hb
  rw [← vp,← vq]
  by_cases h : p.length = q.length
  · refine go tt [.c [] ca,.c [] cb,.f (by simp [Qf,h])] rfl (by simp [Qa,Z3,Qf] <;> omega) ?_
    refine lp (S := Int) 0 (fun L1 i => (5,.v (.one (.int .i64 i))) :: L1) (fun _ => []) (fun i => (i + 1).toNat) (fun i => -1 ≤ i ∧ i < p.length ∧ p.drop (i + 1).toNat = q.drop (i + 1).toNat) (((lm p).length : Int) - 1) ⟨by omega,by simp [Qf]; omega,by simp [Qf,h]⟩ rfl (fun _ _ => rfl) rfl fun i ⟨h1,h2,h3⟩ => ?_
    rcases Int.lt_or_le i 0 with hi | hi
    · obtain rfl : i = -1 := by omega
      exact en tt [.f (by decide)] rfl (by rw [Qlm]; exact congrArg val (by simpa using h3)) trivial
    · obtain ⟨k,rfl⟩ := Int.eq_ofNat_of_zero_le hi
      have e : ((k : Int) + 1).toNat = k + 1 := by omega
      rw [e] at h3
      obtain ⟨x,hx⟩ : ∃ x,p[k]? = some x := ⟨_,List.getElem?_eq_getElem (by omega)⟩
      obtain ⟨y,hy⟩ : ∃ y,q[k]? = some y := ⟨_,List.getElem?_eq_getElem (by omega)⟩
      rcases Nat.lt_trichotomy x y with hxy | rfl | hxy
      · exact en tt [.t (by simp),.x (Zf hx),.x (Zf hy),.t (by simp; omega)] rfl (by rw [Ee (Qnv np.1 h3 hx hy hxy)]) (by simp [Qa,Z3,Qf] <;> omega)
      · refine go tt [.t (by simp),.x (Zf hx),.x (Zf hy),.f (by simp),.x (Zf hx),.x (Zf hy),.f (by simp)] rfl (by simp [Qa,Z3,Qf] <;> omega) ?_
        exact rd ((k : Int) - 1) (by omega) ⟨by omega,by omega,by rw [show ((k : Int) - 1 + 1).toNat = k from by omega]; exact Qoz h3 hx hy⟩ rfl
      · exact en tt [.t (by simp),.x (Zf hx),.x (Zf hy),.f (by simp; omega),.x (Zf hx),.x (Zf hy),.t (by simp; omega)] rfl (by rw [Ed (Qnv nq.1 h3.symm hy hx hxy)]) (by simp [Qa,Z3,Qf] <;> omega)
  · by_cases h2 : p.length < q.length
    · exact en tt [.c [] ca,.c [] cb,.t (by simp [Qf]; omega),.t (by simp [Qf]; omega)] rfl (by rw [Ee (Ws np nq h2)]) (by simp [Qa,Z3])
    · exact en tt [.c [] ca,.c [] cb,.t (by simp [Qf]; omega),.f (by simp [Qf]; omega)] rfl (by rw [Ed (Ws nq np (by omega))]) (by simp [Qa,Z3])
end Orr

namespace Orr
open Go Go.Proofs
set_option maxRecDepth 10000
theorem Mk (m : Nat) : List.replicate m [LV.int .u32 0] = lm (List.replicate m 0) := by simp [lm]
theorem Kc (l : List Nat) (i x : Nat) : (lm l).set i [.int .u32 (x : Int)] = lm (l.set i x) := by simp [lm,List.map_set]
theorem Wn {a b : Int} (h : a = b) : TV.one (LV.int .u64 a) = .one (.int .u64 b) := h ▸ rfl
theorem Uj {a b : Int} (h : a = b) : TV.one (LV.int .u32 a) = .one (.int .u32 b) := h ▸ rfl
theorem eI {a b : Int} (h : a = b) : TV.one (LV.int .i64 a) = .one (.int .i64 b) := h ▸ rfl
theorem w32 (z : Int) : IntKind.u32.wrap z = z % 4294967296 := by simp [IntKind.wrap,IntKind.bits,IntKind.signed]
theorem w64 (z : Int) : IntKind.u64.wrap z = z % 18446744073709551616 := by simp [IntKind.wrap,IntKind.bits,IntKind.signed]
theorem Q1t {a b : List Nat} (ha : Sm a) (hb : Sm b) (h1 : sz (val a) ≤ 4294967296) (h2 : sz (val b) ≤ 4294967296) : Qc Tryz.prog 166 [lr a,lr b] [lr (Qw (val a + val b))] := by
  refine Z6 Tryz.func166 rfl ?_
  obtain ⟨p,ca,np,vp,_,ep⟩ := Cj ha
  obtain ⟨q,cb,nq,vq,_,eq⟩ := Cj hb
  have lp' := X6 h1
  have lq := X6 h2
  rw [← ep] at lp'
  rw [← eq] at lq
  rw [← vp,← vq]
  refine go tt [.c [] ca,.c [] cb] rfl trivial ?_
  refine ct 1 (S := List Nat × List Nat) (fun s => [(0,.v (lr s.1)),(1,.v (lr s.2))]) (fun _ => []) (fun s => Nrm s.1 ∧ Nrm s.2 ∧ 32 * s.1.length ≤ 4294967327 ∧ s.2.length ≤ s.1.length ∧ val s.1 + val s.2 = val p + val q) rfl ?_ ?_
  · by_cases h : p.length < q.length
    · exact go tt [.t (by simp [Qf]; omega)] rfl trivial (rc (q,p) ⟨nq,np,lq,Nat.le_of_lt h,Nat.add_comm _ _⟩ rfl)
    · exact go tt [.f (by simp [Qf]; omega)] rfl trivial (rc (p,q) ⟨np,nq,lp',Nat.le_of_not_lt h,rfl⟩ rfl)
  · intro ⟨p',q'⟩ ⟨np,nq,hp,hq,e⟩
    dsimp only at np nq hp hq e
    rw [← e]
    clear ca cb e vp vq ep eq
    refine go tt [.i ((lm p').length + 1),.i ((lm p').length + 1)] rfl (by simp [Qa,Z3,Qf] <;> omega) ?_
    rw [Mk]
    refine lp (S := Nat × List Nat × Nat) 1 (fun L1 s => (27,.v (.one (.int .i64 (s.1 : Int)))) :: (6,.v (.one (.int .u64 (s.2.2 : Int)))) :: L1) (fun s => [.row false 169 1 (lm s.2.1)]) (fun s => p'.length - s.1)
      (fun s => s.1 ≤ p'.length ∧ s.2.1.length = p'.length + 1 ∧ Sm s.2.1 ∧ s.2.2 ≤ 1 ∧ val (s.2.1.take s.1) + s.2.2 * 4294967296 ^ s.1 = val (p'.take s.1) + val (q'.take s.1)) (0,List.replicate ((lm p').length + 1) 0,0)
      ⟨Nat.zero_le _,by simp [Qf],fun x hx => by rw [List.eq_of_mem_replicate hx]; decide,Nat.zero_le _,by simp [val]⟩ rfl (fun _ _ => rfl) rfl fun ⟨i,o,c⟩ ⟨j1,j2,j3,j4,j5⟩ => ?_
    dsimp only at j1 j2 j3 j4 j5 ⊢
    by_cases hi : i < p'.length
    · obtain ⟨x,hx⟩ : ∃ x,p'[i]? = some x := ⟨_,List.getElem?_eq_getElem hi⟩
      have xb := np.1 x (List.mem_of_getElem? hx)
      have fin : ∀ y s, (q'[i]? = some y ∨ q'.length ≤ i ∧ y = 0) → y < 4294967296 → s = x + c + y → p'.length - (i + 1) < p'.length - i ∧ i + 1 ≤ p'.length ∧ (o.set i (s % 4294967296)).length = p'.length + 1 ∧ Sm (o.set i (s % 4294967296)) ∧ s / 4294967296 ≤ 1 ∧
          val ((o.set i (s % 4294967296)).take (i + 1)) + s / 4294967296 * 4294967296 ^ (i + 1) = val (p'.take (i + 1)) + val (q'.take (i + 1)) := fun y s hy hyb hs =>
        ⟨by omega,hi,by simp [j2],Vu j3 i _ (by omega),by omega,Qet (by omega) hx hy j5 hs⟩
      by_cases hi2 : i < q'.length
      · obtain ⟨y,hy⟩ : ∃ y,q'[i]? = some y := ⟨_,List.getElem?_eq_getElem hi2⟩
        have yb := nq.1 y (List.mem_of_getElem? hy)
        refine go tt [.t (by simp [Qf]; omega),.x (Zf hx),.t (by simp [Qf]; omega),.x (Zf hy),.w 2,.r 50 (v := .one (.int .u32 (((x + c + y) % 4294967296 : Nat) : Int))) (by simp [IntKind.wrap,IntKind.bits,IntKind.signed]),.i 32,.r 52 (v := .one (.int .u64 (((x + c + y) / 4294967296 : Nat) : Int))) (by simp),.i i] rfl (by simp [Qa,Z3,Qf,IntKind.bits] <;> omega) ?_
        rw [Kc]
        exact rd (i + 1,o.set i ((x + c + y) % 4294967296),(x + c + y) / 4294967296) (fin y _ (.inl hy) yb rfl).1 (fin y _ (.inl hy) yb rfl).2 rfl
      · refine go tt [.t (by simp [Qf]; omega),.x (Zf hx),.f (by simp [Qf]; omega),.w 0,.r 50 (v := .one (.int .u32 (((x + c + 0) % 4294967296 : Nat) : Int))) (by simp [IntKind.wrap,IntKind.bits,IntKind.signed]),.i 32,.r 52 (v := .one (.int .u64 (((x + c + 0) / 4294967296 : Nat) : Int))) (by simp),.i i] rfl (by simp [Qa,Z3,Qf,IntKind.bits] <;> omega) ?_
        rw [Kc]
        exact rd (i + 1,o.set i ((x + c + 0) % 4294967296),(x + c + 0) / 4294967296) (fin 0 _ (.inr ⟨by omega,rfl⟩) (by decide) rfl).1 (fin 0 _ (.inr ⟨by omega,rfl⟩) (by decide) rfl).2 rfl
    · obtain rfl : i = p'.length := by omega
      refine go tt [.f (by simp [Qf]),.w 0,.r 59 (v := .one (.int .u32 (c : Int))) (by simp [IntKind.wrap,IntKind.bits,IntKind.signed]; omega),.i (lm p').length] rfl (by simp [Qa,Z3,Qf,j2]) ?_
      rw [Qf,Kc]
      have e : val (o.set p'.length c) = val p' + val q' := by
        have h1 := H8 o p'.length c (by omega)
        rw [List.take_of_length_le (by simp; omega)] at h1
        rw [List.take_of_length_le (Nat.le_refl _),List.take_of_length_le hq] at j5
        rw [h1,← j5,Nat.mul_comm]
      rw [← e]
      exact en tt [.c [] (Po (Vu j3 _ c (by omega)))] rfl rfl trivial
theorem Qe6 {x y : Nat} : Rd x y < 0 ↔ x < y := by unfold Rd; split <;> (try split) <;> omega
theorem Q1x {a b : List Nat} (ha : Sm a) (hb : Sm b) (h1 : sz (val a) ≤ 4294967296) : Qc Tryz.prog 167 [lr a,lr b] (if val b ≤ val a then [lr (Qw (val a - val b)),.one (.bool true)] else [lr [],.one (.bool false)]) := by
  refine Z6 Tryz.func167 rfl ?_
  obtain ⟨p,ca,np,vp,_,ep⟩ := Cj ha
  obtain ⟨q,cb,nq,vq,_,_⟩ := Cj hb
  have hp := X6 h1
  rw [← ep] at hp
  rw [← vp,← vq]
  have cc := Qqq np.1 nq.1
  by_cases hlt : val p < val q
  · rw [if_neg (by omega)]
    exact en tt [.c [] ca,.c [] cb,.c [] cc,.t (by simpa using Qe6.2 hlt)] rfl rfl trivial
  rw [if_pos (by omega)]
  have hq : q.length ≤ p.length := Nat.le_of_not_lt fun h => hlt (Ws np nq h)
  refine go tt [.c [] ca,.c [] cb,.c [] cc,.f (by have := mt Qe6.1 hlt; simpa using this),.i (lm p).length,.i (lm p).length] rfl (by simp [Qa,Z3,Qf] <;> omega) ?_
  rw [Mk]
  refine lp (S := Nat × List Nat × Nat) 1 (fun L1 s => (24,.v (.one (.int .i64 (s.1 : Int)))) :: (7,.v (.one (.int .u64 (s.2.2 : Int)))) :: L1) (fun s => [.row false 169 1 (lm s.2.1)]) (fun s => p.length - s.1)
    (fun s => s.1 ≤ p.length ∧ s.2.1.length = p.length ∧ Sm s.2.1 ∧ s.2.2 ≤ 1 ∧ val (s.2.1.take s.1) + val (q.take s.1) = val (p.take s.1) + s.2.2 * 4294967296 ^ s.1) (0,List.replicate (lm p).length 0,0)
    ⟨Nat.zero_le _,by simp [Qf],fun x hx => by rw [List.eq_of_mem_replicate hx]; decide,Nat.zero_le _,by simp [val]⟩ rfl (fun _ _ => rfl) rfl fun ⟨i,o,c⟩ ⟨j1,j2,j3,j4,j5⟩ => ?_
  dsimp only at j1 j2 j3 j4 j5 ⊢
  by_cases hi : i < p.length
  · obtain ⟨x,hx⟩ : ∃ x,p[i]? = some x := ⟨_,List.getElem?_eq_getElem hi⟩
    have xb := np.1 x (List.mem_of_getElem? hx)
    have fin : ∀ y s, (q[i]? = some y ∨ q.length ≤ i ∧ y = 0) → y < 4294967296 → s = (x + 18446744073709551616 - c - y) % 18446744073709551616 → p.length - (i + 1) < p.length - i ∧ i + 1 ≤ p.length ∧ (o.set i (s % 4294967296)).length = p.length ∧ Sm (o.set i (s % 4294967296)) ∧ s / 9223372036854775808 ≤ 1 ∧
        val ((o.set i (s % 4294967296)).take (i + 1)) + val (q.take (i + 1)) = val (p.take (i + 1)) + s / 9223372036854775808 * 4294967296 ^ (i + 1) := fun y s hy hyb hs => by
      obtain ⟨h1,h2⟩ := Qwp (o := o) (by omega) hx hy xb hyb j4 j5 hs
      exact ⟨by omega,hi,by simp [j2],Vu j3 i _ (by omega),h2,h1⟩
    by_cases hi2 : i < q.length
    · obtain ⟨y,hy⟩ : ∃ y,q[i]? = some y := ⟨_,List.getElem?_eq_getElem hi2⟩
      have yb := nq.1 y (List.mem_of_getElem? hy)
      obtain ⟨s,hs⟩ : ∃ s,s = (x + 18446744073709551616 - c - y) % 18446744073709551616 := ⟨_,rfl⟩
      refine go tt [.t (by simp [Qf]; omega),.x (Zf hx),.w 1,.r 32 (Wn (b := (((x + 18446744073709551616 - c) % 18446744073709551616 : Nat) : Int)) (by rw [w64]; omega)),.t (by simp [Qf]; omega),.x (Zf hy),.w 1,.r 43 (Wn (b := (s : Int)) (by rw [w64]; omega)),.w 0,.r 47 (Uj (b := ((s % 4294967296 : Nat) : Int)) (by rw [w32]; omega)),.i 63,.r 49 (Wn (b := ((s / 9223372036854775808 : Nat) : Int)) (by simp)),.i i] rfl (by simp [Qa,Z3,Qf,IntKind.bits] <;> omega) ?_
      rw [Kc]
      exact rd (i + 1,o.set i (s % 4294967296),s / 9223372036854775808) (fin y _ (.inl hy) yb hs).1 (fin y _ (.inl hy) yb hs).2 rfl
    · obtain ⟨s,hs⟩ : ∃ s,s = (x + 18446744073709551616 - c - 0) % 18446744073709551616 := ⟨_,rfl⟩
      have hf := fin 0 _ (.inr ⟨by omega,rfl⟩) (by decide) hs
      refine go tt [.t (by simp [Qf]; omega),.x (Zf hx),.w 1,.r 32 (Wn (b := (s : Int)) (by rw [w64]; omega)),.f (by simp [Qf]; omega),.w 0,.r 47 (Uj (b := ((s % 4294967296 : Nat) : Int)) (by rw [w32]; omega)),.i 63,.r 49 (Wn (b := ((s / 9223372036854775808 : Nat) : Int)) (by simp)),.i i] rfl (by simp [Qa,Z3,Qf,IntKind.bits] <;> omega) ?_
      rw [Kc]
      exact rd (i + 1,o.set i (s % 4294967296),s / 9223372036854775808) hf.1 hf.2 rfl
  · obtain rfl : i = p.length := by omega
    have e : val o = val p - val q := by
      rw [List.take_of_length_le (Nat.le_of_eq j2),List.take_of_length_le hq,List.take_of_length_le (Nat.le_refl _)] at j5
      have h1 := Ud o j3
      rw [j2] at h1
      rcases Nat.le_one_iff_eq_zero_or_eq_one.1 j4 with rfl | rfl <;> omega
    rw [← e]
    exact en tt [.f (by simp [Qf]),.c [] (Po j3)] rfl rfl trivial
theorem Q6a {a b : List Nat} (ha : Sm a) (hb : Sm b) (h1 : sz (val a) ≤ 4294967296) (h2 : sz (val b) ≤ 4294967296) : Qc Tryz.prog 232 [lr a,lr b] [lr (Qw (val a * val b))] := by
  refine Z6 Tryz.func232 rfl ?_
  obtain ⟨p,ca,np,vp,_,ep⟩ := Cj ha
  obtain ⟨q,cb,nq,vq,_,eq⟩ := Cj hb
  have hp := X6 h1
  have hq := X6 h2
  rw [← ep] at hp
  rw [← eq] at hq
  rw [← vp,← vq]
  refine go tt [.c [] ca,.c [] cb,.i ((lm p).length + (lm q).length),.i ((lm p).length + (lm q).length)] rfl (by simp [Qa,Z3,Qf] <;> omega) ?_
  rw [Mk]
  refine lp (S := Nat × List Nat) 1 (fun L1 s => (24,.v (.one (.int .i64 (s.1 : Int)))) :: L1) (fun s => [.row false 169 1 (lm s.2)]) (fun s => p.length - s.1)
    (fun s => s.1 ≤ p.length ∧ s.2.length = p.length + q.length ∧ Sm s.2 ∧ (∀ j,s.1 + q.length ≤ j → j < s.2.length → s.2[j]? = some 0) ∧ val s.2 = val (p.take s.1) * val q) (0,List.replicate ((lm p).length + (lm q).length) 0)
    ⟨Nat.zero_le _,by simp [Qf],fun x hx => by rw [List.eq_of_mem_replicate hx]; decide,fun j _ hj => by rw [List.getElem?_replicate,if_pos (by simpa using hj)],by simp [val,Ds]⟩ rfl (fun _ _ => rfl) rfl fun ⟨i,o⟩ ⟨j1,j2,j3,j4,j5⟩ => ?_
  dsimp only at j1 j2 j3 j4 j5 ⊢
  by_cases hi : i < p.length
  · obtain ⟨x,hx⟩ : ∃ x,p[i]? = some x := ⟨_,List.getElem?_eq_getElem hi⟩
    have xb := np.1 x (List.mem_of_getElem? hx)
    refine go tt [.t (by simp [Qf]; omega),.x (Zf hx)] rfl trivial ?_
    refine lp (S := Nat × List Nat × Nat) 1 (fun L1 s => (31,.v (.one (.int .i64 (s.1 : Int)))) :: (8,.v (.one (.int .u64 (s.2.2 : Int)))) :: L1) (fun s => [.row false 169 1 (lm s.2.1)]) (fun s => q.length - s.1)
      (fun s => s.1 ≤ q.length ∧ s.2.1.length = p.length + q.length ∧ Sm s.2.1 ∧ (∀ j,i + q.length ≤ j → j < s.2.1.length → s.2.1[j]? = some 0) ∧ s.2.2 < 4294967296 ∧ val s.2.1 + s.2.2 * 4294967296 ^ (i + s.1) = val (p.take i) * val q + 4294967296 ^ i * x * val (q.take s.1)) (0,o,0)
      ⟨Nat.zero_le _,j2,j3,j4,by simp,by simp [val,j5]⟩ rfl (fun _ _ => rfl) rfl fun ⟨k,o',c⟩ ⟨k1,k2,k3,k4,k5,k6⟩ => ?_
    dsimp only at k1 k2 k3 k4 k5 k6 ⊢
    by_cases hk : k < q.length
    · obtain ⟨y,hy⟩ : ∃ y,q[k]? = some y := ⟨_,List.getElem?_eq_getElem hk⟩
      have yb := nq.1 y (List.mem_of_getElem? hy)
      obtain ⟨z,hz⟩ : ∃ z,o'[i + k]? = some z := ⟨_,List.getElem?_eq_getElem (by omega)⟩
      have zb := k3 z (List.mem_of_getElem? hz)
      have hm := To xb yb
      have hm2 : (x : Int) * (y : Int) = ((x * y : Nat) : Int) := by push_cast; rfl
      obtain ⟨s,hs⟩ : ∃ s,s = x * y + z + c := ⟨_,rfl⟩
      refine go tt [.t (by simp [Qf]; omega),.x (Zf hy),.r 40 (Wn (b := ((x * y : Nat) : Int)) (by push_cast; rfl)),.i (i + k),.x (Zf hz),.r 50 (Wn (b := (s : Int)) (by omega)),.w 1,.r 56 (Uj (b := ((s % 4294967296 : Nat) : Int)) (by rw [w32]; omega)),.i 32,.r 58 (Wn (b := ((s / 4294967296 : Nat) : Int)) (by simp)),.i (i + k)] rfl ?_ ?_
      · simp [Qa,Z3,Qf,IntKind.bits] <;> omega
      · rw [Kc]
        exact rd (k + 1,o'.set (i + k) (s % 4294967296),s / 4294967296) (show q.length - (k + 1) < q.length - k by omega) ⟨hk,by simp [k2],Vu k3 _ _ (by omega),fun j h3 h4 => by
          rw [List.getElem?_set_ne (by omega)]; exact k4 j h3 (by simpa using h4),(show s / 4294967296 < 4294967296 from by omega),Qui hz hy k6 hs⟩ rfl
    · obtain rfl : k = q.length := by omega
      by_cases hq0 : 0 < q.length
      · refine go tt [.f (by simp [Qf]),.t (by simp [Qf]; omega),.w 1,.r 70 (Uj (b := ((c % 4294967296 : Nat) : Int)) (by rw [w32]; omega)),.i (i + (lm q).length)] rfl (by simp [Qa,Z3,Qf,IntKind.bits] <;> omega) ?_
        rw [Kc]
        refine rd (i + 1,o'.set (i + (lm q).length) (c % 4294967296)) (show p.length - (i + 1) < p.length - i by omega) ⟨hi,by simp [k2],Vu k3 _ _ (by omega),fun j h3 h4 => ?_,?_⟩ rfl
        · rw [Qf,List.getElem?_set_ne (by dsimp only at h3; omega)]
          exact k4 j (by dsimp only at h3; omega) (by simpa using h4)
        · rw [Qf]
          exact Quh (k4 _ (Nat.le_refl _) (by omega)) hx k5 rfl k6
      · have q0 : q = [] := List.eq_nil_of_length_eq_zero (by omega)
        refine go tt [.f (by simp [Qf]),.f (by simp [Qf,q0])] rfl (by simp [Qa,Z3,Qf,IntKind.bits] <;> omega) ?_
        refine rd (i + 1,o') (show p.length - (i + 1) < p.length - i by omega) ⟨hi,k2,k3,fun j h3 h4 => k4 j (by dsimp only at h3; omega) h4,?_⟩ rfl
        have c0 : c * 4294967296 ^ (i + q.length) = 0 ∧ val o' = 0 := by
          subst q0
          simp only [val,List.take_nil,Nat.mul_zero] at k6
          omega
        rw [c0.2,q0]; rfl
  · obtain rfl : i = p.length := by omega
    rw [List.take_of_length_le (Nat.le_refl _)] at j5
    rw [← j5]
    exact en tt [.f (by simp [Qf]),.c [] (Po j3)] rfl rfl trivial
end Orr

namespace Orr
open Go Go.Proofs
set_option maxRecDepth 10000
theorem o64 {k q : Nat} (hq : q < 4294967296) (hb : 4294967296 * k + q < 18446744073709551616) : orI .u64 ((4294967296 * k : Nat) : Int) (q : Int) = ((4294967296 * k + q : Nat) : Int) := by
  have e1 : (BitVec.ofInt 64 ((4294967296 * k : Nat) : Int)).toNat = 4294967296 * k := by rw [BitVec.toNat_ofInt]; omega
  have e2 : (BitVec.ofInt 64 (q : Int)).toNat = q := by rw [BitVec.toNat_ofInt]; omega
  show IntKind.u64.wrap ((BitVec.ofInt 64 ((4294967296 * k : Nat) : Int) ||| BitVec.ofInt 64 (q : Int)).toNat : Int) = _
  rw [BitVec.toNat_or,e1,e2,Q4r hq,w64]; omega
theorem oM {k p : Nat} (hp : p < 4294967296) (hb : 4294967296 * k + p < 18446744073709551616) : orI .u64 (p : Int) ((4294967296 * k : Nat) : Int) = ((4294967296 * k + p : Nat) : Int) := by
  have := o64 hp hb
  unfold orI at this ⊢
  rw [BitVec.or_comm]; exact this
theorem o32 {s k p : Nat} (hp : p < 2 ^ s) (h1 : p < 4294967296) (h2 : 2 ^ s * k < 4294967296) (hb : p + 2 ^ s * k < 4294967296) : orI .u32 (p : Int) ((2 ^ s * k : Nat) : Int) = ((p + 2 ^ s * k : Nat) : Int) := by
  have e1 : (BitVec.ofInt 32 ((2 ^ s * k : Nat) : Int)).toNat = 2 ^ s * k := by rw [BitVec.toNat_ofInt]; omega
  have e2 : (BitVec.ofInt 32 (p : Int)).toNat = p := by rw [BitVec.toNat_ofInt]; omega
  have e3 : p ||| 2 ^ s * k = p + 2 ^ s * k := by
    have := Nat.two_pow_add_eq_or_of_lt (i := s) (b := p) hp k
    rw [Nat.or_comm,← this,Nat.add_comm]
  show IntKind.u32.wrap ((BitVec.ofInt 32 (p : Int) ||| BitVec.ofInt 32 ((2 ^ s * k : Nat) : Int)).toNat : Int) = _
  rw [BitVec.toNat_or,e1,e2,e3,w32]; omega
theorem Q6m {l : List Nat} {v : Nat} (hl : Sm l) (hn : l.length < 274877906944) (h0 : 0 < v) (hv : v < 4294967296) : Qc Tryz.prog 219 [lr l,.one (.int .u32 (v : Int))] [lr (Qw (val l / v)),.one (.int .u32 ((val l % v : Nat) : Int))] := by
  refine Z6 Tryz.func219 rfl ?_
  refine go tt [.i (lm l).length,.i (lm l).length] rfl (by simp [Qa,Z3,Qf] <;> omega) ?_
  rw [Mk]
  refine lp (S := Int × List Nat × Nat) 1 (fun L1 s => (8,.v (.one (.int .i64 s.1))) :: (7,.v (.one (.int .u64 (s.2.2 : Int)))) :: L1) (fun s => [.row false 169 1 (lm s.2.1)]) (fun s => (s.1 + 1).toNat)
    (fun s => -1 ≤ s.1 ∧ s.1 < l.length ∧ s.2.1.length = l.length ∧ Sm s.2.1 ∧ s.2.2 < v ∧ val (l.drop (s.1 + 1).toNat) = v * val (s.2.1.drop (s.1 + 1).toNat) + s.2.2) (((lm l).length : Int) - 1,List.replicate (lm l).length 0,0)
    ⟨by simp [Qf]; omega,by simp [Qf]; omega,by simp [Qf],fun x hx => by rw [List.eq_of_mem_replicate hx]; decide,h0,by simp [Qf,val]⟩ rfl (fun _ _ => rfl) rfl fun ⟨i,o,r⟩ ⟨j1,j2,j3,j4,j5,j6⟩ => ?_
  dsimp only at j1 j2 j3 j4 j5 j6 ⊢
  rcases Int.lt_or_le i 0 with hi | hi
  · obtain rfl : i = -1 := by omega
    simp only [show ((-1 : Int) + 1).toNat = 0 from rfl,List.drop_zero] at j6
    have e1 : val l / v = val o := by rw [j6,Nat.mul_add_div h0,Nat.div_eq_of_lt j5,Nat.add_zero]
    have e2 : val l % v = r := by rw [j6,Nat.mul_add_mod,Nat.mod_eq_of_lt j5]
    rw [e1,e2]
    exact en tt [.f (by decide),.c [] (Po j4)] rfl rfl (by simp [Qa,Z3,Qf,IntKind.bits] <;> omega)
  · obtain ⟨k,rfl⟩ := Int.eq_ofNat_of_zero_le hi
    have e : ((k : Int) + 1).toNat = k + 1 := by omega
    rw [e] at j6
    obtain ⟨x,hx⟩ : ∃ x,l[k]? = some x := ⟨_,List.getElem?_eq_getElem (by omega)⟩
    have xb := hl x (List.mem_of_getElem? hx)
    obtain ⟨s,hs⟩ : ∃ s,s = r * 4294967296 + x := ⟨_,rfl⟩
    obtain ⟨k1,k2,k3⟩ := Qus hx xb (show k < o.length by omega) h0 j5 j6 hs
    obtain ⟨q,hq⟩ : ∃ q,q = s / v := ⟨_,rfl⟩
    obtain ⟨u,hu⟩ : ∃ u,u = s % v := ⟨_,rfl⟩
    have hqi : (s : Int).tdiv v = (q : Int) := by rw [Int.tdiv_eq_ediv_of_nonneg (by omega),hq]; rfl
    have hui : (s : Int).tmod v = (u : Int) := by rw [Int.tmod_eq_emod_of_nonneg (by omega),hu]; rfl
    rw [← hq,← hu] at k3
    rw [← hq] at k1
    rw [← hu] at k2
    refine go tt [.t (by simp),.i 32,.r 21 (Wn (b := ((4294967296 * r : Nat) : Int)) (by omega)),.x (Zf hx),.r 27 (Wn (b := (s : Int)) (by rw [o64 xb (by omega)]; omega)),
      .r 33 (Wn (b := (q : Int)) hqi),.w 0,.r 34 (Uj (b := ((q % 4294967296 : Nat) : Int)) (by rw [w32]; omega)),.r 38 (Wn (b := (u : Int)) hui),.i k] rfl (by simp [Qa,Z3,Qf,IntKind.bits,hqi] <;> omega) ?_
    rw [Kc]
    exact rd ((k : Int) - 1,o.set k (q % 4294967296),u) (by dsimp only; omega) ⟨by dsimp only; omega,by dsimp only; omega,by simp [j3],Vu j4 _ _ (by omega),k2,by dsimp only; rw [show ((k : Int) - 1 + 1).toNat = k from by omega]; exact k3⟩ rfl
theorem Mw {i : Nat} {s : ByteArray} (h : ∀ i,i < 256 → (s[i]?).map (·.toNat) = some (sz i)) (hi : i < 256) : (s[i]?).map (·.toNat) = some (sz i) := h i hi
set_option maxRecDepth 100000 in
theorem Qk0 {x : Nat} (hx : x < 4294967296) : Qc Tryz.prog 262 [.one (.int .u32 (x : Int))] [.one (.int .i64 (sz x : Int))] := by
  refine Z6 Tryz.func262 rfl ?_
  have h31 : sz x ≤ 32 := V2.2 (by omega)
  by_cases h1 : 65536 ≤ x
  · have e1 : sz x = 16 + sz (x / 2 ^ 16) := Bn (by omega)
    obtain ⟨y,hy⟩ : ∃ y,y = x / 2 ^ 16 := ⟨_,rfl⟩
    rw [← hy] at e1
    by_cases h2 : 256 ≤ y
    · have e2 : sz y = 8 + sz (y / 2 ^ 8) := Bn (by omega)
      obtain ⟨z,hz⟩ : ∃ z,z = y / 2 ^ 8 := ⟨_,rfl⟩
      rw [← hz] at e2
      exact en tt [.t (by simp; omega),.i 16,.r 6 (Uj (b := (y : Int)) (by simp [hy])),.t (by simp; omega),.i 8,.r 10 (Uj (b := (z : Int)) (by simp [hz])),.y (Mw (i := z) (by decide) (by omega))] rfl (by rw [e1,e2]; simp; omega) (by simp [Qa,Z3,IntKind.bits] <;> omega)
    · exact en tt [.t (by simp; omega),.i 16,.r 6 (Uj (b := (y : Int)) (by simp [hy])),.f (by simp; omega),.y (Mw (i := y) (by decide) (by omega))] rfl (by rw [e1]; simp) (by simp [Qa,Z3,IntKind.bits] <;> omega)
  · by_cases h2 : 256 ≤ x
    · have e2 : sz x = 8 + sz (x / 2 ^ 8) := Bn (by omega)
      obtain ⟨z,hz⟩ : ∃ z,z = x / 2 ^ 8 := ⟨_,rfl⟩
      rw [← hz] at e2
      exact en tt [.f (by simp; omega),.t (by simp; omega),.i 8,.r 10 (Uj (b := (z : Int)) (by simp [hz])),.y (Mw (i := z) (by decide) (by omega))] rfl (by rw [e2]; simp) (by simp [Qa,Z3,IntKind.bits] <;> omega)
    · exact en tt [.f (by simp; omega),.f (by simp; omega),.y (Mw (i := x) (by decide) (by omega))] rfl (by simp) (by simp [Qa,Z3,IntKind.bits] <;> omega)
theorem Q3a {x : Nat} (hx : x < 4294967296) : Qc Tryz.prog 220 [.one (.int .u32 (x : Int))] [.one (.int .i64 ((32 - sz x : Nat) : Int))] := by
  have h31 : sz x ≤ 32 := V2.2 (by omega)
  exact w tt Tryz.func220 rfl [.c [] (Qk0 hx)] rfl (by simp; omega) (by simp [Qa,Z3] <;> omega)
theorem Qh2 {l : List Nat} (hl : Sm l) (hs : sz (val l) ≤ 4294967296) : Qc Tryz.prog 266 [lr l] [.one (.int .i64 (sz (val l) : Int))] := by
  refine Z6 Tryz.func266 rfl ?_
  obtain ⟨p,ca,np,vp,_,ep⟩ := Cj hl
  have hp := X6 hs
  rw [← ep] at hp
  rw [← vp] at hs ⊢
  by_cases h0 : p = []
  · subst h0
    exact en tt [.c [] ca,.t (by simp [lm])] rfl rfl (by simp [Qa,Z3])
  · have hpl : 0 < p.length := List.length_pos_iff.2 h0
    obtain ⟨x,hx,hx0⟩ := np.2 h0
    have xb := np.1 x (List.mem_of_getElem? hx)
    have e := Qkf np hx
    have h31 : sz x ≤ 32 := V2.2 (by omega)
    have hn : (lm p).length ≠ 0 := by rw [Qf]; omega
    refine en tt [.c [] ca,.f (by simp [Qf]; omega),.r 15 (eI (b := ((p.length - 1 : Nat) : Int)) (by rw [Qf]; omega)),.x (Zf hx),.c [] (Qk0 xb)] rfl (by rw [e,Qf]; simp; omega) (by simp [Qa,Z3,Qf] <;> omega)
theorem Qgx {s : Nat} (h : s ≤ 31) : ((s : Nat) : Int).tdiv 32 = ((0 : Nat) : Int) := by
  rw [Int.tdiv_eq_ediv_of_nonneg (by omega)]; omega
theorem Qvo {s : Nat} (h : s ≤ 31) : ((s : Nat) : Int).tmod 32 = (s : Int) := Int.tmod_eq_of_lt (by omega) (by omega)
theorem Q4l {s : Nat} (h : s ≤ 31) : max 0 (min (s : Int) 65536) = (s : Int) := by omega
theorem Q6h {a : List Nat} {s : Nat} (ha : Sm a) (h1 : sz (val a) ≤ 4294967400) (hs : s ≤ 31) : Qc Tryz.prog 263 [lr a,.one (.int .i64 (s : Int))] [lr (Qw (val a * 2 ^ s))] := by
  refine Z6 Tryz.func263 rfl ?_
  obtain ⟨p,ca,np,vp,_,ep⟩ := Cj ha
  have hp := X6 h1
  rw [← ep] at hp
  rw [← vp]
  have hq : ((s : Nat) : Int).tdiv 32 = 0 := Qgx hs
  by_cases h0 : p = []
  · subst h0
    exact en tt [.c [] ca,.t (by simp [lm])] rfl (by simp [val,Zo,lm]) (by simp [Qa,Z3])
  have hpl : 0 < p.length := List.length_pos_iff.2 h0
  refine go tt [.c [] ca,.r 15 (eI (b := (s : Int)) (Q4l hs)),.f (by simp [Qf]; omega),.r 20 (eI (b := ((0 : Nat) : Int)) (Qgx hs)),.r 22 (eI (b := (s : Int)) (Qvo hs)),.r 28 (eI (b := (((lm p).length + 1 : Nat) : Int)) (by omega)),.i ((lm p).length + 1),.i ((lm p).length + 1)] rfl (by have e := Qf p; simp only [Qa,Z3]; omega) ?_
  rw [Mk]
  refine lp (S := Nat × List Nat) 1 (fun L1 s => (32,.v (.one (.int .i64 (s.1 : Int)))) :: L1) (fun s => [.row false 169 1 (lm s.2)]) (fun s => p.length - s.1)
    (fun r => r.1 ≤ p.length ∧ r.2.length = p.length + 1 ∧ Sm r.2 ∧ (∃ z,r.2[r.1]? = some z ∧ z < 2 ^ s) ∧ val (r.2.take (r.1 + 1)) = val (p.take r.1) * 2 ^ s) (0,List.replicate ((lm p).length + 1) 0)
    ⟨Nat.zero_le _,by simp [Qf],fun x hx => by rw [List.eq_of_mem_replicate hx]; decide,⟨0,by simp,Nat.pow_pos (by decide)⟩,by simp [val,List.replicate_succ]⟩ rfl (fun _ _ => rfl) rfl fun ⟨i,o⟩ ⟨j1,j2,j3,⟨z,hz,hzs⟩,j5⟩ => ?_
  dsimp only at j1 j2 j3 hz hzs j5 ⊢
  by_cases hi : i < p.length
  · obtain ⟨x,hx⟩ : ∃ x,p[i]? = some x := ⟨_,List.getElem?_eq_getElem hi⟩
    have xb := np.1 x (List.mem_of_getElem? hx)
    have zb := j3 z (List.mem_of_getElem? hz)
    obtain ⟨k1,k2,k3,k4⟩ := Qwd hs hx xb hz hzs (by omega) j5
    have hxs := Q43 hs xb
    have h31 : 2 ^ s ≤ 2 ^ 31 := Nat.pow_le_pow_right (by decide) hs
    have ec : (x : Int) * 2 ^ s = ((x * 2 ^ s : Nat) : Int) := by push_cast; rfl
    obtain ⟨m,hm⟩ : ∃ m,m = x * 2 ^ s := ⟨_,rfl⟩
    rw [← hm] at k1 k2 k3 k4 hxs ec
    refine go tt [.t (by simp [Qf]; omega),.x (Zf hx),.i s,.r 40 (Wn (b := (m : Int)) ec),.i i,.x (Zf hz),.w 0,.r 52 (Uj (b := ((m % 4294967296 : Nat) : Int)) (by rw [w32]; omega)),.r 53 (Uj (b := ((z + m % 4294967296 : Nat) : Int)) (by rw [k4,o32 hzs zb (by omega) (by omega)])),.i i,
      .i 32,.r 61 (Wn (b := ((m / 2 ^ 32 : Nat) : Int)) (by simp)),.w 0,.r 62 (Uj (b := ((m / 2 ^ 32 % 4294967296 : Nat) : Int)) (by rw [w32]; omega)),.i (i + 1)] rfl (by simp [Qa,Z3,Qf,IntKind.bits,ec] <;> omega) ?_
    rw [Kc,Kc]
    exact rd (i + 1,(o.set i (z + m % 4294967296)).set (i + 1) (m / 2 ^ 32 % 4294967296)) (show p.length - (i + 1) < p.length - i by omega) ⟨hi,by simp [j2],Vu (Vu j3 _ _ (by omega)) _ _ (by omega),⟨_,by rw [List.getElem?_set_self (by simp; omega)],by omega⟩,k3⟩ rfl
  · obtain rfl : i = p.length := by omega
    rw [List.take_of_length_le (by omega),List.take_of_length_le (Nat.le_refl _)] at j5
    rw [← j5]
    exact en tt [.f (by simp [Qf]),.c [] (Po j3)] rfl rfl trivial
theorem Q6i {a : List Nat} {s : Nat} (ha : Sm a) (h1 : sz (val a) ≤ 4294967400) (hs : s ≤ 31) : Qc Tryz.prog 223 [lr a,.one (.int .i64 (s : Int))] [lr (Qw (val a / 2 ^ s))] := by
  refine Z6 Tryz.func223 rfl ?_
  obtain ⟨p,ca,np,vp,_,ep⟩ := Cj ha
  have hp := X6 h1
  rw [← ep] at hp
  rw [← vp]
  have hq : ((s : Nat) : Int).tdiv 32 = 0 := Qgx hs
  by_cases h0 : p = []
  · subst h0
    exact en tt [.c [] ca,.r 14 (eI (b := (s : Int)) (Q4l hs)),.r 16 (eI (b := ((0 : Nat) : Int)) (Qgx hs)),.r 18 (eI (b := (s : Int)) (Qvo hs)),.t (by simp [lm])] rfl (by simp [val,Zo,lm]) (by simp only [Qa,Z3]; omega)
  have hpl : 0 < p.length := List.length_pos_iff.2 h0
  refine go tt [.c [] ca,.r 14 (eI (b := (s : Int)) (Q4l hs)),.r 16 (eI (b := ((0 : Nat) : Int)) (Qgx hs)),.r 18 (eI (b := (s : Int)) (Qvo hs)),.f (by simp [Qf]; omega),.r 27 (eI (b := ((lm p).length : Int)) (by omega)),.i (lm p).length,.i (lm p).length] rfl (by have e := Qf p; simp only [Qa,Z3]; omega) ?_
  rw [Mk]
  refine lp (S := Nat × List Nat) 1 (fun L1 s => (31,.v (.one (.int .i64 (s.1 : Int)))) :: L1) (fun s => [.row false 169 1 (lm s.2)]) (fun s => p.length - s.1)
    (fun r => r.1 ≤ p.length ∧ r.2.length = p.length ∧ Sm r.2 ∧ val (r.2.take r.1) = val p / 2 ^ s % 4294967296 ^ r.1) (0,List.replicate (lm p).length 0)
    ⟨Nat.zero_le _,by simp [Qf],fun x hx => by rw [List.eq_of_mem_replicate hx]; decide,by simp [val]; omega⟩ rfl (fun _ _ => rfl) rfl fun ⟨i,o⟩ ⟨j1,j2,j3,j5⟩ => ?_
  dsimp only at j1 j2 j3 j5 ⊢
  by_cases hi : i < p.length
  · obtain ⟨x,hx⟩ : ∃ x,p[i]? = some x := ⟨_,List.getElem?_eq_getElem hi⟩
    have xb := np.1 x (List.mem_of_getElem? hx)
    have fin : ∀ y m,(p[i + 1]? = some y ∨ p.length ≤ i + 1 ∧ y = 0) → m = (x + y * 2 ^ 32) / 2 ^ s → p.length - (i + 1) < p.length - i ∧ i + 1 ≤ p.length ∧ (o.set i (m % 4294967296)).length = p.length ∧ Sm (o.set i (m % 4294967296)) ∧ val ((o.set i (m % 4294967296)).take (i + 1)) = val p / 2 ^ s % 4294967296 ^ (i + 1) := fun y m hy hm =>
      ⟨by omega,hi,by simp [j2],Vu j3 _ _ (by omega),by subst hm; exact Qwe hs hx hy (by omega) np.1 j5⟩
    have hsp : 0 < 2 ^ s := Nat.pow_pos (by decide)
    by_cases hy0 : i + 1 < p.length
    · obtain ⟨y,hy⟩ : ∃ y,p[i + 1]? = some y := ⟨_,List.getElem?_eq_getElem hy0⟩
      have yb := np.1 y (List.mem_of_getElem? hy)
      obtain ⟨v,hv⟩ : ∃ v,v = 4294967296 * y + x := ⟨_,rfl⟩
      obtain ⟨m,hm⟩ : ∃ m,m = v / 2 ^ s := ⟨_,rfl⟩
      have hml : m ≤ v := hm ▸ Nat.div_le_self _ _
      have hf := fin y m (.inl hy) (by rw [hm,hv]; congr 1; omega)
      refine go tt [.t (by simp [Qf]; omega),.x (Zf hx),.t (by simp [Qf]; omega),.x (Zf hy),.i 32,.r 57 (Wn (b := ((4294967296 * y : Nat) : Int)) (by omega)),.r 58 (Wn (b := (v : Int)) (by rw [oM xb (by omega)]; omega)),
        .i s,.r 63 (Wn (b := (m : Int)) (by rw [hm]; push_cast; rfl)),.w 0,.r 64 (Uj (b := ((m % 4294967296 : Nat) : Int)) (by rw [w32]; omega)),.i i] rfl (by simp [Qa,Z3,Qf,IntKind.bits] <;> omega) ?_
      rw [Kc]
      exact rd (i + 1,o.set i (m % 4294967296)) hf.1 hf.2 rfl
    · obtain ⟨m,hm⟩ : ∃ m,m = x / 2 ^ s := ⟨_,rfl⟩
      have hml : m ≤ x := hm ▸ Nat.div_le_self _ _
      have hf := fin 0 m (.inr ⟨by omega,rfl⟩) (by rw [hm]; simp)
      refine go tt [.t (by simp [Qf]; omega),.x (Zf hx),.f (by simp [Qf]; omega),
        .i s,.r 63 (Wn (b := (m : Int)) (by rw [hm]; push_cast; rfl)),.w 0,.r 64 (Uj (b := ((m % 4294967296 : Nat) : Int)) (by rw [w32]; omega)),.i i] rfl (by simp [Qa,Z3,Qf,IntKind.bits] <;> omega) ?_
      rw [Kc]
      exact rd (i + 1,o.set i (m % 4294967296)) hf.1 hf.2 rfl
  · obtain rfl : i = p.length := by omega
    have hvl := Ud p np.1
    rw [List.take_of_length_le (by omega),Nat.mod_eq_of_lt (Nat.lt_of_le_of_lt (Nat.div_le_self _ _) hvl)] at j5
    rw [← j5]
    exact en tt [.f (by simp [Qf,j2]),.c [] (Po j3)] rfl rfl trivial
end Orr

namespace Orr
open Go Go.Proofs
set_option maxRecDepth 10000
def dgs : Nat → Nat → List Nat
  | 0,_ => []
  | k + 1,v => v % 4294967296 :: dgs k (v / 4294967296)
theorem Qsu : ∀ {l : List Nat},Sm l → l = dgs l.length (val l)
  | [],_ => rfl
  |
   x :: l,h => by
   have hx := h x (.head _)
   have ih := Qsu (l := l) fun y hy => h y (.tail _ hy)
   simp only [List.length_cons,dgs,val]
   rw [show (x + 4294967296 * val l) % 4294967296 = x by omega,show (x + 4294967296 * val l) / 4294967296 = val l by omega,← ih]
theorem Qio {l : List Nat} {k v : Nat} (h : Sm l) (hk : l.length = k) (hv : val l = v) : dgs k v = l := by
  rw [← hk,← hv]; exact (Qsu h).symm
theorem Qcq : ∀ {k v : Nat},(dgs k v).length = k ∧ Sm (dgs k v) ∧ (v < 4294967296 ^ k → val (dgs k v) = v)
  | 0,v => ⟨rfl,fun x hx => by (cases hx),fun h => by simp at h; subst h; rfl⟩
  |
   k + 1,v => by
   obtain ⟨h1,h2,h3⟩ := Qcq (k := k) (v := v / 4294967296)
   refine ⟨by simp [dgs,h1],fun x hx => ?_,fun h => ?_⟩
   · rcases List.mem_cons.1 hx with rfl | hx
     · exact Nat.mod_lt _ (by decide)
     · exact h2 x hx
   · simp only [dgs,val]
     rw [h3 (by rw [Nat.pow_succ] at h; exact Nat.div_lt_of_lt_mul (by rw [Nat.mul_comm]; exact h))]
     omega
theorem Qse {a : List Nat} {s n : Nat} (ha : Sm a) (h1 : sz (val a) ≤ 4294967400) (hs : s ≤ 31) (hn : n < 274877906944) (h0 : 0 < n) (hv : val a * 2 ^ s < 4294967296 ^ n) :
    Ja Tryz.prog 221 [lr a,.one (.int .i64 (s : Int)),.one (.int .i64 (n : Int))] [] [.one (.orow 0 1 none)] [.row false 169 1 (lm (dgs n (val a * 2 ^ s)))] := by
  refine Z6 Tryz.func221 rfl ?_
  obtain ⟨v,hvv⟩ : ∃ v,v = val a * 2 ^ s := ⟨_,rfl⟩
  have cs := Q6h ha h1 hs
  rw [← hvv] at cs hv ⊢
  have hl : (Qw v).length ≤ n := by
    apply Classical.byContradiction
    intro hh
    have h2 := Np (Wa v) (fun e => by rw [e] at hh; simp at hh)
    rw [Zc] at h2
    have h3 : 4294967296 ^ n ≤ 4294967296 ^ ((Qw v).length - 1) := Nat.pow_le_pow_right (by decide) (by omega)
    omega
  refine go tt [.i n,.i n,.c [] cs,.s (Qua (Qw v)),.i (Qw v).length] rfl (by simp [Qa,Z3,Qf] <;> omega) ?_
  have e : List.take 0 (List.replicate n [LV.int .u32 0]) ++ (List.take (Qw v).length (lm (Qw v)) ++ List.drop (0 + (Qw v).length) (List.replicate n [LV.int .u32 0])) = lm (dgs n v) := by
    rw [Qio (l := Qw v ++ List.replicate (n - (Qw v).length) 0) (fun x hx => ?_) (by simp; omega) (by rw [Vv,Ds,Zc]; simp)]
    · rw [List.take_zero,List.nil_append,List.take_of_length_le (by rw [Qf]; exact Nat.le_refl _)]
      simp [lm]
    · rcases List.mem_append.1 hx with hx | hx
      · exact W7 v x hx
      · rw [List.eq_of_mem_replicate hx]; decide
  rw [e]
  exact ed tt [] [0] [] rfl trivial
theorem O8 {pre x post : List Nat} {i u : Nat} (h : x[i]? = some u) : (lm (pre ++ x ++ post))[pre.length + i]? = some [.int .u32 (u : Int)] := Zf (by
  have hi := (List.getElem?_eq_some_iff.1 h).1
  rw [List.append_assoc,List.getElem?_append_right (by omega),Nat.add_sub_cancel_left,List.getElem?_append_left hi]; exact h)
theorem Qw2 {pre x post : List Nat} {i v : Nat} (h : i < x.length) : (lm (pre ++ x ++ post)).set (pre.length + i) [.int .u32 (v : Int)] = lm (pre ++ x.set i v ++ post) := by
  rw [Kc,List.append_assoc,List.set_append_right _ _ (by omega),Nat.add_sub_cancel_left,List.set_append_left _ _ h,← List.append_assoc]
theorem Qye {pre x post ly : List Nat} {top nx xn x1 x2 : Nat} (D : Dig x ly ly.length top nx xn x1 x2) (hn : ly.length < 274877906944) :
    Ja Tryz.prog 222 [.one (.orow 0 1 (some (pre.length,x.length))),lr ly] [.row true 169 1 (lm (pre ++ x ++ post))] [.one (.int .u32 ((val x / val ly : Nat) : Int))] [.row true 169 1 (lm (pre ++ dgs x.length (val x % val ly) ++ post))] := by
  refine Z6 Tryz.func222 rfl ?_
  have hxl := D.hx
  have hn2 := D.hn
  have hb := D.bnd
  obtain ⟨head,hh⟩ : ∃ head,head = xn * 2 ^ 32 + x1 := ⟨_,rfl⟩
  obtain ⟨g0,hg0⟩ : ∃ g,g = head / top := ⟨_,rfl⟩
  obtain ⟨r0,hr0⟩ : ∃ r,r = head % top := ⟨_,rfl⟩
  have hst := D.start
  rw [← hh,← hg0] at hst
  have ht0 := D.top0
  have hg0l : g0 ≤ head := hg0 ▸ Nat.div_le_self _ _
  have hr0l : r0 < top := hr0 ▸ Nat.mod_lt _ ht0
  have htd : (head : Int).tdiv top = (g0 : Int) := by rw [Int.tdiv_eq_ediv_of_nonneg (by omega),hg0]; rfl
  have htm : (head : Int).tmod top = (r0 : Int) := by rw [Int.tmod_eq_emod_of_nonneg (by omega),hr0]; rfl
  refine go tt [.r 23 (eI (b := (ly.length : Int)) (by rw [Qf])),.r 26 (eI (b := ((ly.length - 1 : Nat) : Int)) (by omega)),.x (Zf D.ltop),.r 32 (eI (b := ((ly.length - 2 : Nat) : Int)) (by omega)),.x (Zf D.lnx),
    .i ly.length,.x (O8 D.xn),.i 32,.r 41 (Wn (b := ((4294967296 * xn : Nat) : Int)) (by omega)),.r 44 (eI (b := ((ly.length - 1 : Nat) : Int)) (by omega)),.i (ly.length - 1),.x (O8 D.x1),.r 48 (Wn (b := (head : Int)) (by rw [o64 hb.2.2.2.1 (by omega)]; omega)),
    .r 51 (Wn (b := (g0 : Int)) htd),.r 54 (Wn (b := (r0 : Int)) htm)] rfl ?_ ?_
  · simp only [Qa,Z3,htd,IntKind.bits]; omega
  refine ct 2 (S := Nat) (fun g => [(0,.v (.one (.orow 0 1 (some (pre.length,x.length))))),(1,.v (lr ly)),(5,.v (.one (.int .i64 (ly.length : Int)))),(9,.v (.one (.int .u64 (g : Int))))]) (fun _ => [.row true 169 1 (lm (pre ++ x ++ post))]) (fun g => val x / val ly ≤ g ∧ (g - 1) * val ly ≤ val x ∧ g ≤ 4294967296) rfl ?_ ?_
  · refine lp (S := Nat × Nat) 1 (fun L1 s => (9, .v (.one (.int .u64 (s.1 : Int)))) :: (10, .v (.one (.int .u64 (s.2 : Int)))) :: L1) (fun _ => [.row true 169 1 (lm (pre ++ x ++ post))]) (fun s => 4294967296 - s.2)
      (fun s => s.1 * top + s.2 = xn * 2 ^ 32 + x1 ∧ val x / val ly ≤ s.1 ∧ s.2 < 4294967296 ∧ s.1 < 18446744073709551616) (g0,r0)
      ⟨by rw [← hh,hg0,hr0,Nat.mul_comm]; exact Nat.div_add_mod _ _,hst,by dsimp only; omega,by dsimp only; omega⟩ rfl (fun _ _ => rfl) rfl fun ⟨g,r⟩ ⟨j1,j2,j3,j4⟩ => ?_
    dsimp only at j1 j2 j3 j4 ⊢
    by_cases hge : 4294967296 ≤ g
    · have hrd := D.round j1 j2 (.inl hge)
      by_cases h2 : 4294967296 ≤ r + top
      · exact go tt [.t (by simp; omega),.t rfl,.r 73 (Wn (b := ((g - 1 : Nat) : Int)) (by omega)),.t (by simp; omega)] rfl (by simp [Qa,Z3] <;> omega) (rc (g - 1) ⟨hrd.2.1,(hrd.2.2.2 h2).1,(hrd.2.2.2 h2).2⟩ rfl)
      · exact go tt [.t (by simp; omega),.t rfl,.r 73 (Wn (b := ((g - 1 : Nat) : Int)) (by omega)),.f (by simp; omega)] rfl (by simp [Qa,Z3] <;> omega) (rd (g - 1,r + top) (by dsimp only; omega) ⟨hrd.2.2.1,hrd.2.1,by dsimp only; omega,by dsimp only; omega⟩ rfl)
    · have hgn := To (x := g) (y := nx) (by omega) hb.2.1
      by_cases hc : r * 2 ^ 32 + x2 < g * nx
      · have hrd := D.round j1 j2 (.inr hc)
        have e1 : (g : Int) * (nx : Int) = ((g * nx : Nat) : Int) := by push_cast; rfl
        obtain ⟨m,hm⟩ : ∃ m,m = g * nx := ⟨_,rfl⟩
        rw [← hm] at e1 hgn hc
        by_cases h2 : 4294967296 ≤ r + top
        · exact go tt [.f (by simp; omega),.r 60 (Wn (b := (m : Int)) e1),.i 32,.r 62 (Wn (b := ((4294967296 * r : Nat) : Int)) (by omega)),.r 65 (eI (b := ((ly.length - 2 : Nat) : Int)) (by omega)),.i (ly.length - 2),.x (O8 D.x2),.r 69 (Wn (b := ((4294967296 * r + x2 : Nat) : Int)) (o64 hb.2.2.2.2 (by omega))),.t (by simp; omega),.r 73 (Wn (b := ((g - 1 : Nat) : Int)) (by omega)),.t (by simp; omega)] rfl (by simp only [Qa,Z3,e1,IntKind.bits]; omega) (rc (g - 1) ⟨hrd.2.1,(hrd.2.2.2 h2).1,(hrd.2.2.2 h2).2⟩ rfl)
        · exact go tt [.f (by simp; omega),.r 60 (Wn (b := (m : Int)) e1),.i 32,.r 62 (Wn (b := ((4294967296 * r : Nat) : Int)) (by omega)),.r 65 (eI (b := ((ly.length - 2 : Nat) : Int)) (by omega)),.i (ly.length - 2),.x (O8 D.x2),.r 69 (Wn (b := ((4294967296 * r + x2 : Nat) : Int)) (o64 hb.2.2.2.2 (by omega))),.t (by simp; omega),.r 73 (Wn (b := ((g - 1 : Nat) : Int)) (by omega)),.f (by simp; omega)] rfl (by simp only [Qa,Z3,e1,IntKind.bits]; omega) (rd (g - 1,r + top) (by dsimp only; omega) ⟨hrd.2.2.1,hrd.2.1,by dsimp only; omega,by dsimp only; omega⟩ rfl)
      · have hf := D.fin j1 (by omega) (by omega)
        have e1 : (g : Int) * (nx : Int) = ((g * nx : Nat) : Int) := by push_cast; rfl
        obtain ⟨m,hm⟩ : ∃ m,m = g * nx := ⟨_,rfl⟩
        rw [← hm] at e1 hgn hc
        exact go tt [.f (by simp; omega),.r 60 (Wn (b := (m : Int)) e1),.i 32,.r 62 (Wn (b := ((4294967296 * r : Nat) : Int)) (by omega)),.r 65 (eI (b := ((ly.length - 2 : Nat) : Int)) (by omega)),.i (ly.length - 2),.x (O8 D.x2),.r 69 (Wn (b := ((4294967296 * r + x2 : Nat) : Int)) (o64 hb.2.2.2.2 (by omega))),.f (by simp; omega)] rfl (by simp only [Qa,Z3,e1,IntKind.bits]; omega) (rc g ⟨j2,hf,by omega⟩ rfl)
  · intro g ⟨q1,q2,q3⟩
    refine go tt [.r 80 (eI (b := (ly.length : Int)) (by rw [Qf]))] rfl trivial ?_
    refine lp (S := Nat × List Nat × Nat × Nat) 1 (fun L1 s => (81,.v (.one (.int .i64 (s.1 : Int)))) :: (11,.v (.one (.int .u64 (s.2.2.1 : Int)))) :: (12,.v (.one (.int .u64 (s.2.2.2 : Int)))) :: L1) (fun s => [.row true 169 1 (lm (pre ++ s.2.1 ++ post))]) (fun s => ly.length - s.1)
      (fun s => s.1 ≤ ly.length ∧ s.2.1.length = ly.length + 1 ∧ Sm s.2.1 ∧ s.2.2.2 ≤ 1 ∧ s.2.2.1 < 4294967296 ∧ val (s.2.1.take s.1) + g * val (ly.take s.1) = val (x.take s.1) + (s.2.2.1 + s.2.2.2) * 4294967296 ^ s.1 ∧ s.2.1.drop s.1 = x.drop s.1) (0,x,0,0)
      ⟨Nat.zero_le _,hxl,D.xb,Nat.zero_le _,by simp,by simp [val],rfl⟩ rfl (fun _ _ => rfl) rfl fun ⟨i,o,cy,bw⟩ ⟨j1,j2,j3,j4,j5,j6,j7⟩ => ?_
    dsimp only at j1 j2 j3 j4 j5 j6 j7 ⊢
    by_cases hi : i < ly.length
    · obtain ⟨w1,hw1⟩ : ∃ y,ly[i]? = some y := ⟨_,List.getElem?_eq_getElem hi⟩
      obtain ⟨u,hu⟩ : ∃ y,x[i]? = some y := ⟨_,List.getElem?_eq_getElem (by omega)⟩
      have wb := D.lb w1 (List.mem_of_getElem? hw1)
      have ub := D.xb u (List.mem_of_getElem? hu)
      have hou := (M8 j7).trans hu
      have hgw : g * w1 ≤ 18446744069414584320 := by
        have := Nat.mul_le_mul q3 (show w1 ≤ 4294967295 by omega)
        omega
      obtain ⟨s,hs⟩ : ∃ s,s = ((u + 18446744073709551616 - (g * w1 + cy) % 4294967296) % 18446744073709551616 + 18446744073709551616 - bw) % 18446744073709551616 := ⟨_,rfl⟩
      have hstep := Qdi (o := o) (by omega) hu hw1 ub j4 j6 rfl hs
      have e1 : (g : Int) * (w1 : Int) = ((g * w1 : Nat) : Int) := by push_cast; rfl
      obtain ⟨m,hm⟩ : ∃ m,m = g * w1 := ⟨_,rfl⟩
      rw [← hm] at e1 hgw hs hstep
      obtain ⟨p,hp⟩ : ∃ p,p = m + cy := ⟨_,rfl⟩
      rw [← hp] at hs hstep
      refine go tt [.t (by simp; omega),.x (Zf hw1),.r 89 (Wn (b := (m : Int)) e1),.r 91 (Wn (b := (p : Int)) (by omega)),.i 32,.r 93 (Wn (b := ((p / 2 ^ 32 : Nat) : Int)) (by simp)),.i i,.x (O8 hou),.w 1,.r 100 (Uj (b := ((p % 4294967296 : Nat) : Int)) (by rw [w32]; omega)),.w 1,.r 102 (Wn (b := (((u + 18446744073709551616 - p % 4294967296) % 18446744073709551616 : Nat) : Int)) (by rw [w64]; omega)),.w 0,.r 104 (Wn (b := (s : Int)) (by rw [w64]; omega)),
        .w 0,.r 108 (Uj (b := ((s % 4294967296 : Nat) : Int)) (by rw [w32]; omega)),.i 63,.r 110 (Wn (b := ((s / 2 ^ 63 : Nat) : Int)) (by simp)),.i i] rfl (by simp only [Qa,Z3,e1,IntKind.bits,Qf,List.length_append]; omega) ?_
      rw [Qw2 (by omega)]
      exact rd (i + 1,o.set i (s % 4294967296),p / 2 ^ 32,s / 2 ^ 63) (by dsimp only; omega) ⟨hi,by simp [j2],Vu j3 _ _ (by omega),hstep.2,by dsimp only; omega,hstep.1,Qal j7⟩ rfl
    · obtain rfl : i = ly.length := by omega
      have hon := (M8 j7).trans D.xn
      rw [List.take_of_length_le (l := ly) (Nat.le_refl _)] at j6
      obtain ⟨s,hs⟩ : ∃ s,s = ((xn + 18446744073709551616 - cy) % 18446744073709551616 + 18446744073709551616 - bw) % 18446744073709551616 := ⟨_,rfl⟩
      obtain ⟨oa,hoa⟩ : ∃ oa,oa = o.set ly.length (s % 4294967296) := ⟨_,rfl⟩
      have oal : oa.length = ly.length + 1 := by rw [hoa,List.length_set]; exact j2
      have oab : Sm oa := hoa ▸ Vu j3 _ _ (by omega)
      by_cases hs0 : s / 2 ^ 63 = 0
      · have hf := D.fin0 j2 j5 j4 q1 j6 hs hs0
        refine go tt [.f (by simp),.i ly.length,.x (O8 hon),.w 1,.r 119 (Wn (b := (((xn + 18446744073709551616 - cy) % 18446744073709551616 : Nat) : Int)) (by rw [w64]; omega)),.w 0,.r 121 (Wn (b := (s : Int)) (by rw [w64]; omega)),.w 0,.r 125 (Uj (b := ((s % 4294967296 : Nat) : Int)) (by rw [w32]; omega)),.i ly.length,.i 63,.r 128 (Wn (b := ((s / 2 ^ 63 : Nat) : Int)) (by simp)),.t (by simp; omega),.w 0,.r 131 (Uj (b := ((val x / val ly : Nat) : Int)) (by rw [w32]; omega))] rfl (by simp only [Qa,Z3,IntKind.bits,Qf,List.length_append]; omega) ?_
        rw [Qw2 (by omega),← Qio (l := o.set ly.length (s % 4294967296)) (k := x.length) (hoa ▸ oab) (by rw [← hoa,oal,hxl]) hf.2]
        exact ed tt [] [0] [] rfl trivial
      · have hf := D.fin1 j2 j3 j5 j4 q2 j6 hs hs0
        rw [← hoa] at hf
        obtain ⟨v1,hv1⟩ : ∃ y,oa[ly.length]? = some y := ⟨_,List.getElem?_eq_getElem (by omega)⟩
        refine go tt [.f (by simp),.i ly.length,.x (O8 hon),.w 1,.r 119 (Wn (b := (((xn + 18446744073709551616 - cy) % 18446744073709551616 : Nat) : Int)) (by rw [w64]; omega)),.w 0,.r 121 (Wn (b := (s : Int)) (by rw [w64]; omega)),.w 0,.r 125 (Uj (b := ((s % 4294967296 : Nat) : Int)) (by rw [w32]; omega)),.i ly.length,.i 63,.r 128 (Wn (b := ((s / 2 ^ 63 : Nat) : Int)) (by simp)),.f (by simp; omega),.r 133 (eI (b := (ly.length : Int)) (by rw [Qf]))] rfl (by simp only [Qa,Z3,IntKind.bits,Qf,List.length_append]; omega) ?_
        rw [Qw2 (by omega),← hoa]
        refine lp (S := Nat × List Nat × Nat) 1 (fun L1 s => (134,.v (.one (.int .i64 (s.1 : Int)))) :: (18,.v (.one (.int .u64 (s.2.2 : Int)))) :: L1) (fun s => [.row true 169 1 (lm (pre ++ s.2.1 ++ post))]) (fun s => ly.length - s.1)
          (fun s => s.1 ≤ ly.length ∧ s.2.1.length = ly.length + 1 ∧ Sm s.2.1 ∧ s.2.2 ≤ 1 ∧ val (s.2.1.take s.1) + s.2.2 * 4294967296 ^ s.1 = val (oa.take s.1) + val (ly.take s.1) ∧ s.2.1.drop s.1 = oa.drop s.1) (0,oa,0)
          ⟨Nat.zero_le _,oal,oab,Nat.zero_le _,by simp [val],rfl⟩ rfl (fun _ _ => rfl) rfl fun ⟨j,o2,bk⟩ ⟨r1,r2,r3,r4,r5,r6⟩ => ?_
        dsimp only at r1 r2 r3 r4 r5 r6 ⊢
        by_cases hj : j < ly.length
        · obtain ⟨w1,hw1⟩ : ∃ y,ly[j]? = some y := ⟨_,List.getElem?_eq_getElem hj⟩
          obtain ⟨u,hu⟩ : ∃ y,oa[j]? = some y := ⟨_,List.getElem?_eq_getElem (by omega)⟩
          have wb := D.lb w1 (List.mem_of_getElem? hw1)
          have ub := oab u (List.mem_of_getElem? hu)
          have hou := (M8 r6).trans hu
          obtain ⟨m,hm⟩ : ∃ m,m = u + bk + w1 := ⟨_,rfl⟩
          have hstep := Qet (o := o2) (by omega) hu (.inl hw1) r5 hm
          refine go tt [.t (by simp; omega),.x (Zf hw1),.i j,.x (O8 hou),.r 148 (Wn (b := (m : Int)) (by omega)),.w 0,.r 152 (Uj (b := ((m % 4294967296 : Nat) : Int)) (by rw [w32]; omega)),.i 32,.r 154 (Wn (b := ((m / 4294967296 : Nat) : Int)) (by simp)),.i j] rfl (by simp only [Qa,Z3,IntKind.bits,Qf,List.length_append]; omega) ?_
          rw [Qw2 (by omega)]
          exact rd (j + 1,o2.set j (m % 4294967296),m / 4294967296) (by dsimp only; omega) ⟨hj,by simp [r2],Vu r3 _ _ (by omega),by dsimp only; omega,hstep,Qal r6⟩ rfl
        · obtain rfl : j = ly.length := by omega
          have hon2 := (M8 r6).trans hv1
          have vb := oab v1 (List.mem_of_getElem? hv1)
          rw [List.take_of_length_le (l := ly) (Nat.le_refl _)] at r5
          have hf2 := D.fin2 oal oab r2 r3 hv1 r4 hf.2 r5
          refine go tt [.f (by simp),.i ly.length,.x (O8 hon2),.w 1,.r 165 (Uj (b := (((v1 + bk) % 4294967296 : Nat) : Int)) (by rw [w32]; omega)),.i ly.length,.w 0,.r 168 (Uj (b := ((g % 4294967296 : Nat) : Int)) (by rw [w32]; omega)),.w 0,.r 169 (Uj (b := ((val x / val ly : Nat) : Int)) (Q7h hf.1 D.qlt))] rfl (by simp only [Qa,Z3,IntKind.bits,Qf,List.length_append]; omega) ?_
          rw [Qw2 (by omega),← Qio (l := o2.set ly.length ((v1 + bk) % 4294967296)) (k := x.length) (Vu r3 _ _ (by omega)) (by rw [List.length_set,r2,hxl]) hf2]
          exact ed tt [] [0] [] rfl trivial
end Orr

namespace Orr
open Go Go.Proofs
set_option maxRecDepth 10000
theorem Qrn {o ly : List Nat} {lo top nx xn x1 x2 : Nat} (hlo : lo + (ly.length + 1) ≤ o.length) (D : Dig (Mu o lo ly.length) ly ly.length top nx xn x1 x2) (hn : ly.length < 274877906944) :
    Ja Tryz.prog 222 [.one (.orow 0 1 (some (lo,ly.length + 1))),lr ly] [.row true 169 1 (lm o)] [.one (.int .u32 ((val (Mu o lo ly.length) / val ly : Nat) : Int))] [.row true 169 1 (lm (o.take lo ++ dgs (ly.length + 1) (val (Mu o lo ly.length) % val ly) ++ o.drop (lo + ly.length + 1)))] := by
  have := Qye (pre := o.take lo) (post := o.drop (lo + ly.length + 1)) D hn
  have e1 : (o.take lo).length = lo := by rw [List.length_take]; omega
  have e2 := Bx (o := o) (i := lo) (n := ly.length) (by omega)
  rw [e1,e2,Pe] at this
  exact this
theorem Qey {a b : List Nat} (ha : Sm a) (hb : Sm b) (h1 : sz (val a) ≤ 4294967296) (h2 : sz (val b) ≤ 4294967296) (hy : 0 < val b) : Qc Tryz.prog 170 [lr a,lr b] [lr (Qw (val a / val b)),lr (Qw (val a % val b)),.one (.int .i64 0)] := by
  refine Z6 Tryz.func170 rfl ?_
  obtain ⟨p,ca,np,vp,_,ep⟩ := Cj ha
  obtain ⟨q,cb,nq,vq,_,eq⟩ := Cj hb
  have hp := X6 h1
  have hq := X6 h2
  rw [← ep] at hp
  rw [← eq] at hq
  rw [← vp,← vq]
  rw [← vp] at h1
  rw [← vq] at h2 hy
  have q0 : q ≠ [] := fun e => by rw [e] at hy; simp [val] at hy
  have qp : 0 < q.length := List.length_pos_iff.2 q0
  have c1 : ¬ ((lm q).length : Int) = 0 := by rw [Qf]; omega
  by_cases hlt : p.length < q.length
  · have hv := Ws np nq hlt
    rw [Nat.div_eq_of_lt hv,Nat.mod_eq_of_lt hv,Zo]
    exact en tt [.c [] ca,.c [] cb,.f (by simpa using c1),.t (by simp [Qf]; omega),.c [] (P0 np.1 h1)] rfl rfl (by simp [Qa,Z3])
  by_cases hone : q.length = 1
  · obtain ⟨y, rfl⟩ : ∃ y, q = [y] := by
      match q,hone with
      | [y],_ => exact ⟨y,rfl⟩
    have yb := nq.1 y (.head _)
    have vy : val [y] = y := by simp [val]
    rw [vy] at hy ⊢
    have co := Q6m np.1 (by omega) hy yb
    have sm : Sm [val p % y] := fun z hz => by
      simp at hz; subst hz; exact Nat.lt_trans (Nat.mod_lt _ hy) yb
    have cc := Po sm
    rw [show val [val p % y] = val p % y from by simp [val]] at cc
    exact en tt [.c [] ca,.c [] cb,.f (by simp [lm]),.f (by simp [Qf]; omega),.t (by simp [lm]),.x (Zf (l := [y]) (i := 0) rfl),.c [] co,.c [] cc] rfl rfl (by simp [Qa,Z3])
  · have hle : q.length ≤ p.length := Nat.le_of_not_lt hlt
    obtain ⟨y1,hy1,hy10⟩ := nq.2 q0
    have y1b := nq.1 y1 (List.mem_of_getElem? hy1)
    have hszy := Qkf nq hy1
    have hsz1 : sz y1 ≤ 32 := V2.2 (by omega)
    have hsz0 : 0 < sz y1 := Q5e (by omega)
    obtain ⟨s,hs⟩ : ∃ s,s = 32 - sz y1 := ⟨_,rfl⟩
    have hs31 : s ≤ 31 := by omega
    have Uj : (2 : Nat) ^ 32 = 4294967296 := by decide
    obtain ⟨x,hx⟩ : ∃ x,x = val p := ⟨_,rfl⟩
    obtain ⟨y,hyv⟩ : ∃ y,y = val q := ⟨_,rfl⟩
    have cl := Q3a y1b
    rw [← hs] at cl
    have hvx : val p * 2 ^ s < 4294967296 ^ (p.length + 1) := by
      have h1 := Ud p np.1
      rw [Nat.pow_succ]
      exact Nat.lt_of_lt_of_le (Nat.mul_lt_mul_of_pos_right h1 (show 0 < 2 ^ s from Nat.pow_pos (by decide))) (Nat.mul_le_mul_left _ (by rw [← Uj]; exact Nat.pow_le_pow_right (by decide) (by omega)))
    have hvy : val q * 2 ^ s < 4294967296 ^ q.length := by
      have h1 := Nm (val q)
      rw [← Uj,← Nat.pow_mul]
      have h2 : val q * 2 ^ s < 2 ^ sz (val q) * 2 ^ s := Nat.mul_lt_mul_of_pos_right h1 (Nat.pow_pos (by decide))
      rw [← Nat.pow_add] at h2
      rw [show 32 * q.length = sz (val q) + s from by omega]
      exact h2
    have cx := Qse np.1 (show sz (val p) ≤ 4294967400 by omega) hs31 (show p.length + 1 < 274877906944 by omega) (by omega) hvx
    have cy := Qse nq.1 (show sz (val q) ≤ 4294967400 by omega) hs31 (show q.length < 274877906944 by omega) qp hvy
    obtain ⟨hXl,hXb,hXv⟩ := Qcq (k := p.length + 1) (v := val p * 2 ^ s)
    obtain ⟨hYl,hYb,hYv⟩ := Qcq (k := q.length) (v := val q * 2 ^ s)
    have hXv := hXv hvx
    have hYv := hYv hvy
    obtain ⟨X,hX⟩ : ∃ X,X = dgs (p.length + 1) (val p * 2 ^ s) := ⟨_,rfl⟩
    obtain ⟨Y,hY⟩ : ∃ Y,Y = dgs q.length (val q * 2 ^ s) := ⟨_,rfl⟩
    rw [← hX] at hXl hXb hXv cx
    rw [← hY] at hYl hYb hYv cy
    have hyB : 4294967296 ^ (q.length - 1) ≤ val q := Np nq q0
    have hR := Qjx hXv hYv hXl hXb hYl hYb (show 2 ≤ q.length by omega) (Ud p np.1) hyB hle
    refine go tt [.c [] ca,.c [] cb,.f (by simpa using c1),.f (by simp [Qf]; omega),.f (by simp [Qf]; omega),.r 49 (eI (b := ((q.length - 1 : Nat) : Int)) (by rw [Qf]; omega)),.x (Zf hy1),.c [] cl,.r 57 (eI (b := ((p.length + 1 : Nat) : Int)) (by rw [Qf]; omega)),.c [0] cx,.r 62 (eI (b := (q.length : Int)) (by rw [Qf])),.c [1] cy,.r 65 (eI (b := (q.length : Int)) (by rw [Qf,hYl])),.r 70 (eI (b := ((p.length - q.length + 1 : Nat) : Int)) (by rw [Qf]; omega)),.i (p.length - q.length + 1),.i (p.length - q.length + 1),.r 73 (eI (b := ((p.length - q.length + 1 : Nat) : Int)) (by simp))] rfl ?_ ?_
    · simp only [Qa,Z3,IntKind.bits,Qf]
      omega
    · rw [Mk]
      refine pb 1 rfl rfl ?_
      refine lp (S := Int × List Nat × List Nat) 3 (fun L1 s => (13,.v (.one (.int .i64 s.1))) :: L1) (fun s => [.row false 169 1 (lm s.2.2),.gone,.row false 169 1 (lm s.2.1)]) (fun s => (s.1 + 1).toNat)
        (fun s => -1 ≤ s.1 ∧ s.1 < p.length - q.length + 1 ∧ s.2.1.length = p.length - q.length + 1 ∧ Sm s.2.1 ∧ Rest s.2.2 Y p.length q.length (s.1 + 1).toNat ∧ val (s.2.1.drop (s.1 + 1).toNat) * 4294967296 ^ (s.1 + 1).toNat * val Y + val s.2.2 = val X) (((p.length - q.length + 1 : Nat) : Int) - 1,List.replicate (p.length - q.length + 1) 0,X)
        ⟨by dsimp only; omega,by dsimp only; omega,by simp,fun x hx => by rw [List.eq_of_mem_replicate hx]; decide,by simpa using hR,by simp [val]⟩ rfl (fun _ _ => rfl) rfl fun ⟨i,oq,ox⟩ ⟨j1,j2,j3,j4,j5,j6⟩ => ?_
      dsimp only at j1 j2 j3 j4 j5 j6 ⊢
      rcases Int.lt_or_le i 0 with hi | hi
      · obtain rfl : i = -1 := by omega
        simp only [show ((-1 : Int) + 1).toNat = 0 from rfl,List.drop_zero,Nat.pow_zero,Nat.mul_one] at j5 j6
        have hlt' : val ox < val q * 2 ^ s := by have := j5.lt; rw [hYv] at this; simpa using this
        have hfin := Qvp (x := val p) (y := val q) (s := s) (r := val ox) (q := oq) hy (by rw [← hXv,← hYv]; exact j6) hlt'
        have hoxl := j5.ol
        have hox := Qkh (o := ox) (n := q.length) (by omega) (Nat.lt_trans hlt' hvy)
        have hszm : sz (val (ox.take q.length)) ≤ 4294967400 := by
          rw [hox,hfin.2]
          have h1 := Qwq (val p % val q) (2 ^ s)
          have h2' := Xv (Nat.le_of_lt (Nat.mod_lt (val p) hy))
          have h3 : sz (2 ^ s) ≤ s + 1 := V2.2 (Nat.pow_lt_pow_right (by decide) (by omega))
          omega
        have cs := Q6i (a := ox.take q.length) (fun u hu => j5.ob u (List.mem_of_mem_take hu)) hszm hs31
        rw [hox,hfin.2,Nat.mul_div_cancel _ (Nat.pow_pos (by decide))] at cs
        have cq := Po j4
        rw [hfin.1] at cq
        exact en tt [.f (by decide),.p 2,.p 0,.c [] cq,.i q.length,.r 95 (v := lr (ox.take q.length)) (by simp [lm]),.c [] cs] rfl rfl (by simp [Qa,Z3,Qf]; omega)
      · obtain ⟨k,rfl⟩ := Int.eq_ofNat_of_zero_le hi
        have e : ((k : Int) + 1).toNat = k + 1 := by omega
        rw [e] at j5 j6
        obtain ⟨top,nx,xn,x1,x2,D⟩ := j5.dig
        have hoxl := j5.ol
        have hm := j5.hm
        have cd := Qrn (o := ox) (lo := k) (by omega) (hYl.symm ▸ D) (by omega)
        rw [hYl] at cd
        have hwl := Bx (o := ox) (i := k) (n := q.length) (by omega)
        have hwlt : val (Mu ox k q.length) % val Y < 4294967296 ^ (q.length + 1) := by
          have h3 := Ud (Mu ox k q.length) D.xb
          rw [hwl] at h3
          exact Nat.lt_of_le_of_lt (Nat.mod_le _ _) h3
        obtain ⟨d1,d2,d3⟩ := Qcq (k := q.length + 1) (v := val (Mu ox k q.length) % val Y)
        have hnx := j5.next (w' := dgs (q.length + 1) (val (Mu ox k q.length) % val Y)) (d1.trans hwl.symm) d2 (d3 hwlt) (q := oq) (by omega) j6
        have hdg := D.qlt
        refine go tt [.t (by simp),.i k,.i (k + q.length + 1),.r 87 (v := .one (.orow 0 1 (some (k,q.length + 1)))) (by rw [show k + q.length + 1 - k = q.length + 1 by omega]),.c [0] cd,.i k] rfl ?_ ?_
        · simp only [Qa,Qf]; omega
        · rw [Kc]
          refine rd ((k : Int) - 1,oq.set k (val (Mu ox k q.length) / val Y),ox.take k ++ dgs (q.length + 1) (val (Mu ox k q.length) % val Y) ++ ox.drop (k + q.length + 1)) (by dsimp only; omega) ⟨by dsimp only; omega,by dsimp only; omega,by simp [j3],Vu j4 _ _ hdg,?_,?_⟩ rfl
          · dsimp only; rw [show ((k : Int) - 1 + 1).toNat = k from by omega]; exact hnx.1
          · dsimp only; rw [show ((k : Int) - 1 + 1).toNat = k from by omega]; exact hnx.2
end Orr

namespace Orr
open Go Go.Proofs
set_option maxRecDepth 10000
def sg (z : Int) : LV := .bool (decide (z < 0))
def mg (z : Int) : LV := .row (lm (Qw z.natAbs))
abbrev Zg (z : Int) : List LV := [sg z,mg z]
def Xl (x y : LV) (z : Int) : Prop := ∃ b l,x = .bool b ∧ y = .row (lm l) ∧ Sm l ∧ z = Qh b (val l)
theorem Qe (z : Int) : Xl (sg z) (mg z) z := by
  refine ⟨_,_,rfl,rfl,W7 _,?_⟩
  rw [Zc]
  unfold Qh
  by_cases h : z < 0 <;> simp [h] <;> omega
theorem Q4p (b : Bool) (m : Nat) : [LV.bool (b && decide (0 < m)),LV.row (lm (Qw m))] = Zg (Qh b m) := by
  simp only [Zg,sg,mg,Iw,Xo]
theorem Wp {m : Nat} : 0 < (Qw m).length ↔ 0 < m := by
  rcases Nat.eq_zero_or_pos m with h | h
  · subst h; rw [Zo]; simp
  · rw [Uq (by omega)]; simp [h]
theorem J7 (b : Bool) (m : Nat) : Qc Tryz.prog 122 [lr (Qw m),.one (.bool b)] [.agg (Zg (Qh b m))] := by
  rw [← Q4p]
  have e := Wp (m := m)
  cases b with
  | false => exact w tt Tryz.func122 rfl [.f rfl] rfl rfl trivial
  | true => exact w tt Tryz.func122 rfl [.t rfl] rfl (by simp [Qf,e]) trivial
theorem J4 {b : Bool} {m : Nat} {k : Nat} (h : Qm (Qh b m) ≤ k) : sz m ≤ k := by
  unfold Qm at h; rwa [Xo] at h
theorem Yt {x y : LV} {z : Int} (hi : Xl x y z) (hs : Qm z ≤ 4294967295) : Qc Tryz.prog 116 [.agg [x,y]] [.agg (Zg z)] := by
  obtain ⟨b,l,rfl,rfl,hl,rfl⟩ := hi
  exact w tt Tryz.func116 rfl [.c [] (P0 hl (Nat.le_trans (J4 hs) (by decide))),.c [] (J7 _ _)] rfl rfl trivial
theorem Nb (b : Bool) (m : Nat) : Qh (!b) m = -(Qh b m) := by unfold Qh; cases b <;> simp
theorem Dy {x y : LV} {z : Int} (hi : Xl x y z) (hs : Qm z ≤ 4294967295) : Qc Tryz.prog 119 [.agg [x,y]] [.agg (Zg (-z))] := by
  obtain ⟨b,l,rfl,rfl,hl,rfl⟩ := hi
  rw [← Nb]
  exact w tt Tryz.func119 rfl [.c [] (P0 hl (Nat.le_trans (J4 hs) (by decide))),.c [] (J7 _ _)] rfl rfl trivial
theorem K7 {x y x' y' : LV} {z z' : Int} (hi : Xl x y z) (hi' : Xl x' y' z') (hs : Qm z ≤ 4294967295) (hs' : Qm z' ≤ 4294967295) : Qc Tryz.prog 182 [.agg [x,y],.agg [x',y']] [.agg (Zg (z * z'))] := by
  obtain ⟨b,l,rfl,rfl,hl,rfl⟩ := hi
  obtain ⟨b',l',rfl,rfl,hl',rfl⟩ := hi'
  have e : Qh b (val l) * Qh b' (val l') = Qh (b != b') (val l * val l') := by
    unfold Qh; cases b <;> cases b' <;> simp [Int.neg_mul,Int.mul_neg]
  rw [e]
  exact w tt Tryz.func182 rfl [.c [] (Q6a hl hl' (Nat.le_trans (J4 hs) (by decide)) (Nat.le_trans (J4 hs') (by decide))),.c [] (J7 _ _)] rfl rfl trivial
theorem Ag {a b : List Nat} (ha : Sm a) (hb : Sm b) (h1 : sz (val a) ≤ 4294967296) (h : val b ≤ val a) : Qc Tryz.prog 167 [lr a,lr b] [lr (Qw (val a - val b)),.one (.bool true)] := by
  have := Q1x ha hb h1; rwa [if_pos h] at this
theorem Qrh {a b : List Nat} (ha : Sm a) (hb : Sm b) (h1 : sz (val a) ≤ 4294967296) (h : val a < val b) : Qc Tryz.prog 167 [lr a,lr b] [lr [],.one (.bool false)] := by
  have := Q1x ha hb h1; rwa [if_neg (by omega)] at this
theorem P3 {x y x' y' : LV} {z z' : Int} (hi : Xl x y z) (hi' : Xl x' y' z') (hs : Qm z ≤ 4294967295) (hs' : Qm z' ≤ 4294967295) : Qc Tryz.prog 111 [.agg [x,y],.agg [x',y']] [.agg (Zg (z + z'))] := by
  obtain ⟨b,l,rfl,rfl,hl,rfl⟩ := hi
  obtain ⟨b',l',rfl,rfl,hl',rfl⟩ := hi'
  have s1 := Nat.le_trans (J4 hs) (show 4294967295 ≤ 4294967296 by decide)
  have s2 := Nat.le_trans (J4 hs') (show 4294967295 ≤ 4294967296 by decide)
  by_cases hb : b = b'
  · subst hb
    have e : Qh b (val l) + Qh b (val l') = Qh b (val l + val l') := by unfold Qh; cases b <;> simp <;> omega
    rw [e]
    exact w tt Tryz.func111 rfl [.t (by simp),.c [] (Q1t hl hl' s1 s2),.c [] (J7 _ _)] rfl rfl trivial
  · by_cases hle : val l' ≤ val l
    · have e : Qh b (val l) + Qh b' (val l') = Qh b (val l - val l') := by unfold Qh; cases b <;> cases b' <;> simp at hb ⊢ <;> omega
      rw [e]
      exact w tt Tryz.func111 rfl [.f (by simpa using hb),.c [] (Ag hl hl' s1 hle),.t rfl,.c [] (J7 _ _)] rfl rfl trivial
    · have e : Qh b (val l) + Qh b' (val l') = Qh b' (val l' - val l) := by unfold Qh; cases b <;> cases b' <;> simp at hb ⊢ <;> omega
      rw [e]
      exact w tt Tryz.func111 rfl [.f (by simpa using hb),.c [] (Qrh hl hl' s1 (by omega)),.f rfl,.c [] (Ag hl' hl s2 (by omega)),.c [] (J7 _ _)] rfl rfl trivial
theorem Qrl {x y x' y' : LV} {z z' : Int} (hi : Xl x y z) (hi' : Xl x' y' z') (hs : Qm z ≤ 4294967295) (hs' : Qm z' ≤ 4294967295) : Qc Tryz.prog 234 [.agg [x,y],.agg [x',y']] [.agg (Zg (z - z'))] := by
  obtain ⟨b',l',rfl,rfl,hl',rfl⟩ := hi'
  have hn : Xl (.bool (!b')) (.row (lm l')) (-(Qh b' (val l'))) := ⟨_,_,rfl,rfl,hl',(Nb _ _).symm⟩
  rw [Int.sub_eq_add_neg]
  have hi2 := hi
  obtain ⟨b,l,rfl,rfl,hl,_⟩ := hi
  exact w tt Tryz.func234 rfl [.c [] (P3 hi2 hn hs (by rw [Z1]; exact hs'))] rfl rfl trivial
theorem Qsb {x y : LV} {z : Int} (hi : Xl x y z) (hs : Qm z ≤ 4294967295) : Qc Tryz.prog 242 [.agg [x,y]] [.one (.int .i64 (Int.sign z))] := by
  obtain ⟨b,l,rfl,rfl,hl,rfl⟩ := hi
  have s1 := Nat.le_trans (J4 hs) (show 4294967295 ≤ 4294967296 by decide)
  have cb := Qh2 hl s1
  by_cases h0 : val l = 0
  · have e : Qh b (val l) = 0 := by unfold Qh; rw [h0]; cases b <;> simp
    rw [e]
    exact w tt Tryz.func242 rfl [.c [] cb,.t (by simp [Of,h0])] rfl rfl trivial
  · have hs0 : sz (val l) ≠ 0 := fun h => h0 (Of.1 h)
    cases b
    · have e : (Qh false (val l)).sign = 1 := Int.sign_eq_one_of_pos (by unfold Qh; simp; omega)
      rw [e]
      exact w tt Tryz.func242 rfl [.c [] cb,.f (by simp; omega),.f rfl] rfl rfl trivial
    · have e : (Qh true (val l)).sign = -1 := Int.sign_eq_neg_one_of_neg (by unfold Qh; simp; omega)
      rw [e]
      exact w tt Tryz.func242 rfl [.c [] cb,.f (by simp; omega),.t rfl] rfl rfl trivial
theorem Ah {x y x' y' : LV} {z z' : Int} (hi : Xl x y z) (hi' : Xl x' y' z') (hs : Qm z ≤ 4294967295) (hs' : Qm z' ≤ 4294967295) : Qc Tryz.prog 199 [.agg [x,y],.agg [x',y']] [.one (.int .i64 (V5 z z'))] := by
  have c1 := Qsb hi hs
  have c2 := Qsb hi' hs'
  obtain ⟨b,l,rfl,rfl,hl,hz⟩ := hi
  obtain ⟨b',l',rfl,rfl,hl',hz'⟩ := hi'
  have k1 := Fc z
  have k2 := Fc z'
  have zl : z.natAbs = val l := by rw [hz,Xo]
  have zl' : z'.natAbs = val l' := by rw [hz',Xo]
  by_cases h1 : z.sign < z'.sign
  · have e : V5 z z' = -1 := by unfold V5; rw [if_pos (by omega)]
    rw [e]
    exact w tt Tryz.func199 rfl [.c [] c1,.c [] c2,.t (by simpa using h1)] rfl rfl trivial
  · by_cases h2 : z'.sign < z.sign
    · have e : V5 z z' = 1 := by unfold V5; rw [if_neg (by omega),if_pos (by omega)]
      rw [e]
      exact w tt Tryz.func199 rfl [.c [] c1,.c [] c2,.f (by simpa using h1),.t (by simpa using h2)] rfl rfl trivial
    · by_cases h3 : z.sign < 0
      · have e : Rd (val l') (val l) = V5 z z' := by unfold V5 Rd; rw [← zl,← zl']; split <;> split <;> (try split) <;> (try split) <;> omega
        have cc := Qqq hl' hl
        rw [e] at cc
        exact w tt Tryz.func199 rfl [.c [] c1,.c [] c2,.f (by simpa using h1),.f (by simpa using h2),.t (by simpa using h3),.c [] cc] rfl rfl trivial
      · have e : Rd (val l) (val l') = V5 z z' := by unfold V5 Rd; rw [← zl,← zl']; split <;> split <;> (try split) <;> (try split) <;> omega
        have cc := Qqq hl hl'
        rw [e] at cc
        exact w tt Tryz.func199 rfl [.c [] c1,.c [] c2,.f (by simpa using h1),.f (by simpa using h2),.f (by simpa using h3),.c [] cc] rfl rfl trivial
theorem Ua {z : Int} : Qc Tryz.prog 117 [.agg (Zg z)] [.one (.bool (decide (z = 0)))] :=
  w tt Tryz.func117 rfl [] rfl (by simp only [Qf]; congr 3; have := Wp (m := z.natAbs); rw [decide_eq_decide]; omega) trivial
theorem Oo {z : Int} (h1 : -9223372036854775808 ≤ z ∧ z ≤ 9223372036854775807) : Qc Tryz.prog 75 [.one (.int .i64 z)] [.agg (Zg z)] := by
  obtain ⟨m,hm⟩ : ∃ m,m = z.natAbs := ⟨_,rfl⟩
  have sm : Sm [m % 4294967296,m / 4294967296] := fun x hx => by
    simp at hx; rcases hx with rfl | rfl <;> omega
  have hv : val [m % 4294967296,m / 4294967296] = m := by simp only [val]; omega
  have cn := P0 sm (by rw [hv]; exact Nat.le_trans (V2.2 (show m < 2 ^ 64 by omega)) (show 64 ≤ 4294967296 by decide))
  rw [hv] at cn
  by_cases hz : z < 0
  · have e : Qh true m = z := by unfold Qh; simp; omega
    have cm := J7 true m
    rw [e] at cm
    exact w tt Tryz.func75 rfl [.w 0,.r 5 (Wn (b := ((18446744073709551616 - m : Nat) : Int)) (by rw [w64]; omega)),.t (by simpa using hz),.w 0,.r 9 (Wn (b := (m : Int)) (by rw [w64]; omega)),.w 0,.r 11 (Uj (b := ((m % 4294967296 : Nat) : Int)) (by rw [w32]; omega)),.i 32,.r 13 (Wn (b := ((m / 4294967296 : Nat) : Int)) (by simp)),.c [] cn,.r 18 (v := .one (.bool true)) (by simp [hz]),.c [] cm] rfl rfl (by simp [Qa,IntKind.bits] <;> omega)
  · have e : Qh false m = z := by unfold Qh; simp; omega
    have cm := J7 false m
    rw [e] at cm
    exact w tt Tryz.func75 rfl [.w 0,.r 5 (Wn (b := (m : Int)) (by rw [w64]; omega)),.f (by simpa using hz),.w 0,.r 11 (Uj (b := ((m % 4294967296 : Nat) : Int)) (by rw [w32]; omega)),.i 32,.r 13 (Wn (b := ((m / 4294967296 : Nat) : Int)) (by simp)),.c [] cn,.r 18 (v := .one (.bool false)) (by simp; omega),.c [] cm] rfl rfl (by simp [Qa,IntKind.bits] <;> omega)
theorem Qh4 {m n : Nat} (h1 : sz m ≤ 4294967296) (h2 : sz n ≤ 4294967296) (hn : 0 < n) : Qc Tryz.prog 170 [lr (Qw m),lr (Qw n)] [lr (Qw (m / n)),lr (Qw (m % n)),.one (.int .i64 0)] := by
  have := Qey (W7 m) (W7 n) (by rw [Zc]; exact h1) (by rw [Zc]; exact h2) (by rw [Zc]; exact hn)
  rwa [Zc,Zc] at this
theorem Qod {x y x' y' : LV} {z z' : Int} (hi : Xl x y z) (hi' : Xl x' y' z') (hs : Qm z ≤ 4294967295) (hs' : Qm z' ≤ 4294967295) (hz : z' ≠ 0) : Qc Tryz.prog 171 [.agg [x,y],.agg [x',y']] [.agg (Zg (z / z')),.agg (Zg (z % z')),.one (.int .i64 0)] := by
  obtain ⟨b,l,rfl,rfl,hl,hz1⟩ := hi
  obtain ⟨b',l',rfl,rfl,hl',hz2⟩ := hi'
  have zl : z.natAbs = val l := by rw [hz1,Xo]
  have zl' : z'.natAbs = val l' := by rw [hz2,Xo]
  have s1 : sz (val l) ≤ 4294967296 := Nat.le_trans (J4 (hz1 ▸ hs)) (by decide)
  have s2 : sz (val l') ≤ 4294967296 := Nat.le_trans (J4 (hz2 ▸ hs')) (by decide)
  have hp : 0 < z'.natAbs := by omega
  have e1 : z = if b = true then -(z.natAbs : Int) else (z.natAbs : Int) := by rw [zl]; exact hz1
  have e2 : z' = if b' = true then -(z'.natAbs : Int) else (z'.natAbs : Int) := by rw [zl']; exact hz2
  have cd := Qey hl hl' s1 s2 (by omega)
  rw [← zl,← zl'] at cd
  have s0 : sz (z.natAbs % z'.natAbs) ≤ 4294967296 := Nat.le_trans (Xv (Nat.le_of_lt (Nat.mod_lt _ hp))) (by rw [zl']; exact s2)
  cases b with
  |
   false =>
   obtain ⟨d1,d2⟩ := Ax e2 hp e1
   rw [d1,d2]
   exact w tt Tryz.func171 rfl [.c [] cd,.f rfl,.c [] (J7 _ _),.c [] (J7 _ _),.f rfl,.f rfl] rfl rfl trivial
  |
   true =>
   by_cases h0 : z.natAbs % z'.natAbs = 0
   · obtain ⟨d1,d2⟩ := Lr e2 hp e1 h0
     rw [d1,d2]
     exact w tt Tryz.func171 rfl [.c [] cd,.f rfl,.c [] (J7 _ _),.c [] (J7 _ _),.t rfl,.f (by rw [h0,Zo]; rfl)] rfl rfl trivial
   · obtain ⟨d1,d2⟩ := Aw e2 hp e1 (by omega)
     rw [d1,d2]
     have ca := Q1t (a := Qw (z.natAbs / z'.natAbs)) (b := [1]) (W7 _) (fun x hx => by simp at hx; subst hx; decide) (by rw [Zc]; exact Nat.le_trans (Xv (Nat.div_le_self _ _)) (by rw [zl]; exact s1)) (by decide)
     have cs := Ag (a := l') (b := Qw (z.natAbs % z'.natAbs)) hl' (W7 _) s2 (by rw [Zc,← zl']; exact Nat.le_of_lt (Nat.mod_lt _ hp))
     rw [Zc] at ca cs
     rw [← zl'] at cs
     have hl0 := Wp (m := z.natAbs % z'.natAbs)
     exact w tt Tryz.func171 rfl [.c [] cd,.f rfl,.c [] (J7 _ _),.c [] (J7 _ _),.t rfl,.t (by simp [Qf]; omega),.c [] ca,.c [] cs,.c [] (J7 _ _),.c [] (J7 _ _)] rfl rfl trivial
theorem Fg {x y x' y' : LV} {z z' : Int} (hi : Xl x y z) (hi' : Xl x' y' z') (hs : Qm z ≤ 4294967295) (hs' : Qm z' ≤ 4294967295) (hz : z' ≠ 0) (hd : z % z' = 0) : Qc Tryz.prog 120 [.agg [x,y],.agg [x',y']] [.agg (Zg (z / z')),.one (.int .i64 0)] := by
  have cd := Qod hi hi' hs hs' hz
  obtain ⟨b,l,rfl,rfl,_⟩ := hi
  obtain ⟨b',l',rfl,rfl,_⟩ := hi'
  exact w tt Tryz.func120 rfl [.c [] cd,.f rfl,.f (by rw [hd]; simp [Qf,Zo])] rfl rfl trivial
end Orr

namespace Orr
open Go
abbrev Q5h (l : List Nat) : LV := .row (lm l)
def Z4 (l : List Int) : Nat := l.foldl (fun g z => Nat.gcd g z.natAbs) 0
theorem Qay {l : List Int} {i : Nat} {z : Int} (h : l[i]? = some z) : Z4 (l.take (i + 1)) = Nat.gcd (Z4 (l.take i)) z.natAbs := by
  unfold Z4
  rw [List.take_add_one,h]
  simp [List.foldl_append]
theorem Qzc (g x : Nat) : Nat.gcd x (g % x) = Nat.gcd g x := by
  rw [Nat.gcd_comm g x,Nat.gcd_rec x g,Nat.gcd_comm]
theorem Ox (l : List Int) : l.foldl (fun g z => Nat.gcd g z.natAbs) 1 = 1 := by
  induction l with
  | nil => rfl
  | cons z l ih => simp [ih]
theorem Qtm {l : List Int} {i : Nat} (h : Z4 (l.take i) = 1) : Z4 l = 1 := by
  have e : l = l.take i ++ l.drop i := (List.take_append_drop i l).symm
  unfold Z4 at h ⊢
  rw [e,List.foldl_append,h,Ox]
def trim : List Int → List Int
  | [] => []
  |
   x :: l => match trim l with
   | [] => if x = 0 then [] else [x]
   | y :: k => x :: y :: k
theorem Mm : ∀ {l : List Int},(∀ x ∈ l,x = 0) → trim l = []
  | [],_ => rfl
  |
   x :: l,h => by
   have ih := Mm (l := l) (fun y hy => h y (List.mem_cons_of_mem _ hy))
   simp [trim,ih,h x (List.mem_cons_self ..)]
theorem Qb3 : ∀ {l : List Int} {m : Nat} {y : Int},(∀ j x,m < j → l[j]? = some x → x = 0) → l[m]? = some y → y ≠ 0 → trim l = l.take (m + 1)
  | [],m,y,_,h,_ => by simp at h
  |
   x :: l,0,y,h1,h2,h3 => by
   have h0 : trim l = [] := Mm fun z hz => by
     obtain ⟨j,hj⟩ := List.mem_iff_getElem?.1 hz
     exact h1 (j + 1) z (by omega) (by simpa using hj)
   simp at h2
   subst h2
   simp [trim,h0,h3]
  |
   x :: l,m + 1,y,h1,h2,h3 => by
   have ih := Qb3 (l := l) (m := m) (y := y) (fun j z hj hz => h1 (j + 1) z (by omega) (by simpa using hz)) (by simpa using h2) h3
   cases hl : l with
   | nil => subst hl; simp at h2
   |
    cons u k =>
    subst hl
    rw [List.take_succ_cons] at ih
    simp only [trim] at ih ⊢
    rw [ih]
    simp
def Qj (l : List Int) : Prop := trim l = l
theorem Xk : ∀ (l : List Int),Qj (trim l)
  | [] => rfl
  |
   x :: l => by
   have ih := Xk l
   unfold Qj at ih ⊢
   cases h : trim l with
   | nil => by_cases hx : x = 0 <;> simp [trim,h,hx]
   |
    cons y k =>
    rw [h] at ih
    simp only [trim,h] at ih ⊢
    rw [ih]
theorem Qhc {l : List Int} {m : Nat} (hm : m ≤ l.length) (h1 : ∀ j x,m ≤ j → l[j]? = some x → x = 0) (h2 : 0 < m → ∃ y,l[m - 1]? = some y ∧ y ≠ 0) : trim l = l.take m := by
  rcases Nat.eq_zero_or_pos m with h0 | h0
  · subst h0
    rw [Mm fun z hz => ?_]; rfl
    obtain ⟨j,hj⟩ := List.mem_iff_getElem?.1 hz
    exact h1 j z (by omega) hj
  · obtain ⟨y,hy,hy0⟩ := h2 h0
    have := Qb3 (l := l) (m := m - 1) (y := y) (fun j x hj hx => h1 j x (by omega) hx) hy hy0
    rwa [show m - 1 + 1 = m from by omega] at this
def IsInts : List (List LV) → List Int → Prop
  | [],[] => True
  | x :: l,z :: p => (∃ a b,x = [a,b] ∧ Xl a b z) ∧ IsInts l p
  | _,_ => False
theorem IsInts.len : ∀ {l : List (List LV)} {p : List Int},IsInts l p → l.length = p.length
  | [],[],_ => rfl
  | x :: l,z :: p,h => by simp [h.2.len]
  | [],_ :: _,h => h.elim
  | _ :: _,[],h => h.elim
theorem IsInts.get : ∀ {l : List (List LV)} {p : List Int},IsInts l p → ∀ {i : Nat} {z : Int},p[i]? = some z → ∃ a b,l[i]? = some [a,b] ∧ Xl a b z
  | [],[],_,i,z,h => by simp at h
  |
   x :: l,y :: p,h,0,z,hz => by
   simp at hz; subst hz
   obtain ⟨a,b,rfl,hi⟩ := h.1
   exact ⟨a,b,rfl,hi⟩
  | x :: l,y :: p,h,i + 1,z,hz => by simpa using h.2.get (i := i) (by simpa using hz)
  | [],_ :: _,h,_,_,_ => h.elim
  | _ :: _,[],h,_,_,_ => h.elim
theorem Z0 : ∀ (p : List Int),IsInts (p.map Zg) p
  | [] => trivial
  | z :: p => ⟨⟨_,_,rfl,Qe z⟩,Z0 p⟩
theorem IsInts.append : ∀ {l l' : List (List LV)} {p p' : List Int},IsInts l p → IsInts l' p' → IsInts (l ++ l') (p ++ p')
  | [],_,[],_,_,h => h
  | x :: l,_,z :: p,_,h,h' => ⟨h.1,h.2.append h'⟩
  | [],_,_ :: _,_,h,_ => h.elim
  | _ :: _,_,[],_,h,_ => h.elim
def pl (p : List Int) : LV := .row (p.map Zg)
def ids (l : List Int) : LV := .row (l.map fun (x : Int) => [.int .i64 x])
theorem Yh : Xl (.bool false) (.row []) 0 := ⟨false,[],rfl,rfl,(fun x hx => by cases hx),rfl⟩
theorem Q0z : sg 0 = .bool false := rfl
theorem Qpd {z : Int} : (Qw z.natAbs).length = 0 ↔ z = 0 := by
  constructor
  · intro h
    have h0 := List.eq_nil_of_length_eq_zero h
    have := (Nq (Wa z.natAbs)).2 h0
    rw [Zc] at this; omega
  · rintro rfl; rw [show (0 : Int).natAbs = 0 from rfl,Zo]; rfl
theorem Z9 {α β : Type} {f : α → β} {l : List α} {i : Nat} {x : α} (h : l[i]? = some x) : (l.map f)[i]? = some (f x) := by rw [List.getElem?_map,h]; rfl
theorem Q2k {α : Type} {f : α → List LV} {sz : Nat} (l : List α) (h : ∀ x,(f x).length = sz) : ∀ c ∈ l.map f,c.length = sz := fun c hc => by
  obtain ⟨x,_,rfl⟩ := List.mem_map.1 hc
  exact h x
theorem Qzr : mg 0 = .row [] := by simp [mg,Zo,lm]
theorem U8 : Zg 0 = [LV.bool false,LV.row []] := by simp [Zg,Q0z,Qzr]
end Orr

namespace Orr
open Go Go.Proofs
set_option maxRecDepth 10000
theorem Ej {p : List Int} (hs : ∀ z ∈ p,Qm z ≤ 4294967295) : sz (Z4 p) ≤ 4294967295 := by
  have key : ∀ (p : List Int) (g : Nat),sz g ≤ 4294967295 → (∀ z ∈ p,Qm z ≤ 4294967295) → sz (p.foldl (fun g z => Nat.gcd g z.natAbs) g) ≤ 4294967295 := by
    intro p
    induction p with
    | nil => exact fun g h _ => h
    |
     cons z p ih =>
     intro g h hs
     refine ih _ ?_ fun y hy => hs y (.tail _ hy)
     rcases Nat.eq_zero_or_pos g with h0 | h0
     · subst h0; show sz (Nat.gcd 0 z.natAbs) ≤ _; rw [Nat.gcd_zero_left]; exact hs z (.head _)
     · exact Nat.le_trans (Xv (Nat.gcd_le_left _ h0)) h
  exact key p 0 (by decide) hs
theorem Qqv {l : List (List LV)} {p : List Int} (hi : IsInts l p) (hs : ∀ z ∈ p,Qm z ≤ 4294967295) : Qc Tryz.prog 118 [.one (.row l)] [.agg (Zg ((Z4 p : Nat) : Int))] := by
  refine Z6 Tryz.func118 rfl (ln 0 rfl rfl fun hl => ?_)
  have hlp := hi.len
  refine go tt [.z 3,.r 3 (v := lr (Qw (Z4 (p.take 0)))) (by simp [Z4,Zo,lm])] rfl trivial ?_
  refine ct 2 (S := Unit) (fun _ => [(2,.v (.one (.ow 0 0))),(3,.v (lr (Qw (Z4 p))))]) (fun _ => [.blk 29 [.bool false,.nils],.gone]) (fun _ => True) rfl ?_ ?_
  · refine lp (S := Nat) 1 (fun L1 i => (12,.v (.one (.int .i64 (i : Int)))) :: (3,.v (lr (Qw (Z4 (p.take i))))) :: L1) (fun _ => [.blk 29 [.bool false,.nils]]) (fun i => p.length - i) (fun i => i ≤ p.length) 0 (Nat.zero_le _) rfl (fun _ _ => rfl) rfl fun i hip => ?_
    by_cases h : i < p.length
    · have hlt : i < l.length := by omega
      obtain ⟨c,hc⟩ : ∃ c,l[i]? = some c := ⟨_,List.getElem?_eq_getElem hlt⟩
      obtain ⟨z,hz⟩ : ∃ z,p[i]? = some z := ⟨_,List.getElem?_eq_getElem h⟩
      obtain ⟨x,y,hc',b,r,rfl,rfl,hr,hzz⟩ := hi.get hz
      rw [hc] at hc'; injection hc' with hc'; subst hc'
      have hsz := hs z (List.mem_of_getElem? hz)
      have hg0 : sz (Z4 (p.take i)) ≤ 4294967295 := Ej fun y hy => hs y (List.mem_of_mem_take hy)
      have ezr : z.natAbs = val r := by rw [hzz,Xo]
      have cn := P0 hr (by rw [← ezr]; exact Nat.le_trans hsz (by decide))
      rw [← ezr] at cn
      refine go tt [.t (by simp; omega),.x hc,.c [] cn] rfl trivial ?_
      refine lp (S := Nat × Nat) 2 (fun L1 s => (3,.v (lr (Qw s.1))) :: (6,.v (lr (Qw s.2))) :: L1) (fun _ => [.blk 29 [.bool false,.nils],.blk 29 [.bool b,.row (lm r)]]) (fun s => s.2) (fun s => Nat.gcd s.1 s.2 = Nat.gcd (Z4 (p.take i)) z.natAbs ∧ sz s.1 ≤ 4294967295 ∧ sz s.2 ≤ 4294967295) (Z4 (p.take i),z.natAbs) ⟨rfl,hg0,hsz⟩ rfl (fun _ _ => rfl) rfl fun ⟨g,u⟩ ⟨j1,j2,j3⟩ => ?_
      dsimp only at j1 j2 j3 ⊢
      have hul := Wp (m := u)
      by_cases hu : 0 < u
      · have cd := Qh4 (m := g) (n := u) (by omega) (by omega) hu
        refine go tt [.t (by simp [Qf]; omega),.c [] cd] rfl trivial ?_
        exact rd (u,g % u) (Nat.mod_lt _ hu) ⟨(Qzc g u).trans j1,j3,Nat.le_trans (Xv (Nat.le_of_lt (Nat.mod_lt _ hu))) j3⟩ rfl
      · obtain rfl : u = 0 := by omega
        rw [Nat.gcd_zero_right,← Qay hz] at j1
        subst j1
        by_cases h1 : Z4 (p.take (i + 1)) = 1
        · have e1 : Qw (Z4 (p.take (i + 1))) = [1] := by rw [h1,Uq (by decide)]; simp [Zo]
          refine go tt [.f (by simp [Zo,lm]),.t (by rw [e1]; rfl),.x (Zf (i := 0) (x := 1) (by rw [e1]; rfl)),.t rfl] rfl trivial ?_
          exact rc () trivial (by rw [h1,Qtm h1]; rfl)
        · obtain ⟨g,hg⟩ : ∃ g,g = Z4 (p.take (i + 1)) := ⟨_,rfl⟩
          rw [← hg] at h1 j2 ⊢
          by_cases h2 : (Qw g).length = 1
          · obtain ⟨v, hv⟩ : ∃ v, Qw g = [v] := by
              match hm : Qw g,h2 with
              | [v],_ => exact ⟨v,rfl⟩
            have hv1 : v ≠ 1 := fun e => h1 (by rw [← Zc g,hv,e]; rfl)
            refine go tt [.f (by simp [Zo,lm]),.t (by simp [Qf,h2]),.x (Zf (i := 0) (x := v) (by rw [hv]; rfl)),.f (by simp; omega)] rfl (by simp [Qa] <;> omega) ?_
            exact rd (i + 1) (by omega) h (by rw [← hg]; rfl)
          · refine go tt [.f (by simp [Zo,lm]),.f (by simp [Qf]; omega),.f rfl] rfl (by simp [Qa] <;> omega) ?_
            exact rd (i + 1) (by omega) h (by rw [← hg]; rfl)
    · obtain rfl : i = p.length := by omega
      refine go tt [.f (by simp; omega)] rfl trivial ?_
      rw [List.take_length]
      exact rc () trivial rfl
  · intro _ _
    have cn := P0 (W7 (Z4 p)) (by rw [Zc]; exact Nat.le_trans (Ej hs) (by decide))
    rw [Zc] at cn
    exact en tt [.c [] cn,.c [] (J7 false _)] rfl (by simp [Qh]) trivial
end Orr

namespace Orr
open Go
def Xz : List Nat → Nat
  | [] => 0
  | x :: l => x + 10000 * Xz l
def Dg (l : List Nat) : Prop := ∀ x ∈ l,x < 10000
def Qx (x : Nat) : List Nat := if h : x = 0 then [] else (x % 10000) :: Qx (x / 10000)
termination_by x
decreasing_by omega
theorem Zx : Qx 0 = [] := by unfold Qx; simp
theorem Hp {x : Nat} (h : x ≠ 0) : Qx x = (x % 10000) :: Qx (x / 10000) := by rw [Qx]; simp [h]
theorem Xc (x : Nat) : Xz (Qx x) = x := by
  induction x using Nat.strongRecOn with
  |
   _ x ih =>
   rcases Nat.eq_zero_or_pos x with h | h
   · subst h; rw [Zx]; rfl
   · rw [Hp (by omega)]
     simp only [Xz]
     rw [ih _ (by omega)]; omega
theorem V9 (x : Nat) : Dg (Qx x) := by
  induction x using Nat.strongRecOn with
  |
   _ x ih =>
   rcases Nat.eq_zero_or_pos x with h | h
   · subst h; rw [Zx]; intro y hy; cases hy
   · rw [Hp (by omega)]
     intro y hy
     rcases List.mem_cons.1 hy with rfl | hy
     · omega
     · exact ih _ (by omega) y hy
theorem M7 {x : Nat} : (Qx x).length = 0 ↔ x = 0 := by
  constructor
  · intro h
    have h0 := List.eq_nil_of_length_eq_zero h
    have := Xc x
    rw [h0] at this
    exact this.symm
  · rintro rfl; rw [Zx]; rfl
theorem Fj {x : Nat} (h : x ≠ 0) : (Qx (x / 10000)).length + 1 = (Qx x).length := by rw [Hp h]; rfl
theorem Qov {x : Nat} (h : x < 1000000000000) : (Qx x).length ≤ 3 := by
  by_cases h0 : x = 0
  · subst h0; rw [Zx]; exact Nat.zero_le _
  · have h1 := Fj h0
    by_cases h2 : x / 10000 = 0
    · rw [h2,Zx] at h1; simp at h1; omega
    · have h3 := Fj h2
      by_cases h4 : x / 10000 / 10000 = 0
      · rw [h4,Zx] at h3; simp at h3; omega
      · have h5 := Fj h4
        have h6 : x / 10000 / 10000 / 10000 = 0 := by omega
        rw [h6,Zx] at h5; simp at h5; omega
theorem Yu (x : Nat) : (Qx x).length ≤ sz x := by
  induction x using Nat.strongRecOn with
  |
   _ x ih =>
   by_cases h0 : x = 0
   · subst h0; rw [Zx]; exact Nat.zero_le _
   · have h1 := Fj h0
     have h2 := ih (x / 10000) (by omega)
     have h3 : sz (x / 10000) + 1 ≤ sz x := by
       have h4 : x < 2 ^ sz x := Nm x
       rcases hs : sz x with _ | k
       · rw [hs] at h4; simp at h4; omega
       · rw [hs] at h4
         have : sz (x / 10000) ≤ k := V2.2 (by rw [Nat.pow_succ] at h4; omega)
         omega
     omega
theorem Jv (a b : List Nat) : Xz (a ++ b) = Xz a + 10000 ^ a.length * Xz b := by
  induction a with
  | nil => simp [Xz]
  |
   cons x a ih =>
   simp only [List.cons_append,Xz,ih,List.length_cons,Nat.pow_succ]
   rw [Nat.mul_add,← Nat.mul_assoc,Nat.mul_comm 10000 (10000 ^ a.length)]; omega
theorem X7 {l : List Nat} {i x : Nat} (h : l[i]? = some x) : Xz (l.take (i + 1)) = Xz (l.take i) + 10000 ^ i * x := by
  have hi := (List.getElem?_eq_some_iff.1 h).1
  rw [show l.take (i + 1) = l.take i ++ [x] by rw [List.take_succ,h]; rfl,Jv,List.length_take,Nat.min_eq_left (by omega)]
  simp [Xz]
theorem A0 : ∀ {l : List Nat},Dg l → Xz l < 10000 ^ l.length
  | [],_ => by simp [Xz]
  |
   x :: l,h => by
   have h1 := h x (List.mem_cons_self ..)
   have h2 := A0 (l := l) fun y hy => h y (List.mem_cons_of_mem _ hy)
   simp only [Xz,List.length_cons,Nat.pow_succ]; omega
theorem A1 : ∀ {l : List Nat},(∀ x ∈ l,x = 0) → Xz l = 0
  | [],_ => rfl
  |
   x :: l,h => by
   have h1 := h x (List.mem_cons_self ..)
   have h2 := A1 (l := l) fun y hy => h y (List.mem_cons_of_mem _ hy)
   simp [Xz,h1,h2]
theorem Dg.take {l : List Nat} (h : Dg l) (k : Nat) : Dg (l.take k) := fun x hx => h x (List.mem_of_mem_take hx)
theorem Dg.snoc {l : List Nat} (h : Dg l) {x : Nat} (hx : x < 10000) : Dg (l ++ [x]) := by
  intro y hy
  rcases List.mem_append.1 hy with hy | hy
  · exact h y hy
  · rw [List.mem_singleton.1 hy]; exact hx
theorem Dg.nil : Dg [] := fun x h => by cases h
theorem Qin : ∀ {l : List Nat},Dg l → (∀ x,l[l.length - 1]? = some x → x ≠ 0) → l = Qx (Xz l)
  | [],_,_ => by rw [Xz,Zx]
  |
   x :: l,h,hl => by
   have h1 := h x (List.mem_cons_self ..)
   have h2 : l = Qx (Xz l) := Qin (fun y hy => h y (List.mem_cons_of_mem _ hy)) fun y hy => hl y (by
     rcases l with _ | ⟨z,t⟩
     · simp at hy
     · simpa using hy)
   have h3 : x + 10000 * Xz l ≠ 0 := by
     intro e
     have hx : x = 0 := by omega
     have hd : Xz l = 0 := by omega
     rw [hd,Zx] at h2
     subst h2
     exact hl x rfl hx
   simp only [Xz]
   rw [Hp h3,show (x + 10000 * Xz l) % 10000 = x by omega,show (x + 10000 * Xz l) / 10000 = Xz l by omega,← h2]
theorem Qfg {l : List Nat} {m : Nat} (hd : Dg l) (hm : m ≤ l.length) (h1 : ∀ j x,m ≤ j → l[j]? = some x → x = 0) (h2 : 0 < m → ∃ y,l[m - 1]? = some y ∧ y ≠ 0) : l.take m = Qx (Xz l) := by
  have e : Xz l = Xz (l.take m) := by
    conv => lhs; rw [← List.take_append_drop m l,Jv]
    rw [A1 (l := l.drop m) fun x hx => ?_]
    · omega
    · obtain ⟨j,hj⟩ := List.mem_iff_getElem?.1 hx
      rw [List.getElem?_drop] at hj
      exact h1 (m + j) x (by omega) hj
  rw [e]
  refine Qin (hd.take m) fun x hx => ?_
  have hl : (l.take m).length = m := by rw [List.length_take]; omega
  rw [hl] at hx
  rcases Nat.eq_zero_or_pos m with h0 | h0
  · subst h0; simp at hx
  · obtain ⟨y,hy,hy0⟩ := h2 h0
    rw [List.getElem?_take_of_lt (by omega),hy] at hx
    injection hx with hx; rw [← hx]; exact hy0
theorem Qai {o c i d m P V : Nat} (hP : P = 10000 ^ i) (h : o + c * P = V) : o + P * ((c + d * m) % 10000) + (c + d * m) / 10000 * (P * 10000) = V + P * d * m := by
  have e := Nat.div_add_mod (c + d * m) 10000
  generalize (c + d * m) / 10000 = q at *
  generalize (c + d * m) % 10000 = r at *
  have e2 : P * (c + d * m) = P * (10000 * q + r) := by rw [e]
  grind
theorem Ru {x y : Nat} (h : x ≤ y) : (Qx x).length ≤ (Qx y).length := by
  induction y using Nat.strongRecOn generalizing x with
  |
   _ y ih =>
   by_cases h0 : x = 0
   · subst h0; rw [Zx]; exact Nat.zero_le _
   · have h1 := Fj h0
     have h2 := Fj (x := y) (by omega)
     have := ih (y / 10000) (by omega) (x := x / 10000) (Nat.div_le_div_right h)
     omega
theorem Qou {n x : Nat} (h : 10000 ^ n ≤ x) : n + 1 ≤ (Qx x).length := by
  have h1 := A0 (V9 x)
  rw [Xc] at h1
  have h2 : n < (Qx x).length := (Nat.pow_lt_pow_iff_right (by decide)).1 (Nat.lt_of_le_of_lt h h1)
  omega
theorem Qfe {x y : Nat} (h : (Qx x).length < (Qx y).length) : x < y := by
  rcases Nat.lt_or_ge x y with h1 | h1
  · exact h1
  · have := Ru h1; omega
theorem Qow {k y : Nat} (h : y < 10000 ^ k) : (Qx y).length ≤ k := by
  induction k generalizing y with
  |
   zero =>
   have : y = 0 := by simpa using h
   subst this; rw [Zx]; exact Nat.le_refl _
  |
   succ k ih =>
   by_cases hy0 : y = 0
   · subst hy0; rw [Zx]; exact Nat.zero_le _
   · have h8 := Fj hy0
     have := ih (y := y / 10000) (by rw [Nat.pow_succ] at h; omega)
     omega
theorem Qsq {o : List Nat} (h : Dg o) (hl : o.length ≤ (Qx (Xz o)).length) : o = Qx (Xz o) := by
  refine Qin h fun x hx h0 => ?_
  subst h0
  have hne : 0 < o.length := by
    rcases o with _ | ⟨a,o⟩
    · simp at hx
    · simp
  have h1 : Xz o = Xz (o.take (o.length - 1)) := by
    have := X7 hx
    rw [show o.length - 1 + 1 = o.length by omega,List.take_length] at this
    omega
  have h2 := A0 (h.take (o.length - 1))
  rw [← h1,List.length_take,Nat.min_eq_left (by omega)] at h2
  have := Qow h2
  omega
theorem Rx {l : List Nat} {j d : Nat} (h : l[j]? = some d) : Xz (l.drop j) = d + 10000 * Xz (l.drop (j + 1)) := by
  obtain ⟨hj,he⟩ := List.getElem?_eq_some_iff.1 h
  rw [List.drop_eq_getElem_cons hj,he]; rfl
theorem Ck {l : List Nat} {j y : Nat} (h : j < l.length) : (l.set j y).drop j = y :: l.drop (j + 1) := by
  rw [List.drop_eq_getElem_cons (by simpa using h)]
  simp only [List.getElem_set_self]
  rw [List.drop_set_of_lt (by omega)]
theorem Dg.set {l : List Nat} (h : Dg l) {j y : Nat} (hy : y < 10000) : Dg (l.set j y) := by
  intro x hx
  rcases List.mem_or_eq_of_mem_set hx with hx | rfl
  · exact h x hx
  · exact hy
theorem Dg.zeros (n : Nat) : Dg (List.replicate n 0) := by
  intro x hx; rw [List.eq_of_mem_replicate hx]; decide
theorem Qfi {V kd d : Nat} (hk : 0 < kd) : (d + 10000 * V) / kd = (V % kd * 10000 + d) / kd + 10000 * (V / kd) ∧ (d + 10000 * V) % kd = (V % kd * 10000 + d) % kd ∧ (d < 10000 → (V % kd * 10000 + d) / kd < 10000) := by
  have e := Nat.div_add_mod V kd
  have e2 : d + 10000 * V = (V % kd * 10000 + d) + kd * (10000 * (V / kd)) := by
    conv => lhs; rw [← e]
    grind
  refine ⟨?_,?_,fun hd => ?_⟩
  · rw [e2,Nat.add_mul_div_left _ _ hk]
  · rw [e2,Nat.add_mul_mod_self_left]
  · have := Nat.mod_lt V hk
    exact (Nat.div_lt_iff_lt_mul hk).2 (by grind)
theorem Eg (l : List Nat) (j : Nat) (h : j ≤ l.length) : Xz l = Xz (l.take j) + 10000 ^ j * Xz (l.drop j) := by
  conv => lhs; rw [← List.take_append_drop j l,Jv]
  rw [List.length_take,Nat.min_eq_left h]
theorem Av {a b : List Nat} {j d e : Nat} (ha : Dg a) (hd : a[j]? = some d) (he : b[j]? = some e) (hs : a.drop (j + 1) = b.drop (j + 1)) (h : d < e) : Xz a < Xz b := by
  have h1 := (List.getElem?_eq_some_iff.1 hd).1
  have h2 := (List.getElem?_eq_some_iff.1 he).1
  rw [Eg a j (by omega),Eg b j (by omega),Rx hd,Rx he,hs]
  have h3 := A0 (ha.take j)
  rw [List.length_take,Nat.min_eq_left (by omega)] at h3
  generalize 10000 ^ j = P at *
  have h4 : P * (d + 10000 * Xz (b.drop (j + 1))) + P ≤ P * (e + 10000 * Xz (b.drop (j + 1))) := by
    rw [← Nat.mul_succ]; exact Nat.mul_le_mul_left _ (by omega)
  omega
def dl (l : List Nat) : LV := .row (l.map fun (x : Nat) => [.int .i64 (x : Int)])
theorem Xn (l : List Nat) : (l.map fun (x : Nat) => [LV.int .i64 (x : Int)]).length = l.length := by simp
theorem Zd {l : List Nat} {i x : Nat} (h : l[i]? = some x) : (l.map fun (x : Nat) => [LV.int .i64 (x : Int)])[i]? = some [.int .i64 (x : Int)] := by rw [List.getElem?_map,h]; rfl
abbrev nd (x : Nat) : LV := dl (Qx x)
end Orr

namespace Orr
open Go Go.Proofs
set_option maxRecDepth 10000
abbrev Vw (l : List Nat) : List (List LV) := l.map fun (x : Nat) => [.int .i64 (x : Int)]
theorem Q3v (l : List Nat) : ∀ c ∈ Vw l,c.length = 1 := fun c hc => by obtain ⟨x,_,rfl⟩ := List.mem_map.1 hc; rfl
theorem Ch {l : List Nat} (hd : Dg l) : Qc Tryz.prog 162 [.one (.row (Vw l))] [.one (nd (Xz l))] := by
  refine Z6 Tryz.func162 rfl (ln 0 rfl rfl fun hl => ?_)
  rw [List.length_map] at hl
  refine go tt [] rfl trivial ?_
  refine lp (S := Nat) 0 (fun L1 n => (3,.v (.one (.int .i64 (n : Int)))) :: L1) (fun _ => []) id (fun n => n ≤ l.length ∧ ∀ j x,n ≤ j → l[j]? = some x → x = 0) (Vw l).length ⟨by simp,fun j x h1 h2 => by
    have := (List.getElem?_eq_some_iff.1 h2).1; simp at h1; omega⟩ rfl (fun _ _ => rfl) rfl fun n ⟨h1,h2⟩ => ?_
  cases n with
  | zero => exact en tt [.g 8 false (by simp),.f rfl,.i 0] rfl (by have := Qfg hd h1 h2 (fun h => by omega); unfold nd; rw [← this]; simp [dl]) (by simp [Qa])
  |
   succ n =>
   obtain ⟨x,hx⟩ : ∃ x,l[n]? = some x := ⟨_,List.getElem?_eq_getElem (by omega)⟩
   by_cases h0 : x = 0
   · refine go tt [.g 8 true (by simp),.r 11 (v := .one (.int .i64 (n : Int))) (by simp),.x (Zd hx),.t (by simp [h0]),.r 17 (v := .one (.int .i64 (n : Int))) (by simp)] rfl (by simp [Qa]; omega) ?_
     exact rd n (by simp) ⟨by omega, fun j y h3 h4 => by
         rcases Nat.eq_or_lt_of_le h3 with rfl | h3
         · rw [hx] at h4; injection h4 with h4; rw [← h4,h0]
         · exact h2 j y h3 h4⟩ rfl
   · exact en tt [.g 8 true (by simp),.r 11 (v := .one (.int .i64 (n : Int))) (by simp),.x (Zd hx),.f (by simp [h0]),.i (n + 1)] rfl (by have := Qfg hd h1 h2 (fun _ => ⟨x,hx,h0⟩); unfold nd; rw [← this]; simp [dl,List.map_take]) (by simp [Qa] <;> omega)
theorem Qlg {x kd : Nat} (hxs : sz x ≤ 100000000) (hk : 0 < kd ∧ kd ≤ 65536) : Qc Tryz.prog 161 [.one (nd x),.one (.int .i64 (kd : Int))] [.one (nd (x / kd)),.one (.int .i64 ((x % kd : Nat) : Int))] := by
  have hln := Nat.le_trans (Yu x) hxs
  obtain ⟨l,hl⟩ : ∃ l,l = Qx x := ⟨_,rfl⟩
  have hx : Xz l = x := by rw [hl,Xc]
  have hd : Dg l := by rw [hl]; exact V9 x
  show Qc Tryz.prog 161 [.one (.row (Vw (Qx x))),.one (.int .i64 (kd : Int))] _
  rw [← hl] at hln ⊢
  rw [← hx]
  have hll := Xn l
  refine Z6 Tryz.func161 rfl ?_
  refine go tt [.i (Vw l).length,.i (Vw l).length] rfl (by simp [Qa]; omega) ?_
  rw [hll,show List.replicate l.length [LV.int .i64 0] = Vw (List.replicate l.length 0) from by simp [Vw]]
  refine lp (S := Nat × List Nat × Nat) 1 (fun L1 s => (8,.v (.one (.int .i64 ((s.1 : Int) - 1)))) :: (7,.v (.one (.int .i64 (s.2.2 : Int)))) :: L1) (fun s => [.row false 3 1 (Vw s.2.1)]) (fun s => s.1) (fun s => s.1 ≤ l.length ∧ s.2.1.length = l.length ∧ Dg s.2.1 ∧ Xz (s.2.1.drop s.1) = Xz (l.drop s.1) / kd ∧ s.2.2 = Xz (l.drop s.1) % kd) (l.length,List.replicate l.length 0,0) ⟨Nat.le_refl _,by simp,Dg.zeros _,by simp [Xz],by simp [Xz]⟩ rfl (fun _ _ => rfl) rfl fun ⟨k,o,R⟩ ⟨j1,j2,j3,j4,hR⟩ => ?_
  dsimp only at j1 j2 j3 j4 hR ⊢
  cases k with
  |
   zero =>
   have cc := Ch j3
   rw [List.drop_zero,List.drop_zero] at j4
   rw [j4] at cc
   exact en tt [.f (by simp),.c [] cc] rfl (by rw [hR,List.drop_zero]) trivial
  |
   succ k =>
   obtain ⟨d,hdk⟩ : ∃ d,l[k]? = some d := ⟨_,List.getElem?_eq_getElem (by omega)⟩
   have hd0 := hd d (List.mem_of_getElem? hdk)
   have hdd := Rx hdk
   obtain ⟨s1,s2,s3⟩ := Qfi (V := Xz (l.drop (k + 1))) (kd := kd) (d := d) hk.1
   rw [← hdd] at s1 s2
   have hr := Nat.mod_lt (Xz (l.drop (k + 1))) hk.1
   rw [← hR] at s1 s2 s3 hr
   have e : ((k + 1 : Nat) : Int) - 1 = (k : Int) := by omega
   have htd : ((R : Int) * 10000 + (d : Int)).tdiv (kd : Int) = (((R * 10000 + d) / kd : Nat) : Int) := rfl
   have hle := Nat.div_le_self (R * 10000 + d) kd
   have htb : 0 ≤ ((R : Int) * 10000 + (d : Int)).tdiv (kd : Int) ∧ ((R : Int) * 10000 + (d : Int)).tdiv (kd : Int) ≤ 655369999 := by
     rw [htd]; revert hle; generalize (R * 10000 + d) / kd = Q; intro hle; omega
   rw [e]
   refine go tt [.t (by simp),.x (Zd hdk),.r 26 (eI (b := ((R * 10000 + d : Nat) : Int)) (by omega)),.r 31 (eI (b := (((R * 10000 + d) / kd : Nat) : Int)) (by rfl)),.i k,.r 35 (eI (b := (((R * 10000 + d) % kd : Nat) : Int)) (by rfl))] rfl (by simp [Qa]; omega) ?_
   exact rd (k,o.set k ((R * 10000 + d) / kd),(R * 10000 + d) % kd) (by dsimp only; omega) ⟨by dsimp only; omega,by simp [j2],j3.set (s3 hd0),by dsimp only; rw [Ck (by omega)]; simp only [Xz]; rw [j4,s1],by dsimp only; exact s2.symm⟩ (by simp [Vw,List.map_set]; rfl)
theorem Q5d (x k : Nat) : sz (x / k) ≤ sz x := Xv (Nat.div_le_self _ _)
theorem Qi4 {x y : Nat} {o : List Nat} (h : Qw x = o ++ Qw y) (h0 : y ≠ 0) : Qw x = (o ++ [y % 4294967296]) ++ Qw (y / 4294967296) := by
  rw [h,Uq h0]; simp
theorem Qzo (o : List Nat) (z : Nat) : lm (o ++ [z]) = lm o ++ [[.int .u32 (z : Int)]] := by simp [lm]
theorem Q6j {x : Nat} (hx : sz x ≤ 100000000) : Qc Tryz.prog 96 [.one (nd x)] [lr (Qw x)] := by
  have hlx := X6 hx
  refine Z6 Tryz.func96 rfl ?_
  refine go tt [.o 3 169 1] rfl trivial ?_
  refine lp (S := Nat × List Nat) 1 (fun L1 s => (0,.v (.one (nd s.1))) :: (3,.v (.one (.orow 0 1 none))) :: L1) (fun s => [.row false 169 1 (lm s.2)]) (fun s => s.1) (fun s => Qw x = s.2 ++ Qw s.1 ∧ s.1 ≤ x) (x,[]) ⟨rfl,Nat.le_refl _⟩ rfl (fun _ _ => rfl) rfl fun ⟨y,o⟩ ⟨j1,j2⟩ => ?_
  dsimp only at j1 j2 ⊢
  by_cases h0 : y = 0
  · subst h0
    rw [Zo,List.append_nil] at j1
    rw [j1]
    exact en tt [.f (by simp [Zx])] rfl rfl trivial
  · have hs := Qi4 j1 h0
    have hsy : sz y ≤ 100000000 := Nat.le_trans (Xv j2) hx
    have c1 := Qlg (x := y) (kd := 65536) hsy (by decide)
    have c2 := Qlg (x := y / 65536) (kd := 65536) (Nat.le_trans (Q5d _ _) hsy) (by decide)
    have hl : (Qx y).length ≠ 0 := fun h => h0 (M7.1 h)
    have ol : o.length ≤ (Qw x).length := by rw [j1]; simp
    have e : y / 65536 % 65536 * 65536 + y % 65536 = y % 4294967296 := by omega
    have e2 : y / 65536 / 65536 = y / 4294967296 := by omega
    refine go tt [.t (by simp; omega),.c [] c1,.c [] c2,.r 26 (Uj (b := ((y % 4294967296 : Nat) : Int)) (by omega)),.s (sz := 1) (l := [[.int .u32 ((y % 4294967296 : Nat) : Int)]]) (fun c hc => by rw [List.mem_singleton.1 hc]; rfl)] rfl (by simp [Qa,Qf]; omega) ?_
    rw [← e2] at hs
    exact rd (y / 65536 / 65536,o ++ [y % 4294967296]) (by dsimp only; omega) ⟨hs,by dsimp only; omega⟩ (by rw [Qzo]; rfl)
abbrev ri (z : Int) : List LV := [nd z.natAbs,sg z]
theorem Q7b (b : Bool) (m : Nat) : [nd m,LV.bool (b && decide (0 < m))] = ri (Qh b m) := by
  simp only [ri,sg,Xo,Iw]
theorem Q4m (x : Nat) : (0 < (Qx x).length) ↔ 0 < x := by
  have := M7 (x := x); omega
theorem Fh (b : Bool) (m : Nat) : Qc Tryz.prog 97 [.one (nd m),.one (.bool b)] [.agg (ri (Qh b m))] := by
  rw [← Q7b]
  have e := Q4m m
  cases b with
  | false => exact w tt Tryz.func97 rfl [.g 7 false rfl] rfl rfl trivial
  | true => exact w tt Tryz.func97 rfl [.g 7 true rfl] rfl (by simp [e]) trivial
theorem Vk {z : Int} : Qc Tryz.prog 139 [.agg (ri z)] [.one (.bool (decide (z = 0)))] :=
  w tt Tryz.func139 rfl [] rfl (by have h := M7 (x := z.natAbs); simp only [Xn]; congr 3; rw [decide_eq_decide]; omega) trivial
theorem Hi {z : Int} : Qc Tryz.prog 140 [.agg (ri z)] [.agg (ri (-z))] := by
  have h := Fh (!decide (z < 0)) z.natAbs
  have e : Qh (!decide (z < 0)) z.natAbs = -z := by unfold Qh; by_cases h : z < 0 <;> simp [h] <;> omega
  rw [e] at h
  exact w tt Tryz.func140 rfl [.c [] h] rfl rfl trivial
theorem Qri {z : Int} (hz : Qm z ≤ 100000000) : Qc Tryz.prog 46 [.agg (ri z)] [.agg (Zg z)] :=
  w tt Tryz.func46 rfl [.c [] (Q6j hz)] rfl rfl trivial
theorem eBo {a b : Bool} (h : a = b) : TV.one (LV.bool a) = .one (.bool b) := h ▸ rfl
theorem Fm (l : List Nat) (x : Nat) : Vw (l ++ [x]) = Vw l ++ [[.int .i64 (x : Int)]] := by simp [Vw]
theorem Qff {x y : Nat} {o : List Nat} (h : Qx x = o ++ Qx y) (h0 : y ≠ 0) : Qx x = (o ++ [y % 10000]) ++ Qx (y / 10000) := by
  rw [h,Hp h0]; simp
theorem Q3j {b : Bool} {x : Nat} (hx : x ≤ 4000000000000000000) (hb : b = true → 0 < x) : Qc Tryz.prog 49 [.one (.int .i64 (Qh b x))] [.agg (ri (Qh b x))] := by
  have hl : (Qx x).length ≤ 100 := by
    have := Yu x
    have h2 : sz x ≤ 64 := V2.2 (by omega)
    omega
  have hm := Fh b x
  refine Z6 Tryz.func49 rfl ?_
  cases b with
  |
   false =>
   show AK Tryz.prog _ _ _ (Pn 0 [.one (.int .i64 (x : Int))]) []
   refine go tt [.f (by simp <;> omega),.r 3 (eBo (b := false) (by simp)),.f rfl,.o 4 3 1] rfl trivial ?_
   refine lp (S := Nat × List Nat) 2 (fun L1 s => (0,.v (.one (.int .i64 (s.1 : Int)))) :: (4,.v (.one (.orow 1 1 none))) :: L1) (fun s => [.blk 47 [.nils,.bool false],.row false 3 1 (Vw s.2)]) (fun s => s.1) (fun s => Qx x = s.2 ++ Qx s.1 ∧ s.1 ≤ x) (x,[]) ⟨rfl,Nat.le_refl _⟩ rfl (fun _ _ => rfl) rfl fun ⟨y,o⟩ ⟨j1,j2⟩ => ?_
   dsimp only at j1 j2 ⊢
   by_cases h0 : y = 0
   · subst h0
     rw [Zx,List.append_nil] at j1
     rw [← j1]
     exact en tt [.f (by simp),.c [] hm] rfl rfl trivial
   · have hs := Qff j1 h0
     have ol : o.length ≤ (Qx x).length := by rw [j1]; simp
     refine go tt [.t (by simp; omega),.r 18 (eI (b := ((y % 10000 : Nat) : Int)) (by rfl)),.s (sz := 1) (l := [[.int .i64 ((y % 10000 : Nat) : Int)]]) (fun c hc => by rw [List.mem_singleton.1 hc]; rfl),.r 22 (eI (b := ((y / 10000 : Nat) : Int)) (by rfl))] rfl (by simp [Qa,Xn]; omega) ?_
     exact rd (y / 10000,o ++ [y % 10000]) (by dsimp only; omega) ⟨hs,by dsimp only; omega⟩ (by rw [Fm]; rfl)
  |
   true =>
   show AK Tryz.prog _ _ _ (Pn 0 [.one (.int .i64 (-(x : Int)))]) []
   refine go tt [.f (by simp <;> omega),.r 3 (eBo (b := true) (by simpa using hb rfl)),.t rfl,.r 0 (eI (b := (x : Int)) (by omega)),.o 4 3 1] rfl (by simp [Qa]; omega) ?_
   refine lp (S := Nat × List Nat) 2 (fun L1 s => (0,.v (.one (.int .i64 (s.1 : Int)))) :: (4,.v (.one (.orow 1 1 none))) :: L1) (fun s => [.blk 47 [.nils,.bool false],.row false 3 1 (Vw s.2)]) (fun s => s.1) (fun s => Qx x = s.2 ++ Qx s.1 ∧ s.1 ≤ x) (x,[]) ⟨rfl,Nat.le_refl _⟩ rfl (fun _ _ => rfl) rfl fun ⟨y,o⟩ ⟨j1,j2⟩ => ?_
   dsimp only at j1 j2 ⊢
   by_cases h0 : y = 0
   · subst h0
     rw [Zx,List.append_nil] at j1
     rw [← j1]
     exact en tt [.f (by simp),.c [] hm] rfl rfl trivial
   · have hs := Qff j1 h0
     have ol : o.length ≤ (Qx x).length := by rw [j1]; simp
     refine go tt [.t (by simp; omega),.r 18 (eI (b := ((y % 10000 : Nat) : Int)) (by rfl)),.s (sz := 1) (l := [[.int .i64 ((y % 10000 : Nat) : Int)]]) (fun c hc => by rw [List.mem_singleton.1 hc]; rfl),.r 22 (eI (b := ((y / 10000 : Nat) : Int)) (by rfl))] rfl (by simp [Qa,Xn]; omega) ?_
     exact rd (y / 10000,o ++ [y % 10000]) (by dsimp only; omega) ⟨hs,by dsimp only; omega⟩ (by rw [Fm]; rfl)
theorem Ue {n : Int} (hn : -4000000000000000000 ≤ n ∧ n ≤ 4000000000000000000) : Qc Tryz.prog 49 [.one (.int .i64 n)] [.agg (ri n)] := by
  have e : Qh (decide (n < 0)) n.natAbs = n := by unfold Qh; by_cases h : n < 0 <;> simp [h] <;> omega
  have h := Q3j (b := decide (n < 0)) (x := n.natAbs) (by omega) (fun h => by have := of_decide_eq_true h; omega)
  rwa [e] at h
end Orr
