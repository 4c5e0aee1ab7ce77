/- Ntt L1 L2 L3 L4 L5 M1 P2 M2 DigL R1 R3 -/
import Derived.Test.YtbnjginelkkonaaGreatPart03
import Derived.Laws.StructEq
import Derived.Test.YtbnjginelkkonaaGreatProg
set_option linter.all false
namespace Orr
open Go Go.Proofs
theorem Qwz (d:Nat) (x y:Int) (w:World):(Op.equalIn (d+1) 3 (.int .i64 x) (.int .i64 y)).run Tryz.prog w=.ok (decide (x=y)) w:=by
  simp [Op.equalIn,Tryz.runUnderlying3]
  rfl
def ti3:TI Tryz.prog:=P7 3 Tryz.isAgg3 Tryz.sizeOf3 Tryz.underlying3 Tryz.zeroValue3 Tryz.typeInfo3 8 rfl
def ti4:TI Tryz.prog:=P7 4 Tryz.isAgg4 Tryz.sizeOf4 Tryz.underlying4 Tryz.zeroValue4 Tryz.typeInfo4 1 rfl
def ti5:TI Tryz.prog:=P7 5 Tryz.isAgg5 Tryz.sizeOf5 Tryz.underlying5 Tryz.zeroValue5 Tryz.typeInfo5 1 rfl
def ti9:TI Tryz.prog:=P7 9 Tryz.isAgg9 Tryz.sizeOf9 Tryz.underlying9 Tryz.zeroValue9 Tryz.typeInfo9 16 rfl
def Zdz:TI Tryz.prog:=P7 22 Tryz.isAgg22 Tryz.sizeOf22 Tryz.underlying22 Tryz.zeroValue22 Tryz.typeInfo22 24 rfl
def Zd0:TI Tryz.prog:=P7 23 Tryz.isAgg23 Tryz.sizeOf23 Tryz.underlying23 Tryz.zeroValue23 Tryz.typeInfo23 8 rfl
def Zd1:TI Tryz.prog:=P7 24 Tryz.isAgg24 Tryz.sizeOf24 Tryz.underlying24 Tryz.zeroValue24 Tryz.typeInfo24 24 rfl
def Zd2:TI Tryz.prog:=P7 25 Tryz.isAgg25 Tryz.sizeOf25 Tryz.underlying25 Tryz.zeroValue25 Tryz.typeInfo25 24 rfl
def Zd3:TI Tryz.prog:=P7 26 Tryz.isAgg26 Tryz.sizeOf26 Tryz.underlying26 Tryz.zeroValue26 Tryz.typeInfo26 24 rfl
def Zd4:TI Tryz.prog:=P7 27 Tryz.isAgg27 Tryz.sizeOf27 Tryz.underlying27 Tryz.zeroValue27 Tryz.typeInfo27 24 rfl
def Zd5:TI Tryz.prog:=A0 (ks:=[1,1]) (ag:=[false,false]) 29 Tryz.isAgg29 Tryz.sizeOf29 Tryz.underlying29 Tryz.zeroValue29 Tryz.typeInfo29 32 rfl ⟨Tryz.sizeOf4,Tryz.sizeOf27,trivial⟩ ⟨Tryz.isAgg4,Tryz.isAgg27,trivial⟩ rfl
def Zd6:TI Tryz.prog:=A0 (ks:=[1,1,2]) (ag:=[false,false,true]) 31 Tryz.isAgg31 Tryz.sizeOf31 Tryz.underlying31 Tryz.zeroValue31 Tryz.typeInfo31 80 rfl ⟨Tryz.sizeOf26,Tryz.sizeOf26,Tryz.sizeOf29,trivial⟩ ⟨Tryz.isAgg26,Tryz.isAgg26,Tryz.isAgg29,trivial⟩ rfl
def ti35:TI Tryz.prog:=A0 (ks:=[4,1]) (ag:=[true,false]) 35 Tryz.isAgg35 Tryz.sizeOf35 Tryz.underlying35 Tryz.zeroValue35 Tryz.typeInfo35 88 rfl ⟨Tryz.sizeOf31,Tryz.sizeOf3,trivial⟩ ⟨Tryz.isAgg31,Tryz.isAgg3,trivial⟩ rfl
def Zd7:TI Tryz.prog:=P7 36 Tryz.isAgg36 Tryz.sizeOf36 Tryz.underlying36 Tryz.zeroValue36 Tryz.typeInfo36 8 rfl
def Zd8:TI Tryz.prog:=P7 37 Tryz.isAgg37 Tryz.sizeOf37 Tryz.underlying37 Tryz.zeroValue37 Tryz.typeInfo37 8 rfl
def Zd9:TI Tryz.prog:=A0 (ks:=[2,2]) (ag:=[true,true]) 41 Tryz.isAgg41 Tryz.sizeOf41 Tryz.underlying41 Tryz.zeroValue41 Tryz.typeInfo41 64 rfl ⟨Tryz.sizeOf29,Tryz.sizeOf29,trivial⟩ ⟨Tryz.isAgg29,Tryz.isAgg29,trivial⟩ rfl
def Zea:TI Tryz.prog:=P7 45 Tryz.isAgg45 Tryz.sizeOf45 Tryz.underlying45 Tryz.zeroValue45 Tryz.typeInfo45 24 rfl
def Zeb:TI Tryz.prog:=A0 (ks:=[1,1]) (ag:=[false,false]) 47 Tryz.isAgg47 Tryz.sizeOf47 Tryz.underlying47 Tryz.zeroValue47 Tryz.typeInfo47 32 rfl ⟨Tryz.sizeOf45,Tryz.sizeOf4,trivial⟩ ⟨Tryz.isAgg45,Tryz.isAgg4,trivial⟩ rfl
def Zec:TI Tryz.prog:=A0 (ks:=[2,2]) (ag:=[true,true]) 49 Tryz.isAgg49 Tryz.sizeOf49 Tryz.underlying49 Tryz.zeroValue49 Tryz.typeInfo49 64 rfl ⟨Tryz.sizeOf47,Tryz.sizeOf47,trivial⟩ ⟨Tryz.isAgg47,Tryz.isAgg47,trivial⟩ rfl
def Zed:TI Tryz.prog:=P7 55 Tryz.isAgg55 Tryz.sizeOf55 Tryz.underlying55 Tryz.zeroValue55 Tryz.typeInfo55 8 rfl
def Zee:TI Tryz.prog:=A0 (ks:=[1,4,4]) (ag:=[false,true,true]) 67 Tryz.isAgg67 Tryz.sizeOf67 Tryz.underlying67 Tryz.zeroValue67 Tryz.typeInfo67 152 rfl ⟨Tryz.sizeOf26,Tryz.sizeOf41,Tryz.sizeOf41,trivial⟩ ⟨Tryz.isAgg26,Tryz.isAgg41,Tryz.isAgg41,trivial⟩ rfl
def Zef:TI Tryz.prog:=P7 68 Tryz.isAgg68 Tryz.sizeOf68 Tryz.underlying68 Tryz.zeroValue68 Tryz.typeInfo68 24 rfl
def Zeg:TI Tryz.prog:=A0 (ks:=[1,9,1,1]) (ag:=[false,true,false,false]) 70 Tryz.isAgg70 Tryz.sizeOf70 Tryz.underlying70 Tryz.zeroValue70 Tryz.typeInfo70 192 rfl ⟨Tryz.sizeOf4,Tryz.sizeOf67,Tryz.sizeOf68,Tryz.sizeOf3,trivial⟩ ⟨Tryz.isAgg4,Tryz.isAgg67,Tryz.isAgg68,Tryz.isAgg3,trivial⟩ rfl
def Zeh:TI Tryz.prog:=A0 (ks:=[1]) (ag:=[false]) 72 Tryz.isAgg72 Tryz.sizeOf72 Tryz.underlying72 Tryz.zeroValue72 Tryz.typeInfo72 24 rfl ⟨Tryz.sizeOf24,trivial⟩ ⟨Tryz.isAgg24,trivial⟩ rfl
def Zei:TI Tryz.prog:=A0 (ks:=[12,1,1]) (ag:=[true,true,false]) 74 Tryz.isAgg74 Tryz.sizeOf74 Tryz.underlying74 Tryz.zeroValue74 Tryz.typeInfo74 240 rfl ⟨Tryz.sizeOf70,Tryz.sizeOf72,Tryz.sizeOf24,trivial⟩ ⟨Tryz.isAgg70,Tryz.isAgg72,Tryz.isAgg24,trivial⟩ rfl
def Zej:TI Tryz.prog:=P7 77 Tryz.isAgg77 Tryz.sizeOf77 Tryz.underlying77 Tryz.zeroValue77 Tryz.typeInfo77 24 rfl
def Zek:TI Tryz.prog:=P7 84 Tryz.isAgg84 Tryz.sizeOf84 Tryz.underlying84 Tryz.zeroValue84 Tryz.typeInfo84 24 rfl
def Zel:TI Tryz.prog:=A0 (ks:=[12,1,1,1]) (ag:=[true,true,false,false]) 86 Tryz.isAgg86 Tryz.sizeOf86 Tryz.underlying86 Tryz.zeroValue86 Tryz.typeInfo86 264 rfl ⟨Tryz.sizeOf70,Tryz.sizeOf72,Tryz.sizeOf24,Tryz.sizeOf84,trivial⟩ ⟨Tryz.isAgg70,Tryz.isAgg72,Tryz.isAgg24,Tryz.isAgg84,trivial⟩ rfl
def Zem:TI Tryz.prog:=P7 88 Tryz.isAgg88 Tryz.sizeOf88 Tryz.underlying88 Tryz.zeroValue88 Tryz.typeInfo88 8 rfl
def Zen:TI Tryz.prog:=P7 93 Tryz.isAgg93 Tryz.sizeOf93 Tryz.underlying93 Tryz.zeroValue93 Tryz.typeInfo93 24 rfl
set_option maxRecDepth 20000 in
theorem Q24 (d:Nat) (x0 x1 y0 y1:Int) (w:World):(Op.equalIn (d+1+1) 94 (.agg #[.int .i64 x0,.int .i64 x1]) (.agg #[.int .i64 y0,.int .i64 y1])).run Tryz.prog w=.ok (decide ([x0,x1]=[y0,y1])) w:=by
  rw [run_equalIn_array w (d+1) _ _ (n:=2) (e:=3) rfl rfl]
  rw [show List.range 2=[0,1] from rfl,show Tryz.prog.cellsOf 3=1 from rfl]
  simp [Op.eqItems,Go.part,Tryz.isAgg3,Qwz]
  by_cases h0:x0=y0 <;> by_cases h1:x1=y1 <;> simp [h0,h1]
theorem Q7x (a b:List Int) (ha:a.length=2) (hb:b.length=2) (w:World):(Op.equal 94 (.agg (a.map (Value.int .i64)).toArray) (.agg (b.map (Value.int .i64)).toArray)).run Tryz.prog w=.ok (decide (a=b)) w:=by
  match a,ha,b,hb with
  | [x0,x1],_,[y0,y1],_=>exact Q24 9998 x0 x1 y0 y1 w
def Zeo:TI Tryz.prog:={ tiA 94 Tryz.isAgg94 Tryz.sizeOf94 Tryz.underlying94 Tryz.zeroValue94 Tryz.typeInfo94 16 rfl Tryz.sizeOf3 with eqn:=some 2,heq:=fun k h=>by injection h with h; subst h; exact ⟨Tryz.eqGuardType94,Q7x⟩ }
def Zep:TI Tryz.prog:=A0 (ks:=[12,1,1]) (ag:=[true,true,false]) 96 Tryz.isAgg96 Tryz.sizeOf96 Tryz.underlying96 Tryz.zeroValue96 Tryz.typeInfo96 240 rfl ⟨Tryz.sizeOf70,Tryz.sizeOf72,Tryz.sizeOf24,trivial⟩ ⟨Tryz.isAgg70,Tryz.isAgg72,Tryz.isAgg24,trivial⟩ rfl
def Zeq:TI Tryz.prog:=P7 97 Tryz.isAgg97 Tryz.sizeOf97 Tryz.underlying97 Tryz.zeroValue97 Tryz.typeInfo97 24 rfl
def Zer:TI Tryz.prog:=P7 99 Tryz.isAgg99 Tryz.sizeOf99 Tryz.underlying99 Tryz.zeroValue99 Tryz.typeInfo99 24 rfl
def Zbm:TI Tryz.prog:=P7 100 Tryz.isAgg100 Tryz.sizeOf100 Tryz.underlying100 Tryz.zeroValue100 Tryz.typeInfo100 24 rfl
def Zbn:TI Tryz.prog:=A0 (ks:=[1,1,4,4]) (ag:=[false,false,true,true]) 102 Tryz.isAgg102 Tryz.sizeOf102 Tryz.underlying102 Tryz.zeroValue102 Tryz.typeInfo102 176 rfl ⟨Tryz.sizeOf99,Tryz.sizeOf100,Tryz.sizeOf49,Tryz.sizeOf49,trivial⟩ ⟨Tryz.isAgg99,Tryz.isAgg100,Tryz.isAgg49,Tryz.isAgg49,trivial⟩ rfl
def Zbo:TI Tryz.prog:=P7 103 Tryz.isAgg103 Tryz.sizeOf103 Tryz.underlying103 Tryz.zeroValue103 Tryz.typeInfo103 24 rfl
def Zbp:TI Tryz.prog:=P7 104 Tryz.isAgg104 Tryz.sizeOf104 Tryz.underlying104 Tryz.zeroValue104 Tryz.typeInfo104 24 rfl
def Zbq:TI Tryz.prog:=A0 (ks:=[10,1,1,1]) (ag:=[true,false,false,false]) 106 Tryz.isAgg106 Tryz.sizeOf106 Tryz.underlying106 Tryz.zeroValue106 Tryz.typeInfo106 232 rfl ⟨Tryz.sizeOf102,Tryz.sizeOf103,Tryz.sizeOf3,Tryz.sizeOf104,trivial⟩ ⟨Tryz.isAgg102,Tryz.isAgg103,Tryz.isAgg3,Tryz.isAgg104,trivial⟩ rfl
def Zbr:TI Tryz.prog:=A0 (ks:=[1,4,13]) (ag:=[false,true,true]) 108 Tryz.isAgg108 Tryz.sizeOf108 Tryz.underlying108 Tryz.zeroValue108 Tryz.typeInfo108 320 rfl ⟨Tryz.sizeOf97,Tryz.sizeOf49,Tryz.sizeOf106,trivial⟩ ⟨Tryz.isAgg97,Tryz.isAgg49,Tryz.isAgg106,trivial⟩ rfl
def Zbs:TI Tryz.prog:=A0 (ks:=[1,1,4]) (ag:=[false,false,true]) 110 Tryz.isAgg110 Tryz.sizeOf110 Tryz.underlying110 Tryz.zeroValue110 Tryz.typeInfo110 128 rfl ⟨Tryz.sizeOf99,Tryz.sizeOf99,Tryz.sizeOf31,trivial⟩ ⟨Tryz.isAgg99,Tryz.isAgg99,Tryz.isAgg31,trivial⟩ rfl
def Zbt:TI Tryz.prog:=A0 (ks:=[6,1]) (ag:=[true,false]) 112 Tryz.isAgg112 Tryz.sizeOf112 Tryz.underlying112 Tryz.zeroValue112 Tryz.typeInfo112 136 rfl ⟨Tryz.sizeOf110,Tryz.sizeOf3,trivial⟩ ⟨Tryz.isAgg110,Tryz.isAgg3,trivial⟩ rfl
def Zbu:TI Tryz.prog:=A0 (ks:=[1,4,13]) (ag:=[false,true,true]) 128 Tryz.isAgg128 Tryz.sizeOf128 Tryz.underlying128 Tryz.zeroValue128 Tryz.typeInfo128 320 rfl ⟨Tryz.sizeOf97,Tryz.sizeOf49,Tryz.sizeOf106,trivial⟩ ⟨Tryz.isAgg97,Tryz.isAgg49,Tryz.isAgg106,trivial⟩ rfl
def Zbv:TI Tryz.prog:=A0 (ks:=[1,4,13]) (ag:=[false,true,true]) 134 Tryz.isAgg134 Tryz.sizeOf134 Tryz.underlying134 Tryz.zeroValue134 Tryz.typeInfo134 320 rfl ⟨Tryz.sizeOf97,Tryz.sizeOf49,Tryz.sizeOf106,trivial⟩ ⟨Tryz.isAgg97,Tryz.isAgg49,Tryz.isAgg106,trivial⟩ rfl
def Zbw:TI Tryz.prog:=P7 136 Tryz.isAgg136 Tryz.sizeOf136 Tryz.underlying136 Tryz.zeroValue136 Tryz.typeInfo136 8 rfl
set_option maxRecDepth 20000 in
theorem Qwx (d:Nat) (x0 x1 x2 x3 y0 y1 y2 y3:Int) (w:World):(Op.equalIn (d+1+1) 157 (.agg #[.int .i64 x0,.int .i64 x1,.int .i64 x2,.int .i64 x3]) (.agg #[.int .i64 y0,.int .i64 y1,.int .i64 y2,.int .i64 y3])).run Tryz.prog w=.ok (decide ([x0,x1,x2,x3]=[y0,y1,y2,y3])) w:=by
  rw [run_equalIn_array w (d+1) _ _ (n:=4) (e:=3) rfl rfl]
  rw [show List.range 4=[0,1,2,3] from rfl,show Tryz.prog.cellsOf 3=1 from rfl]
  simp [Op.eqItems,Go.part,Tryz.isAgg3,Qwz]
  by_cases h0:x0=y0 <;> by_cases h1:x1=y1 <;> by_cases h2:x2=y2 <;> by_cases h3:x3=y3 <;> simp [h0,h1,h2,h3]
def Zbx:TI Tryz.prog:=tiA 157 Tryz.isAgg157 Tryz.sizeOf157 Tryz.underlying157 Tryz.zeroValue157 Tryz.typeInfo157 32 rfl Tryz.sizeOf3
set_option maxRecDepth 20000 in
theorem Qwy (d:Nat) (x x0 x1 x2 x3 y y0 y1 y2 y3:Int) (w:World):(Op.equalIn (d+1+1+1) 159 (.agg #[.int .i64 x,.int .i64 x0,.int .i64 x1,.int .i64 x2,.int .i64 x3]) (.agg #[.int .i64 y,.int .i64 y0,.int .i64 y1,.int .i64 y2,.int .i64 y3])).run Tryz.prog w=.ok (decide ([x,x0,x1,x2,x3]=[y,y0,y1,y2,y3])) w:=by
  rw [run_equalIn_struct w (d+1+1) 159 _ _ rfl Tryz.stoodInHeld159]
  have hf:(Tryz.prog.fieldsOf 159).toList=[{ name := "Kind",type:=3,offset:=0,embedded:=false,tag := "",pkgPath := "",byteOffset:=0 },{ name := "Ids",type:=157,offset:=1,embedded:=false,tag := "",pkgPath := "",byteOffset:=8 }]:=by simp [Program.fieldsOf,Tryz.underlying159]
  rw [hf]
  simp [Op.eqFields,Go.part,Tryz.isAgg3,Tryz.isAgg157,Tryz.sizeOf157,Tryz.sizeOf3,Qwz,Qwx]
  by_cases h:x=y <;> by_cases h0:x0=y0 <;> by_cases h1:x1=y1 <;> by_cases h2:x2=y2 <;> by_cases h3:x3=y3 <;> simp [h,h0,h1,h2,h3]
theorem Q23 (a b:List Int) (ha:a.length=5) (hb:b.length=5) (w:World):(Op.equal 159 (.agg (a.map (Value.int .i64)).toArray) (.agg (b.map (Value.int .i64)).toArray)).run Tryz.prog w=.ok (decide (a=b)) w:=by
  match a,ha,b,hb with
  | [x,x0,x1,x2,x3],_,[y,y0,y1,y2,y3],_=>exact Qwy 9997 x x0 x1 x2 x3 y y0 y1 y2 y3 w
def Zby:TI Tryz.prog:={ A0 (ks:=[1,4]) (ag:=[false,true]) 159 Tryz.isAgg159 Tryz.sizeOf159 Tryz.underlying159 Tryz.zeroValue159 Tryz.typeInfo159 40 rfl ⟨Tryz.sizeOf3,Tryz.sizeOf157,trivial⟩ ⟨Tryz.isAgg3,Tryz.isAgg157,trivial⟩ rfl with eqn:=some 5,heq:=fun k h=>by injection h with h; subst h; exact ⟨Tryz.eqGuardType159,Q23⟩ }
def Zbz:TI Tryz.prog:=A0 (ks:=[5,1,1]) (ag:=[true,false,false]) 161 Tryz.isAgg161 Tryz.sizeOf161 Tryz.underlying161 Tryz.zeroValue161 Tryz.typeInfo161 72 rfl ⟨Tryz.sizeOf159,Tryz.sizeOf26,Tryz.sizeOf3,trivial⟩ ⟨Tryz.isAgg159,Tryz.isAgg26,Tryz.isAgg3,trivial⟩ rfl
def Zb0:TI Tryz.prog:=A0 (ks:=[7,1,1,9]) (ag:=[true,false,false,true]) 164 Tryz.isAgg164 Tryz.sizeOf164 Tryz.underlying164 Tryz.zeroValue164 Tryz.typeInfo164 232 rfl ⟨Tryz.sizeOf161,Tryz.sizeOf4,Tryz.sizeOf4,Tryz.sizeOf67,trivial⟩ ⟨Tryz.isAgg161,Tryz.isAgg4,Tryz.isAgg4,Tryz.isAgg67,trivial⟩ rfl
def Zb1:TI Tryz.prog:=P7 169 Tryz.isAgg169 Tryz.sizeOf169 Tryz.underlying169 Tryz.zeroValue169 Tryz.typeInfo169 4 rfl
def Zb2:TI Tryz.prog:=A0 (ks:=[12,1,1]) (ag:=[true,true,false]) 182 Tryz.isAgg182 Tryz.sizeOf182 Tryz.underlying182 Tryz.zeroValue182 Tryz.typeInfo182 240 rfl ⟨Tryz.sizeOf70,Tryz.sizeOf72,Tryz.sizeOf24,trivial⟩ ⟨Tryz.isAgg70,Tryz.isAgg72,Tryz.isAgg24,trivial⟩ rfl
def Zb3:TI Tryz.prog:=P7 189 Tryz.isAgg189 Tryz.sizeOf189 Tryz.underlying189 Tryz.zeroValue189 Tryz.typeInfo189 8 rfl
def Zb4:TI Tryz.prog:=P7 192 Tryz.isAgg192 Tryz.sizeOf192 Tryz.underlying192 Tryz.zeroValue192 Tryz.typeInfo192 8 rfl
def Zb5:TI Tryz.prog:=P7 206 Tryz.isAgg206 Tryz.sizeOf206 Tryz.underlying206 Tryz.zeroValue206 Tryz.typeInfo206 24 rfl
def Zb6:TI Tryz.prog:=tiA 212 Tryz.isAgg212 Tryz.sizeOf212 Tryz.underlying212 Tryz.zeroValue212 Tryz.typeInfo212 176 rfl Tryz.sizeOf35
def Zb7:TI Tryz.prog:=P7 252 Tryz.isAgg252 Tryz.sizeOf252 Tryz.underlying252 Tryz.zeroValue252 Tryz.typeInfo252 24 rfl
def Zb8:TI Tryz.prog:=A0 (ks:=[5,1,1,1,1]) (ag:=[true,false,false,false,false]) 265 Tryz.isAgg265 Tryz.sizeOf265 Tryz.underlying265 Tryz.zeroValue265 Tryz.typeInfo265 104 rfl ⟨Tryz.sizeOf159,Tryz.sizeOf99,Tryz.sizeOf3,Tryz.sizeOf104,Tryz.sizeOf4,trivial⟩ ⟨Tryz.isAgg159,Tryz.isAgg99,Tryz.isAgg3,Tryz.isAgg104,Tryz.isAgg4,trivial⟩ rfl
def Zb9:TI Tryz.prog:=P7 278 Tryz.isAgg278 Tryz.sizeOf278 Tryz.underlying278 Tryz.zeroValue278 Tryz.typeInfo278 24 rfl
def Zca:TI Tryz.prog:=A0 (ks:=[1]) (ag:=[false]) 299 Tryz.isAgg299 Tryz.sizeOf299 Tryz.underlying299 Tryz.zeroValue299 Tryz.typeInfo299 24 rfl ⟨Tryz.sizeOf278,trivial⟩ ⟨Tryz.isAgg278,trivial⟩ rfl
def Zcb:TI Tryz.prog:=P7 303 Tryz.isAgg303 Tryz.sizeOf303 Tryz.underlying303 Tryz.zeroValue303 Tryz.typeInfo303 24 rfl
def Zcc:TI Tryz.prog:=P7 317 Tryz.isAgg317 Tryz.sizeOf317 Tryz.underlying317 Tryz.zeroValue317 Tryz.typeInfo317 24 rfl
def Zcd:TI Tryz.prog:=tiA 320 Tryz.isAgg320 Tryz.sizeOf320 Tryz.underlying320 Tryz.zeroValue320 Tryz.typeInfo320 272 rfl Tryz.sizeOf112
def Zce:TI Tryz.prog:=P7 350 Tryz.isAgg350 Tryz.sizeOf350 Tryz.underlying350 Tryz.zeroValue350 Tryz.typeInfo350 24 rfl
def Zcf:TI Tryz.prog:=P7 351 Tryz.isAgg351 Tryz.sizeOf351 Tryz.underlying351 Tryz.zeroValue351 Tryz.typeInfo351 24 rfl
def tt:TT Tryz.prog:=(.nd (.nd (.nd (.nd (.nd (.nd (.nd .nil ti3 .nil) ti4 .nil) ti5 (.nd .nil ti9 .nil)) Zdz (.nd (.nd .nil Zd0 .nil) Zd1 (.nd .nil Zd2 .nil))) Zd3 (.nd (.nd (.nd .nil Zd4 .nil) Zd5 (.nd .nil Zd6 .nil)) ti35 (.nd (.nd .nil Zd7 .nil) Zd8 (.nd .nil Zd9 .nil)))) Zea (.nd (.nd (.nd (.nd .nil Zeb .nil) Zec (.nd .nil Zed .nil)) Zee (.nd (.nd .nil Zef .nil) Zeg (.nd .nil Zeh .nil))) Zei (.nd (.nd (.nd .nil Zej .nil) Zek (.nd .nil Zel .nil)) Zem (.nd (.nd .nil Zen .nil) Zeo (.nd .nil Zep .nil))))) Zeq (.nd (.nd (.nd (.nd (.nd .nil Zer .nil) Zbm (.nd .nil Zbn .nil)) Zbo (.nd (.nd .nil Zbp .nil) Zbq (.nd .nil Zbr .nil))) Zbs (.nd (.nd (.nd .nil Zbt .nil) Zbu (.nd .nil Zbv .nil)) Zbw (.nd (.nd .nil Zbx .nil) Zby (.nd .nil Zbz .nil)))) Zb0 (.nd (.nd (.nd (.nd .nil Zb1 .nil) Zb2 (.nd .nil Zb3 .nil)) Zb4 (.nd (.nd .nil Zb5 .nil) Zb6 (.nd .nil Zb7 .nil))) Zb8 (.nd (.nd (.nd .nil Zb9 .nil) Zca (.nd .nil Zcb .nil)) Zcc (.nd (.nd .nil Zcd .nil) Zce (.nd .nil Zcf .nil))))))
instance:Mo Tryz.prog:=⟨rfl⟩
end Orr

namespace Orr
open Go Go.Proofs
set_option maxRecDepth 10000
def lm (l:List Nat):List (List LV):=l.map fun (x:Nat)=>[.int .u32 (x:Int)]
abbrev lr (l:List Nat):TV:=.one (.row (lm l))
theorem Qf (l:List Nat):(lm l).length=l.length:=by simp [lm]
theorem Zn {l:List Nat} {i x:Nat} (h:l[i]? = some x):(lm l)[i]? = some [.int .u32 (x:Int)]:=by simp [lm,h]
def trm:List Nat→List Nat
  | []=>[]
  |
   x::l=>match trm l with
   | []=>if x=0 then [] else [x]
   | r=>x::r
theorem Q48 {l:List Nat}:trm l=[]↔∀ x∈l,x=0:=by
  induction l with
  | nil=>simp [trm]
  |
   cons x l ih =>
   simp only [trm]
   split
   · rename_i e
     have h1:=ih.1 e
     by_cases h:x=0
     · simp [h]; exact h1
     · simp [h]
   · rename_i r hne
     simp only [reduceCtorEq,List.mem_cons,forall_eq_or_imp,false_iff,not_and]
     exact fun _ h=>hne (ih.2 h)
theorem Dw:∀ {l:List Nat} {n:Nat},n≤l.length→(∀ j,n≤j→j<l.length→l[j]? = some 0)→(n=0∨∃ x,l[n-1]? = some x∧x≠0)→l.take n=trm l
  | [],n,h,_,_=>by simp at h; subst h; rfl
  |
   x::l,0,h,hz,_=>by
   rw [List.take_zero]
   refine (Q48.2 fun y hy=>?_).symm
   obtain ⟨j,hj⟩:=List.mem_iff_getElem?.1 hy
   have:=hz j (Nat.zero_le _) (List.getElem?_eq_some_iff.1 hj).1
   rw [hj] at this; injection this
  |
   x::l,n+1,h,hz,ht=>by
   simp only [List.length_cons,Nat.add_le_add_iff_right] at h
   have hz':∀ j,n≤j→j<l.length→l[j]? = some 0:=fun j h1 h2=>by simpa using hz (j+1) (by omega) (by simpa using h2)
   cases n with
   |
    zero =>
    have e:trm l=[]:=(Dw (n:=0) h hz' (.inl rfl)).symm
    rcases ht with h | ⟨y,h1,h2⟩
    · omega
    · simp at h1; subst h1; simp [trm,e,h2]
   |
    succ n =>
    have ih:=Dw (n:=n+1) h hz' (.inr (by rcases ht with h | ⟨y,h1,h2⟩; (· omega); exact ⟨y,by simpa using h1,h2⟩))
    simp only [List.take_succ_cons,trm]
    rw [←ih]
    cases hl:l with
    | nil=>rw [hl] at h; simp at h
    | cons y l'=>simp [List.take_succ_cons]
theorem Zbl (l:List Nat):Qd Tryz.prog 172 [lr l] [lr (trm l)]:=by
  refine Z7 Tryz.func172 rfl (ln 0 rfl rfl fun hl=>?_)
  rw [Qf] at hl
  refine go tt [] rfl trivial ?_
  refine lp (S:=Nat) 0 (fun L1 n=>(3,.v (.one (.int .i64 (n:Int))))::L1) (fun _=>[]) id (fun n=>n≤l.length∧∀ j,n≤j→j<l.length→l[j]? = some 0) (lm l).length ⟨by rw [Qf]; exact Nat.le_refl _,fun j h1 h2=>by rw [Qf] at h1; omega⟩ rfl (fun _ _=>rfl) rfl fun n ⟨h1,h2⟩=>?_
  cases n with
  | zero=>exact en tt [.f (by simp),.f rfl,.i 0] rfl (by rw [←Dw h1 h2 (.inl rfl)]; simp [lm]) (by simp [Qa,Xf])
  |
   succ n =>
   obtain ⟨x,hx⟩:∃ x,l[n]? = some x:=⟨_,List.getElem?_eq_getElem (by omega)⟩
   by_cases h0:x=0
   · refine go tt [.t (by simp),.r 11 (v:=.one (.int .i64 (n:Int))) (by simp),.x (Zn hx),.t (by simp [h0]),.r 17 (v:=.one (.int .i64 (n:Int))) (by simp)] rfl (by simp [Qa,Xf]; omega) ?_
     exact rd n (by simp) ⟨by omega,fun j h3 h4=>by
         rcases Nat.eq_or_lt_of_le h3 with rfl | h3
         · rw [hx,h0]
         · exact h2 j h3 h4⟩ rfl
   · exact en tt [.t (by simp),.r 11 (v:=.one (.int .i64 (n:Int))) (by simp),.x (Zn hx),.f (by simp [h0]),.i (n+1)] rfl (by rw [←Dw h1 h2 (.inr ⟨x,hx,h0⟩)]; simp [lm]) (by simp [Qa,Xf,Qf] <;> omega)
def Sm (l:List Nat):Prop:=∀ x∈l,x<4294967296
theorem Qgy:∀ l:List Nat,Cut l (trm l).length∧l.take (trm l).length=trm l
  | []=>⟨⟨Nat.le_refl _,fun j _ h=>by simp at h,fun h=>by simp [trm] at h⟩,rfl⟩
  |
   x::l=>by
   obtain ⟨⟨h1,h2,h3⟩,h4⟩:=Qgy l
   simp only [trm]
   split
   · rename_i e
     rw [e] at h2 h3
     by_cases h:x=0
     · rw [if_pos h]
       refine ⟨⟨Nat.zero_le _,fun j _ hj=>?_,fun h=>by simp at h⟩,rfl⟩
       cases j with
       | zero=>simp [h]
       | succ j=>simpa using h2 j (Nat.zero_le _) (by simpa using hj)
     · rw [if_neg h]
       refine ⟨⟨by simp,fun j h5 hj=>?_,fun _=>⟨x,rfl,h⟩⟩,rfl⟩
       cases j with
       | zero=>simp at h5
       | succ j=>simpa using h2 j (Nat.zero_le _) (by simpa using hj)
   · rename_i r hne
     refine ⟨⟨by simp [h1],fun j h5 hj=>?_,fun _=>?_⟩,by simp [h4]⟩
     · cases j with
       | zero=>simp at h5
       | succ j=>simpa using h2 j (by simpa using h5) (by simpa using hj)
     · have hp:0<(trm l).length:=by
         cases e:trm l with
         | nil=>exact absurd e hne
         | cons=>simp
       obtain ⟨y,h5,h6⟩:=h3 hp
       refine ⟨y,?_,h6⟩
       rw [List.length_cons,show (trm l).length+1-1=((trm l).length-1)+1 from by omega]
       simpa using h5
theorem Qem {l:List Nat} (h:Sm l):trm l=Q4 (val l):=by
  obtain ⟨h1,h2⟩:=Qgy l
  refine Qx0 ?_ ?_
  · rw [←h2]; exact Q2w h1 h
  · rw [←h2]; exact Q2x h1
theorem Uk (x:Nat):Sm (Q4 x):=(Wq x).1
theorem X4 {x k:Nat} (h:sz x≤k):32*(Q4 x).length≤k+31:=by
  have:=Q3x (Wq x)
  rw [Zk] at this; omega
theorem Nc {l:List Nat} (h:Sm l):Qd Tryz.prog 172 [lr l] [lr (Q4 (val l))]:=Qem h ▸ Zbl l
theorem Qx1 (l:List Nat):∀ c∈lm l,c.length=1:=fun c hc=>by
  obtain ⟨x,_,rfl⟩:=List.mem_map.1 hc; rfl
theorem Nl {l:List Nat} (h:Sm l) (hs:sz (val l)≤4294967296):Qd Tryz.prog 123 [lr l] [lr (Q4 (val l))] :=
  w tt Tryz.func123 rfl [.c [] (Nc h),.s (Qx1 (Q4 (val l)))] rfl rfl (by have:=X4 hs; simp [Qa,Xf,Qf]; omega)
theorem Ll {a:List Nat} (ha:Sm a):∃ p,Qd Tryz.prog 172 [lr a] [lr p]∧Nrm p∧val p=val a∧p.length≤a.length∧p=Q4 (val a) :=
  ⟨_,Nc ha,Wq _,Zk _,by rw [←Qem ha]; exact (Qgy a).1.1,rfl⟩
theorem Quk {a b:List Nat} (ha:Sm a) (hb:Sm b):Qd Tryz.prog 216 [lr a,lr b] [.one (.int .i64 (Sb (val a) (val b)))]:=by
  refine Z7 Tryz.func216 rfl (ln 0 rfl rfl fun hl=>ln 1 rfl rfl fun hl'=>?_)
  rw [Qf] at hl hl'
  obtain ⟨p,ca,np,vp,lp',_⟩:=Ll ha
  obtain ⟨q,cb,nq,vq,lq,_⟩:=Ll hb
  rw [←vp,←vq]
  by_cases h:p.length=q.length
  · refine go tt [.c [] ca,.c [] cb,.f (by simp [Qf,h])] rfl (by simp [Qa,Xf,Qf] <;> omega) ?_
    refine lp (S:=Int) 0 (fun L1 i=>(5,.v (.one (.int .i64 i)))::L1) (fun _=>[]) (fun i=>(i+1).toNat) (fun i=>-1≤i∧i<p.length∧p.drop (i+1).toNat=q.drop (i+1).toNat) (((lm p).length:Int)-1) ⟨by omega,by simp [Qf]; omega,by simp [Qf,h]⟩ rfl (fun _ _=>rfl) rfl fun i ⟨h1,h2,h3⟩=>?_
    rcases Int.lt_or_le i 0 with hi | hi
    · obtain rfl:i=-1:=by omega
      exact en tt [.f (by decide)] rfl (by rw [Qoz]; exact congrArg val (by simpa using h3)) trivial
    · obtain ⟨k,rfl⟩:=Int.eq_ofNat_of_zero_le hi
      have e:((k:Int)+1).toNat=k+1:=by omega
      rw [e] at h3
      obtain ⟨x,hx⟩:∃ x,p[k]? = some x:=⟨_,List.getElem?_eq_getElem (by omega)⟩
      obtain ⟨y,hy⟩:∃ y,q[k]? = some y:=⟨_,List.getElem?_eq_getElem (by omega)⟩
      rcases Nat.lt_trichotomy x y with hxy | rfl | hxy
      · exact en tt [.t (by simp),.x (Zn hx),.x (Zn hy),.t (by simp; omega)] rfl (by rw [Ic (Qrn np.1 h3 hx hy hxy)]) (by simp [Qa,Xf,Qf] <;> omega)
      · refine go tt [.t (by simp),.x (Zn hx),.x (Zn hy),.f (by simp),.x (Zn hx),.x (Zn hy),.f (by simp)] rfl (by simp [Qa,Xf,Qf] <;> omega) ?_
        exact rd ((k:Int)-1) (by omega) ⟨by omega,by omega,by rw [show ((k:Int)-1+1).toNat=k from by omega]; exact Qss h3 hx hy⟩ rfl
      · exact en tt [.t (by simp),.x (Zn hx),.x (Zn hy),.f (by simp; omega),.x (Zn hx),.x (Zn hy),.t (by simp; omega)] rfl (by rw [Ib (Qrn nq.1 h3.symm hy hx hxy)]) (by simp [Qa,Xf,Qf] <;> omega)
  · by_cases h2:p.length<q.length
    · exact en tt [.c [] ca,.c [] cb,.t (by simp [Qf]; omega),.t (by simp [Qf]; omega)] rfl (by rw [Ic (W7 np nq h2)]) (by simp [Qa,Xf])
    · exact en tt [.c [] ca,.c [] cb,.t (by simp [Qf]; omega),.f (by simp [Qf]; omega)] rfl (by rw [Ib (W7 nq np (by omega))]) (by simp [Qa,Xf])
end Orr

namespace Orr
open Go Go.Proofs
set_option maxRecDepth 10000
theorem Bi (m:Nat):List.replicate m [LV.int .u32 0]=lm (List.replicate m 0):=by simp [lm]
theorem Ks (l:List Nat) (i x:Nat):(lm l).set i [.int .u32 (x:Int)]=lm (l.set i x):=by simp [lm,List.map_set]
theorem W3 {a b:Int} (h:a=b):TV.one (LV.int .u64 a)=.one (.int .u64 b):=h ▸ rfl
theorem Uz {a b:Int} (h:a=b):TV.one (LV.int .u32 a)=.one (.int .u32 b):=h ▸ rfl
theorem eI {a b:Int} (h:a=b):TV.one (LV.int .i64 a)=.one (.int .i64 b):=h ▸ rfl
theorem w32 (z:Int):IntKind.u32.wrap z=z % 4294967296:=by simp [IntKind.wrap,IntKind.bits,IntKind.signed]
theorem w64 (z:Int):IntKind.u64.wrap z=z % 18446744073709551616:=by simp [IntKind.wrap,IntKind.bits,IntKind.signed]
theorem Q5p {a b:List Nat} (ha:Sm a) (hb:Sm b) (h1:sz (val a)≤4294967296) (h2:sz (val b)≤4294967296):Qd Tryz.prog 166 [lr a,lr b] [lr (Q4 (val a+val b))]:=by
  refine Z7 Tryz.func166 rfl ?_
  obtain ⟨p,ca,np,vp,_,ep⟩:=Ll ha
  obtain ⟨q,cb,nq,vq,_,eq⟩:=Ll hb
  have lp':=X4 h1
  have lq:=X4 h2
  rw [←ep] at lp'
  rw [←eq] at lq
  rw [←vp,←vq]
  refine go tt [.c [] ca,.c [] cb] rfl trivial ?_
  refine ct 1 (S:=List Nat×List Nat) (fun s=>[(0,.v (lr s.1)),(1,.v (lr s.2))]) (fun _=>[]) (fun s=>Nrm s.1∧Nrm s.2∧32*s.1.length≤4294967327∧s.2.length≤s.1.length∧val s.1+val s.2=val p+val q) rfl ?_ ?_
  · by_cases h:p.length<q.length
    · exact go tt [.t (by simp [Qf]; omega)] rfl trivial (rc (q,p) ⟨nq,np,lq,Nat.le_of_lt h,Nat.add_comm _ _⟩ rfl)
    · exact go tt [.f (by simp [Qf]; omega)] rfl trivial (rc (p,q) ⟨np,nq,lp',Nat.le_of_not_lt h,rfl⟩ rfl)
  · intro ⟨p',q'⟩ ⟨np,nq,hp,hq,e⟩
    dsimp only at np nq hp hq e
    rw [←e]
    clear ca cb e vp vq ep eq
    refine go tt [.i ((lm p').length+1),.i ((lm p').length+1)] rfl (by simp [Qa,Xf,Qf] <;> omega) ?_
    rw [Bi]
    refine lp (S:=Nat×List Nat×Nat) 1 (fun L1 s=>(27,.v (.one (.int .i64 (s.1:Int))))::(6,.v (.one (.int .u64 (s.2.2:Int))))::L1) (fun s=>[.row false 169 1 (lm s.2.1)]) (fun s=>p'.length-s.1)
      (fun s=>s.1≤p'.length∧s.2.1.length=p'.length+1∧Sm s.2.1∧s.2.2≤1∧val (s.2.1.take s.1)+s.2.2*4294967296^s.1=val (p'.take s.1)+val (q'.take s.1)) (0,List.replicate ((lm p').length+1) 0,0)
      ⟨Nat.zero_le _,by simp [Qf],fun x hx=>by rw [List.eq_of_mem_replicate hx]; decide,Nat.zero_le _,by simp [val]⟩ rfl (fun _ _=>rfl) rfl fun ⟨i,o,c⟩ ⟨j1,j2,j3,j4,j5⟩=>?_
    dsimp only at j1 j2 j3 j4 j5 ⊢
    by_cases hi:i<p'.length
    · obtain ⟨x,hx⟩:∃ x,p'[i]? = some x:=⟨_,List.getElem?_eq_getElem hi⟩
      have xb:=np.1 x (List.mem_of_getElem? hx)
      have fin:∀ y s,(q'[i]? = some y∨q'.length≤i∧y=0)→y<4294967296→s=x+c+y→p'.length-(i+1)<p'.length-i∧i+1≤p'.length∧(o.set i (s % 4294967296)).length=p'.length+1∧Sm (o.set i (s % 4294967296))∧s / 4294967296≤1 ∧
          val ((o.set i (s % 4294967296)).take (i+1))+s / 4294967296*4294967296^(i+1)=val (p'.take (i+1))+val (q'.take (i+1)):=fun y s hy hyb hs =>
        ⟨by omega,hi,by simp [j2],V6 j3 i _ (by omega),by omega,Qhh (by omega) hx hy j5 hs⟩
      by_cases hi2:i<q'.length
      · obtain ⟨y,hy⟩:∃ y,q'[i]? = some y:=⟨_,List.getElem?_eq_getElem hi2⟩
        have yb:=nq.1 y (List.mem_of_getElem? hy)
        refine go tt [.t (by simp [Qf]; omega),.x (Zn hx),.t (by simp [Qf]; omega),.x (Zn hy),.w 2,.r 50 (v:=.one (.int .u32 (((x+c+y) % 4294967296:Nat):Int))) (by simp [IntKind.wrap,IntKind.bits,IntKind.signed]),.i 32,.r 52 (v:=.one (.int .u64 (((x+c+y) / 4294967296:Nat):Int))) (by simp),.i i] rfl (by simp [Qa,Xf,Qf,IntKind.bits] <;> omega) ?_
        rw [Ks]
        exact rd (i+1,o.set i ((x+c+y) % 4294967296),(x+c+y) / 4294967296) (fin y _ (.inl hy) yb rfl).1 (fin y _ (.inl hy) yb rfl).2 rfl
      · refine go tt [.t (by simp [Qf]; omega),.x (Zn hx),.f (by simp [Qf]; omega),.w 0,.r 50 (v:=.one (.int .u32 (((x+c+0) % 4294967296:Nat):Int))) (by simp [IntKind.wrap,IntKind.bits,IntKind.signed]),.i 32,.r 52 (v:=.one (.int .u64 (((x+c+0) / 4294967296:Nat):Int))) (by simp),.i i] rfl (by simp [Qa,Xf,Qf,IntKind.bits] <;> omega) ?_
        rw [Ks]
        exact rd (i+1,o.set i ((x+c+0) % 4294967296),(x+c+0) / 4294967296) (fin 0 _ (.inr ⟨by omega,rfl⟩) (by decide) rfl).1 (fin 0 _ (.inr ⟨by omega,rfl⟩) (by decide) rfl).2 rfl
    · obtain rfl:i=p'.length:=by omega
      refine go tt [.f (by simp [Qf]),.w 0,.r 59 (v:=.one (.int .u32 (c:Int))) (by simp [IntKind.wrap,IntKind.bits,IntKind.signed]; omega),.i (lm p').length] rfl (by simp [Qa,Xf,Qf,j2]) ?_
      rw [Qf,Ks]
      have e:val (o.set p'.length c)=val p'+val q':=by
        have h1:=Tx o p'.length c (by omega)
        rw [List.take_of_length_le (by simp; omega)] at h1
        rw [List.take_of_length_le (Nat.le_refl _),List.take_of_length_le hq] at j5
        rw [h1,←j5,Nat.mul_comm]
      rw [←e]
      exact en tt [.c [] (Nc (V6 j3 _ c (by omega)))] rfl rfl trivial
theorem Qh2 {x y:Nat}:Sb x y<0↔x<y:=by unfold Sb; split <;> (try split) <;> omega
theorem Q5s {a b:List Nat} (ha:Sm a) (hb:Sm b) (h1:sz (val a)≤4294967296):Qd Tryz.prog 167 [lr a,lr b] (if val b≤val a then [lr (Q4 (val a-val b)),.one (.bool true)] else [lr [],.one (.bool false)]):=by
  refine Z7 Tryz.func167 rfl ?_
  obtain ⟨p,ca,np,vp,_,ep⟩:=Ll ha
  obtain ⟨q,cb,nq,vq,_,_⟩:=Ll hb
  have hp:=X4 h1
  rw [←ep] at hp
  rw [←vp,←vq]
  have cc:=Quk np.1 nq.1
  by_cases hlt:val p<val q
  · rw [if_neg (by omega)]
    exact en tt [.c [] ca,.c [] cb,.c [] cc,.t (by simpa using Qh2.2 hlt)] rfl rfl trivial
  rw [if_pos (by omega)]
  have hq:q.length≤p.length:=Nat.le_of_not_lt fun h=>hlt (W7 np nq h)
  refine go tt [.c [] ca,.c [] cb,.c [] cc,.f (by have:=mt Qh2.1 hlt; simpa using this),.i (lm p).length,.i (lm p).length] rfl (by simp [Qa,Xf,Qf] <;> omega) ?_
  rw [Bi]
  refine lp (S:=Nat×List Nat×Nat) 1 (fun L1 s=>(24,.v (.one (.int .i64 (s.1:Int))))::(7,.v (.one (.int .u64 (s.2.2:Int))))::L1) (fun s=>[.row false 169 1 (lm s.2.1)]) (fun s=>p.length-s.1)
    (fun s=>s.1≤p.length∧s.2.1.length=p.length∧Sm s.2.1∧s.2.2≤1∧val (s.2.1.take s.1)+val (q.take s.1)=val (p.take s.1)+s.2.2*4294967296^s.1) (0,List.replicate (lm p).length 0,0)
    ⟨Nat.zero_le _,by simp [Qf],fun x hx=>by rw [List.eq_of_mem_replicate hx]; decide,Nat.zero_le _,by simp [val]⟩ rfl (fun _ _=>rfl) rfl fun ⟨i,o,c⟩ ⟨j1,j2,j3,j4,j5⟩=>?_
  dsimp only at j1 j2 j3 j4 j5 ⊢
  by_cases hi:i<p.length
  · obtain ⟨x,hx⟩:∃ x,p[i]? = some x:=⟨_,List.getElem?_eq_getElem hi⟩
    have xb:=np.1 x (List.mem_of_getElem? hx)
    have fin:∀ y s,(q[i]? = some y∨q.length≤i∧y=0)→y<4294967296→s=(x+18446744073709551616-c-y) % 18446744073709551616→p.length-(i+1)<p.length-i∧i+1≤p.length∧(o.set i (s % 4294967296)).length=p.length∧Sm (o.set i (s % 4294967296))∧s / 9223372036854775808≤1 ∧
        val ((o.set i (s % 4294967296)).take (i+1))+val (q.take (i+1))=val (p.take (i+1))+s / 9223372036854775808*4294967296^(i+1):=fun y s hy hyb hs=>by
      obtain ⟨h1,h2⟩:=Q0i (o:=o) (by omega) hx hy xb hyb j4 j5 hs
      exact ⟨by omega,hi,by simp [j2],V6 j3 i _ (by omega),h2,h1⟩
    by_cases hi2:i<q.length
    · obtain ⟨y,hy⟩:∃ y,q[i]? = some y:=⟨_,List.getElem?_eq_getElem hi2⟩
      have yb:=nq.1 y (List.mem_of_getElem? hy)
      obtain ⟨s,hs⟩:∃ s,s=(x+18446744073709551616-c-y) % 18446744073709551616:=⟨_,rfl⟩
      refine go tt [.t (by simp [Qf]; omega),.x (Zn hx),.w 1,.r 32 (W3 (b:=(((x+18446744073709551616-c) % 18446744073709551616:Nat):Int)) (by rw [w64]; omega)),.t (by simp [Qf]; omega),.x (Zn hy),.w 1,.r 43 (W3 (b:=(s:Int)) (by rw [w64]; omega)),.w 0,.r 47 (Uz (b:=((s % 4294967296:Nat):Int)) (by rw [w32]; omega)),.i 63,.r 49 (W3 (b:=((s / 9223372036854775808:Nat):Int)) (by simp)),.i i] rfl (by simp [Qa,Xf,Qf,IntKind.bits] <;> omega) ?_
      rw [Ks]
      exact rd (i+1,o.set i (s % 4294967296),s / 9223372036854775808) (fin y _ (.inl hy) yb hs).1 (fin y _ (.inl hy) yb hs).2 rfl
    · obtain ⟨s,hs⟩:∃ s,s=(x+18446744073709551616-c-0) % 18446744073709551616:=⟨_,rfl⟩
      have hf:=fin 0 _ (.inr ⟨by omega,rfl⟩) (by decide) hs
      refine go tt [.t (by simp [Qf]; omega),.x (Zn hx),.w 1,.r 32 (W3 (b:=(s:Int)) (by rw [w64]; omega)),.f (by simp [Qf]; omega),.w 0,.r 47 (Uz (b:=((s % 4294967296:Nat):Int)) (by rw [w32]; omega)),.i 63,.r 49 (W3 (b:=((s / 9223372036854775808:Nat):Int)) (by simp)),.i i] rfl (by simp [Qa,Xf,Qf,IntKind.bits] <;> omega) ?_
      rw [Ks]
      exact rd (i+1,o.set i (s % 4294967296),s / 9223372036854775808) hf.1 hf.2 rfl
  · obtain rfl:i=p.length:=by omega
    have e:val o=val p-val q:=by
      rw [List.take_of_length_le (Nat.le_of_eq j2),List.take_of_length_le hq,List.take_of_length_le (Nat.le_refl _)] at j5
      have h1:=Us o j3
      rw [j2] at h1
      rcases Nat.le_one_iff_eq_zero_or_eq_one.1 j4 with rfl | rfl <;> omega
    rw [←e]
    exact en tt [.f (by simp [Qf]),.c [] (Nc j3)] rfl rfl trivial
theorem Q98 {a b:List Nat} (ha:Sm a) (hb:Sm b) (h1:sz (val a)≤4294967296) (h2:sz (val b)≤4294967296):Qd Tryz.prog 232 [lr a,lr b] [lr (Q4 (val a*val b))]:=by
  refine Z7 Tryz.func232 rfl ?_
  obtain ⟨p,ca,np,vp,_,ep⟩:=Ll ha
  obtain ⟨q,cb,nq,vq,_,eq⟩:=Ll hb
  have hp:=X4 h1
  have hq:=X4 h2
  rw [←ep] at hp
  rw [←eq] at hq
  rw [←vp,←vq]
  refine go tt [.c [] ca,.c [] cb,.i ((lm p).length+(lm q).length),.i ((lm p).length+(lm q).length)] rfl (by simp [Qa,Xf,Qf] <;> omega) ?_
  rw [Bi]
  refine lp (S:=Nat×List Nat) 1 (fun L1 s=>(24,.v (.one (.int .i64 (s.1:Int))))::L1) (fun s=>[.row false 169 1 (lm s.2)]) (fun s=>p.length-s.1)
    (fun s=>s.1≤p.length∧s.2.length=p.length+q.length∧Sm s.2∧(∀ j,s.1+q.length≤j→j<s.2.length→s.2[j]? = some 0)∧val s.2=val (p.take s.1)*val q) (0,List.replicate ((lm p).length+(lm q).length) 0)
    ⟨Nat.zero_le _,by simp [Qf],fun x hx=>by rw [List.eq_of_mem_replicate hx]; decide,fun j _ hj=>by rw [List.getElem?_replicate,if_pos (by simpa using hj)],by simp [val,Ev]⟩ rfl (fun _ _=>rfl) rfl fun ⟨i,o⟩ ⟨j1,j2,j3,j4,j5⟩=>?_
  dsimp only at j1 j2 j3 j4 j5 ⊢
  by_cases hi:i<p.length
  · obtain ⟨x,hx⟩:∃ x,p[i]? = some x:=⟨_,List.getElem?_eq_getElem hi⟩
    have xb:=np.1 x (List.mem_of_getElem? hx)
    refine go tt [.t (by simp [Qf]; omega),.x (Zn hx)] rfl trivial ?_
    refine lp (S:=Nat×List Nat×Nat) 1 (fun L1 s=>(31,.v (.one (.int .i64 (s.1:Int))))::(8,.v (.one (.int .u64 (s.2.2:Int))))::L1) (fun s=>[.row false 169 1 (lm s.2.1)]) (fun s=>q.length-s.1)
      (fun s=>s.1≤q.length∧s.2.1.length=p.length+q.length∧Sm s.2.1∧(∀ j,i+q.length≤j→j<s.2.1.length→s.2.1[j]? = some 0)∧s.2.2<4294967296∧val s.2.1+s.2.2*4294967296^(i+s.1)=val (p.take i)*val q+4294967296^i*x*val (q.take s.1)) (0,o,0)
      ⟨Nat.zero_le _,j2,j3,j4,by simp,by simp [val,j5]⟩ rfl (fun _ _=>rfl) rfl fun ⟨k,o',c⟩ ⟨k1,k2,k3,k4,k5,k6⟩=>?_
    dsimp only at k1 k2 k3 k4 k5 k6 ⊢
    by_cases hk:k<q.length
    · obtain ⟨y,hy⟩:∃ y,q[k]? = some y:=⟨_,List.getElem?_eq_getElem hk⟩
      have yb:=nq.1 y (List.mem_of_getElem? hy)
      obtain ⟨z,hz⟩:∃ z,o'[i+k]? = some z:=⟨_,List.getElem?_eq_getElem (by omega)⟩
      have zb:=k3 z (List.mem_of_getElem? hz)
      have hm:=Pn xb yb
      have hm2:(x:Int)*(y:Int)=((x*y:Nat):Int):=by push_cast; rfl
      obtain ⟨s,hs⟩:∃ s,s=x*y+z+c:=⟨_,rfl⟩
      refine go tt [.t (by simp [Qf]; omega),.x (Zn hy),.r 40 (W3 (b:=((x*y:Nat):Int)) (by push_cast; rfl)),.i (i+k),.x (Zn hz),.r 50 (W3 (b:=(s:Int)) (by omega)),.w 1,.r 56 (Uz (b:=((s % 4294967296:Nat):Int)) (by rw [w32]; omega)),.i 32,.r 58 (W3 (b:=((s / 4294967296:Nat):Int)) (by simp)),.i (i+k)] rfl ?_ ?_
      · simp [Qa,Xf,Qf,IntKind.bits] <;> omega
      · rw [Ks]
        exact rd (k+1,o'.set (i+k) (s % 4294967296),s / 4294967296) (show q.length-(k+1)<q.length-k by omega) ⟨hk,by simp [k2],V6 k3 _ _ (by omega),fun j h3 h4=>by
          rw [List.getElem?_set_ne (by omega)]; exact k4 j h3 (by simpa using h4),(show s / 4294967296<4294967296 from by omega),Qx9 hz hy k6 hs⟩ rfl
    · obtain rfl:k=q.length:=by omega
      by_cases hq0:0<q.length
      · refine go tt [.f (by simp [Qf]),.t (by simp [Qf]; omega),.w 1,.r 70 (Uz (b:=((c % 4294967296:Nat):Int)) (by rw [w32]; omega)),.i (i+(lm q).length)] rfl (by simp [Qa,Xf,Qf,IntKind.bits] <;> omega) ?_
        rw [Ks]
        refine rd (i+1,o'.set (i+(lm q).length) (c % 4294967296)) (show p.length-(i+1)<p.length-i by omega) ⟨hi,by simp [k2],V6 k3 _ _ (by omega),fun j h3 h4=>?_,?_⟩ rfl
        · rw [Qf,List.getElem?_set_ne (by dsimp only at h3; omega)]
          exact k4 j (by dsimp only at h3; omega) (by simpa using h4)
        · rw [Qf]
          exact Qx8 (k4 _ (Nat.le_refl _) (by omega)) hx k5 rfl k6
      · have q0:q=[]:=List.eq_nil_of_length_eq_zero (by omega)
        refine go tt [.f (by simp [Qf]),.f (by simp [Qf,q0])] rfl (by simp [Qa,Xf,Qf,IntKind.bits] <;> omega) ?_
        refine rd (i+1,o') (show p.length-(i+1)<p.length-i by omega) ⟨hi,k2,k3,fun j h3 h4=>k4 j (by dsimp only at h3; omega) h4,?_⟩ rfl
        have c0:c*4294967296^(i+q.length)=0∧val o'=0:=by
          subst q0
          simp only [val,List.take_nil,Nat.mul_zero] at k6
          omega
        rw [c0.2,q0]; rfl
  · obtain rfl:i=p.length:=by omega
    rw [List.take_of_length_le (Nat.le_refl _)] at j5
    rw [←j5]
    exact en tt [.f (by simp [Qf]),.c [] (Nc j3)] rfl rfl trivial
end Orr

namespace Orr
open Go Go.Proofs
set_option maxRecDepth 10000
theorem o64 {k q:Nat} (hq:q<4294967296) (hb:4294967296*k+q<18446744073709551616):orI .u64 ((4294967296*k:Nat):Int) (q:Int)=((4294967296*k+q:Nat):Int):=by
  have e1:(BitVec.ofInt 64 ((4294967296*k:Nat):Int)).toNat=4294967296*k:=by rw [BitVec.toNat_ofInt]; omega
  have e2:(BitVec.ofInt 64 (q:Int)).toNat=q:=by rw [BitVec.toNat_ofInt]; omega
  show IntKind.u64.wrap ((BitVec.ofInt 64 ((4294967296*k:Nat):Int) ||| BitVec.ofInt 64 (q:Int)).toNat:Int)=_
  rw [BitVec.toNat_or,e1,e2,Q8r hq,w64]; omega
theorem oM {k p:Nat} (hp:p<4294967296) (hb:4294967296*k+p<18446744073709551616):orI .u64 (p:Int) ((4294967296*k:Nat):Int)=((4294967296*k+p:Nat):Int):=by
  have:=o64 hp hb
  unfold orI at this ⊢
  rw [BitVec.or_comm]; exact this
theorem o32 {s k p:Nat} (hp:p<2^s) (h1:p<4294967296) (h2:2^s*k<4294967296) (hb:p+2^s*k<4294967296):orI .u32 (p:Int) ((2^s*k:Nat):Int)=((p+2^s*k:Nat):Int):=by
  have e1:(BitVec.ofInt 32 ((2^s*k:Nat):Int)).toNat=2^s*k:=by rw [BitVec.toNat_ofInt]; omega
  have e2:(BitVec.ofInt 32 (p:Int)).toNat=p:=by rw [BitVec.toNat_ofInt]; omega
  have e3:p ||| 2^s*k=p+2^s*k:=by
    have:=Nat.two_pow_add_eq_or_of_lt (i:=s) (b:=p) hp k
    rw [Nat.or_comm,←this,Nat.add_comm]
  show IntKind.u32.wrap ((BitVec.ofInt 32 (p:Int) ||| BitVec.ofInt 32 ((2^s*k:Nat):Int)).toNat:Int)=_
  rw [BitVec.toNat_or,e1,e2,e3,w32]; omega
theorem Zai {l:List Nat} {v:Nat} (hl:Sm l) (hn:l.length<274877906944) (h0:0<v) (hv:v<4294967296):Qd Tryz.prog 219 [lr l,.one (.int .u32 (v:Int))] [lr (Q4 (val l / v)),.one (.int .u32 ((val l % v:Nat):Int))]:=by
  refine Z7 Tryz.func219 rfl ?_
  refine go tt [.i (lm l).length,.i (lm l).length] rfl (by simp [Qa,Xf,Qf] <;> omega) ?_
  rw [Bi]
  refine lp (S:=Int×List Nat×Nat) 1 (fun L1 s=>(8,.v (.one (.int .i64 s.1)))::(7,.v (.one (.int .u64 (s.2.2:Int))))::L1) (fun s=>[.row false 169 1 (lm s.2.1)]) (fun s=>(s.1+1).toNat)
    (fun s=>-1≤s.1∧s.1<l.length∧s.2.1.length=l.length∧Sm s.2.1∧s.2.2<v∧val (l.drop (s.1+1).toNat)=v*val (s.2.1.drop (s.1+1).toNat)+s.2.2) (((lm l).length:Int)-1,List.replicate (lm l).length 0,0)
    ⟨by simp [Qf]; omega,by simp [Qf]; omega,by simp [Qf],fun x hx=>by rw [List.eq_of_mem_replicate hx]; decide,h0,by simp [Qf,val]⟩ rfl (fun _ _=>rfl) rfl fun ⟨i,o,r⟩ ⟨j1,j2,j3,j4,j5,j6⟩=>?_
  dsimp only at j1 j2 j3 j4 j5 j6 ⊢
  rcases Int.lt_or_le i 0 with hi | hi
  · obtain rfl:i=-1:=by omega
    simp only [show ((-1:Int)+1).toNat=0 from rfl,List.drop_zero] at j6
    have e1:val l / v=val o:=by rw [j6,Nat.mul_add_div h0,Nat.div_eq_of_lt j5,Nat.add_zero]
    have e2:val l % v=r:=by rw [j6,Nat.mul_add_mod,Nat.mod_eq_of_lt j5]
    rw [e1,e2]
    exact en tt [.f (by decide),.c [] (Nc j4)] rfl rfl (by simp [Qa,Xf,Qf,IntKind.bits] <;> omega)
  · obtain ⟨k,rfl⟩:=Int.eq_ofNat_of_zero_le hi
    have e:((k:Int)+1).toNat=k+1:=by omega
    rw [e] at j6
    obtain ⟨x,hx⟩:∃ x,l[k]? = some x:=⟨_,List.getElem?_eq_getElem (by omega)⟩
    have xb:=hl x (List.mem_of_getElem? hx)
    obtain ⟨s,hs⟩:∃ s,s=r*4294967296+x:=⟨_,rfl⟩
    obtain ⟨k1,k2,k3⟩:=Qyk hx xb (show k<o.length by omega) h0 j5 j6 hs
    obtain ⟨q,hq⟩:∃ q,q=s / v:=⟨_,rfl⟩
    obtain ⟨u,hu⟩:∃ u,u=s % v:=⟨_,rfl⟩
    have hqi:(s:Int).tdiv v=(q:Int):=by rw [Int.tdiv_eq_ediv_of_nonneg (by omega),hq]; rfl
    have hui:(s:Int).tmod v=(u:Int):=by rw [Int.tmod_eq_emod_of_nonneg (by omega),hu]; rfl
    rw [←hq,←hu] at k3
    rw [←hq] at k1
    rw [←hu] at k2
    refine go tt [.t (by simp),.i 32,.r 21 (W3 (b:=((4294967296*r:Nat):Int)) (by omega)),.x (Zn hx),.r 27 (W3 (b:=(s:Int)) (by rw [o64 xb (by omega)]; omega)),
      .r 33 (W3 (b:=(q:Int)) hqi),.w 0,.r 34 (Uz (b:=((q % 4294967296:Nat):Int)) (by rw [w32]; omega)),.r 38 (W3 (b:=(u:Int)) hui),.i k] rfl (by simp [Qa,Xf,Qf,IntKind.bits,hqi] <;> omega) ?_
    rw [Ks]
    exact rd ((k:Int)-1,o.set k (q % 4294967296),u) (by dsimp only; omega) ⟨by dsimp only; omega,by dsimp only; omega,by simp [j3],V6 j4 _ _ (by omega),k2,by dsimp only; rw [show ((k:Int)-1+1).toNat=k from by omega]; exact k3⟩ rfl
theorem By {i:Nat} {s:ByteArray} (h:∀ i,i<256→(s[i]?).map (·.toNat)=some (sz i)) (hi:i<256):(s[i]?).map (·.toNat)=some (sz i):=h i hi
set_option maxRecDepth 100000 in
theorem Qob {x:Nat} (hx:x<4294967296):Qd Tryz.prog 262 [.one (.int .u32 (x:Int))] [.one (.int .i64 (sz x:Int))]:=by
  refine Z7 Tryz.func262 rfl ?_
  have h31:sz x≤32:=Kg.2 (by omega)
  by_cases h1:65536≤x
  · have e1:sz x=16+sz (x / 2^16):=Dq (by omega)
    obtain ⟨y,hy⟩:∃ y,y=x / 2^16:=⟨_,rfl⟩
    rw [←hy] at e1
    by_cases h2:256≤y
    · have e2:sz y=8+sz (y / 2^8):=Dq (by omega)
      obtain ⟨z,hz⟩:∃ z,z=y / 2^8:=⟨_,rfl⟩
      rw [←hz] at e2
      exact en tt [.t (by simp; omega),.i 16,.r 6 (Uz (b:=(y:Int)) (by simp [hy])),.t (by simp; omega),.i 8,.r 10 (Uz (b:=(z:Int)) (by simp [hz])),.y (By (i:=z) (by decide) (by omega))] rfl (by rw [e1,e2]; simp; omega) (by simp [Qa,Xf,IntKind.bits] <;> omega)
    · exact en tt [.t (by simp; omega),.i 16,.r 6 (Uz (b:=(y:Int)) (by simp [hy])),.f (by simp; omega),.y (By (i:=y) (by decide) (by omega))] rfl (by rw [e1]; simp) (by simp [Qa,Xf,IntKind.bits] <;> omega)
  · by_cases h2:256≤x
    · have e2:sz x=8+sz (x / 2^8):=Dq (by omega)
      obtain ⟨z,hz⟩:∃ z,z=x / 2^8:=⟨_,rfl⟩
      rw [←hz] at e2
      exact en tt [.f (by simp; omega),.t (by simp; omega),.i 8,.r 10 (Uz (b:=(z:Int)) (by simp [hz])),.y (By (i:=z) (by decide) (by omega))] rfl (by rw [e2]; simp) (by simp [Qa,Xf,IntKind.bits] <;> omega)
    · exact en tt [.f (by simp; omega),.f (by simp; omega),.y (By (i:=x) (by decide) (by omega))] rfl (by simp) (by simp [Qa,Xf,IntKind.bits] <;> omega)
theorem Q67 {x:Nat} (hx:x<4294967296):Qd Tryz.prog 220 [.one (.int .u32 (x:Int))] [.one (.int .i64 ((32-sz x:Nat):Int))]:=by
  have h31:sz x≤32:=Kg.2 (by omega)
  exact w tt Tryz.func220 rfl [.c [] (Qob hx)] rfl (by simp; omega) (by simp [Qa,Xf] <;> omega)
theorem Qk9 {l:List Nat} (hl:Sm l) (hs:sz (val l)≤4294967296):Qd Tryz.prog 266 [lr l] [.one (.int .i64 (sz (val l):Int))]:=by
  refine Z7 Tryz.func266 rfl ?_
  obtain ⟨p,ca,np,vp,_,ep⟩:=Ll hl
  have hp:=X4 hs
  rw [←ep] at hp
  rw [←vp] at hs ⊢
  by_cases h0:p=[]
  · subst h0
    exact en tt [.c [] ca,.t (by simp [lm])] rfl rfl (by simp [Qa,Xf])
  · have hpl:0<p.length:=List.length_pos_iff.2 h0
    obtain ⟨x,hx,hx0⟩:=np.2 h0
    have xb:=np.1 x (List.mem_of_getElem? hx)
    have e:=Qnq np hx
    have h31:sz x≤32:=Kg.2 (by omega)
    have hn:(lm p).length≠0:=by rw [Qf]; omega
    refine en tt [.c [] ca,.f (by simp [Qf]; omega),.r 15 (eI (b:=((p.length-1:Nat):Int)) (by rw [Qf]; omega)),.x (Zn hx),.c [] (Qob xb)] rfl (by rw [e,Qf]; simp; omega) (by simp [Qa,Xf,Qf] <;> omega)
theorem Qj1 {s:Nat} (h:s≤31):((s:Nat):Int).tdiv 32=((0:Nat):Int):=by
  rw [Int.tdiv_eq_ediv_of_nonneg (by omega)]; omega
theorem Qzj {s:Nat} (h:s≤31):((s:Nat):Int).tmod 32=(s:Int):=Int.tmod_eq_of_lt (by omega) (by omega)
theorem Q8k {s:Nat} (h:s≤31):max 0 (min (s:Int) 65536)=(s:Int):=by omega
theorem Zae {a:List Nat} {s:Nat} (ha:Sm a) (h1:sz (val a)≤4294967400) (hs:s≤31):Qd Tryz.prog 263 [lr a,.one (.int .i64 (s:Int))] [lr (Q4 (val a*2^s))]:=by
  refine Z7 Tryz.func263 rfl ?_
  obtain ⟨p,ca,np,vp,_,ep⟩:=Ll ha
  have hp:=X4 h1
  rw [←ep] at hp
  rw [←vp]
  have hq:((s:Nat):Int).tdiv 32=0:=Qj1 hs
  by_cases h0:p=[]
  · subst h0
    exact en tt [.c [] ca,.t (by simp [lm])] rfl (by simp [val,Zs,lm]) (by simp [Qa,Xf])
  have hpl:0<p.length:=List.length_pos_iff.2 h0
  refine go tt [.c [] ca,.r 15 (eI (b:=(s:Int)) (Q8k hs)),.f (by simp [Qf]; omega),.r 20 (eI (b:=((0:Nat):Int)) (Qj1 hs)),.r 22 (eI (b:=(s:Int)) (Qzj hs)),.r 28 (eI (b:=(((lm p).length+1:Nat):Int)) (by omega)),.i ((lm p).length+1),.i ((lm p).length+1)] rfl (by have e:=Qf p; simp only [Qa,Xf]; omega) ?_
  rw [Bi]
  refine lp (S:=Nat×List Nat) 1 (fun L1 s=>(32,.v (.one (.int .i64 (s.1:Int))))::L1) (fun s=>[.row false 169 1 (lm s.2)]) (fun s=>p.length-s.1)
    (fun r=>r.1≤p.length∧r.2.length=p.length+1∧Sm r.2∧(∃ z,r.2[r.1]? = some z∧z<2^s)∧val (r.2.take (r.1+1))=val (p.take r.1)*2^s) (0,List.replicate ((lm p).length+1) 0)
    ⟨Nat.zero_le _,by simp [Qf],fun x hx=>by rw [List.eq_of_mem_replicate hx]; decide,⟨0,by simp,Nat.pow_pos (by decide)⟩,by simp [val,List.replicate_succ]⟩ rfl (fun _ _=>rfl) rfl fun ⟨i,o⟩ ⟨j1,j2,j3,⟨z,hz,hzs⟩,j5⟩=>?_
  dsimp only at j1 j2 j3 hz hzs j5 ⊢
  by_cases hi:i<p.length
  · obtain ⟨x,hx⟩:∃ x,p[i]? = some x:=⟨_,List.getElem?_eq_getElem hi⟩
    have xb:=np.1 x (List.mem_of_getElem? hx)
    have zb:=j3 z (List.mem_of_getElem? hz)
    obtain ⟨k1,k2,k3,k4⟩:=Qz7 hs hx xb hz hzs (by omega) j5
    have hxs:=Q83 hs xb
    have h31:2^s≤2^31:=Nat.pow_le_pow_right (by decide) hs
    have ec:(x:Int)*2^s=((x*2^s:Nat):Int):=by push_cast; rfl
    obtain ⟨m,hm⟩:∃ m,m=x*2^s:=⟨_,rfl⟩
    rw [←hm] at k1 k2 k3 k4 hxs ec
    refine go tt [.t (by simp [Qf]; omega),.x (Zn hx),.i s,.r 40 (W3 (b:=(m:Int)) ec),.i i,.x (Zn hz),.w 0,.r 52 (Uz (b:=((m % 4294967296:Nat):Int)) (by rw [w32]; omega)),.r 53 (Uz (b:=((z+m % 4294967296:Nat):Int)) (by rw [k4,o32 hzs zb (by omega) (by omega)])),.i i,
      .i 32,.r 61 (W3 (b:=((m / 2^32:Nat):Int)) (by simp)),.w 0,.r 62 (Uz (b:=((m / 2^32 % 4294967296:Nat):Int)) (by rw [w32]; omega)),.i (i+1)] rfl (by simp [Qa,Xf,Qf,IntKind.bits,ec] <;> omega) ?_
    rw [Ks,Ks]
    exact rd (i+1,(o.set i (z+m % 4294967296)).set (i+1) (m / 2^32 % 4294967296)) (show p.length-(i+1)<p.length-i by omega) ⟨hi,by simp [j2],V6 (V6 j3 _ _ (by omega)) _ _ (by omega),⟨_,by rw [List.getElem?_set_self (by simp; omega)],by omega⟩,k3⟩ rfl
  · obtain rfl:i=p.length:=by omega
    rw [List.take_of_length_le (by omega),List.take_of_length_le (Nat.le_refl _)] at j5
    rw [←j5]
    exact en tt [.f (by simp [Qf]),.c [] (Nc j3)] rfl rfl trivial
theorem Zaf {a:List Nat} {s:Nat} (ha:Sm a) (h1:sz (val a)≤4294967400) (hs:s≤31):Qd Tryz.prog 223 [lr a,.one (.int .i64 (s:Int))] [lr (Q4 (val a / 2^s))]:=by
  refine Z7 Tryz.func223 rfl ?_
  obtain ⟨p,ca,np,vp,_,ep⟩:=Ll ha
  have hp:=X4 h1
  rw [←ep] at hp
  rw [←vp]
  have hq:((s:Nat):Int).tdiv 32=0:=Qj1 hs
  by_cases h0:p=[]
  · subst h0
    exact en tt [.c [] ca,.r 14 (eI (b:=(s:Int)) (Q8k hs)),.r 16 (eI (b:=((0:Nat):Int)) (Qj1 hs)),.r 18 (eI (b:=(s:Int)) (Qzj hs)),.t (by simp [lm])] rfl (by simp [val,Zs,lm]) (by simp only [Qa,Xf]; omega)
  have hpl:0<p.length:=List.length_pos_iff.2 h0
  refine go tt [.c [] ca,.r 14 (eI (b:=(s:Int)) (Q8k hs)),.r 16 (eI (b:=((0:Nat):Int)) (Qj1 hs)),.r 18 (eI (b:=(s:Int)) (Qzj hs)),.f (by simp [Qf]; omega),.r 27 (eI (b:=((lm p).length:Int)) (by omega)),.i (lm p).length,.i (lm p).length] rfl (by have e:=Qf p; simp only [Qa,Xf]; omega) ?_
  rw [Bi]
  refine lp (S:=Nat×List Nat) 1 (fun L1 s=>(31,.v (.one (.int .i64 (s.1:Int))))::L1) (fun s=>[.row false 169 1 (lm s.2)]) (fun s=>p.length-s.1)
    (fun r=>r.1≤p.length∧r.2.length=p.length∧Sm r.2∧val (r.2.take r.1)=val p / 2^s % 4294967296^r.1) (0,List.replicate (lm p).length 0)
    ⟨Nat.zero_le _,by simp [Qf],fun x hx=>by rw [List.eq_of_mem_replicate hx]; decide,by simp [val]; omega⟩ rfl (fun _ _=>rfl) rfl fun ⟨i,o⟩ ⟨j1,j2,j3,j5⟩=>?_
  dsimp only at j1 j2 j3 j5 ⊢
  by_cases hi:i<p.length
  · obtain ⟨x,hx⟩:∃ x,p[i]? = some x:=⟨_,List.getElem?_eq_getElem hi⟩
    have xb:=np.1 x (List.mem_of_getElem? hx)
    have fin:∀ y m,(p[i+1]? = some y∨p.length≤i+1∧y=0)→m=(x+y*2^32) / 2^s→p.length-(i+1)<p.length-i∧i+1≤p.length∧(o.set i (m % 4294967296)).length=p.length∧Sm (o.set i (m % 4294967296))∧val ((o.set i (m % 4294967296)).take (i+1))=val p / 2^s % 4294967296^(i+1):=fun y m hy hm =>
      ⟨by omega,hi,by simp [j2],V6 j3 _ _ (by omega),by subst hm; exact Qz8 hs hx hy (by omega) np.1 j5⟩
    have hsp:0<2^s:=Nat.pow_pos (by decide)
    by_cases hy0:i+1<p.length
    · obtain ⟨y,hy⟩:∃ y,p[i+1]? = some y:=⟨_,List.getElem?_eq_getElem hy0⟩
      have yb:=np.1 y (List.mem_of_getElem? hy)
      obtain ⟨v,hv⟩:∃ v,v=4294967296*y+x:=⟨_,rfl⟩
      obtain ⟨m,hm⟩:∃ m,m=v / 2^s:=⟨_,rfl⟩
      have hml:m≤v:=hm ▸ Nat.div_le_self _ _
      have hf:=fin y m (.inl hy) (by rw [hm,hv]; congr 1; omega)
      refine go tt [.t (by simp [Qf]; omega),.x (Zn hx),.t (by simp [Qf]; omega),.x (Zn hy),.i 32,.r 57 (W3 (b:=((4294967296*y:Nat):Int)) (by omega)),.r 58 (W3 (b:=(v:Int)) (by rw [oM xb (by omega)]; omega)),
        .i s,.r 63 (W3 (b:=(m:Int)) (by rw [hm]; push_cast; rfl)),.w 0,.r 64 (Uz (b:=((m % 4294967296:Nat):Int)) (by rw [w32]; omega)),.i i] rfl (by simp [Qa,Xf,Qf,IntKind.bits] <;> omega) ?_
      rw [Ks]
      exact rd (i+1,o.set i (m % 4294967296)) hf.1 hf.2 rfl
    · obtain ⟨m,hm⟩:∃ m,m=x / 2^s:=⟨_,rfl⟩
      have hml:m≤x:=hm ▸ Nat.div_le_self _ _
      have hf:=fin 0 m (.inr ⟨by omega,rfl⟩) (by rw [hm]; simp)
      refine go tt [.t (by simp [Qf]; omega),.x (Zn hx),.f (by simp [Qf]; omega),
        .i s,.r 63 (W3 (b:=(m:Int)) (by rw [hm]; push_cast; rfl)),.w 0,.r 64 (Uz (b:=((m % 4294967296:Nat):Int)) (by rw [w32]; omega)),.i i] rfl (by simp [Qa,Xf,Qf,IntKind.bits] <;> omega) ?_
      rw [Ks]
      exact rd (i+1,o.set i (m % 4294967296)) hf.1 hf.2 rfl
  · obtain rfl:i=p.length:=by omega
    have hvl:=Us p np.1
    rw [List.take_of_length_le (by omega),Nat.mod_eq_of_lt (Nat.lt_of_le_of_lt (Nat.div_le_self _ _) hvl)] at j5
    rw [←j5]
    exact en tt [.f (by simp [Qf,j2]),.c [] (Nc j3)] rfl rfl trivial
end Orr

namespace Orr
open Go Go.Proofs
set_option maxRecDepth 10000
def dgs:Nat→Nat→List Nat
  | 0,_=>[]
  | k+1,v=>v % 4294967296::dgs k (v / 4294967296)
theorem Qwm:∀ {l:List Nat},Sm l→l=dgs l.length (val l)
  | [],_=>rfl
  |
   x::l,h=>by
   have hx:=h x (.head _)
   have ih:=Qwm (l:=l) fun y hy=>h y (.tail _ hy)
   simp only [List.length_cons,dgs,val]
   rw [show (x+4294967296*val l) % 4294967296=x by omega,show (x+4294967296*val l) / 4294967296=val l by omega,←ih]
theorem Qlx {l:List Nat} {k v:Nat} (h:Sm l) (hk:l.length=k) (hv:val l=v):dgs k v=l:=by
  rw [←hk,←hv]; exact (Qwm h).symm
theorem Qe7:∀ {k v:Nat},(dgs k v).length=k∧Sm (dgs k v)∧(v<4294967296^k→val (dgs k v)=v)
  | 0,v=>⟨rfl,fun x hx=>by (cases hx),fun h=>by simp at h; subst h; rfl⟩
  |
   k+1,v=>by
   obtain ⟨h1,h2,h3⟩:=Qe7 (k:=k) (v:=v / 4294967296)
   refine ⟨by simp [dgs,h1],fun x hx=>?_,fun h=>?_⟩
   · rcases List.mem_cons.1 hx with rfl | hx
     · exact Nat.mod_lt _ (by decide)
     · exact h2 x hx
   · simp only [dgs,val]
     rw [h3 (by rw [Nat.pow_succ] at h; exact Nat.div_lt_of_lt_mul (by rw [Nat.mul_comm]; exact h))]
     omega
theorem Qv7 {a:List Nat} {s n:Nat} (ha:Sm a) (h1:sz (val a)≤4294967400) (hs:s≤31) (hn:n<274877906944) (h0:0<n) (hv:val a*2^s<4294967296^n) :
    Zw Tryz.prog 221 [lr a,.one (.int .i64 (s:Int)),.one (.int .i64 (n:Int))] [] [.one (.orow 0 1 none)] [.row false 169 1 (lm (dgs n (val a*2^s)))]:=by
  refine Z7 Tryz.func221 rfl ?_
  obtain ⟨v,hvv⟩:∃ v,v=val a*2^s:=⟨_,rfl⟩
  have cs:=Zae ha h1 hs
  rw [←hvv] at cs hv ⊢
  have hl:(Q4 v).length≤n:=by
    apply Classical.byContradiction
    intro hh
    have h2:=C3 (Wq v) (fun e=>by rw [e] at hh; simp at hh)
    rw [Zk] at h2
    have h3:4294967296^n≤4294967296^((Q4 v).length-1):=Nat.pow_le_pow_right (by decide) (by omega)
    omega
  refine go tt [.i n,.i n,.c [] cs,.s (Qx1 (Q4 v)),.i (Q4 v).length] rfl (by simp [Qa,Xf,Qf] <;> omega) ?_
  have e:List.take 0 (List.replicate n [LV.int .u32 0])++(List.take (Q4 v).length (lm (Q4 v))++List.drop (0+(Q4 v).length) (List.replicate n [LV.int .u32 0]))=lm (dgs n v):=by
    rw [Qlx (l:=Q4 v++List.replicate (n-(Q4 v).length) 0) (fun x hx=>?_) (by simp; omega) (by rw [V7,Ev,Zk]; simp)]
    · rw [List.take_zero,List.nil_append,List.take_of_length_le (by rw [Qf]; exact Nat.le_refl _)]
      simp [lm]
    · rcases List.mem_append.1 hx with hx | hx
      · exact Uk v x hx
      · rw [List.eq_of_mem_replicate hx]; decide
  rw [e]
  exact ed tt [] [0] [] rfl trivial
theorem Qcg {pre x post:List Nat} {i u:Nat} (h:x[i]? = some u):(lm (pre++x++post))[pre.length+i]? = some [.int .u32 (u:Int)]:=Zn (by
  have hi:=(List.getElem?_eq_some_iff.1 h).1
  rw [List.append_assoc,List.getElem?_append_right (by omega),Nat.add_sub_cancel_left,List.getElem?_append_left hi]; exact h)
theorem Q0w {pre x post:List Nat} {i v:Nat} (h:i<x.length):(lm (pre++x++post)).set (pre.length+i) [.int .u32 (v:Int)]=lm (pre++x.set i v++post):=by
  rw [Ks,List.append_assoc,List.set_append_right _ _ (by omega),Nat.add_sub_cancel_left,List.set_append_left _ _ h,←List.append_assoc]
theorem Q2a {pre x post ly:List Nat} {top nx xn x1 x2:Nat} (D:Dig x ly ly.length top nx xn x1 x2) (hn:ly.length<274877906944) :
    Zw Tryz.prog 222 [.one (.orow 0 1 (some (pre.length,x.length))),lr ly] [.row true 169 1 (lm (pre++x++post))] [.one (.int .u32 ((val x / val ly:Nat):Int))] [.row true 169 1 (lm (pre++dgs x.length (val x % val ly)++post))]:=by
  refine Z7 Tryz.func222 rfl ?_
  have hxl:=D.hx
  have hn2:=D.hn
  have hb:=D.bnd
  obtain ⟨head,hh⟩:∃ head,head=xn*2^32+x1:=⟨_,rfl⟩
  obtain ⟨g0,hg0⟩:∃ g,g=head / top:=⟨_,rfl⟩
  obtain ⟨r0,hr0⟩:∃ r,r=head % top:=⟨_,rfl⟩
  have hst:=D.start
  rw [←hh,←hg0] at hst
  have ht0:=D.top0
  have hg0l:g0≤head:=hg0 ▸ Nat.div_le_self _ _
  have hr0l:r0<top:=hr0 ▸ Nat.mod_lt _ ht0
  have htd:(head:Int).tdiv top=(g0:Int):=by rw [Int.tdiv_eq_ediv_of_nonneg (by omega),hg0]; rfl
  have htm:(head:Int).tmod top=(r0:Int):=by rw [Int.tmod_eq_emod_of_nonneg (by omega),hr0]; rfl
  refine go tt [.r 23 (eI (b:=(ly.length:Int)) (by rw [Qf])),.r 26 (eI (b:=((ly.length-1:Nat):Int)) (by omega)),.x (Zn D.ltop),.r 32 (eI (b:=((ly.length-2:Nat):Int)) (by omega)),.x (Zn D.lnx),
    .i ly.length,.x (Qcg D.xn),.i 32,.r 41 (W3 (b:=((4294967296*xn:Nat):Int)) (by omega)),.r 44 (eI (b:=((ly.length-1:Nat):Int)) (by omega)),.i (ly.length-1),.x (Qcg D.x1),.r 48 (W3 (b:=(head:Int)) (by rw [o64 hb.2.2.2.1 (by omega)]; omega)),
    .r 51 (W3 (b:=(g0:Int)) htd),.r 54 (W3 (b:=(r0:Int)) htm)] rfl ?_ ?_
  · simp only [Qa,Xf,htd,IntKind.bits]; omega
  refine ct 2 (S:=Nat) (fun g=>[(0,.v (.one (.orow 0 1 (some (pre.length,x.length))))),(1,.v (lr ly)),(5,.v (.one (.int .i64 (ly.length:Int)))),(9,.v (.one (.int .u64 (g:Int))))]) (fun _=>[.row true 169 1 (lm (pre++x++post))]) (fun g=>val x / val ly≤g∧(g-1)*val ly≤val x∧g≤4294967296) rfl ?_ ?_
  · refine lp (S:=Nat×Nat) 1 (fun L1 s=>(9,.v (.one (.int .u64 (s.1:Int))))::(10,.v (.one (.int .u64 (s.2:Int))))::L1) (fun _=>[.row true 169 1 (lm (pre++x++post))]) (fun s=>4294967296-s.2)
      (fun s=>s.1*top+s.2=xn*2^32+x1∧val x / val ly≤s.1∧s.2<4294967296∧s.1<18446744073709551616) (g0,r0)
      ⟨by rw [←hh,hg0,hr0,Nat.mul_comm]; exact Nat.div_add_mod _ _,hst,by dsimp only; omega,by dsimp only; omega⟩ rfl (fun _ _=>rfl) rfl fun ⟨g,r⟩ ⟨j1,j2,j3,j4⟩=>?_
    dsimp only at j1 j2 j3 j4 ⊢
    by_cases hge:4294967296≤g
    · have hrd:=D.round j1 j2 (.inl hge)
      by_cases h2:4294967296≤r+top
      · exact go tt [.t (by simp; omega),.t rfl,.r 73 (W3 (b:=((g-1:Nat):Int)) (by omega)),.t (by simp; omega)] rfl (by simp [Qa,Xf] <;> omega) (rc (g-1) ⟨hrd.2.1,(hrd.2.2.2 h2).1,(hrd.2.2.2 h2).2⟩ rfl)
      · exact go tt [.t (by simp; omega),.t rfl,.r 73 (W3 (b:=((g-1:Nat):Int)) (by omega)),.f (by simp; omega)] rfl (by simp [Qa,Xf] <;> omega) (rd (g-1,r+top) (by dsimp only; omega) ⟨hrd.2.2.1,hrd.2.1,by dsimp only; omega,by dsimp only; omega⟩ rfl)
    · have hgn:=Pn (x:=g) (y:=nx) (by omega) hb.2.1
      by_cases hc:r*2^32+x2<g*nx
      · have hrd:=D.round j1 j2 (.inr hc)
        have e1:(g:Int)*(nx:Int)=((g*nx:Nat):Int):=by push_cast; rfl
        obtain ⟨m,hm⟩:∃ m,m=g*nx:=⟨_,rfl⟩
        rw [←hm] at e1 hgn hc
        by_cases h2:4294967296≤r+top
        · exact go tt [.f (by simp; omega),.r 60 (W3 (b:=(m:Int)) e1),.i 32,.r 62 (W3 (b:=((4294967296*r:Nat):Int)) (by omega)),.r 65 (eI (b:=((ly.length-2:Nat):Int)) (by omega)),.i (ly.length-2),.x (Qcg D.x2),.r 69 (W3 (b:=((4294967296*r+x2:Nat):Int)) (o64 hb.2.2.2.2 (by omega))),.t (by simp; omega),.r 73 (W3 (b:=((g-1:Nat):Int)) (by omega)),.t (by simp; omega)] rfl (by simp only [Qa,Xf,e1,IntKind.bits]; omega) (rc (g-1) ⟨hrd.2.1,(hrd.2.2.2 h2).1,(hrd.2.2.2 h2).2⟩ rfl)
        · exact go tt [.f (by simp; omega),.r 60 (W3 (b:=(m:Int)) e1),.i 32,.r 62 (W3 (b:=((4294967296*r:Nat):Int)) (by omega)),.r 65 (eI (b:=((ly.length-2:Nat):Int)) (by omega)),.i (ly.length-2),.x (Qcg D.x2),.r 69 (W3 (b:=((4294967296*r+x2:Nat):Int)) (o64 hb.2.2.2.2 (by omega))),.t (by simp; omega),.r 73 (W3 (b:=((g-1:Nat):Int)) (by omega)),.f (by simp; omega)] rfl (by simp only [Qa,Xf,e1,IntKind.bits]; omega) (rd (g-1,r+top) (by dsimp only; omega) ⟨hrd.2.2.1,hrd.2.1,by dsimp only; omega,by dsimp only; omega⟩ rfl)
      · have hf:=D.fin j1 (by omega) (by omega)
        have e1:(g:Int)*(nx:Int)=((g*nx:Nat):Int):=by push_cast; rfl
        obtain ⟨m,hm⟩:∃ m,m=g*nx:=⟨_,rfl⟩
        rw [←hm] at e1 hgn hc
        exact go tt [.f (by simp; omega),.r 60 (W3 (b:=(m:Int)) e1),.i 32,.r 62 (W3 (b:=((4294967296*r:Nat):Int)) (by omega)),.r 65 (eI (b:=((ly.length-2:Nat):Int)) (by omega)),.i (ly.length-2),.x (Qcg D.x2),.r 69 (W3 (b:=((4294967296*r+x2:Nat):Int)) (o64 hb.2.2.2.2 (by omega))),.f (by simp; omega)] rfl (by simp only [Qa,Xf,e1,IntKind.bits]; omega) (rc g ⟨j2,hf,by omega⟩ rfl)
  · intro g ⟨q1,q2,q3⟩
    refine go tt [.r 80 (eI (b:=(ly.length:Int)) (by rw [Qf]))] rfl trivial ?_
    refine lp (S:=Nat×List Nat×Nat×Nat) 1 (fun L1 s=>(81,.v (.one (.int .i64 (s.1:Int))))::(11,.v (.one (.int .u64 (s.2.2.1:Int))))::(12,.v (.one (.int .u64 (s.2.2.2:Int))))::L1) (fun s=>[.row true 169 1 (lm (pre++s.2.1++post))]) (fun s=>ly.length-s.1)
      (fun s=>s.1≤ly.length∧s.2.1.length=ly.length+1∧Sm s.2.1∧s.2.2.2≤1∧s.2.2.1<4294967296∧val (s.2.1.take s.1)+g*val (ly.take s.1)=val (x.take s.1)+(s.2.2.1+s.2.2.2)*4294967296^s.1∧s.2.1.drop s.1=x.drop s.1) (0,x,0,0)
      ⟨Nat.zero_le _,hxl,D.xb,Nat.zero_le _,by simp,by simp [val],rfl⟩ rfl (fun _ _=>rfl) rfl fun ⟨i,o,cy,bw⟩ ⟨j1,j2,j3,j4,j5,j6,j7⟩=>?_
    dsimp only at j1 j2 j3 j4 j5 j6 j7 ⊢
    by_cases hi:i<ly.length
    · obtain ⟨w1,hw1⟩:∃ y,ly[i]? = some y:=⟨_,List.getElem?_eq_getElem hi⟩
      obtain ⟨u,hu⟩:∃ y,x[i]? = some y:=⟨_,List.getElem?_eq_getElem (by omega)⟩
      have wb:=D.lb w1 (List.mem_of_getElem? hw1)
      have ub:=D.xb u (List.mem_of_getElem? hu)
      have hou:=(Ce j7).trans hu
      have hgw:g*w1≤18446744069414584320:=by
        have:=Nat.mul_le_mul q3 (show w1≤4294967295 by omega)
        omega
      obtain ⟨s,hs⟩:∃ s,s=((u+18446744073709551616-(g*w1+cy) % 4294967296) % 18446744073709551616+18446744073709551616-bw) % 18446744073709551616:=⟨_,rfl⟩
      have hstep:=Qf1 (o:=o) (by omega) hu hw1 ub j4 j6 rfl hs
      have e1:(g:Int)*(w1:Int)=((g*w1:Nat):Int):=by push_cast; rfl
      obtain ⟨m,hm⟩:∃ m,m=g*w1:=⟨_,rfl⟩
      rw [←hm] at e1 hgw hs hstep
      obtain ⟨p,hp⟩:∃ p,p=m+cy:=⟨_,rfl⟩
      rw [←hp] at hs hstep
      refine go tt [.t (by simp; omega),.x (Zn hw1),.r 89 (W3 (b:=(m:Int)) e1),.r 91 (W3 (b:=(p:Int)) (by omega)),.i 32,.r 93 (W3 (b:=((p / 2^32:Nat):Int)) (by simp)),.i i,.x (Qcg hou),.w 1,.r 100 (Uz (b:=((p % 4294967296:Nat):Int)) (by rw [w32]; omega)),.w 1,.r 102 (W3 (b:=(((u+18446744073709551616-p % 4294967296) % 18446744073709551616:Nat):Int)) (by rw [w64]; omega)),.w 0,.r 104 (W3 (b:=(s:Int)) (by rw [w64]; omega)),
        .w 0,.r 108 (Uz (b:=((s % 4294967296:Nat):Int)) (by rw [w32]; omega)),.i 63,.r 110 (W3 (b:=((s / 2^63:Nat):Int)) (by simp)),.i i] rfl (by simp only [Qa,Xf,e1,IntKind.bits,Qf,List.length_append]; omega) ?_
      rw [Q0w (by omega)]
      exact rd (i+1,o.set i (s % 4294967296),p / 2^32,s / 2^63) (by dsimp only; omega) ⟨hi,by simp [j2],V6 j3 _ _ (by omega),hstep.2,by dsimp only; omega,hstep.1,Qcw j7⟩ rfl
    · obtain rfl:i=ly.length:=by omega
      have hon:=(Ce j7).trans D.xn
      rw [List.take_of_length_le (l:=ly) (Nat.le_refl _)] at j6
      obtain ⟨s,hs⟩:∃ s,s=((xn+18446744073709551616-cy) % 18446744073709551616+18446744073709551616-bw) % 18446744073709551616:=⟨_,rfl⟩
      obtain ⟨oa,hoa⟩:∃ oa,oa=o.set ly.length (s % 4294967296):=⟨_,rfl⟩
      have oal:oa.length=ly.length+1:=by rw [hoa,List.length_set]; exact j2
      have oab:Sm oa:=hoa ▸ V6 j3 _ _ (by omega)
      by_cases hs0:s / 2^63=0
      · have hf:=D.fin0 j2 j5 j4 q1 j6 hs hs0
        refine go tt [.f (by simp),.i ly.length,.x (Qcg hon),.w 1,.r 119 (W3 (b:=(((xn+18446744073709551616-cy) % 18446744073709551616:Nat):Int)) (by rw [w64]; omega)),.w 0,.r 121 (W3 (b:=(s:Int)) (by rw [w64]; omega)),.w 0,.r 125 (Uz (b:=((s % 4294967296:Nat):Int)) (by rw [w32]; omega)),.i ly.length,.i 63,.r 128 (W3 (b:=((s / 2^63:Nat):Int)) (by simp)),.t (by simp; omega),.w 0,.r 131 (Uz (b:=((val x / val ly:Nat):Int)) (by rw [w32]; omega))] rfl (by simp only [Qa,Xf,IntKind.bits,Qf,List.length_append]; omega) ?_
        rw [Q0w (by omega),←Qlx (l:=o.set ly.length (s % 4294967296)) (k:=x.length) (hoa ▸ oab) (by rw [←hoa,oal,hxl]) hf.2]
        exact ed tt [] [0] [] rfl trivial
      · have hf:=D.fin1 j2 j3 j5 j4 q2 j6 hs hs0
        rw [←hoa] at hf
        obtain ⟨v1,hv1⟩:∃ y,oa[ly.length]? = some y:=⟨_,List.getElem?_eq_getElem (by omega)⟩
        refine go tt [.f (by simp),.i ly.length,.x (Qcg hon),.w 1,.r 119 (W3 (b:=(((xn+18446744073709551616-cy) % 18446744073709551616:Nat):Int)) (by rw [w64]; omega)),.w 0,.r 121 (W3 (b:=(s:Int)) (by rw [w64]; omega)),.w 0,.r 125 (Uz (b:=((s % 4294967296:Nat):Int)) (by rw [w32]; omega)),.i ly.length,.i 63,.r 128 (W3 (b:=((s / 2^63:Nat):Int)) (by simp)),.f (by simp; omega),.r 133 (eI (b:=(ly.length:Int)) (by rw [Qf]))] rfl (by simp only [Qa,Xf,IntKind.bits,Qf,List.length_append]; omega) ?_
        rw [Q0w (by omega),←hoa]
        refine lp (S:=Nat×List Nat×Nat) 1 (fun L1 s=>(134,.v (.one (.int .i64 (s.1:Int))))::(18,.v (.one (.int .u64 (s.2.2:Int))))::L1) (fun s=>[.row true 169 1 (lm (pre++s.2.1++post))]) (fun s=>ly.length-s.1)
          (fun s=>s.1≤ly.length∧s.2.1.length=ly.length+1∧Sm s.2.1∧s.2.2≤1∧val (s.2.1.take s.1)+s.2.2*4294967296^s.1=val (oa.take s.1)+val (ly.take s.1)∧s.2.1.drop s.1=oa.drop s.1) (0,oa,0)
          ⟨Nat.zero_le _,oal,oab,Nat.zero_le _,by simp [val],rfl⟩ rfl (fun _ _=>rfl) rfl fun ⟨j,o2,bk⟩ ⟨r1,r2,r3,r4,r5,r6⟩=>?_
        dsimp only at r1 r2 r3 r4 r5 r6 ⊢
        by_cases hj:j<ly.length
        · obtain ⟨w1,hw1⟩:∃ y,ly[j]? = some y:=⟨_,List.getElem?_eq_getElem hj⟩
          obtain ⟨u,hu⟩:∃ y,oa[j]? = some y:=⟨_,List.getElem?_eq_getElem (by omega)⟩
          have wb:=D.lb w1 (List.mem_of_getElem? hw1)
          have ub:=oab u (List.mem_of_getElem? hu)
          have hou:=(Ce r6).trans hu
          obtain ⟨m,hm⟩:∃ m,m=u+bk+w1:=⟨_,rfl⟩
          have hstep:=Qhh (o:=o2) (by omega) hu (.inl hw1) r5 hm
          refine go tt [.t (by simp; omega),.x (Zn hw1),.i j,.x (Qcg hou),.r 148 (W3 (b:=(m:Int)) (by omega)),.w 0,.r 152 (Uz (b:=((m % 4294967296:Nat):Int)) (by rw [w32]; omega)),.i 32,.r 154 (W3 (b:=((m / 4294967296:Nat):Int)) (by simp)),.i j] rfl (by simp only [Qa,Xf,IntKind.bits,Qf,List.length_append]; omega) ?_
          rw [Q0w (by omega)]
          exact rd (j+1,o2.set j (m % 4294967296),m / 4294967296) (by dsimp only; omega) ⟨hj,by simp [r2],V6 r3 _ _ (by omega),by dsimp only; omega,hstep,Qcw r6⟩ rfl
        · obtain rfl:j=ly.length:=by omega
          have hon2:=(Ce r6).trans hv1
          have vb:=oab v1 (List.mem_of_getElem? hv1)
          rw [List.take_of_length_le (l:=ly) (Nat.le_refl _)] at r5
          have hf2:=D.fin2 oal oab r2 r3 hv1 r4 hf.2 r5
          refine go tt [.f (by simp),.i ly.length,.x (Qcg hon2),.w 1,.r 165 (Uz (b:=(((v1+bk) % 4294967296:Nat):Int)) (by rw [w32]; omega)),.i ly.length,.w 0,.r 168 (Uz (b:=((g % 4294967296:Nat):Int)) (by rw [w32]; omega)),.w 0,.r 169 (Uz (b:=((val x / val ly:Nat):Int)) (Zbj hf.1 D.qlt))] rfl (by simp only [Qa,Xf,IntKind.bits,Qf,List.length_append]; omega) ?_
          rw [Q0w (by omega),←Qlx (l:=o2.set ly.length ((v1+bk) % 4294967296)) (k:=x.length) (V6 r3 _ _ (by omega)) (by rw [List.length_set,r2,hxl]) hf2]
          exact ed tt [] [0] [] rfl trivial
end Orr

namespace Orr
open Go Go.Proofs
set_option maxRecDepth 10000
theorem Qvh {o ly:List Nat} {lo top nx xn x1 x2:Nat} (hlo:lo+(ly.length+1)≤o.length) (D:Dig (Bu o lo ly.length) ly ly.length top nx xn x1 x2) (hn:ly.length<274877906944) :
    Zw Tryz.prog 222 [.one (.orow 0 1 (some (lo,ly.length+1))),lr ly] [.row true 169 1 (lm o)] [.one (.int .u32 ((val (Bu o lo ly.length) / val ly:Nat):Int))] [.row true 169 1 (lm (o.take lo++dgs (ly.length+1) (val (Bu o lo ly.length) % val ly)++o.drop (lo+ly.length+1)))]:=by
  have:=Q2a (pre:=o.take lo) (post:=o.drop (lo+ly.length+1)) D hn
  have e1:(o.take lo).length=lo:=by rw [List.length_take]; omega
  have e2:=Dz (o:=o) (i:=lo) (n:=ly.length) (by omega)
  rw [e1,e2,M3] at this
  exact this
theorem Qhn {a b:List Nat} (ha:Sm a) (hb:Sm b) (h1:sz (val a)≤4294967296) (h2:sz (val b)≤4294967296) (hy:0<val b):Qd Tryz.prog 170 [lr a,lr b] [lr (Q4 (val a / val b)),lr (Q4 (val a % val b)),.one (.int .i64 0)]:=by
  refine Z7 Tryz.func170 rfl ?_
  obtain ⟨p,ca,np,vp,_,ep⟩:=Ll ha
  obtain ⟨q,cb,nq,vq,_,eq⟩:=Ll hb
  have hp:=X4 h1
  have hq:=X4 h2
  rw [←ep] at hp
  rw [←eq] at hq
  rw [←vp,←vq]
  rw [←vp] at h1
  rw [←vq] at h2 hy
  have q0:q≠[]:=fun e=>by rw [e] at hy; simp [val] at hy
  have qp:0<q.length:=List.length_pos_iff.2 q0
  have c1:¬((lm q).length:Int)=0:=by rw [Qf]; omega
  by_cases hlt:p.length<q.length
  · have hv:=W7 np nq hlt
    rw [Nat.div_eq_of_lt hv,Nat.mod_eq_of_lt hv,Zs]
    exact en tt [.c [] ca,.c [] cb,.f (by simpa using c1),.t (by simp [Qf]; omega),.c [] (Nl np.1 h1)] rfl rfl (by simp [Qa,Xf])
  by_cases hone:q.length=1
  · obtain ⟨y,rfl⟩:∃ y,q=[y]:=by
      match q,hone with
      | [y],_=>exact ⟨y,rfl⟩
    have yb:=nq.1 y (.head _)
    have vy:val [y]=y:=by simp [val]
    rw [vy] at hy ⊢
    have co:=Zai np.1 (by omega) hy yb
    have sm:Sm [val p % y]:=fun z hz=>by
      simp at hz; subst hz; exact Nat.lt_trans (Nat.mod_lt _ hy) yb
    have cc:=Nc sm
    rw [show val [val p % y]=val p % y from by simp [val]] at cc
    exact en tt [.c [] ca,.c [] cb,.f (by simp [lm]),.f (by simp [Qf]; omega),.t (by simp [lm]),.x (Zn (l:=[y]) (i:=0) rfl),.c [] co,.c [] cc] rfl rfl (by simp [Qa,Xf])
  · have hle:q.length≤p.length:=Nat.le_of_not_lt hlt
    obtain ⟨y1,hy1,hy10⟩:=nq.2 q0
    have y1b:=nq.1 y1 (List.mem_of_getElem? hy1)
    have hszy:=Qnq nq hy1
    have hsz1:sz y1≤32:=Kg.2 (by omega)
    have hsz0:0<sz y1:=Q9e (by omega)
    obtain ⟨s,hs⟩:∃ s,s=32-sz y1:=⟨_,rfl⟩
    have hs31:s≤31:=by omega
    have Uz:(2:Nat)^32=4294967296:=by decide
    obtain ⟨x,hx⟩:∃ x,x=val p:=⟨_,rfl⟩
    obtain ⟨y,hyv⟩:∃ y,y=val q:=⟨_,rfl⟩
    have cl:=Q67 y1b
    rw [←hs] at cl
    have hvx:val p*2^s<4294967296^(p.length+1):=by
      have h1:=Us p np.1
      rw [Nat.pow_succ]
      exact Nat.lt_of_lt_of_le (Nat.mul_lt_mul_of_pos_right h1 (show 0<2^s from Nat.pow_pos (by decide))) (Nat.mul_le_mul_left _ (by rw [←Uz]; exact Nat.pow_le_pow_right (by decide) (by omega)))
    have hvy:val q*2^s<4294967296^q.length:=by
      have h1:=Cw (val q)
      rw [←Uz,←Nat.pow_mul]
      have h2:val q*2^s<2^sz (val q)*2^s:=Nat.mul_lt_mul_of_pos_right h1 (Nat.pow_pos (by decide))
      rw [←Nat.pow_add] at h2
      rw [show 32*q.length=sz (val q)+s from by omega]
      exact h2
    have cx:=Qv7 np.1 (show sz (val p)≤4294967400 by omega) hs31 (show p.length+1<274877906944 by omega) (by omega) hvx
    have cy:=Qv7 nq.1 (show sz (val q)≤4294967400 by omega) hs31 (show q.length<274877906944 by omega) qp hvy
    obtain ⟨hXl,hXb,hXv⟩:=Qe7 (k:=p.length+1) (v:=val p*2^s)
    obtain ⟨hYl,hYb,hYv⟩:=Qe7 (k:=q.length) (v:=val q*2^s)
    have hXv:=hXv hvx
    have hYv:=hYv hvy
    obtain ⟨X,hX⟩:∃ X,X=dgs (p.length+1) (val p*2^s):=⟨_,rfl⟩
    obtain ⟨Y,hY⟩:∃ Y,Y=dgs q.length (val q*2^s):=⟨_,rfl⟩
    rw [←hX] at hXl hXb hXv cx
    rw [←hY] at hYl hYb hYv cy
    have hyB:4294967296^(q.length-1)≤val q:=C3 nq q0
    have hR:=Qm9 hXv hYv hXl hXb hYl hYb (show 2≤q.length by omega) (Us p np.1) hyB hle
    refine go tt [.c [] ca,.c [] cb,.f (by simpa using c1),.f (by simp [Qf]; omega),.f (by simp [Qf]; omega),.r 49 (eI (b:=((q.length-1:Nat):Int)) (by rw [Qf]; omega)),.x (Zn hy1),.c [] cl,.r 57 (eI (b:=((p.length+1:Nat):Int)) (by rw [Qf]; omega)),.c [0] cx,.r 62 (eI (b:=(q.length:Int)) (by rw [Qf])),.c [1] cy,.r 65 (eI (b:=(q.length:Int)) (by rw [Qf,hYl])),.r 70 (eI (b:=((p.length-q.length+1:Nat):Int)) (by rw [Qf]; omega)),.i (p.length-q.length+1),.i (p.length-q.length+1),.r 73 (eI (b:=((p.length-q.length+1:Nat):Int)) (by simp))] rfl ?_ ?_
    · simp only [Qa,Xf,IntKind.bits,Qf]
      omega
    · rw [Bi]
      refine pb 1 rfl rfl ?_
      refine lp (S:=Int×List Nat×List Nat) 3 (fun L1 s=>(13,.v (.one (.int .i64 s.1)))::L1) (fun s=>[.row false 169 1 (lm s.2.2),.gone,.row false 169 1 (lm s.2.1)]) (fun s=>(s.1+1).toNat)
        (fun s=>-1≤s.1∧s.1<p.length-q.length+1∧s.2.1.length=p.length-q.length+1∧Sm s.2.1∧Rest s.2.2 Y p.length q.length (s.1+1).toNat∧val (s.2.1.drop (s.1+1).toNat)*4294967296^(s.1+1).toNat*val Y+val s.2.2=val X) (((p.length-q.length+1:Nat):Int)-1,List.replicate (p.length-q.length+1) 0,X)
        ⟨by dsimp only; omega,by dsimp only; omega,by simp,fun x hx=>by rw [List.eq_of_mem_replicate hx]; decide,by simpa using hR,by simp [val]⟩ rfl (fun _ _=>rfl) rfl fun ⟨i,oq,ox⟩ ⟨j1,j2,j3,j4,j5,j6⟩=>?_
      dsimp only at j1 j2 j3 j4 j5 j6 ⊢
      rcases Int.lt_or_le i 0 with hi | hi
      · obtain rfl:i=-1:=by omega
        simp only [show ((-1:Int)+1).toNat=0 from rfl,List.drop_zero,Nat.pow_zero,Nat.mul_one] at j5 j6
        have hlt':val ox<val q*2^s:=by have:=j5.lt; rw [hYv] at this; simpa using this
        have hfin:=Qzk (x:=val p) (y:=val q) (s:=s) (r:=val ox) (q:=oq) hy (by rw [←hXv,←hYv]; exact j6) hlt'
        have hoxl:=j5.ol
        have hox:=Qns (o:=ox) (n:=q.length) (by omega) (Nat.lt_trans hlt' hvy)
        have hszm:sz (val (ox.take q.length))≤4294967400:=by
          rw [hox,hfin.2]
          have h1:=Q0j (val p % val q) (2^s)
          have h2':=X6 (Nat.le_of_lt (Nat.mod_lt (val p) hy))
          have h3:sz (2^s)≤s+1:=Kg.2 (Nat.pow_lt_pow_right (by decide) (by omega))
          omega
        have cs:=Zaf (a:=ox.take q.length) (fun u hu=>j5.ob u (List.mem_of_mem_take hu)) hszm hs31
        rw [hox,hfin.2,Nat.mul_div_cancel _ (Nat.pow_pos (by decide))] at cs
        have cq:=Nc j4
        rw [hfin.1] at cq
        exact en tt [.f (by decide),.p 2,.p 0,.c [] cq,.i q.length,.r 95 (v:=lr (ox.take q.length)) (by simp [lm]),.c [] cs] rfl rfl (by simp [Qa,Xf,Qf]; omega)
      · obtain ⟨k,rfl⟩:=Int.eq_ofNat_of_zero_le hi
        have e:((k:Int)+1).toNat=k+1:=by omega
        rw [e] at j5 j6
        obtain ⟨top,nx,xn,x1,x2,D⟩:=j5.dig
        have hoxl:=j5.ol
        have hm:=j5.hm
        have cd:=Qvh (o:=ox) (lo:=k) (by omega) (hYl.symm ▸ D) (by omega)
        rw [hYl] at cd
        have hwl:=Dz (o:=ox) (i:=k) (n:=q.length) (by omega)
        have hwlt:val (Bu ox k q.length) % val Y<4294967296^(q.length+1):=by
          have h3:=Us (Bu ox k q.length) D.xb
          rw [hwl] at h3
          exact Nat.lt_of_le_of_lt (Nat.mod_le _ _) h3
        obtain ⟨d1,d2,d3⟩:=Qe7 (k:=q.length+1) (v:=val (Bu ox k q.length) % val Y)
        have hnx:=j5.next (w':=dgs (q.length+1) (val (Bu ox k q.length) % val Y)) (d1.trans hwl.symm) d2 (d3 hwlt) (q:=oq) (by omega) j6
        have hdg:=D.qlt
        refine go tt [.t (by simp),.i k,.i (k+q.length+1),.r 87 (v:=.one (.orow 0 1 (some (k,q.length+1)))) (by rw [show k+q.length+1-k=q.length+1 by omega]),.c [0] cd,.i k] rfl ?_ ?_
        · simp only [Qa,Qf]; omega
        · rw [Ks]
          refine rd ((k:Int)-1,oq.set k (val (Bu ox k q.length) / val Y),ox.take k++dgs (q.length+1) (val (Bu ox k q.length) % val Y)++ox.drop (k+q.length+1)) (by dsimp only; omega) ⟨by dsimp only; omega,by dsimp only; omega,by simp [j3],V6 j4 _ _ hdg,?_,?_⟩ rfl
          · dsimp only; rw [show ((k:Int)-1+1).toNat=k from by omega]; exact hnx.1
          · dsimp only; rw [show ((k:Int)-1+1).toNat=k from by omega]; exact hnx.2
end Orr

namespace Orr
open Go Go.Proofs
set_option maxRecDepth 10000
def sg (z:Int):LV:=.bool (decide (z<0))
def mg (z:Int):LV:=.row (lm (Q4 z.natAbs))
abbrev Zt (z:Int):List LV:=[sg z,mg z]
def Xn (x y:LV) (z:Int):Prop:=∃ b l,x=.bool b∧y=.row (lm l)∧Sm l∧z=Qj b (val l)
theorem Qe (z:Int):Xn (sg z) (mg z) z:=by
  refine ⟨_,_,rfl,rfl,Uk _,?_⟩
  rw [Zk]
  unfold Qj
  by_cases h:z<0 <;> simp [h] <;> omega
theorem Q8p (b:Bool) (m:Nat):[LV.bool (b && decide (0<m)),LV.row (lm (Q4 m))]=Zt (Qj b m):=by
  simp only [Zt,sg,mg,Qba,Xz]
theorem W5 {m:Nat}:0<(Q4 m).length↔0<m:=by
  rcases Nat.eq_zero_or_pos m with h | h
  · subst h; rw [Zs]; simp
  · rw [Fa (by omega)]; simp [h]
theorem Yo (b:Bool) (m:Nat):Qd Tryz.prog 122 [lr (Q4 m),.one (.bool b)] [.agg (Zt (Qj b m))]:=by
  rw [←Q8p]
  have e:=W5 (m:=m)
  cases b with
  | false=>exact w tt Tryz.func122 rfl [.f rfl] rfl rfl trivial
  | true=>exact w tt Tryz.func122 rfl [.t rfl] rfl (by simp [Qf,e]) trivial
theorem Yk {b:Bool} {m:Nat} {k:Nat} (h:Ql (Qj b m)≤k):sz m≤k:=by
  unfold Ql at h; rwa [Xz] at h
theorem Uy {x y:LV} {z:Int} (hi:Xn x y z) (hs:Ql z≤4294967295):Qd Tryz.prog 116 [.agg [x,y]] [.agg (Zt z)]:=by
  obtain ⟨b,l,rfl,rfl,hl,rfl⟩:=hi
  exact w tt Tryz.func116 rfl [.c [] (Nl hl (Nat.le_trans (Yk hs) (by decide))),.c [] (Yo _ _)] rfl rfl trivial
theorem Ch (b:Bool) (m:Nat):Qj (!b) m=-(Qj b m):=by unfold Qj; cases b <;> simp
theorem Oj {x y:LV} {z:Int} (hi:Xn x y z) (hs:Ql z≤4294967295):Qd Tryz.prog 119 [.agg [x,y]] [.agg (Zt (-z))]:=by
  obtain ⟨b,l,rfl,rfl,hl,rfl⟩:=hi
  rw [←Ch]
  exact w tt Tryz.func119 rfl [.c [] (Nl hl (Nat.le_trans (Yk hs) (by decide))),.c [] (Yo _ _)] rfl rfl trivial
theorem Kn {x y x' y':LV} {z z':Int} (hi:Xn x y z) (hi':Xn x' y' z') (hs:Ql z≤4294967295) (hs':Ql z'≤4294967295):Qd Tryz.prog 182 [.agg [x,y],.agg [x',y']] [.agg (Zt (z*z'))]:=by
  obtain ⟨b,l,rfl,rfl,hl,rfl⟩:=hi
  obtain ⟨b',l',rfl,rfl,hl',rfl⟩:=hi'
  have e:Qj b (val l)*Qj b' (val l')=Qj (b != b') (val l*val l'):=by
    unfold Qj; cases b <;> cases b' <;> simp [Int.neg_mul,Int.mul_neg]
  rw [e]
  exact w tt Tryz.func182 rfl [.c [] (Q98 hl hl' (Nat.le_trans (Yk hs) (by decide)) (Nat.le_trans (Yk hs') (by decide))),.c [] (Yo _ _)] rfl rfl trivial
theorem Oq {a b:List Nat} (ha:Sm a) (hb:Sm b) (h1:sz (val a)≤4294967296) (h:val b≤val a):Qd Tryz.prog 167 [lr a,lr b] [lr (Q4 (val a-val b)),.one (.bool true)]:=by
  have:=Q5s ha hb h1; rwa [if_pos h] at this
theorem Qvc {a b:List Nat} (ha:Sm a) (hb:Sm b) (h1:sz (val a)≤4294967296) (h:val a<val b):Qd Tryz.prog 167 [lr a,lr b] [lr [],.one (.bool false)]:=by
  have:=Q5s ha hb h1; rwa [if_neg (by omega)] at this
theorem Nm {x y x' y':LV} {z z':Int} (hi:Xn x y z) (hi':Xn x' y' z') (hs:Ql z≤4294967295) (hs':Ql z'≤4294967295):Qd Tryz.prog 111 [.agg [x,y],.agg [x',y']] [.agg (Zt (z+z'))]:=by
  obtain ⟨b,l,rfl,rfl,hl,rfl⟩:=hi
  obtain ⟨b',l',rfl,rfl,hl',rfl⟩:=hi'
  have s1:=Nat.le_trans (Yk hs) (show 4294967295≤4294967296 by decide)
  have s2:=Nat.le_trans (Yk hs') (show 4294967295≤4294967296 by decide)
  by_cases hb:b=b'
  · subst hb
    have e:Qj b (val l)+Qj b (val l')=Qj b (val l+val l'):=by unfold Qj; cases b <;> simp <;> omega
    rw [e]
    exact w tt Tryz.func111 rfl [.t (by simp),.c [] (Q5p hl hl' s1 s2),.c [] (Yo _ _)] rfl rfl trivial
  · by_cases hle:val l'≤val l
    · have e:Qj b (val l)+Qj b' (val l')=Qj b (val l-val l'):=by unfold Qj; cases b <;> cases b' <;> simp at hb ⊢ <;> omega
      rw [e]
      exact w tt Tryz.func111 rfl [.f (by simpa using hb),.c [] (Oq hl hl' s1 hle),.t rfl,.c [] (Yo _ _)] rfl rfl trivial
    · have e:Qj b (val l)+Qj b' (val l')=Qj b' (val l'-val l):=by unfold Qj; cases b <;> cases b' <;> simp at hb ⊢ <;> omega
      rw [e]
      exact w tt Tryz.func111 rfl [.f (by simpa using hb),.c [] (Qvc hl hl' s1 (by omega)),.f rfl,.c [] (Oq hl' hl s2 (by omega)),.c [] (Yo _ _)] rfl rfl trivial
theorem Qvf {x y x' y':LV} {z z':Int} (hi:Xn x y z) (hi':Xn x' y' z') (hs:Ql z≤4294967295) (hs':Ql z'≤4294967295):Qd Tryz.prog 234 [.agg [x,y],.agg [x',y']] [.agg (Zt (z-z'))]:=by
  obtain ⟨b',l',rfl,rfl,hl',rfl⟩:=hi'
  have hn:Xn (.bool (!b')) (.row (lm l')) (-(Qj b' (val l'))):=⟨_,_,rfl,rfl,hl',(Ch _ _).symm⟩
  rw [Int.sub_eq_add_neg]
  have hi2:=hi
  obtain ⟨b,l,rfl,rfl,hl,_⟩:=hi
  exact w tt Tryz.func234 rfl [.c [] (Nm hi2 hn hs (by rw [Xc]; exact hs'))] rfl rfl trivial
theorem Qv4 {x y:LV} {z:Int} (hi:Xn x y z) (hs:Ql z≤4294967295):Qd Tryz.prog 242 [.agg [x,y]] [.one (.int .i64 (Int.sign z))]:=by
  obtain ⟨b,l,rfl,rfl,hl,rfl⟩:=hi
  have s1:=Nat.le_trans (Yk hs) (show 4294967295≤4294967296 by decide)
  have cb:=Qk9 hl s1
  by_cases h0:val l=0
  · have e:Qj b (val l)=0:=by unfold Qj; rw [h0]; cases b <;> simp
    rw [e]
    exact w tt Tryz.func242 rfl [.c [] cb,.t (by simp [Qbv,h0])] rfl rfl trivial
  · have hs0:sz (val l)≠0:=fun h=>h0 (Qbv.1 h)
    cases b
    · have e:(Qj false (val l)).sign=1:=Int.sign_eq_one_of_pos (by unfold Qj; simp; omega)
      rw [e]
      exact w tt Tryz.func242 rfl [.c [] cb,.f (by simp; omega),.f rfl] rfl rfl trivial
    · have e:(Qj true (val l)).sign=-1:=Int.sign_eq_neg_one_of_neg (by unfold Qj; simp; omega)
      rw [e]
      exact w tt Tryz.func242 rfl [.c [] cb,.f (by simp; omega),.t rfl] rfl rfl trivial
theorem Or {x y x' y':LV} {z z':Int} (hi:Xn x y z) (hi':Xn x' y' z') (hs:Ql z≤4294967295) (hs':Ql z'≤4294967295):Qd Tryz.prog 199 [.agg [x,y],.agg [x',y']] [.one (.int .i64 (Kk z z'))]:=by
  have c1:=Qv4 hi hs
  have c2:=Qv4 hi' hs'
  obtain ⟨b,l,rfl,rfl,hl,hz⟩:=hi
  obtain ⟨b',l',rfl,rfl,hl',hz'⟩:=hi'
  have k1:=Gh z
  have k2:=Gh z'
  have zl:z.natAbs=val l:=by rw [hz,Xz]
  have zl':z'.natAbs=val l':=by rw [hz',Xz]
  by_cases h1:z.sign<z'.sign
  · have e:Kk z z'=-1:=by unfold Kk; rw [if_pos (by omega)]
    rw [e]
    exact w tt Tryz.func199 rfl [.c [] c1,.c [] c2,.t (by simpa using h1)] rfl rfl trivial
  · by_cases h2:z'.sign<z.sign
    · have e:Kk z z'=1:=by unfold Kk; rw [if_neg (by omega),if_pos (by omega)]
      rw [e]
      exact w tt Tryz.func199 rfl [.c [] c1,.c [] c2,.f (by simpa using h1),.t (by simpa using h2)] rfl rfl trivial
    · by_cases h3:z.sign<0
      · have e:Sb (val l') (val l)=Kk z z':=by unfold Kk Sb; rw [←zl,←zl']; split <;> split <;> (try split) <;> (try split) <;> omega
        have cc:=Quk hl' hl
        rw [e] at cc
        exact w tt Tryz.func199 rfl [.c [] c1,.c [] c2,.f (by simpa using h1),.f (by simpa using h2),.t (by simpa using h3),.c [] cc] rfl rfl trivial
      · have e:Sb (val l) (val l')=Kk z z':=by unfold Kk Sb; rw [←zl,←zl']; split <;> split <;> (try split) <;> (try split) <;> omega
        have cc:=Quk hl hl'
        rw [e] at cc
        exact w tt Tryz.func199 rfl [.c [] c1,.c [] c2,.f (by simpa using h1),.f (by simpa using h2),.f (by simpa using h3),.c [] cc] rfl rfl trivial
theorem G8 {z:Int}:Qd Tryz.prog 117 [.agg (Zt z)] [.one (.bool (decide (z=0)))] :=
  w tt Tryz.func117 rfl [] rfl (by simp only [Qf]; congr 3; have:=W5 (m:=z.natAbs); rw [decide_eq_decide]; omega) trivial
theorem Qld {z:Int} (h1:-9223372036854775808≤z∧z≤9223372036854775807):Qd Tryz.prog 75 [.one (.int .i64 z)] [.agg (Zt z)]:=by
  obtain ⟨m,hm⟩:∃ m,m=z.natAbs:=⟨_,rfl⟩
  have sm:Sm [m % 4294967296,m / 4294967296]:=fun x hx=>by
    simp at hx; rcases hx with rfl | rfl <;> omega
  have hv:val [m % 4294967296,m / 4294967296]=m:=by simp only [val]; omega
  have cn:=Nl sm (by rw [hv]; exact Nat.le_trans (Kg.2 (show m<2^64 by omega)) (show 64≤4294967296 by decide))
  rw [hv] at cn
  by_cases hz:z<0
  · have e:Qj true m=z:=by unfold Qj; simp; omega
    have cm:=Yo true m
    rw [e] at cm
    exact w tt Tryz.func75 rfl [.w 0,.r 5 (W3 (b:=((18446744073709551616-m:Nat):Int)) (by rw [w64]; omega)),.t (by simpa using hz),.w 0,.r 9 (W3 (b:=(m:Int)) (by rw [w64]; omega)),.w 0,.r 11 (Uz (b:=((m % 4294967296:Nat):Int)) (by rw [w32]; omega)),.i 32,.r 13 (W3 (b:=((m / 4294967296:Nat):Int)) (by simp)),.c [] cn,.r 18 (v:=.one (.bool true)) (by simp [hz]),.c [] cm] rfl rfl (by simp [Qa,IntKind.bits] <;> omega)
  · have e:Qj false m=z:=by unfold Qj; simp; omega
    have cm:=Yo false m
    rw [e] at cm
    exact w tt Tryz.func75 rfl [.w 0,.r 5 (W3 (b:=(m:Int)) (by rw [w64]; omega)),.f (by simpa using hz),.w 0,.r 11 (Uz (b:=((m % 4294967296:Nat):Int)) (by rw [w32]; omega)),.i 32,.r 13 (W3 (b:=((m / 4294967296:Nat):Int)) (by simp)),.c [] cn,.r 18 (v:=.one (.bool false)) (by simp; omega),.c [] cm] rfl rfl (by simp [Qa,IntKind.bits] <;> omega)
theorem Qlb {m n:Nat} (h1:sz m≤4294967296) (h2:sz n≤4294967296) (hn:0<n):Qd Tryz.prog 170 [lr (Q4 m),lr (Q4 n)] [lr (Q4 (m / n)),lr (Q4 (m % n)),.one (.int .i64 0)]:=by
  have:=Qhn (Uk m) (Uk n) (by rw [Zk]; exact h1) (by rw [Zk]; exact h2) (by rw [Zk]; exact hn)
  rwa [Zk,Zk] at this
theorem Qr8 {x y x' y':LV} {z z':Int} (hi:Xn x y z) (hi':Xn x' y' z') (hs:Ql z≤4294967295) (hs':Ql z'≤4294967295) (hz:z'≠0):Qd Tryz.prog 171 [.agg [x,y],.agg [x',y']] [.agg (Zt (z / z')),.agg (Zt (z % z')),.one (.int .i64 0)]:=by
  obtain ⟨b,l,rfl,rfl,hl,hz1⟩:=hi
  obtain ⟨b',l',rfl,rfl,hl',hz2⟩:=hi'
  have zl:z.natAbs=val l:=by rw [hz1,Xz]
  have zl':z'.natAbs=val l':=by rw [hz2,Xz]
  have s1:sz (val l)≤4294967296:=Nat.le_trans (Yk (hz1 ▸ hs)) (by decide)
  have s2:sz (val l')≤4294967296:=Nat.le_trans (Yk (hz2 ▸ hs')) (by decide)
  have hp:0<z'.natAbs:=by omega
  have e1:z=if b=true then -(z.natAbs:Int) else (z.natAbs:Int):=by rw [zl]; exact hz1
  have e2:z'=if b'=true then -(z'.natAbs:Int) else (z'.natAbs:Int):=by rw [zl']; exact hz2
  have cd:=Qhn hl hl' s1 s2 (by omega)
  rw [←zl,←zl'] at cd
  have s0:sz (z.natAbs % z'.natAbs)≤4294967296:=Nat.le_trans (X6 (Nat.le_of_lt (Nat.mod_lt _ hp))) (by rw [zl']; exact s2)
  cases b with
  |
   false =>
   obtain ⟨d1,d2⟩:=O8 e2 hp e1
   rw [d1,d2]
   exact w tt Tryz.func171 rfl [.c [] cd,.f rfl,.c [] (Yo _ _),.c [] (Yo _ _),.f rfl,.f rfl] rfl rfl trivial
  |
   true =>
   by_cases h0:z.natAbs % z'.natAbs=0
   · obtain ⟨d1,d2⟩:=Av e2 hp e1 h0
     rw [d1,d2]
     exact w tt Tryz.func171 rfl [.c [] cd,.f rfl,.c [] (Yo _ _),.c [] (Yo _ _),.t rfl,.f (by rw [h0,Zs]; rfl)] rfl rfl trivial
   · obtain ⟨d1,d2⟩:=O7 e2 hp e1 (by omega)
     rw [d1,d2]
     have ca:=Q5p (a:=Q4 (z.natAbs / z'.natAbs)) (b:=[1]) (Uk _) (fun x hx=>by simp at hx; subst hx; decide) (by rw [Zk]; exact Nat.le_trans (X6 (Nat.div_le_self _ _)) (by rw [zl]; exact s1)) (by decide)
     have cs:=Oq (a:=l') (b:=Q4 (z.natAbs % z'.natAbs)) hl' (Uk _) s2 (by rw [Zk,←zl']; exact Nat.le_of_lt (Nat.mod_lt _ hp))
     rw [Zk] at ca cs
     rw [←zl'] at cs
     have hl0:=W5 (m:=z.natAbs % z'.natAbs)
     exact w tt Tryz.func171 rfl [.c [] cd,.f rfl,.c [] (Yo _ _),.c [] (Yo _ _),.t rfl,.t (by simp [Qf]; omega),.c [] ca,.c [] cs,.c [] (Yo _ _),.c [] (Yo _ _)] rfl rfl trivial
theorem Gl {x y x' y':LV} {z z':Int} (hi:Xn x y z) (hi':Xn x' y' z') (hs:Ql z≤4294967295) (hs':Ql z'≤4294967295) (hz:z'≠0) (hd:z % z'=0):Qd Tryz.prog 120 [.agg [x,y],.agg [x',y']] [.agg (Zt (z / z')),.one (.int .i64 0)]:=by
  have cd:=Qr8 hi hi' hs hs' hz
  obtain ⟨b,l,rfl,rfl,_⟩:=hi
  obtain ⟨b',l',rfl,rfl,_⟩:=hi'
  exact w tt Tryz.func120 rfl [.c [] cd,.f rfl,.f (by rw [hd]; simp [Qf,Zs])] rfl rfl trivial
end Orr

namespace Orr
open Go
abbrev Q9i (l:List Nat):LV:=.row (lm l)
def Xb (l:List Int):Nat:=l.foldl (fun g z=>Nat.gcd g z.natAbs) 0
theorem Qdd {l:List Int} {i:Nat} {z:Int} (h:l[i]? = some z):Xb (l.take (i+1))=Nat.gcd (Xb (l.take i)) z.natAbs:=by
  unfold Xb
  rw [List.take_add_one,h]
  simp [List.foldl_append]
theorem Q28 (g x:Nat):Nat.gcd x (g % x)=Nat.gcd g x:=by
  rw [Nat.gcd_comm g x,Nat.gcd_rec x g,Nat.gcd_comm]
theorem Qb9 (l:List Int):l.foldl (fun g z=>Nat.gcd g z.natAbs) 1=1:=by
  induction l with
  | nil=>rfl
  | cons z l ih=>simp [ih]
theorem Qxe {l:List Int} {i:Nat} (h:Xb (l.take i)=1):Xb l=1:=by
  have e:l=l.take i++l.drop i:=(List.take_append_drop i l).symm
  unfold Xb at h ⊢
  rw [e,List.foldl_append,h,Qb9]
def trim:List Int→List Int
  | []=>[]
  |
   x::l=>match trim l with
   | []=>if x=0 then [] else [x]
   | y::k=>x::y::k
theorem Bl:∀ {l:List Int},(∀ x∈l,x=0)→trim l=[]
  | [],_=>rfl
  |
   x::l,h=>by
   have ih:=Bl (l:=l) (fun y hy=>h y (List.mem_cons_of_mem _ hy))
   simp [trim,ih,h x (List.mem_cons_self ..)]
theorem Qel:∀ {l:List Int} {m:Nat} {y:Int},(∀ j x,m<j→l[j]? = some x→x=0)→l[m]? = some y→y≠0→trim l=l.take (m+1)
  | [],m,y,_,h,_=>by simp at h
  |
   x::l,0,y,h1,h2,h3=>by
   have h0:trim l=[]:=Bl fun z hz=>by
     obtain ⟨j,hj⟩:=List.mem_iff_getElem?.1 hz
     exact h1 (j+1) z (by omega) (by simpa using hj)
   simp at h2
   subst h2
   simp [trim,h0,h3]
  |
   x::l,m+1,y,h1,h2,h3=>by
   have ih:=Qel (l:=l) (m:=m) (y:=y) (fun j z hj hz=>h1 (j+1) z (by omega) (by simpa using hz)) (by simpa using h2) h3
   cases hl:l with
   | nil=>subst hl; simp at h2
   |
    cons u k =>
    subst hl
    rw [List.take_succ_cons] at ih
    simp only [trim] at ih ⊢
    rw [ih]
    simp
def Qi (l:List Int):Prop:=trim l=l
theorem Xw:∀ (l:List Int),Qi (trim l)
  | []=>rfl
  |
   x::l=>by
   have ih:=Xw l
   unfold Qi at ih ⊢
   cases h:trim l with
   | nil=>by_cases hx:x=0 <;> simp [trim,h,hx]
   |
    cons y k =>
    rw [h] at ih
    simp only [trim,h] at ih ⊢
    rw [ih]
theorem Qbx {l:List Int} {m:Nat} (hm:m≤l.length) (h1:∀ j x,m≤j→l[j]? = some x→x=0) (h2:0<m→∃ y,l[m-1]? = some y∧y≠0):trim l=l.take m:=by
  rcases Nat.eq_zero_or_pos m with h0 | h0
  · subst h0
    rw [Bl fun z hz=>?_]; rfl
    obtain ⟨j,hj⟩:=List.mem_iff_getElem?.1 hz
    exact h1 j z (by omega) hj
  · obtain ⟨y,hy,hy0⟩:=h2 h0
    have:=Qel (l:=l) (m:=m-1) (y:=y) (fun j x hj hx=>h1 j x (by omega) hx) hy hy0
    rwa [show m-1+1=m from by omega] at this
def IsInts:List (List LV)→List Int→Prop
  | [],[]=>True
  | x::l,z::p=>(∃ a b,x=[a,b]∧Xn a b z)∧IsInts l p
  | _,_=>False
theorem IsInts.len:∀ {l:List (List LV)} {p:List Int},IsInts l p→l.length=p.length
  | [],[],_=>rfl
  | x::l,z::p,h=>by simp [h.2.len]
  | [],_::_,h=>h.elim
  | _::_,[],h=>h.elim
theorem IsInts.get:∀ {l:List (List LV)} {p:List Int},IsInts l p→∀ {i:Nat} {z:Int},p[i]? = some z→∃ a b,l[i]? = some [a,b]∧Xn a b z
  | [],[],_,i,z,h=>by simp at h
  |
   x::l,y::p,h,0,z,hz=>by
   simp at hz; subst hz
   obtain ⟨a,b,rfl,hi⟩:=h.1
   exact ⟨a,b,rfl,hi⟩
  | x::l,y::p,h,i+1,z,hz=>by simpa using h.2.get (i:=i) (by simpa using hz)
  | [],_::_,h,_,_,_=>h.elim
  | _::_,[],h,_,_,_=>h.elim
theorem Zp:∀ (p:List Int),IsInts (p.map Zt) p
  | []=>trivial
  | z::p=>⟨⟨_,_,rfl,Qe z⟩,Zp p⟩
theorem IsInts.append:∀ {l l':List (List LV)} {p p':List Int},IsInts l p→IsInts l' p'→IsInts (l++l') (p++p')
  | [],_,[],_,_,h=>h
  | x::l,_,z::p,_,h,h'=>⟨h.1,h.2.append h'⟩
  | [],_,_::_,_,h,_=>h.elim
  | _::_,_,[],_,h,_=>h.elim
def pl (p:List Int):LV:=.row (p.map Zt)
def ids (l:List Int):LV:=.row (l.map fun (x:Int)=>[.int .i64 x])
theorem Wp:Xn (.bool false) (.row []) 0:=⟨false,[],rfl,rfl,(fun x hx=>by cases hx),rfl⟩
theorem Q4t:sg 0=.bool false:=rfl
theorem Qs5 {z:Int}:(Q4 z.natAbs).length=0↔z=0:=by
  constructor
  · intro h
    have h0:=List.eq_nil_of_length_eq_zero h
    have:=(C4 (Wq z.natAbs)).2 h0
    rw [Zk] at this; omega
  · rintro rfl; rw [show (0:Int).natAbs=0 from rfl,Zs]; rfl
theorem Xd {α β:Type} {f:α→β} {l:List α} {i:Nat} {x:α} (h:l[i]? = some x):(l.map f)[i]? = some (f x):=by rw [List.getElem?_map,h]; rfl
theorem Q6e {α:Type} {f:α→List LV} {sz:Nat} (l:List α) (h:∀ x,(f x).length=sz):∀ c∈l.map f,c.length=sz:=fun c hc=>by
  obtain ⟨x,_,rfl⟩:=List.mem_map.1 hc
  exact h x
theorem Q3p:mg 0=.row []:=by simp [mg,Zs,lm]
theorem Fz:Zt 0=[LV.bool false,LV.row []]:=by simp [Zt,Q4t,Q3p]
end Orr

namespace Orr
open Go Go.Proofs
set_option maxRecDepth 10000
theorem Ij {p:List Int} (hs:∀ z∈p,Ql z≤4294967295):sz (Xb p)≤4294967295:=by
  have key:∀ (p:List Int) (g:Nat),sz g≤4294967295→(∀ z∈p,Ql z≤4294967295)→sz (p.foldl (fun g z=>Nat.gcd g z.natAbs) g)≤4294967295:=by
    intro p
    induction p with
    | nil=>exact fun g h _=>h
    |
     cons z p ih =>
     intro g h hs
     refine ih _ ?_ fun y hy=>hs y (.tail _ hy)
     rcases Nat.eq_zero_or_pos g with h0 | h0
     · subst h0; show sz (Nat.gcd 0 z.natAbs)≤_; rw [Nat.gcd_zero_left]; exact hs z (.head _)
     · exact Nat.le_trans (X6 (Nat.gcd_le_left _ h0)) h
  exact key p 0 (by decide) hs
theorem Qup {l:List (List LV)} {p:List Int} (hi:IsInts l p) (hs:∀ z∈p,Ql z≤4294967295):Qd Tryz.prog 118 [.one (.row l)] [.agg (Zt ((Xb p:Nat):Int))]:=by
  refine Z7 Tryz.func118 rfl (ln 0 rfl rfl fun hl=>?_)
  have hlp:=hi.len
  refine go tt [.z 3,.r 3 (v:=lr (Q4 (Xb (p.take 0)))) (by simp [Xb,Zs,lm])] rfl trivial ?_
  refine ct 2 (S:=Unit) (fun _=>[(2,.v (.one (.ow 0 0))),(3,.v (lr (Q4 (Xb p))))]) (fun _=>[.blk 29 [.bool false,.nils],.gone]) (fun _=>True) rfl ?_ ?_
  · refine lp (S:=Nat) 1 (fun L1 i=>(12,.v (.one (.int .i64 (i:Int))))::(3,.v (lr (Q4 (Xb (p.take i)))))::L1) (fun _=>[.blk 29 [.bool false,.nils]]) (fun i=>p.length-i) (fun i=>i≤p.length) 0 (Nat.zero_le _) rfl (fun _ _=>rfl) rfl fun i hip=>?_
    by_cases h:i<p.length
    · have hlt:i<l.length:=by omega
      obtain ⟨c,hc⟩:∃ c,l[i]? = some c:=⟨_,List.getElem?_eq_getElem hlt⟩
      obtain ⟨z,hz⟩:∃ z,p[i]? = some z:=⟨_,List.getElem?_eq_getElem h⟩
      obtain ⟨x,y,hc',b,r,rfl,rfl,hr,hzz⟩:=hi.get hz
      rw [hc] at hc'; injection hc' with hc'; subst hc'
      have hsz:=hs z (List.mem_of_getElem? hz)
      have hg0:sz (Xb (p.take i))≤4294967295:=Ij fun y hy=>hs y (List.mem_of_mem_take hy)
      have ezr:z.natAbs=val r:=by rw [hzz,Xz]
      have cn:=Nl hr (by rw [←ezr]; exact Nat.le_trans hsz (by decide))
      rw [←ezr] at cn
      refine go tt [.t (by simp; omega),.x hc,.c [] cn] rfl trivial ?_
      refine lp (S:=Nat×Nat) 2 (fun L1 s=>(3,.v (lr (Q4 s.1)))::(6,.v (lr (Q4 s.2)))::L1) (fun _=>[.blk 29 [.bool false,.nils],.blk 29 [.bool b,.row (lm r)]]) (fun s=>s.2) (fun s=>Nat.gcd s.1 s.2=Nat.gcd (Xb (p.take i)) z.natAbs∧sz s.1≤4294967295∧sz s.2≤4294967295) (Xb (p.take i),z.natAbs) ⟨rfl,hg0,hsz⟩ rfl (fun _ _=>rfl) rfl fun ⟨g,u⟩ ⟨j1,j2,j3⟩=>?_
      dsimp only at j1 j2 j3 ⊢
      have hul:=W5 (m:=u)
      by_cases hu:0<u
      · have cd:=Qlb (m:=g) (n:=u) (by omega) (by omega) hu
        refine go tt [.t (by simp [Qf]; omega),.c [] cd] rfl trivial ?_
        exact rd (u,g % u) (Nat.mod_lt _ hu) ⟨(Q28 g u).trans j1,j3,Nat.le_trans (X6 (Nat.le_of_lt (Nat.mod_lt _ hu))) j3⟩ rfl
      · obtain rfl:u=0:=by omega
        rw [Nat.gcd_zero_right,←Qdd hz] at j1
        subst j1
        by_cases h1:Xb (p.take (i+1))=1
        · have e1:Q4 (Xb (p.take (i+1)))=[1]:=by rw [h1,Fa (by decide)]; simp [Zs]
          refine go tt [.f (by simp [Zs,lm]),.t (by rw [e1]; rfl),.x (Zn (i:=0) (x:=1) (by rw [e1]; rfl)),.t rfl] rfl trivial ?_
          exact rc () trivial (by rw [h1,Qxe h1]; rfl)
        · obtain ⟨g,hg⟩:∃ g,g=Xb (p.take (i+1)):=⟨_,rfl⟩
          rw [←hg] at h1 j2 ⊢
          by_cases h2:(Q4 g).length=1
          · obtain ⟨v,hv⟩:∃ v,Q4 g=[v]:=by
              match hm:Q4 g,h2 with
              | [v],_=>exact ⟨v,rfl⟩
            have hv1:v≠1:=fun e=>h1 (by rw [←Zk g,hv,e]; rfl)
            refine go tt [.f (by simp [Zs,lm]),.t (by simp [Qf,h2]),.x (Zn (i:=0) (x:=v) (by rw [hv]; rfl)),.f (by simp; omega)] rfl (by simp [Qa] <;> omega) ?_
            exact rd (i+1) (by omega) h (by rw [←hg]; rfl)
          · refine go tt [.f (by simp [Zs,lm]),.f (by simp [Qf]; omega),.f rfl] rfl (by simp [Qa] <;> omega) ?_
            exact rd (i+1) (by omega) h (by rw [←hg]; rfl)
    · obtain rfl:i=p.length:=by omega
      refine go tt [.f (by simp; omega)] rfl trivial ?_
      rw [List.take_length]
      exact rc () trivial rfl
  · intro _ _
    have cn:=Nl (Uk (Xb p)) (by rw [Zk]; exact Nat.le_trans (Ij hs) (by decide))
    rw [Zk] at cn
    exact en tt [.c [] cn,.c [] (Yo false _)] rfl (by simp [Qj]) trivial
end Orr

namespace Orr
open Go
def X9:List Nat→Nat
  | []=>0
  | x::l=>x+10000*X9 l
def Dg (l:List Nat):Prop:=∀ x∈l,x<10000
def Q8 (x:Nat):List Nat:=if h:x=0 then [] else (x % 10000)::Q8 (x / 10000)
termination_by x
decreasing_by omega
theorem Z8:Q8 0=[]:=by unfold Q8; simp
theorem Td {x:Nat} (h:x≠0):Q8 x=(x % 10000)::Q8 (x / 10000):=by rw [Q8]; simp [h]
theorem Xq (x:Nat):X9 (Q8 x)=x:=by
  induction x using Nat.strongRecOn with
  |
   _ x ih =>
   rcases Nat.eq_zero_or_pos x with h | h
   · subst h; rw [Z8]; rfl
   · rw [Td (by omega)]
     simp only [X9]
     rw [ih _ (by omega)]; omega
theorem Kq (x:Nat):Dg (Q8 x):=by
  induction x using Nat.strongRecOn with
  |
   _ x ih =>
   rcases Nat.eq_zero_or_pos x with h | h
   · subst h; rw [Z8]; intro y hy; cases hy
   · rw [Td (by omega)]
     intro y hy
     rcases List.mem_cons.1 hy with rfl | hy
     · omega
     · exact ih _ (by omega) y hy
theorem Cd {x:Nat}:(Q8 x).length=0↔x=0:=by
  constructor
  · intro h
    have h0:=List.eq_nil_of_length_eq_zero h
    have:=Xq x
    rw [h0] at this
    exact this.symm
  · rintro rfl; rw [Z8]; rfl
theorem Gt {x:Nat} (h:x≠0):(Q8 (x / 10000)).length+1=(Q8 x).length:=by rw [Td h]; rfl
theorem Qsn {x:Nat} (h:x<1000000000000):(Q8 x).length≤3:=by
  by_cases h0:x=0
  · subst h0; rw [Z8]; exact Nat.zero_le _
  · have h1:=Gt h0
    by_cases h2:x / 10000=0
    · rw [h2,Z8] at h1; simp at h1; omega
    · have h3:=Gt h2
      by_cases h4:x / 10000 / 10000=0
      · rw [h4,Z8] at h3; simp at h3; omega
      · have h5:=Gt h4
        have h6:x / 10000 / 10000 / 10000=0:=by omega
        rw [h6,Z8] at h5; simp at h5; omega
theorem Y9 (x:Nat):(Q8 x).length≤sz x:=by
  induction x using Nat.strongRecOn with
  |
   _ x ih =>
   by_cases h0:x=0
   · subst h0; rw [Z8]; exact Nat.zero_le _
   · have h1:=Gt h0
     have h2:=ih (x / 10000) (by omega)
     have h3:sz (x / 10000)+1≤sz x:=by
       have h4:x<2^sz x:=Cw x
       rcases hs:sz x with _ | k
       · rw [hs] at h4; simp at h4; omega
       · rw [hs] at h4
         have:sz (x / 10000)≤k:=Kg.2 (by rw [Nat.pow_succ] at h4; omega)
         omega
     omega
theorem J9 (a b:List Nat):X9 (a++b)=X9 a+10000^a.length*X9 b:=by
  induction a with
  | nil=>simp [X9]
  |
   cons x a ih =>
   simp only [List.cons_append,X9,ih,List.length_cons,Nat.pow_succ]
   rw [Nat.mul_add,←Nat.mul_assoc,Nat.mul_comm 10000 (10000^a.length)]; omega
theorem Jk {l:List Nat} {i x:Nat} (h:l[i]? = some x):X9 (l.take (i+1))=X9 (l.take i)+10000^i*x:=by
  have hi:=(List.getElem?_eq_some_iff.1 h).1
  rw [show l.take (i+1)=l.take i++[x] by rw [List.take_succ,h]; rfl,J9,List.length_take,Nat.min_eq_left (by omega)]
  simp [X9]
theorem Qab:∀ {l:List Nat},Dg l→X9 l<10000^l.length
  | [],_=>by simp [X9]
  |
   x::l,h=>by
   have h1:=h x (List.mem_cons_self ..)
   have h2:=Qab (l:=l) fun y hy=>h y (List.mem_cons_of_mem _ hy)
   simp only [X9,List.length_cons,Nat.pow_succ]; omega
theorem Qac:∀ {l:List Nat},(∀ x∈l,x=0)→X9 l=0
  | [],_=>rfl
  |
   x::l,h=>by
   have h1:=h x (List.mem_cons_self ..)
   have h2:=Qac (l:=l) fun y hy=>h y (List.mem_cons_of_mem _ hy)
   simp [X9,h1,h2]
theorem Dg.take {l:List Nat} (h:Dg l) (k:Nat):Dg (l.take k):=fun x hx=>h x (List.mem_of_mem_take hx)
theorem Dg.snoc {l:List Nat} (h:Dg l) {x:Nat} (hx:x<10000):Dg (l++[x]):=by
  intro y hy
  rcases List.mem_append.1 hy with hy | hy
  · exact h y hy
  · rw [List.mem_singleton.1 hy]; exact hx
theorem Dg.nil:Dg []:=fun x h=>by cases h
theorem Qlw:∀ {l:List Nat},Dg l→(∀ x,l[l.length-1]? = some x→x≠0)→l=Q8 (X9 l)
  | [],_,_=>by rw [X9,Z8]
  |
   x::l,h,hl=>by
   have h1:=h x (List.mem_cons_self ..)
   have h2:l=Q8 (X9 l):=Qlw (fun y hy=>h y (List.mem_cons_of_mem _ hy)) fun y hy=>hl y (by
     rcases l with _ | ⟨z,t⟩
     · simp at hy
     · simpa using hy)
   have h3:x+10000*X9 l≠0:=by
     intro e
     have hx:x=0:=by omega
     have hd:X9 l=0:=by omega
     rw [hd,Z8] at h2
     subst h2
     exact hl x rfl hx
   simp only [X9]
   rw [Td h3,show (x+10000*X9 l) % 10000=x by omega,show (x+10000*X9 l) / 10000=X9 l by omega,←h2]
theorem Qic {l:List Nat} {m:Nat} (hd:Dg l) (hm:m≤l.length) (h1:∀ j x,m≤j→l[j]? = some x→x=0) (h2:0<m→∃ y,l[m-1]? = some y∧y≠0):l.take m=Q8 (X9 l):=by
  have e:X9 l=X9 (l.take m):=by
    conv=>lhs; rw [←List.take_append_drop m l,J9]
    rw [Qac (l:=l.drop m) fun x hx=>?_]
    · omega
    · obtain ⟨j,hj⟩:=List.mem_iff_getElem?.1 hx
      rw [List.getElem?_drop] at hj
      exact h1 (m+j) x (by omega) hj
  rw [e]
  refine Qlw (hd.take m) fun x hx=>?_
  have hl:(l.take m).length=m:=by rw [List.length_take]; omega
  rw [hl] at hx
  rcases Nat.eq_zero_or_pos m with h0 | h0
  · subst h0; simp at hx
  · obtain ⟨y,hy,hy0⟩:=h2 h0
    rw [List.getElem?_take_of_lt (by omega),hy] at hx
    injection hx with hx; rw [←hx]; exact hy0
theorem Qcu {o c i d m P V:Nat} (hP:P=10000^i) (h:o+c*P=V):o+P*((c+d*m) % 10000)+(c+d*m) / 10000*(P*10000)=V+P*d*m:=by
  have e:=Nat.div_add_mod (c+d*m) 10000
  generalize (c+d*m) / 10000=q at *
  generalize (c+d*m) % 10000=r at *
  have e2:P*(c+d*m)=P*(10000*q+r):=by rw [e]
  grind
theorem Sx {x y:Nat} (h:x≤y):(Q8 x).length≤(Q8 y).length:=by
  induction y using Nat.strongRecOn generalizing x with
  |
   _ y ih =>
   by_cases h0:x=0
   · subst h0; rw [Z8]; exact Nat.zero_le _
   · have h1:=Gt h0
     have h2:=Gt (x:=y) (by omega)
     have:=ih (y / 10000) (by omega) (x:=x / 10000) (Nat.div_le_div_right h)
     omega
theorem Qsm {n x:Nat} (h:10000^n≤x):n+1≤(Q8 x).length:=by
  have h1:=Qab (Kq x)
  rw [Xq] at h1
  have h2:n<(Q8 x).length:=(Nat.pow_lt_pow_iff_right (by decide)).1 (Nat.lt_of_le_of_lt h h1)
  omega
theorem Qia {x y:Nat} (h:(Q8 x).length<(Q8 y).length):x<y:=by
  rcases Nat.lt_or_ge x y with h1 | h1
  · exact h1
  · have:=Sx h1; omega
theorem Qso {k y:Nat} (h:y<10000^k):(Q8 y).length≤k:=by
  induction k generalizing y with
  |
   zero =>
   have:y=0:=by simpa using h
   subst this; rw [Z8]; exact Nat.le_refl _
  |
   succ k ih =>
   by_cases hy0:y=0
   · subst hy0; rw [Z8]; exact Nat.zero_le _
   · have h8:=Gt hy0
     have:=ih (y:=y / 10000) (by rw [Nat.pow_succ] at h; omega)
     omega
theorem Qwi {o:List Nat} (h:Dg o) (hl:o.length≤(Q8 (X9 o)).length):o=Q8 (X9 o):=by
  refine Qlw h fun x hx h0=>?_
  subst h0
  have hne:0<o.length:=by
    rcases o with _ | ⟨a,o⟩
    · simp at hx
    · simp
  have h1:X9 o=X9 (o.take (o.length-1)):=by
    have:=Jk hx
    rw [show o.length-1+1=o.length by omega,List.take_length] at this
    omega
  have h2:=Qab (h.take (o.length-1))
  rw [←h1,List.length_take,Nat.min_eq_left (by omega)] at h2
  have:=Qso h2
  omega
theorem S0 {l:List Nat} {j d:Nat} (h:l[j]? = some d):X9 (l.drop j)=d+10000*X9 (l.drop (j+1)):=by
  obtain ⟨hj,he⟩:=List.getElem?_eq_some_iff.1 h
  rw [List.drop_eq_getElem_cons hj,he]; rfl
theorem Lm {l:List Nat} {j y:Nat} (h:j<l.length):(l.set j y).drop j=y::l.drop (j+1):=by
  rw [List.drop_eq_getElem_cons (by simpa using h)]
  simp only [List.getElem_set_self]
  rw [List.drop_set_of_lt (by omega)]
theorem Dg.set {l:List Nat} (h:Dg l) {j y:Nat} (hy:y<10000):Dg (l.set j y):=by
  intro x hx
  rcases List.mem_or_eq_of_mem_set hx with hx | rfl
  · exact h x hx
  · exact hy
theorem Dg.zeros (n:Nat):Dg (List.replicate n 0):=by
  intro x hx; rw [List.eq_of_mem_replicate hx]; decide
theorem Qie {V kd d:Nat} (hk:0<kd):(d+10000*V) / kd=(V % kd*10000+d) / kd+10000*(V / kd)∧(d+10000*V) % kd=(V % kd*10000+d) % kd∧(d<10000→(V % kd*10000+d) / kd<10000):=by
  have e:=Nat.div_add_mod V kd
  have e2:d+10000*V=(V % kd*10000+d)+kd*(10000*(V / kd)):=by
    conv=>lhs; rw [←e]
    grind
  refine ⟨?_,?_,fun hd=>?_⟩
  · rw [e2,Nat.add_mul_div_left _ _ hk]
  · rw [e2,Nat.add_mul_mod_self_left]
  · have:=Nat.mod_lt V hk
    exact (Nat.div_lt_iff_lt_mul hk).2 (by grind)
theorem If (l:List Nat) (j:Nat) (h:j≤l.length):X9 l=X9 (l.take j)+10000^j*X9 (l.drop j):=by
  conv=>lhs; rw [←List.take_append_drop j l,J9]
  rw [List.length_take,Nat.min_eq_left h]
theorem O6 {a b:List Nat} {j d e:Nat} (ha:Dg a) (hd:a[j]? = some d) (he:b[j]? = some e) (hs:a.drop (j+1)=b.drop (j+1)) (h:d<e):X9 a<X9 b:=by
  have h1:=(List.getElem?_eq_some_iff.1 hd).1
  have h2:=(List.getElem?_eq_some_iff.1 he).1
  rw [If a j (by omega),If b j (by omega),S0 hd,S0 he,hs]
  have h3:=Qab (ha.take j)
  rw [List.length_take,Nat.min_eq_left (by omega)] at h3
  generalize 10000^j=P at *
  have h4:P*(d+10000*X9 (b.drop (j+1)))+P≤P*(e+10000*X9 (b.drop (j+1))):=by
    rw [←Nat.mul_succ]; exact Nat.mul_le_mul_left _ (by omega)
  omega
def dl (l:List Nat):LV:=.row (l.map fun (x:Nat)=>[.int .i64 (x:Int)])
theorem Xy (l:List Nat):(l.map fun (x:Nat)=>[LV.int .i64 (x:Int)]).length=l.length:=by simp
theorem Zl {l:List Nat} {i x:Nat} (h:l[i]? = some x):(l.map fun (x:Nat)=>[LV.int .i64 (x:Int)])[i]? = some [.int .i64 (x:Int)]:=by rw [List.getElem?_map,h]; rfl
abbrev nd (x:Nat):LV:=dl (Q8 x)
end Orr

namespace Orr
open Go Go.Proofs
set_option maxRecDepth 10000
abbrev V9 (l:List Nat):List (List LV):=l.map fun (x:Nat)=>[.int .i64 (x:Int)]
theorem Q7t (l:List Nat):∀ c∈V9 l,c.length=1:=fun c hc=>by obtain ⟨x,_,rfl⟩:=List.mem_map.1 hc; rfl
theorem Lh {l:List Nat} (hd:Dg l):Qd Tryz.prog 162 [.one (.row (V9 l))] [.one (nd (X9 l))]:=by
  refine Z7 Tryz.func162 rfl (ln 0 rfl rfl fun hl=>?_)
  rw [List.length_map] at hl
  refine go tt [] rfl trivial ?_
  refine lp (S:=Nat) 0 (fun L1 n=>(3,.v (.one (.int .i64 (n:Int))))::L1) (fun _=>[]) id (fun n=>n≤l.length∧∀ j x,n≤j→l[j]? = some x→x=0) (V9 l).length ⟨by simp,fun j x h1 h2=>by
    have:=(List.getElem?_eq_some_iff.1 h2).1; simp at h1; omega⟩ rfl (fun _ _=>rfl) rfl fun n ⟨h1,h2⟩=>?_
  cases n with
  | zero=>exact en tt [.g 8 false (by simp),.f rfl,.i 0] rfl (by have:=Qic hd h1 h2 (fun h=>by omega); unfold nd; rw [←this]; simp [dl]) (by simp [Qa])
  |
   succ n =>
   obtain ⟨x,hx⟩:∃ x,l[n]? = some x:=⟨_,List.getElem?_eq_getElem (by omega)⟩
   by_cases h0:x=0
   · refine go tt [.g 8 true (by simp),.r 11 (v:=.one (.int .i64 (n:Int))) (by simp),.x (Zl hx),.t (by simp [h0]),.r 17 (v:=.one (.int .i64 (n:Int))) (by simp)] rfl (by simp [Qa]; omega) ?_
     exact rd n (by simp) ⟨by omega,fun j y h3 h4=>by
         rcases Nat.eq_or_lt_of_le h3 with rfl | h3
         · rw [hx] at h4; injection h4 with h4; rw [←h4,h0]
         · exact h2 j y h3 h4⟩ rfl
   · exact en tt [.g 8 true (by simp),.r 11 (v:=.one (.int .i64 (n:Int))) (by simp),.x (Zl hx),.f (by simp [h0]),.i (n+1)] rfl (by have:=Qic hd h1 h2 (fun _=>⟨x,hx,h0⟩); unfold nd; rw [←this]; simp [dl,List.map_take]) (by simp [Qa] <;> omega)
theorem Qot {x kd:Nat} (hxs:sz x≤100000000) (hk:0<kd∧kd≤65536):Qd Tryz.prog 161 [.one (nd x),.one (.int .i64 (kd:Int))] [.one (nd (x / kd)),.one (.int .i64 ((x % kd:Nat):Int))]:=by
  have hln:=Nat.le_trans (Y9 x) hxs
  obtain ⟨l,hl⟩:∃ l,l=Q8 x:=⟨_,rfl⟩
  have hx:X9 l=x:=by rw [hl,Xq]
  have hd:Dg l:=by rw [hl]; exact Kq x
  show Qd Tryz.prog 161 [.one (.row (V9 (Q8 x))),.one (.int .i64 (kd:Int))] _
  rw [←hl] at hln ⊢
  rw [←hx]
  have hll:=Xy l
  refine Z7 Tryz.func161 rfl ?_
  refine go tt [.i (V9 l).length,.i (V9 l).length] rfl (by simp [Qa]; omega) ?_
  rw [hll,show List.replicate l.length [LV.int .i64 0]=V9 (List.replicate l.length 0) from by simp [V9]]
  refine lp (S:=Nat×List Nat×Nat) 1 (fun L1 s=>(8,.v (.one (.int .i64 ((s.1:Int)-1))))::(7,.v (.one (.int .i64 (s.2.2:Int))))::L1) (fun s=>[.row false 3 1 (V9 s.2.1)]) (fun s=>s.1) (fun s=>s.1≤l.length∧s.2.1.length=l.length∧Dg s.2.1∧X9 (s.2.1.drop s.1)=X9 (l.drop s.1) / kd∧s.2.2=X9 (l.drop s.1) % kd) (l.length,List.replicate l.length 0,0) ⟨Nat.le_refl _,by simp,Dg.zeros _,by simp [X9],by simp [X9]⟩ rfl (fun _ _=>rfl) rfl fun ⟨k,o,R⟩ ⟨j1,j2,j3,j4,hR⟩=>?_
  dsimp only at j1 j2 j3 j4 hR ⊢
  cases k with
  |
   zero =>
   have cc:=Lh j3
   rw [List.drop_zero,List.drop_zero] at j4
   rw [j4] at cc
   exact en tt [.f (by simp),.c [] cc] rfl (by rw [hR,List.drop_zero]) trivial
  |
   succ k =>
   obtain ⟨d,hdk⟩:∃ d,l[k]? = some d:=⟨_,List.getElem?_eq_getElem (by omega)⟩
   have hd0:=hd d (List.mem_of_getElem? hdk)
   have hdd:=S0 hdk
   obtain ⟨s1,s2,s3⟩:=Qie (V:=X9 (l.drop (k+1))) (kd:=kd) (d:=d) hk.1
   rw [←hdd] at s1 s2
   have hr:=Nat.mod_lt (X9 (l.drop (k+1))) hk.1
   rw [←hR] at s1 s2 s3 hr
   have e:((k+1:Nat):Int)-1=(k:Int):=by omega
   have htd:((R:Int)*10000+(d:Int)).tdiv (kd:Int)=(((R*10000+d) / kd:Nat):Int):=rfl
   have hle:=Nat.div_le_self (R*10000+d) kd
   have htb:0≤((R:Int)*10000+(d:Int)).tdiv (kd:Int)∧((R:Int)*10000+(d:Int)).tdiv (kd:Int)≤655369999:=by
     rw [htd]; revert hle; generalize (R*10000+d) / kd=Q; intro hle; omega
   rw [e]
   refine go tt [.t (by simp),.x (Zl hdk),.r 26 (eI (b:=((R*10000+d:Nat):Int)) (by omega)),.r 31 (eI (b:=(((R*10000+d) / kd:Nat):Int)) (by rfl)),.i k,.r 35 (eI (b:=(((R*10000+d) % kd:Nat):Int)) (by rfl))] rfl (by simp [Qa]; omega) ?_
   exact rd (k,o.set k ((R*10000+d) / kd),(R*10000+d) % kd) (by dsimp only; omega) ⟨by dsimp only; omega,by simp [j2],j3.set (s3 hd0),by dsimp only; rw [Lm (by omega)]; simp only [X9]; rw [j4,s1],by dsimp only; exact s2.symm⟩ (by simp [V9,List.map_set]; rfl)
theorem Q9d (x k:Nat):sz (x / k)≤sz x:=X6 (Nat.div_le_self _ _)
theorem Qme {x y:Nat} {o:List Nat} (h:Q4 x=o++Q4 y) (h0:y≠0):Q4 x=(o++[y % 4294967296])++Q4 (y / 4294967296):=by
  rw [h,Fa h0]; simp
theorem Q3m (o:List Nat) (z:Nat):lm (o++[z])=lm o++[[.int .u32 (z:Int)]]:=by simp [lm]
theorem Zag {x:Nat} (hx:sz x≤100000000):Qd Tryz.prog 96 [.one (nd x)] [lr (Q4 x)]:=by
  have hlx:=X4 hx
  refine Z7 Tryz.func96 rfl ?_
  refine go tt [.o 3 169 1] rfl trivial ?_
  refine lp (S:=Nat×List Nat) 1 (fun L1 s=>(0,.v (.one (nd s.1)))::(3,.v (.one (.orow 0 1 none)))::L1) (fun s=>[.row false 169 1 (lm s.2)]) (fun s=>s.1) (fun s=>Q4 x=s.2++Q4 s.1∧s.1≤x) (x,[]) ⟨rfl,Nat.le_refl _⟩ rfl (fun _ _=>rfl) rfl fun ⟨y,o⟩ ⟨j1,j2⟩=>?_
  dsimp only at j1 j2 ⊢
  by_cases h0:y=0
  · subst h0
    rw [Zs,List.append_nil] at j1
    rw [j1]
    exact en tt [.f (by simp [Z8])] rfl rfl trivial
  · have hs:=Qme j1 h0
    have hsy:sz y≤100000000:=Nat.le_trans (X6 j2) hx
    have c1:=Qot (x:=y) (kd:=65536) hsy (by decide)
    have c2:=Qot (x:=y / 65536) (kd:=65536) (Nat.le_trans (Q9d _ _) hsy) (by decide)
    have hl:(Q8 y).length≠0:=fun h=>h0 (Cd.1 h)
    have ol:o.length≤(Q4 x).length:=by rw [j1]; simp
    have e:y / 65536 % 65536*65536+y % 65536=y % 4294967296:=by omega
    have e2:y / 65536 / 65536=y / 4294967296:=by omega
    refine go tt [.t (by simp; omega),.c [] c1,.c [] c2,.r 26 (Uz (b:=((y % 4294967296:Nat):Int)) (by omega)),.s (sz:=1) (l:=[[.int .u32 ((y % 4294967296:Nat):Int)]]) (fun c hc=>by rw [List.mem_singleton.1 hc]; rfl)] rfl (by simp [Qa,Qf]; omega) ?_
    rw [←e2] at hs
    exact rd (y / 65536 / 65536,o++[y % 4294967296]) (by dsimp only; omega) ⟨hs,by dsimp only; omega⟩ (by rw [Q3m]; rfl)
abbrev ri (z:Int):List LV:=[nd z.natAbs,sg z]
theorem Zbc (b:Bool) (m:Nat):[nd m,LV.bool (b && decide (0<m))]=ri (Qj b m):=by
  simp only [ri,sg,Xz,Qba]
theorem Q8l (x:Nat):(0<(Q8 x).length)↔0<x:=by
  have:=Cd (x:=x); omega
theorem Gm (b:Bool) (m:Nat):Qd Tryz.prog 97 [.one (nd m),.one (.bool b)] [.agg (ri (Qj b m))]:=by
  rw [←Zbc]
  have e:=Q8l m
  cases b with
  | false=>exact w tt Tryz.func97 rfl [.g 7 false rfl] rfl rfl trivial
  | true=>exact w tt Tryz.func97 rfl [.g 7 true rfl] rfl (by simp [e]) trivial
theorem Vy {z:Int}:Qd Tryz.prog 139 [.agg (ri z)] [.one (.bool (decide (z=0)))] :=
  w tt Tryz.func139 rfl [] rfl (by have h:=Cd (x:=z.natAbs); simp only [Xy]; congr 3; rw [decide_eq_decide]; omega) trivial
theorem Rx {z:Int}:Qd Tryz.prog 140 [.agg (ri z)] [.agg (ri (-z))]:=by
  have h:=Gm (!decide (z<0)) z.natAbs
  have e:Qj (!decide (z<0)) z.natAbs=-z:=by unfold Qj; by_cases h:z<0 <;> simp [h] <;> omega
  rw [e] at h
  exact w tt Tryz.func140 rfl [.c [] h] rfl rfl trivial
theorem Qr7 {z:Int} (hz:Ql z≤100000000):Qd Tryz.prog 46 [.agg (ri z)] [.agg (Zt z)] :=
  w tt Tryz.func46 rfl [.c [] (Zag hz)] rfl rfl trivial
theorem eBo {a b:Bool} (h:a=b):TV.one (LV.bool a)=.one (.bool b):=h ▸ rfl
theorem Gv (l:List Nat) (x:Nat):V9 (l++[x])=V9 l++[[.int .i64 (x:Int)]]:=by simp [V9]
theorem Qib {x y:Nat} {o:List Nat} (h:Q8 x=o++Q8 y) (h0:y≠0):Q8 x=(o++[y % 10000])++Q8 (y / 10000):=by
  rw [h,Td h0]; simp
theorem Q7f {b:Bool} {x:Nat} (hx:x≤4000000000000000000) (hb:b=true→0<x):Qd Tryz.prog 49 [.one (.int .i64 (Qj b x))] [.agg (ri (Qj b x))]:=by
  have hl:(Q8 x).length≤100:=by
    have:=Y9 x
    have h2:sz x≤64:=Kg.2 (by omega)
    omega
  have hm:=Gm b x
  refine Z7 Tryz.func49 rfl ?_
  cases b with
  |
   false =>
   show AK Tryz.prog _ _ _ (Nb 0 [.one (.int .i64 (x:Int))]) []
   refine go tt [.f (by simp <;> omega),.r 3 (eBo (b:=false) (by simp)),.f rfl,.o 4 3 1] rfl trivial ?_
   refine lp (S:=Nat×List Nat) 2 (fun L1 s=>(0,.v (.one (.int .i64 (s.1:Int))))::(4,.v (.one (.orow 1 1 none)))::L1) (fun s=>[.blk 47 [.nils,.bool false],.row false 3 1 (V9 s.2)]) (fun s=>s.1) (fun s=>Q8 x=s.2++Q8 s.1∧s.1≤x) (x,[]) ⟨rfl,Nat.le_refl _⟩ rfl (fun _ _=>rfl) rfl fun ⟨y,o⟩ ⟨j1,j2⟩=>?_
   dsimp only at j1 j2 ⊢
   by_cases h0:y=0
   · subst h0
     rw [Z8,List.append_nil] at j1
     rw [←j1]
     exact en tt [.f (by simp),.c [] hm] rfl rfl trivial
   · have hs:=Qib j1 h0
     have ol:o.length≤(Q8 x).length:=by rw [j1]; simp
     refine go tt [.t (by simp; omega),.r 18 (eI (b:=((y % 10000:Nat):Int)) (by rfl)),.s (sz:=1) (l:=[[.int .i64 ((y % 10000:Nat):Int)]]) (fun c hc=>by rw [List.mem_singleton.1 hc]; rfl),.r 22 (eI (b:=((y / 10000:Nat):Int)) (by rfl))] rfl (by simp [Qa,Xy]; omega) ?_
     exact rd (y / 10000,o++[y % 10000]) (by dsimp only; omega) ⟨hs,by dsimp only; omega⟩ (by rw [Gv]; rfl)
  |
   true =>
   show AK Tryz.prog _ _ _ (Nb 0 [.one (.int .i64 (-(x:Int)))]) []
   refine go tt [.f (by simp <;> omega),.r 3 (eBo (b:=true) (by simpa using hb rfl)),.t rfl,.r 0 (eI (b:=(x:Int)) (by omega)),.o 4 3 1] rfl (by simp [Qa]; omega) ?_
   refine lp (S:=Nat×List Nat) 2 (fun L1 s=>(0,.v (.one (.int .i64 (s.1:Int))))::(4,.v (.one (.orow 1 1 none)))::L1) (fun s=>[.blk 47 [.nils,.bool false],.row false 3 1 (V9 s.2)]) (fun s=>s.1) (fun s=>Q8 x=s.2++Q8 s.1∧s.1≤x) (x,[]) ⟨rfl,Nat.le_refl _⟩ rfl (fun _ _=>rfl) rfl fun ⟨y,o⟩ ⟨j1,j2⟩=>?_
   dsimp only at j1 j2 ⊢
   by_cases h0:y=0
   · subst h0
     rw [Z8,List.append_nil] at j1
     rw [←j1]
     exact en tt [.f (by simp),.c [] hm] rfl rfl trivial
   · have hs:=Qib j1 h0
     have ol:o.length≤(Q8 x).length:=by rw [j1]; simp
     refine go tt [.t (by simp; omega),.r 18 (eI (b:=((y % 10000:Nat):Int)) (by rfl)),.s (sz:=1) (l:=[[.int .i64 ((y % 10000:Nat):Int)]]) (fun c hc=>by rw [List.mem_singleton.1 hc]; rfl),.r 22 (eI (b:=((y / 10000:Nat):Int)) (by rfl))] rfl (by simp [Qa,Xy]; omega) ?_
     exact rd (y / 10000,o++[y % 10000]) (by dsimp only; omega) ⟨hs,by dsimp only; omega⟩ (by rw [Gv]; rfl)
theorem Ub {n:Int} (hn:-4000000000000000000≤n∧n≤4000000000000000000):Qd Tryz.prog 49 [.one (.int .i64 n)] [.agg (ri n)]:=by
  have e:Qj (decide (n<0)) n.natAbs=n:=by unfold Qj; by_cases h:n<0 <;> simp [h] <;> omega
  have h:=Q7f (b:=decide (n<0)) (x:=n.natAbs) (by omega) (fun h=>by have:=of_decide_eq_true h; omega)
  rwa [e] at h
end Orr

namespace Orr
open Go Go.Proofs
set_option maxRecDepth 10000
theorem Nq (x:Nat):(V9 (Q8 x)).length=(Q8 x).length:=Xy _
theorem Qtc (z:Int):∀ c∈[[LV.int .i64 z]],c.length=1:=fun c hc=>by rw [List.mem_singleton.1 hc]; rfl
theorem Zan {x:Nat} (h:x≤1000000000):(Q8 x).length≤3:=Qsn (by omega)
theorem tdn (n:Nat):((n:Nat):Int).tdiv 10000=((n / 10000:Nat):Int):=rfl
theorem Bj (n:Nat):((n:Nat):Int).tdiv 2=((n / 2:Nat):Int):=rfl
theorem B7 {x mu c0:Nat} (hx:sz x≤100000000) (hmu:mu≤65536) (hc:c0≤1000000000):Qd Tryz.prog 163 [.one (nd x),.one (.int .i64 (mu:Int)),.one (.int .i64 (c0:Int))] [.one (nd (x*mu+c0))]:=by
  have hxl:=Nat.le_trans (Y9 x) hx
  have hll:=Nq x
  show Qd Tryz.prog 163 [.one (.row (V9 (Q8 x))),.one (.int .i64 (mu:Int)),.one (.int .i64 (c0:Int))] _
  refine Z7 Tryz.func163 rfl ?_
  refine go tt [.r 11 (eI (b:=(((Q8 x).length+2:Nat):Int)) (by rw [hll]; omega)),.i 0,.i ((Q8 x).length+2)] rfl (by simp [Qa]; omega) ?_
  refine lp (S:=Nat×Nat×List Nat) 1 (fun L1 s=>(8,.v (.one (.int .i64 (s.1:Int))))::(7,.v (.one (.orow 0 1 none)))::(2,.v (.one (.int .i64 (s.2.1:Int))))::L1.filter (fun x=>x.1 != 12)) (fun s=>[.row false 3 1 (V9 s.2.2)]) (fun s=>((Q8 x).length-s.1)*4+(Q8 s.2.1).length) (fun s=>Dg s.2.2∧s.2.2.length=s.1∧X9 s.2.2+s.2.1*10000^s.1=X9 ((Q8 x).take s.1)*mu+c0∧(s.1≤(Q8 x).length∨s.1+(Q8 s.2.1).length≤(Q8 x).length+3)∧s.2.1≤1000000000) (0,c0,[]) ⟨Dg.nil,rfl,by simp [X9],.inl (Nat.zero_le _),hc⟩ rfl (fun _ _=>rfl) rfl fun s hs=>?_
  obtain ⟨i,c,o⟩:=s
  obtain ⟨hp0,hp1,hp2,hp3,hp4⟩:=hs
  dsimp only at hp0 hp1 hp2 hp3 hp4 ⊢
  have hcl:=Zan (x:=c) hp4
  by_cases h1:i<(Q8 x).length
  · obtain ⟨d,hd⟩:∃ d,(Q8 x)[i]? = some d:=⟨_,List.getElem?_eq_getElem h1⟩
    have hd9:=Kq x d (List.mem_of_getElem? hd)
    have hdm:d*mu≤9999*65536:=Nat.mul_le_mul (by omega) hmu
    have hc3:=Zan (x:=(c+d*mu) / 10000) (by omega)
    have hol:(V9 o).length=i:=by rw [Xy,hp1]
    refine go tt [.g 17 true (decide_eq_true (by omega)),.t rfl,.t (decide_eq_true (by omega)),.x (Zl hd),.r 33 (eI (b:=((d*mu:Nat):Int)) (by simp)),.r 34 (eI (b:=((c+d*mu:Nat):Int)) (by omega)),.r 37 (eI (b:=(((c+d*mu) % 10000:Nat):Int)) (by rfl)),.s (sz:=1) (Qtc _),.r 41 (eI (b:=(((c+d*mu) / 10000:Nat):Int)) (by rfl))] rfl (by simp [Qa,hol,tdn,Bj,-Int.natCast_add,-Int.natCast_mul]; omega) ?_
    exact rd (i+1,(c+d*mu) / 10000,o++[(c+d*mu) % 10000]) (by dsimp only; omega) ⟨hp0.snoc (Nat.mod_lt _ (by decide)),by dsimp only; rw [List.length_append]; show o.length+1=_; omega,by
      dsimp only
      rw [J9,Jk hd,hp1,Nat.pow_succ]; simp only [X9,Nat.mul_zero,Nat.add_zero]; have:=Qcu (d:=d) (m:=mu) rfl hp2; rw [this]; grind,.inl (by dsimp only; omega),by dsimp only; omega⟩ (by rw [Gv]; rfl)
  · by_cases h2:0<c
    · have hdc:=Gt (x:=c) (by omega)
      have hol:(V9 o).length=i:=by rw [Xy,hp1]
      refine go tt [.g 17 false (decide_eq_false (by omega)),.t (decide_eq_true (by omega)),.f (decide_eq_false (by omega)),.r 37 (eI (b:=((c % 10000:Nat):Int)) (by rfl)),.s (sz:=1) (Qtc _),.r 41 (eI (b:=((c / 10000:Nat):Int)) (by rfl))] rfl (by simp [Qa,hol,tdn,Bj,-Int.natCast_add]; omega) ?_
      exact rd (i+1,c / 10000,o++[c % 10000]) (by dsimp only; omega) ⟨hp0.snoc (Nat.mod_lt _ (by decide)),by dsimp only; rw [List.length_append]; show o.length+1=_; omega,by
        dsimp only
        rw [J9,hp1,Nat.pow_succ]; simp only [X9,Nat.mul_zero,Nat.add_zero]; have:=Qcu (d:=0) (m:=mu) rfl hp2; simp only [Nat.zero_mul,Nat.mul_zero,Nat.add_zero] at this; rw [this,List.take_of_length_le (by omega),List.take_of_length_le (by omega)],.inr (by dsimp only; omega),by dsimp only; omega⟩ (by rw [Gv]; rfl)
    · have cc:=Lh hp0
      rw [show X9 o=x*mu+c0 from by
        have h:=hp2; rw [List.take_of_length_le (by omega),Xq,show c=0 by omega] at h; omega] at cc
      exact en tt [.g 17 false (decide_eq_false (by omega)),.f (decide_eq_false (by omega)),.c [] cc] rfl rfl trivial
theorem Qtz {l:List Nat} {j d:Nat} (h:l[j]? = some d):val (l.drop j)=d+4294967296*val (l.drop (j+1)):=by
  have hi:=(List.getElem?_eq_some_iff.1 h).1
  rw [List.drop_eq_getElem_cons hi,(List.getElem?_eq_some_iff.1 h).2]; rfl
theorem Ar:∀ (l:List Nat) (j:Nat),val (l.drop j)≤val l
  | l,0=>Nat.le_refl _
  | [],j+1=>by simp
  |
   x::l,j+1=>by
   have:=Ar l j
   rw [List.drop_succ_cons]; simp only [val]; omega
theorem Q1r {l:List Nat} (hu:∀ u∈l,u<4294967296) (hl:l.length≤1099511627776) (hx:sz (val l)≤100000000):Qd Tryz.prog 99 [lr l] [.one (nd (val l))]:=by
  have hll:=Qf l
  show Qd Tryz.prog 99 [.one (.row (lm l))] _
  refine Z7 Tryz.func99 rfl ?_
  refine go tt [.z 3,.r 7 (eI (b:=((l.length:Nat):Int)-1) (by rw [hll]))] rfl (by simp [Qa]; omega) ?_
  refine lp (S:=Nat×List Nat) 0 (fun L1 s=>(4,.v (.one (.int .i64 ((s.1:Int)-1))))::(3,.v (.one (.row (V9 s.2))))::L1) (fun _=>[]) (fun s=>s.1) (fun s=>s.1≤l.length∧s.2=Q8 (val (l.drop s.1))) (l.length,[]) ⟨Nat.le_refl _,by dsimp only; rw [List.drop_eq_nil_of_le (Nat.le_refl _)]; show []=Q8 0; rw [Z8]⟩ rfl (fun _ _=>rfl) rfl fun s hs=>?_
  obtain ⟨j,o⟩:=s
  obtain ⟨hj,ho⟩:=hs
  dsimp only at hj ho ⊢
  subst ho
  cases j with
  | zero=>exact en tt [.f (by simp)] rfl (by rw [List.drop_zero]; rfl) trivial
  |
   succ j =>
   obtain ⟨d,hd⟩:∃ d,l[j]? = some d:=⟨_,List.getElem?_eq_getElem (by omega)⟩
   have hd9:=hu d (List.mem_of_getElem? hd)
   have hdd:=Qtz hd
   have hle:=Ar l j
   have hs2:sz (val (l.drop (j+1))*65536+d / 65536)≤100000000:=Nat.le_trans (X6 (by omega)) hx
   have hs1:sz (val (l.drop (j+1)))≤100000000:=Nat.le_trans (X6 (by omega)) hx
   have c1:=B7 (x:=val (l.drop (j+1))) (mu:=65536) (c0:=d / 65536) hs1 (by omega) (by omega)
   have c2:=B7 (x:=val (l.drop (j+1))*65536+d / 65536) (mu:=65536) (c0:=d % 65536) hs2 (by omega) (by omega)
   have ej:((j+1:Nat):Int)-1=(j:Int):=by omega
   have e2:(val (l.drop (j+1))*65536+d / 65536)*65536+d % 65536=val (l.drop j):=by rw [hdd]; omega
   rw [e2] at c2
   rw [ej]
   refine go tt [.t (decide_eq_true (by omega)),.x (Zn hd),.r 17 (Uz (b:=((d / 65536:Nat):Int)) (by rfl)),.c [] c1,.x (Zn hd),.r 25 (Uz (b:=((d % 65536:Nat):Int)) (by rfl)),.c [] c2] rfl (by simp [Qa,IntKind.bits]; omega) ?_
   exact rd (j,Q8 (val (l.drop j))) (by dsimp only; omega) ⟨by dsimp only; omega,rfl⟩ rfl
theorem Qla {x y:Nat} (hx:sz x≤200000000) (hy:sz y≤200000000):Qd Tryz.prog 243 [.one (nd x),.one (nd y)] [.one (.int .i64 (Sb x y))]:=by
  have hxl:=Nat.le_trans (Y9 x) hx
  have hyl:=Nat.le_trans (Y9 y) hy
  have lx:=Nq x
  have ly:=Nq y
  show Qd Tryz.prog 243 [.one (.row (V9 (Q8 x))),.one (.row (V9 (Q8 y)))] _
  refine Z7 Tryz.func243 rfl ?_
  by_cases hl:(Q8 x).length=(Q8 y).length
  · refine go tt [.f (by simp; omega),.r 18 (eI (b:=((Q8 x).length:Int)-1) (by rw [lx]))] rfl (by simp [Qa]; omega) ?_
    refine lp (S:=Nat) 0 (fun L1 j=>(5,.v (.one (.int .i64 ((j:Int)-1))))::L1) (fun _=>[]) (fun j=>j) (fun j=>j≤(Q8 x).length∧(Q8 x).drop j=(Q8 y).drop j) (Q8 x).length ⟨Nat.le_refl _,by rw [List.drop_eq_nil_of_le (Nat.le_refl _),List.drop_eq_nil_of_le (by omega)]⟩ rfl (fun _ _=>rfl) rfl fun j hs=>?_
    obtain ⟨hj,hp⟩:=hs
    cases j with
    |
     zero =>
     have hxy:x=y:=by rw [List.drop_zero,List.drop_zero] at hp; rw [←Xq x,←Xq y,hp]
     exact en tt [.f (by simp)] rfl (by rw [Qoz hxy]) trivial
    |
     succ j =>
     obtain ⟨d,hd⟩:∃ d,(Q8 x)[j]? = some d:=⟨_,List.getElem?_eq_getElem (by omega)⟩
     obtain ⟨e,he⟩:∃ e,(Q8 y)[j]? = some e:=⟨_,List.getElem?_eq_getElem (by omega)⟩
     have ej:((j+1:Nat):Int)-1=(j:Int):=by omega
     rw [ej]
     by_cases h2:d=e
     · refine go tt [.t (decide_eq_true (by omega)),.x (Zl hd),.x (Zl he),.f (by simp [h2])] rfl (by simp [Qa]; omega) ?_
       exact rd j (by omega) ⟨by omega,by rw [List.drop_eq_getElem_cons (by omega:j<(Q8 x).length),List.drop_eq_getElem_cons (by omega:j<(Q8 y).length),hp,(List.getElem?_eq_some_iff.1 hd).2,(List.getElem?_eq_some_iff.1 he).2,h2]⟩ rfl
     · by_cases h3:d<e
       · have hxy:=O6 (Kq x) hd he hp h3
         rw [Xq,Xq] at hxy
         exact en tt [.t (decide_eq_true (by omega)),.x (Zl hd),.x (Zl he),.t (by simp; omega),.x (Zl hd),.x (Zl he),.t (decide_eq_true (by omega))] rfl (by rw [Ic hxy]) trivial
       · have hxy:=O6 (Kq y) he hd hp.symm (by omega)
         rw [Xq,Xq] at hxy
         exact en tt [.t (decide_eq_true (by omega)),.x (Zl hd),.x (Zl he),.t (by simp; omega),.x (Zl hd),.x (Zl he),.f (decide_eq_false (by omega))] rfl (by rw [Ib hxy]) trivial
  · by_cases hlt:(Q8 x).length<(Q8 y).length
    · exact en tt [.t (by simp; omega),.t (decide_eq_true (by omega))] rfl (by rw [Ic (Qia hlt)]) trivial
    · exact en tt [.t (by simp; omega),.f (decide_eq_false (by omega))] rfl (by rw [Ib (Qia (by omega))]) trivial
theorem Mg {o c s P V:Nat} (h:o+c*P=V):o+P*((c+s) % 10000)+(c+s) / 10000*(P*10000)=V+P*s:=by
  have e:=Nat.div_add_mod (c+s) 10000
  generalize (c+s) / 10000=q at *
  generalize (c+s) % 10000=r at *
  have e2:P*(c+s)=P*(10000*q+r):=by rw [e]
  grind
theorem Hw {l:List Nat} {i:Nat} (h:l.length≤i):X9 (l.take (i+1))=X9 (l.take i):=by rw [List.take_of_length_le (by omega),List.take_of_length_le h]
theorem Qpc {l:List Nat} {p v u:Nat} (h:l[p]? = some v):X9 (l.set p u)+10000^p*v=X9 l+10000^p*u:=by
  have hp:=(List.getElem?_eq_some_iff.1 h).1
  rw [If (l.set p u) p (by rw [List.length_set]; omega),If l p (by omega),S0 h,Lm hp,List.take_set_of_le (Nat.le_refl _)]
  simp only [X9]
  generalize 10000^p=P
  grind
theorem Gw {l:List Nat} {p u:Nat} (h:p<l.length):X9 ((l.set p u).take (p+1))=X9 (l.take p)+10000^p*u:=by
  rw [Jk (l:=l.set p u) (i:=p) (x:=u) (by simp [h]),List.take_set_of_le (Nat.le_refl _)]
structure AddI (x y:Nat) (s:Nat×Nat×List Nat):Prop where
  d:Dg s.2.2
  l:s.2.2.length=s.1
  v:X9 s.2.2+s.2.1*10000^s.1=X9 ((Q8 x).take s.1)+X9 ((Q8 y).take s.1)
  c:s.2.1≤1
  b:s.1≤max (Q8 x).length (Q8 y).length∨s.1=max (Q8 x).length (Q8 y).length+1∧10000^(max (Q8 x).length (Q8 y).length)≤x+y∧s.2.1=0
theorem Q63 {x y:Nat} (hx:sz x≤200000000) (hy:sz y≤200000000):Qd Tryz.prog 261 [.one (nd x),.one (nd y)] [.one (nd (x+y))]:=by
  have hxl:=Nat.le_trans (Y9 x) hx
  have hyl:=Nat.le_trans (Y9 y) hy
  have lx:=Nq x
  have ly:=Nq y
  show Qd Tryz.prog 261 [.one (.row (V9 (Q8 x))),.one (.row (V9 (Q8 y)))] _
  refine Z7 Tryz.func261 rfl ?_
  refine go tt [.o 5 3 1] rfl trivial ?_
  refine lp (S:=Nat×Nat×List Nat) 1 (fun L1 s=>(7,.v (.one (.int .i64 (s.1:Int))))::(6,.v (.one (.int .i64 (s.2.1:Int))))::(5,.v (.one (.orow 0 1 none)))::L1) (fun s=>[.row false 3 1 (V9 s.2.2)]) (fun s=>(max (Q8 x).length (Q8 y).length-s.1)*2+s.2.1) (AddI x y) (0,0,[]) ⟨Dg.nil,rfl,by simp [X9],by decide,.inl (Nat.zero_le _)⟩ rfl (fun _ _=>rfl) rfl fun s hs=>?_
  obtain ⟨i,c,o⟩:=s
  obtain ⟨hp0,hp1,hp2,hp3,hp4⟩:=hs
  dsimp only at hp0 hp1 hp2 hp3 hp4 ⊢
  have hol:(V9 o).length=i:=by rw [Xy,hp1]
  by_cases h1:i<(Q8 x).length
  · obtain ⟨d,hd⟩:∃ d,(Q8 x)[i]? = some d:=⟨_,List.getElem?_eq_getElem h1⟩
    have hd9:=Kq x d (List.mem_of_getElem? hd)
    by_cases h2:i<(Q8 y).length
    · obtain ⟨e,he⟩:∃ e,(Q8 y)[i]? = some e:=⟨_,List.getElem?_eq_getElem h2⟩
      have he9:=Kq y e (List.mem_of_getElem? he)
      refine go tt [.g 12 true (decide_eq_true (by omega)),.g 18 true rfl,.t rfl,.t (decide_eq_true (by omega)),.x (Zl hd),.r 33 (eI (b:=((c+d:Nat):Int)) (by omega)),.t (decide_eq_true (by omega)),.x (Zl he),.r 43 (eI (b:=((c+(d+e):Nat):Int)) (by omega)),.r 46 (eI (b:=(((c+(d+e)) % 10000:Nat):Int)) (by rfl)),.s (sz:=1) (Qtc _),.r 50 (eI (b:=(((c+(d+e)) / 10000:Nat):Int)) (by rfl))] rfl (by simp [Qa,hol,tdn,Bj,-Int.natCast_add]; omega) ?_
      exact rd (i+1,(c+(d+e)) / 10000,o++[(c+(d+e)) % 10000]) (by dsimp only; omega) ⟨hp0.snoc (Nat.mod_lt _ (by decide)),by dsimp only; rw [List.length_append]; show o.length+1=_; omega,by
        dsimp only
        rw [J9,hp1,Nat.pow_succ]; simp only [X9,Nat.mul_zero,Nat.add_zero]; have:=Mg (s:=d+e) hp2; rw [this,Jk hd,Jk he]; grind,by dsimp only; omega,.inl (by dsimp only; omega)⟩ (by rw [Gv]; rfl)
    · refine go tt [.g 12 true (decide_eq_true (by omega)),.g 18 true rfl,.t rfl,.t (decide_eq_true (by omega)),.x (Zl hd),.r 33 (eI (b:=((c+d:Nat):Int)) (by omega)),.f (decide_eq_false (by omega)),.r 46 (eI (b:=(((c+d) % 10000:Nat):Int)) (by rfl)),.s (sz:=1) (Qtc _),.r 50 (eI (b:=(((c+d) / 10000:Nat):Int)) (by rfl))] rfl (by simp [Qa,hol,tdn,Bj,-Int.natCast_add]; omega) ?_
      exact rd (i+1,(c+d) / 10000,o++[(c+d) % 10000]) (by dsimp only; omega) ⟨hp0.snoc (Nat.mod_lt _ (by decide)),by dsimp only; rw [List.length_append]; show o.length+1=_; omega,by
        dsimp only
        rw [J9,hp1,Nat.pow_succ]; simp only [X9,Nat.mul_zero,Nat.add_zero]; have:=Mg (s:=d) hp2; rw [this,Jk hd,Hw (l:=Q8 y) (by omega)]; grind,by dsimp only; omega,.inl (by dsimp only; omega)⟩ (by rw [Gv]; rfl)
  · by_cases h2:i<(Q8 y).length
    · obtain ⟨e,he⟩:∃ e,(Q8 y)[i]? = some e:=⟨_,List.getElem?_eq_getElem h2⟩
      have he9:=Kq y e (List.mem_of_getElem? he)
      refine go tt [.g 12 false (decide_eq_false (by omega)),.g 18 true (decide_eq_true (by omega)),.t rfl,.f (decide_eq_false (by omega)),.t (decide_eq_true (by omega)),.x (Zl he),.r 43 (eI (b:=((c+e:Nat):Int)) (by omega)),.r 46 (eI (b:=(((c+e) % 10000:Nat):Int)) (by rfl)),.s (sz:=1) (Qtc _),.r 50 (eI (b:=(((c+e) / 10000:Nat):Int)) (by rfl))] rfl (by simp [Qa,hol,tdn,Bj,-Int.natCast_add]; omega) ?_
      exact rd (i+1,(c+e) / 10000,o++[(c+e) % 10000]) (by dsimp only; omega) ⟨hp0.snoc (Nat.mod_lt _ (by decide)),by dsimp only; rw [List.length_append]; show o.length+1=_; omega,by
        dsimp only
        rw [J9,hp1,Nat.pow_succ]; simp only [X9,Nat.mul_zero,Nat.add_zero]; have:=Mg (s:=e) hp2; rw [this,Jk he,Hw (l:=Q8 x) (by omega)]; grind,by dsimp only; omega,.inl (by dsimp only; omega)⟩ (by rw [Gv]; rfl)
    · by_cases h3:0<c
      · refine go tt [.g 12 false (decide_eq_false (by omega)),.g 18 false (decide_eq_false (by omega)),.t (decide_eq_true (by omega)),.f (decide_eq_false (by omega)),.f (decide_eq_false (by omega)),.r 46 (eI (b:=((c % 10000:Nat):Int)) (by rfl)),.s (sz:=1) (Qtc _),.r 50 (eI (b:=((c / 10000:Nat):Int)) (by rfl))] rfl (by simp [Qa,hol,tdn,Bj,-Int.natCast_add]; omega) ?_
        exact rd (i+1,c / 10000,o++[c % 10000]) (by dsimp only; omega) ⟨hp0.snoc (Nat.mod_lt _ (by decide)),by dsimp only; rw [List.length_append]; show o.length+1=_; omega,by
          dsimp only
          rw [J9,hp1,Nat.pow_succ]; simp only [X9,Nat.mul_zero,Nat.add_zero]; have:=Mg (s:=0) hp2; rw [Nat.add_zero,Nat.mul_zero,Nat.add_zero] at this; rw [this,Hw (l:=Q8 y) (by omega),Hw (l:=Q8 x) (by omega)],by dsimp only; omega,.inr ⟨by dsimp only; omega,by
            have h:=hp2; rw [List.take_of_length_le (by omega),List.take_of_length_le (by omega),Xq,Xq,show c=1 by omega,Nat.one_mul,show i=(max (Q8 x).length (Q8 y).length) by omega] at h; omega,by dsimp only; omega⟩⟩ (by rw [Gv]; rfl)
      · have hv:X9 o=x+y:=by
          have h:=hp2
          rw [List.take_of_length_le (by omega),List.take_of_length_le (by omega),Xq,Xq,show c=0 by omega] at h
          omega
        have hfin:o=Q8 (x+y):=by
          have h:=Qwi (o:=o) hp0
          rw [hv] at h
          refine h ?_
          have m1:=Sx (x:=x) (y:=x+y) (by omega)
          have m2:=Sx (x:=y) (y:=x+y) (by omega)
          rcases hp4 with hb | ⟨_,hb,_⟩
          · omega
          · have:=Qsm hb; omega
        exact en tt [.g 12 false (decide_eq_false (by omega)),.g 18 false (decide_eq_false (by omega)),.f (decide_eq_false (by omega))] rfl (by rw [hfin]; rfl) trivial
theorem Mh {o b a c P u d e c':Nat} (h:o+b=a+c*P) (hs:u+e+c=d+10000*c'):(o+P*u)+(b+P*e)=(a+P*d)+c'*(P*10000):=by
  have e2:P*(u+e+c)=P*(d+10000*c'):=by rw [hs]
  grind
theorem Tf (o:List Nat) (i u:Nat):V9 (o.set i u)=(V9 o).set i [.int .i64 (u:Int)]:=by simp [V9,List.map_set]
theorem Qli {x y:Nat} (hx:sz x≤200000000) (hy:sz y≤200000000) (hyx:y≤x):Qd Tryz.prog 244 [.one (nd x),.one (nd y)] [.one (nd (x-y))]:=by
  have hxl:=Nat.le_trans (Y9 x) hx
  have hyl:=Nat.le_trans (Y9 y) hy
  have lx:=Nq x
  have ly:=Nq y
  have hmy:=Sx hyx
  show Qd Tryz.prog 244 [.one (.row (V9 (Q8 x))),.one (.row (V9 (Q8 y)))] _
  refine Z7 Tryz.func244 rfl ?_
  refine go tt [.i (V9 (Q8 x)).length,.i (V9 (Q8 x)).length] rfl (by simp [Qa]; omega) ?_
  rw [lx,show List.replicate (Q8 x).length [LV.int .i64 0]=V9 (List.replicate (Q8 x).length 0) from by simp [V9]]
  refine lp (S:=Nat×Nat×List Nat) 1 (fun L1 s=>(14,.v (.one (.int .i64 (s.1:Int))))::(6,.v (.one (.int .i64 (s.2.1:Int))))::L1) (fun s=>[.row false 3 1 (V9 s.2.2)]) (fun s=>(Q8 x).length-s.1) (fun s=>s.1≤(Q8 x).length∧s.2.2.length=(Q8 x).length∧Dg s.2.2∧X9 (s.2.2.take s.1)+X9 ((Q8 y).take s.1)=X9 ((Q8 x).take s.1)+s.2.1*10000^s.1∧s.2.1≤1) (0,0,List.replicate (Q8 x).length 0) ⟨Nat.zero_le _,List.length_replicate ..,Dg.zeros _,by simp [X9],Nat.zero_le _⟩ rfl (fun _ _=>rfl) rfl fun s hs=>?_
  obtain ⟨i,c,o⟩:=s
  obtain ⟨hp0,hp1,hp2,hp3,hp4⟩:=hs
  dsimp only at hp0 hp1 hp2 hp3 hp4 ⊢
  have hol:(V9 o).length=(Q8 x).length:=by rw [Xy,hp1]
  by_cases h1:i<(Q8 x).length
  · obtain ⟨d,hd⟩:∃ d,(Q8 x)[i]? = some d:=⟨_,List.getElem?_eq_getElem h1⟩
    have hd9:=Kq x d (List.mem_of_getElem? hd)
    by_cases h2:i<(Q8 y).length
    · obtain ⟨e,he⟩:∃ e,(Q8 y)[i]? = some e:=⟨_,List.getElem?_eq_getElem h2⟩
      have he9:=Kq y e (List.mem_of_getElem? he)
      by_cases h3:d<c+e
      · refine go tt [.t (decide_eq_true (by omega)),.x (Zl hd),.t (decide_eq_true (by omega)),.x (Zl he),.t (decide_eq_true (by omega)),.r 36 (eI (b:=((d+10000-c-e:Nat):Int)) (by omega)),.i i] rfl (by simp [Qa,hol,tdn,Bj,-Int.natCast_add]; omega) ?_
        exact rd (i+1,1,o.set i (d+10000-c-e)) (by dsimp only; omega) ⟨by dsimp only; omega,by dsimp only; rw [List.length_set]; exact hp1,hp2.set (by omega),by
          dsimp only
          rw [Gw (by omega),Jk hd,Jk he,Nat.pow_succ]; exact Mh hp3 (u:=d+10000-c-e) (d:=d) (e:=e) (c':=1) (by omega),by dsimp only; omega⟩ (by rw [Tf]; rfl)
      · refine go tt [.t (decide_eq_true (by omega)),.x (Zl hd),.t (decide_eq_true (by omega)),.x (Zl he),.r 32 (eI (b:=((d-c-e:Nat):Int)) (by omega)),.f (decide_eq_false (by omega)),.i i] rfl (by simp [Qa,hol,tdn,Bj,-Int.natCast_add]; omega) ?_
        exact rd (i+1,0,o.set i (d-c-e)) (by dsimp only; omega) ⟨by dsimp only; omega,by dsimp only; rw [List.length_set]; exact hp1,hp2.set (by omega),by
          dsimp only
          rw [Gw (by omega),Jk hd,Jk he,Nat.pow_succ]; exact Mh hp3 (u:=d-c-e) (d:=d) (e:=e) (c':=0) (by omega),by dsimp only; omega⟩ (by rw [Tf]; rfl)
    · have hy0:X9 ((Q8 y).take (i+1))=X9 ((Q8 y).take i)+10000^i*0:=by rw [Hw (by omega),Nat.mul_zero,Nat.add_zero]
      by_cases h3:d<c
      · refine go tt [.t (decide_eq_true (by omega)),.x (Zl hd),.f (decide_eq_false (by omega)),.t (decide_eq_true (by omega)),.r 36 (eI (b:=((d+10000-c:Nat):Int)) (by omega)),.i i] rfl (by simp [Qa,hol,tdn,Bj,-Int.natCast_add]; omega) ?_
        exact rd (i+1,1,o.set i (d+10000-c)) (by dsimp only; omega) ⟨by dsimp only; omega,by dsimp only; rw [List.length_set]; exact hp1,hp2.set (by omega),by
          dsimp only
          rw [Gw (by omega),Jk hd,hy0,Nat.pow_succ]; exact Mh hp3 (u:=d+10000-c) (d:=d) (e:=0) (c':=1) (by omega),by dsimp only; omega⟩ (by rw [Tf]; rfl)
      · refine go tt [.t (decide_eq_true (by omega)),.x (Zl hd),.r 22 (eI (b:=((d-c:Nat):Int)) (by omega)),.f (decide_eq_false (by omega)),.f (decide_eq_false (by omega)),.i i] rfl (by simp [Qa,hol,tdn,Bj,-Int.natCast_add]; omega) ?_
        exact rd (i+1,0,o.set i (d-c)) (by dsimp only; omega) ⟨by dsimp only; omega,by dsimp only; rw [List.length_set]; exact hp1,hp2.set (by omega),by
          dsimp only
          rw [Gw (by omega),Jk hd,hy0,Nat.pow_succ]; exact Mh hp3 (u:=d-c) (d:=d) (e:=0) (c':=0) (by omega),by dsimp only; omega⟩ (by rw [Tf]; rfl)
  · have hi:i=(Q8 x).length:=by omega
    have hv:X9 o=x-y:=by
      have h:=hp3
      rw [List.take_of_length_le (by omega),List.take_of_length_le (by omega),List.take_of_length_le (by omega),Xq,Xq] at h
      have hlt:=Qab hp2
      rw [hp1,←hi] at hlt
      have hc0:c=0:=by
        rcases Nat.eq_zero_or_pos c with h0 | h0
        · exact h0
        · exfalso
          have:c=1:=by omega
          rw [this,Nat.one_mul] at h; omega
      rw [hc0] at h; omega
    have cc:=Lh hp2
    rw [hv] at cc
    exact en tt [.f (decide_eq_false (by omega)),.c [] cc] rfl rfl trivial
theorem O9 {o o2 c P u v s V:Nat} (h:o+c*P=V) (hs:o2+P*v=o+P*u) {q:Nat} (hu:u+10000*q=v+c+s):o2+q*(P*10000)=V+P*s:=by
  have e2:P*(u+10000*q)=P*(v+c+s):=by rw [hu]
  grind
theorem Zao (S:Nat):S % 10000+10000*(S / 10000)=S:=Nat.mod_add_div S 10000
structure MulI (x y i d:Nat) (s:Nat×Nat×List Nat):Prop where
  l:s.2.2.length=(Q8 x).length+(Q8 y).length
  dg:Dg s.2.2
  v:X9 s.2.2+s.2.1*10000^(i+s.1)=X9 ((Q8 x).take i)*y+10000^i*d*X9 ((Q8 y).take s.1)
  c:s.2.1<10000
  b:s.1≤(Q8 y).length∧(∀ j v,i+(Q8 y).length≤j→s.2.2[j]? = some v→v=0)∨s.1=(Q8 y).length+1∧s.2.1=0∧∀ j v,i+(Q8 y).length+1≤j→s.2.2[j]? = some v→v=0
theorem Q68 {x y:Nat} (hx:sz x≤200000000) (hy:sz y≤200000000):Qd Tryz.prog 98 [.one (nd x),.one (nd y)] [.one (nd (x*y))]:=by
  have hxl:=Nat.le_trans (Y9 x) hx
  have hyl:=Nat.le_trans (Y9 y) hy
  have lx:=Nq x
  have ly:=Nq y
  show Qd Tryz.prog 98 [.one (.row (V9 (Q8 x))),.one (.row (V9 (Q8 y)))] _
  refine Z7 Tryz.func98 rfl ?_
  refine go tt [.r 14 (eI (b:=(((Q8 x).length+(Q8 y).length:Nat):Int)) (by rw [lx,ly]; omega)),.i ((Q8 x).length+(Q8 y).length),.i ((Q8 x).length+(Q8 y).length)] rfl (by simp [Qa]; omega) ?_
  rw [show List.replicate ((Q8 x).length+(Q8 y).length) [LV.int .i64 0]=V9 (List.replicate ((Q8 x).length+(Q8 y).length) 0) from by simp [V9]]
  refine lp (S:=Nat×List Nat) 1 (fun L1 s=>(18,.v (.one (.int .i64 (s.1:Int))))::L1) (fun s=>[.row false 3 1 (V9 s.2)]) (fun s=>(Q8 x).length-s.1) (fun s=>s.1≤(Q8 x).length∧s.2.length=(Q8 x).length+(Q8 y).length∧Dg s.2∧X9 s.2=X9 ((Q8 x).take s.1)*y∧∀ j v,s.1+(Q8 y).length≤j→s.2[j]? = some v→v=0) (0,List.replicate ((Q8 x).length+(Q8 y).length) 0) ⟨Nat.zero_le _,List.length_replicate ..,Dg.zeros _,by rw [Qac (fun x hx=>List.eq_of_mem_replicate hx)]; simp [X9],fun j v _ hv=>List.eq_of_mem_replicate (List.mem_of_getElem? hv)⟩ rfl (fun _ _=>rfl) rfl fun s hs=>?_
  obtain ⟨i,o⟩:=s
  obtain ⟨hp0,hp1,hp2,hp3,hp4⟩:=hs
  dsimp only at hp0 hp1 hp2 hp3 hp4 ⊢
  by_cases h1:i<(Q8 x).length
  · obtain ⟨d,hd⟩:∃ d,(Q8 x)[i]? = some d:=⟨_,List.getElem?_eq_getElem h1⟩
    have hd9:=Kq x d (List.mem_of_getElem? hd)
    refine go tt [.t (decide_eq_true (by omega))] rfl trivial ?_
    refine lp (S:=Nat×Nat×List Nat) 1 (fun L1 s=>(8,.v (.one (.int .i64 (s.1:Int))))::(7,.v (.one (.int .i64 (s.2.1:Int))))::L1) (fun s=>[.row false 3 1 (V9 s.2.2)]) (fun s=>((Q8 y).length-s.1)*2+min s.2.1 1) (MulI x y i d) (0,0,o) ⟨hp1,hp2,by dsimp only; rw [hp3]; simp [X9],by show 0<10000; decide,.inl ⟨Nat.zero_le _,hp4⟩⟩ rfl (fun _ _=>rfl) rfl fun s hs=>?_
    obtain ⟨k,c,o2⟩:=s
    obtain ⟨hq0,hq1,hq2,hq3,hq4⟩:=hs
    dsimp only at hq0 hq1 hq2 hq3 hq4 ⊢
    have hol:(V9 o2).length=(Q8 x).length+(Q8 y).length:=by rw [Xy,hq0]
    by_cases h2:k<(Q8 y).length
    · obtain ⟨e,he⟩:∃ e,(Q8 y)[k]? = some e:=⟨_,List.getElem?_eq_getElem h2⟩
      have he9:=Kq y e (List.mem_of_getElem? he)
      have hde:d*e≤9999*9999:=Nat.mul_le_mul (by omega) (by omega)
      obtain ⟨v,hoi⟩:∃ v,o2[i+k]? = some v:=⟨_,List.getElem?_eq_getElem (by omega)⟩
      have hv9:=hq1 v (List.mem_of_getElem? hoi)
      refine go tt [.g 25 true (decide_eq_true (by omega)),.t rfl,.r 34 (eI (b:=((i+k:Nat):Int)) (by omega)),.i (i+k),.x (Zl hoi),.r 38 (eI (b:=((v+c:Nat):Int)) (by omega)),.t (decide_eq_true (by omega)),.x (Zl hd),.x (Zl he),.r 52 (eI (b:=((d*e:Nat):Int)) (by simp)),.r 53 (eI (b:=((v+c+d*e:Nat):Int)) (by omega)),.r 57 (eI (b:=((i+k:Nat):Int)) (by omega)),.r 59 (eI (b:=(((v+c+d*e) % 10000:Nat):Int)) (by rfl)),.i (i+k),.r 62 (eI (b:=(((v+c+d*e) / 10000:Nat):Int)) (by rfl))] rfl (by simp [Qa,hol,tdn,Bj,-Int.natCast_add,-Int.natCast_mul]; omega) ?_
      exact rd (k+1,(v+c+d*e) / 10000,o2.set (i+k) ((v+c+d*e) % 10000)) (by dsimp only; omega) ⟨by dsimp only; rw [List.length_set]; exact hq0,hq1.set (Nat.mod_lt _ (by decide)),by
        dsimp only
        rw [←Nat.add_assoc i k 1,Nat.pow_succ]; have:=O9 hq2 (Qpc hoi (u:=((v+c)+(d*e)) % 10000)) (s:=d*e) (q:=((v+c)+(d*e)) / 10000) (by rw [Zao]); rw [this,Jk he,Nat.pow_add]; grind,by dsimp only; omega,.inl ⟨by dsimp only; omega,fun j w hj hw=>(by
          dsimp only at hw
          rcases hq4 with ⟨_,h⟩ | ⟨_,_,h⟩ <;> (rw [List.getElem?_set_ne (by omega)] at hw; exact h j w (by omega) hw))⟩⟩ (by rw [Tf]; rfl)
    · by_cases h3:0<c
      · have hk:k=(Q8 y).length:=by omega
        have hz:∀ j v,i+(Q8 y).length≤j→o2[j]? = some v→v=0:=by
          rcases hq4 with ⟨_,h⟩ | ⟨_,h,_⟩
          · exact h
          · omega
        obtain ⟨v,hoi⟩:∃ v,o2[i+k]? = some v:=⟨_,List.getElem?_eq_getElem (by omega)⟩
        have hv0:v=0:=hz (i+k) v (by omega) hoi
        have hv9:=hq1 v (List.mem_of_getElem? hoi)
        refine go tt [.g 25 false (decide_eq_false (by omega)),.t (decide_eq_true (by omega)),.r 34 (eI (b:=((i+k:Nat):Int)) (by omega)),.i (i+k),.x (Zl hoi),.r 38 (eI (b:=((v+c:Nat):Int)) (by omega)),.f (decide_eq_false (by omega)),.r 57 (eI (b:=((i+k:Nat):Int)) (by omega)),.r 59 (eI (b:=(((v+c) % 10000:Nat):Int)) (by rfl)),.i (i+k),.r 62 (eI (b:=(((v+c) / 10000:Nat):Int)) (by rfl))] rfl (by simp [Qa,hol,tdn,Bj,-Int.natCast_add]; omega) ?_
        exact rd (k+1,(v+c) / 10000,o2.set (i+k) ((v+c) % 10000)) (by dsimp only; omega) ⟨by dsimp only; rw [List.length_set]; exact hq0,hq1.set (Nat.mod_lt _ (by decide)),by
          dsimp only
          rw [←Nat.add_assoc i k 1,Nat.pow_succ]; have:=O9 hq2 (Qpc hoi (u:=(v+c) % 10000)) (s:=0) (q:=(v+c) / 10000) (by rw [Zao]; rfl); rw [this,Nat.mul_zero,Nat.add_zero,Hw (by omega)],by dsimp only; omega,.inr ⟨by dsimp only; omega,by dsimp only; omega,fun j w hj hw=>(by
            dsimp only at hw
            rw [List.getElem?_set_ne (by omega)] at hw; exact hz j w (by omega) hw)⟩⟩ (by rw [Tf]; rfl)
      · refine go tt [.g 25 false (decide_eq_false (by omega)),.f (decide_eq_false (by omega))] rfl (by simp [Qa]; omega) ?_
        exact rd (i+1,o2) (by dsimp only; omega) ⟨by dsimp only; omega,hq0,hq1,by
          dsimp only
          rw [Jk hd,Nat.add_mul]; have h:=hq2; rw [show c=0 by omega,List.take_of_length_le (l:=Q8 y) (i:=k) (by omega),Xq] at h; rw [Nat.zero_mul,Nat.add_zero] at h; exact h,by
          dsimp only
          rcases hq4 with ⟨_,h⟩ | ⟨_,_,h⟩
          · exact fun j w hj hw=>h j w (by omega) hw
          · exact fun j w hj hw=>h j w (by omega) hw⟩ rfl
  · have hv:X9 o=x*y:=by rw [hp3,List.take_of_length_le (by omega),Xq]
    have cc:=Lh hp2
    rw [hv] at cc
    exact en tt [.f (decide_eq_false (by omega)),.c [] cc] rfl rfl trivial
theorem Qo1 {x y:Nat}:Sb x y≤0↔x≤y:=by
  unfold Sb
  constructor
  · intro h; split at h
    · omega
    · split at h <;> omega
  · intro h; split
    · omega
    · split <;> omega
theorem Qsr {R y lo:Nat} (h1:y*lo≤R) (h2:R<y*(lo+1)):R / y=lo∧R % y=R-y*lo:=by
  have hy:0<y:=by
    rcases Nat.eq_zero_or_pos y with h | h
    · subst h; simp at h2
    · exact h
  have e:R / y=lo:=Nat.div_eq_of_lt_le (by rw [Nat.mul_comm]; exact h1) (by rw [Nat.mul_comm]; exact h2)
  refine ⟨e,?_⟩
  have:=Nat.div_add_mod R y
  rw [e] at this; omega
theorem Q0k {R y:Nat} (h:R<y*10000):sz R≤sz y+14:=by
  refine Kg.2 (Nat.lt_of_lt_of_le h ?_)
  have:=Cw y
  rw [Nat.pow_add]
  have e:(2:Nat)^14=16384:=by decide
  rw [e]; exact Nat.mul_le_mul (by omega) (by decide)
theorem Qtt (y:Nat):sz (y*10000)≤sz y+14:=by
  refine Kg.2 ?_
  have:=Cw y
  rw [Nat.pow_add]
  have e:(2:Nat)^14=16384:=by decide
  rw [e]; omega
theorem Qul {x y:Nat} (hx:sz x≤90000000) (hy:sz y≤90000000) (hy0:0<y):Qd Tryz.prog 200 [.one (nd x),.one (nd y)] [.one (nd (x / y)),.one (nd (x % y))]:=by
  have hxl:=Nat.le_trans (Y9 x) hx
  have hyl:=Nat.le_trans (Y9 y) hy
  have lx:=Nq x
  show Qd Tryz.prog 200 [.one (.row (V9 (Q8 x))),.one (nd y)] _
  refine Z7 Tryz.func200 rfl ?_
  refine go tt [.i (V9 (Q8 x)).length,.i (V9 (Q8 x)).length,.z 7,.r 17 (eI (b:=((Q8 x).length:Int)-1) (by rw [lx]))] rfl (by simp [Qa]; omega) ?_
  rw [lx,show List.replicate (Q8 x).length [LV.int .i64 0]=V9 (List.replicate (Q8 x).length 0) from by simp [V9]]
  refine lp (S:=Nat×List Nat×List Nat) 1 (fun L1 s=>(8,.v (.one (.int .i64 ((s.1:Int)-1))))::(7,.v (.one (.row (V9 s.2.1))))::L1) (fun s=>[.row false 3 1 (V9 s.2.2)]) (fun s=>s.1) (fun s=>s.1≤(Q8 x).length∧s.2.2.length=(Q8 x).length∧Dg s.2.2∧X9 (s.2.2.drop s.1)=X9 ((Q8 x).drop s.1) / y∧s.2.1=Q8 (X9 ((Q8 x).drop s.1) % y)) ((Q8 x).length,[],List.replicate (Q8 x).length 0) ⟨Nat.le_refl _,List.length_replicate ..,Dg.zeros _,by dsimp only; rw [List.drop_eq_nil_of_le (by simp),List.drop_eq_nil_of_le (Nat.le_refl _)]; simp [X9],by dsimp only; rw [List.drop_eq_nil_of_le (Nat.le_refl _)]; simp [X9,Z8]⟩ rfl (fun _ _=>rfl) rfl fun s hs=>?_
  obtain ⟨j,R,o⟩:=s
  obtain ⟨hp0,hp1,hp2,hp3,hp4⟩:=hs
  dsimp only at hp0 hp1 hp2 hp3 hp4 ⊢
  cases j with
  |
   zero =>
   have cc:=Lh hp2
   rw [List.drop_zero,List.drop_zero,Xq] at hp3
   rw [List.drop_zero,Xq] at hp4
   rw [hp3] at cc
   exact en tt [.f (by simp),.c [] cc] rfl (by rw [hp4]; rfl) trivial
  |
   succ j =>
   obtain ⟨d,hd⟩:∃ d,(Q8 x)[j]? = some d:=⟨_,List.getElem?_eq_getElem (by omega)⟩
   have hd9:=Kq x d (List.mem_of_getElem? hd)
   have hdd:=S0 hd
   obtain ⟨hq1,hq2,hq3⟩:=Qie (V:=X9 ((Q8 x).drop (j+1))) (kd:=y) (d:=d) hy0
   rw [←hdd] at hq1 hq2
   have hq3:=hq3 hd9
   obtain ⟨rr,hrr0⟩:∃ rr,rr=X9 ((Q8 x).drop (j+1)) % y:=⟨_,rfl⟩
   have hrr:rr<y:=by rw [hrr0]; exact Nat.mod_lt _ hy0
   rw [←hrr0] at hp4 hq1 hq2 hq3
   subst hp4
   have hrl:(Q8 rr).length≤(Q8 y).length:=Sx (by omega)
   have hR:rr*10000+d<y*10000:=by omega
   have hRs:=Q0k hR
   have hdv:Dg (d::Q8 rr):=fun z hz=>by
     rcases List.mem_cons.1 hz with rfl | hz
     · exact hd9
     · exact Kq rr z hz
   have cc:=Lh hdv
   rw [show X9 (d::Q8 rr)=rr*10000+d from by simp only [X9]; rw [Xq]; omega] at cc
   have hol:(V9 o).length=(Q8 x).length:=by rw [Xy,hp1]
   have hrrl:=Xy (Q8 rr)
   have ej:((j+1:Nat):Int)-1=(j:Int):=by omega
   rw [ej]
   refine go tt [.t (decide_eq_true (by omega)),.x (Zl hd),.lo,.s (sz:=1) (Q7t (Q8 rr)),.c [] cc] rfl (by simp [Qa,Nq]; omega) ?_
   refine lp (S:=Nat×Nat) 2 (fun L1 s=>(9,.v (.one (.int .i64 (s.1:Int))))::(10,.v (.one (.int .i64 (s.2:Int))))::L1) (fun _=>[.row false 3 1 (V9 o),.gone]) (fun s=>s.2-s.1) (fun s=>s.1≤s.2∧s.2≤9999∧y*s.1≤rr*10000+d∧rr*10000+d<y*(s.2+1)) (0,9999) ⟨by decide,by decide,by dsimp only; omega,by dsimp only; omega⟩ rfl (fun _ _=>rfl) rfl fun s hs=>?_
   obtain ⟨lo,hi⟩:=s
   obtain ⟨hb0,hb1,hb2,hb3⟩:=hs
   dsimp only at hb0 hb1 hb2 hb3 ⊢
   by_cases h2:lo<hi
   · obtain ⟨m,hm⟩:∃ m,m=(lo+hi+1) / 2:=⟨_,rfl⟩
     have hym:y*m≤y*10000:=Nat.mul_le_mul_left y (by omega)
     have c1:=B7 (x:=y) (mu:=m) (c0:=0) (by omega) (by omega) (by omega)
     have c2:=Qla (x:=y*m+0) (y:=rr*10000+d) (Nat.le_trans (X6 (show _≤y*10000 by omega)) (Nat.le_trans (Qtt y) (by omega))) (by omega)
     by_cases h3:y*m+0≤rr*10000+d
     · refine go tt [.t (decide_eq_true (by omega)),.r 35 (eI (b:=((lo+hi:Nat):Int)) (by omega)),.r 36 (eI (b:=((lo+hi+1:Nat):Int)) (by omega)),.r 37 (eI (b:=(m:Int)) (by rw [hm]; rfl)),.c [] c1,.c [] c2,.t (decide_eq_true (Qo1.2 h3))] rfl (by simp [Qa,Bj,-Int.natCast_add]; omega) ?_
       exact rd (m,hi) (by dsimp only; omega) ⟨by dsimp only; omega,hb1,by dsimp only; omega,hb3⟩ rfl
     · refine go tt [.t (decide_eq_true (by omega)),.r 35 (eI (b:=((lo+hi:Nat):Int)) (by omega)),.r 36 (eI (b:=((lo+hi+1:Nat):Int)) (by omega)),.r 37 (eI (b:=(m:Int)) (by rw [hm]; rfl)),.c [] c1,.c [] c2,.f (decide_eq_false fun h=>h3 (Qo1.1 h)),.r 46 (eI (b:=((m-1:Nat):Int)) (by omega))] rfl (by simp [Qa,Bj,-Int.natCast_add]; omega) ?_
       exact rd (lo,m-1) (by dsimp only; omega) ⟨by dsimp only; omega,by dsimp only; omega,hb2,by dsimp only; rw [show m-1+1=m by omega]; omega⟩ rfl
   · have hlh:lo=hi:=by omega
     have hfd:=Qsr hb2 (by rw [hlh]; exact hb3)
     have c1:=B7 (x:=y) (mu:=lo) (c0:=0) (by omega) (by omega) (by omega)
     have c2:=Qli (x:=rr*10000+d) (y:=y*lo+0) (by omega) (Nat.le_trans (X6 (show _≤rr*10000+d by omega)) (by omega)) (by omega)
     rw [show rr*10000+d-(y*lo+0)=X9 ((Q8 x).drop j) % y from by rw [hq2,hfd.2]; omega] at c2
     refine go tt [.f (decide_eq_false (by omega)),.i j,.c [] c1,.c [] c2] rfl (by simp [Qa,hol,tdn,Bj,-Int.natCast_add]; omega) ?_
     exact rd (j,Q8 (X9 ((Q8 x).drop j) % y),o.set j lo) (by dsimp only; omega) ⟨by dsimp only; omega,by dsimp only; rw [List.length_set]; exact hp1,hp2.set (by omega),by
       dsimp only
       rw [Lm (by omega)]; simp only [X9]; rw [hp3,hq1,hfd.1],rfl⟩ (by rw [Tf]; rfl)
end Orr
