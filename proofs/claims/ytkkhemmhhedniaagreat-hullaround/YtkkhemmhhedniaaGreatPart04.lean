/- Ntt L1 L2 L3 L4 L5 M1 P2 M2 DigL R1 R3 PolyL RatL R2 -/
import Derived.Test.YtkkhemmhhedniaaGreatPart02
import Derived.Laws.StructEq
import Derived.Test.YtkkhemmhhedniaaGreatProg
import Derived.Test.YtkkhemmhhedniaaGreatPart00
import Derived.Test.YtkkhemmhhedniaaGreatPart03
set_option linter.all false
namespace Orr
open Go Go.Proofs
theorem Q6w (d:Nat) (x y:Int) (w:World):(Op.equalIn (d+1) 3 (.int .i64 x) (.int .i64 y)).run Tryz.prog w=.ok (decide (x=y)) w:=by
 simp [Op.equalIn,Tryz.runUnderlying3];rfl
def ti3:TI Tryz.prog:=Oc 3 Tryz.isAgg3 Tryz.sizeOf3 Tryz.underlying3 Tryz.zeroValue3 Tryz.typeInfo3 8 rfl
def ti4:TI Tryz.prog:=Oc 4 Tryz.isAgg4 Tryz.sizeOf4 Tryz.underlying4 Tryz.zeroValue4 Tryz.typeInfo4 1 rfl
def ti5:TI Tryz.prog:=Oc 5 Tryz.isAgg5 Tryz.sizeOf5 Tryz.underlying5 Tryz.zeroValue5 Tryz.typeInfo5 1 rfl
def ti9:TI Tryz.prog:=Oc 9 Tryz.isAgg9 Tryz.sizeOf9 Tryz.underlying9 Tryz.zeroValue9 Tryz.typeInfo9 16 rfl
def Zn5:TI Tryz.prog:=Oc 22 Tryz.isAgg22 Tryz.sizeOf22 Tryz.underlying22 Tryz.zeroValue22 Tryz.typeInfo22 24 rfl
def Zn6:TI Tryz.prog:=Oc 23 Tryz.isAgg23 Tryz.sizeOf23 Tryz.underlying23 Tryz.zeroValue23 Tryz.typeInfo23 8 rfl
def Zn7:TI Tryz.prog:=Oc 24 Tryz.isAgg24 Tryz.sizeOf24 Tryz.underlying24 Tryz.zeroValue24 Tryz.typeInfo24 8 rfl
def Zn8:TI Tryz.prog:=Oc 28 Tryz.isAgg28 Tryz.sizeOf28 Tryz.underlying28 Tryz.zeroValue28 Tryz.typeInfo28 24 rfl
def Zn9:TI Tryz.prog:=Oc 29 Tryz.isAgg29 Tryz.sizeOf29 Tryz.underlying29 Tryz.zeroValue29 Tryz.typeInfo29 24 rfl
def Zoa:TI Tryz.prog:=Oc 30 Tryz.isAgg30 Tryz.sizeOf30 Tryz.underlying30 Tryz.zeroValue30 Tryz.typeInfo30 24 rfl
def Zob:TI Tryz.prog:=Oc 31 Tryz.isAgg31 Tryz.sizeOf31 Tryz.underlying31 Tryz.zeroValue31 Tryz.typeInfo31 24 rfl
def Zoc:TI Tryz.prog:=tiS (ks:=[1,1]) (ag:=[false,false]) 33 Tryz.isAgg33 Tryz.sizeOf33 Tryz.underlying33 Tryz.zeroValue33 Tryz.typeInfo33 32 rfl ⟨Tryz.sizeOf31,Tryz.sizeOf4,trivial⟩ ⟨Tryz.isAgg31,Tryz.isAgg4,trivial⟩ rfl
def Zod:TI Tryz.prog:=tiS (ks:=[2,2]) (ag:=[true,true]) 35 Tryz.isAgg35 Tryz.sizeOf35 Tryz.underlying35 Tryz.zeroValue35 Tryz.typeInfo35 64 rfl ⟨Tryz.sizeOf33,Tryz.sizeOf33,trivial⟩ ⟨Tryz.isAgg33,Tryz.isAgg33,trivial⟩ rfl
def Zoe:TI Tryz.prog:=tiS (ks:=[1,1,4,4]) (ag:=[false,false,true,true]) 37 Tryz.isAgg37 Tryz.sizeOf37 Tryz.underlying37 Tryz.zeroValue37 Tryz.typeInfo37 176 rfl ⟨Tryz.sizeOf28,Tryz.sizeOf29,Tryz.sizeOf35,Tryz.sizeOf35,trivial⟩ ⟨Tryz.isAgg28,Tryz.isAgg29,Tryz.isAgg35,Tryz.isAgg35,trivial⟩ rfl
def Zof:TI Tryz.prog:=Oc 39 Tryz.isAgg39 Tryz.sizeOf39 Tryz.underlying39 Tryz.zeroValue39 Tryz.typeInfo39 24 rfl
def Zog:TI Tryz.prog:=Oc 40 Tryz.isAgg40 Tryz.sizeOf40 Tryz.underlying40 Tryz.zeroValue40 Tryz.typeInfo40 24 rfl
def Zoh:TI Tryz.prog:=Oc 41 Tryz.isAgg41 Tryz.sizeOf41 Tryz.underlying41 Tryz.zeroValue41 Tryz.typeInfo41 24 rfl
def Zoi:TI Tryz.prog:=tiS (ks:=[10,1,1,1]) (ag:=[true,false,false,false]) 43 Tryz.isAgg43 Tryz.sizeOf43 Tryz.underlying43 Tryz.zeroValue43 Tryz.typeInfo43 232 rfl ⟨Tryz.sizeOf37,Tryz.sizeOf40,Tryz.sizeOf3,Tryz.sizeOf41,trivial⟩ ⟨Tryz.isAgg37,Tryz.isAgg40,Tryz.isAgg3,Tryz.isAgg41,trivial⟩ rfl
def Zoj:TI Tryz.prog:=tiS (ks:=[1,4,13]) (ag:=[false,true,true]) 45 Tryz.isAgg45 Tryz.sizeOf45 Tryz.underlying45 Tryz.zeroValue45 Tryz.typeInfo45 320 rfl ⟨Tryz.sizeOf39,Tryz.sizeOf35,Tryz.sizeOf43,trivial⟩ ⟨Tryz.isAgg39,Tryz.isAgg35,Tryz.isAgg43,trivial⟩ rfl
def Zok:TI Tryz.prog:=Oc 47 Tryz.isAgg47 Tryz.sizeOf47 Tryz.underlying47 Tryz.zeroValue47 Tryz.typeInfo47 24 rfl
def Zol:TI Tryz.prog:=Oc 48 Tryz.isAgg48 Tryz.sizeOf48 Tryz.underlying48 Tryz.zeroValue48 Tryz.typeInfo48 24 rfl
def Zom:TI Tryz.prog:=Oc 49 Tryz.isAgg49 Tryz.sizeOf49 Tryz.underlying49 Tryz.zeroValue49 Tryz.typeInfo49 24 rfl
def Zon:TI Tryz.prog:=tiS (ks:=[1,1]) (ag:=[false,false]) 51 Tryz.isAgg51 Tryz.sizeOf51 Tryz.underlying51 Tryz.zeroValue51 Tryz.typeInfo51 32 rfl ⟨Tryz.sizeOf4,Tryz.sizeOf49,trivial⟩ ⟨Tryz.isAgg4,Tryz.isAgg49,trivial⟩ rfl
def Zoo:TI Tryz.prog:=tiS (ks:=[1,1,2]) (ag:=[false,false,true]) 53 Tryz.isAgg53 Tryz.sizeOf53 Tryz.underlying53 Tryz.zeroValue53 Tryz.typeInfo53 80 rfl ⟨Tryz.sizeOf48,Tryz.sizeOf48,Tryz.sizeOf51,trivial⟩ ⟨Tryz.isAgg48,Tryz.isAgg48,Tryz.isAgg51,trivial⟩ rfl
def Zop:TI Tryz.prog:=tiS (ks:=[1,1,4]) (ag:=[false,false,true]) 55 Tryz.isAgg55 Tryz.sizeOf55 Tryz.underlying55 Tryz.zeroValue55 Tryz.typeInfo55 128 rfl ⟨Tryz.sizeOf28,Tryz.sizeOf28,Tryz.sizeOf53,trivial⟩ ⟨Tryz.isAgg28,Tryz.isAgg28,Tryz.isAgg53,trivial⟩ rfl
def Zoq:TI Tryz.prog:=tiS (ks:=[6,1]) (ag:=[true,false]) 57 Tryz.isAgg57 Tryz.sizeOf57 Tryz.underlying57 Tryz.zeroValue57 Tryz.typeInfo57 136 rfl ⟨Tryz.sizeOf55,Tryz.sizeOf3,trivial⟩ ⟨Tryz.isAgg55,Tryz.isAgg3,trivial⟩ rfl
def Zor:TI Tryz.prog:=Oc 66 Tryz.isAgg66 Tryz.sizeOf66 Tryz.underlying66 Tryz.zeroValue66 Tryz.typeInfo66 8 rfl
def Zos:TI Tryz.prog:=tiS (ks:=[2,2]) (ag:=[true,true]) 72 Tryz.isAgg72 Tryz.sizeOf72 Tryz.underlying72 Tryz.zeroValue72 Tryz.typeInfo72 64 rfl ⟨Tryz.sizeOf51,Tryz.sizeOf51,trivial⟩ ⟨Tryz.isAgg51,Tryz.isAgg51,trivial⟩ rfl
def Zot:TI Tryz.prog:=tiS (ks:=[1,4,4]) (ag:=[false,true,true]) 74 Tryz.isAgg74 Tryz.sizeOf74 Tryz.underlying74 Tryz.zeroValue74 Tryz.typeInfo74 152 rfl ⟨Tryz.sizeOf48,Tryz.sizeOf72,Tryz.sizeOf72,trivial⟩ ⟨Tryz.isAgg48,Tryz.isAgg72,Tryz.isAgg72,trivial⟩ rfl
def Zou:TI Tryz.prog:=Oc 76 Tryz.isAgg76 Tryz.sizeOf76 Tryz.underlying76 Tryz.zeroValue76 Tryz.typeInfo76 24 rfl
def Zov:TI Tryz.prog:=tiS (ks:=[1,9,1,1]) (ag:=[false,true,false,false]) 78 Tryz.isAgg78 Tryz.sizeOf78 Tryz.underlying78 Tryz.zeroValue78 Tryz.typeInfo78 192 rfl ⟨Tryz.sizeOf4,Tryz.sizeOf74,Tryz.sizeOf76,Tryz.sizeOf3,trivial⟩ ⟨Tryz.isAgg4,Tryz.isAgg74,Tryz.isAgg76,Tryz.isAgg3,trivial⟩ rfl
def Zow:TI Tryz.prog:=tiS (ks:=[1]) (ag:=[false]) 80 Tryz.isAgg80 Tryz.sizeOf80 Tryz.underlying80 Tryz.zeroValue80 Tryz.typeInfo80 24 rfl ⟨Tryz.sizeOf22,trivial⟩ ⟨Tryz.isAgg22,trivial⟩ rfl
def Zox:TI Tryz.prog:=tiS (ks:=[12,1,1]) (ag:=[true,true,false]) 82 Tryz.isAgg82 Tryz.sizeOf82 Tryz.underlying82 Tryz.zeroValue82 Tryz.typeInfo82 240 rfl ⟨Tryz.sizeOf78,Tryz.sizeOf80,Tryz.sizeOf22,trivial⟩ ⟨Tryz.isAgg78,Tryz.isAgg80,Tryz.isAgg22,trivial⟩ rfl
def Zoy:TI Tryz.prog:=Oc 83 Tryz.isAgg83 Tryz.sizeOf83 Tryz.underlying83 Tryz.zeroValue83 Tryz.typeInfo83 24 rfl
set_option maxRecDepth 20000 in
theorem Zcw (d:Nat) (x0 x1 x2 x3 y0 y1 y2 y3:Int) (w:World):(Op.equalIn (d+1+1) 86 (.agg #[.int .i64 x0,.int .i64 x1,.int .i64 x2,.int .i64 x3]) (.agg #[.int .i64 y0,.int .i64 y1,.int .i64 y2,.int .i64 y3])).run Tryz.prog w=.ok (decide ([x0,x1,x2,x3]=[y0,y1,y2,y3])) w:=by
 rw [run_equalIn_array w (d+1) _ _ (n:=4) (e:=3) rfl rfl];rw [show List.range 4=[0,1,2,3] from rfl,show Tryz.prog.cellsOf 3=1 from rfl];simp [Op.eqItems,Go.part,Tryz.isAgg3,Q6w];by_cases h0:x0=y0 <;> by_cases h1:x1=y1 <;> by_cases h2:x2=y2 <;> by_cases h3:x3=y3 <;> simp [h0,h1,h2,h3]
def Zoz:TI Tryz.prog:=tiA 86 Tryz.isAgg86 Tryz.sizeOf86 Tryz.underlying86 Tryz.zeroValue86 Tryz.typeInfo86 32 rfl Tryz.sizeOf3
set_option maxRecDepth 20000 in
theorem Zcx (d:Nat) (x x0 x1 x2 x3 y y0 y1 y2 y3:Int) (w:World):(Op.equalIn (d+1+1+1) 88 (.agg #[.int .i64 x,.int .i64 x0,.int .i64 x1,.int .i64 x2,.int .i64 x3]) (.agg #[.int .i64 y,.int .i64 y0,.int .i64 y1,.int .i64 y2,.int .i64 y3])).run Tryz.prog w=.ok (decide ([x,x0,x1,x2,x3]=[y,y0,y1,y2,y3])) w:=by
 rw [run_equalIn_struct w (d+1+1) 88 _ _ rfl Tryz.stoodInHeld88];have hf:(Tryz.prog.fieldsOf 88).toList=[{ name := "Kind",type:=3,offset:=0,embedded:=false,tag := "",pkgPath := "",byteOffset:=0 },{ name := "Ids",type:=86,offset:=1,embedded:=false,tag := "",pkgPath := "",byteOffset:=8 }]:=by simp [Program.fieldsOf,Tryz.underlying88]
 rw [hf];simp [Op.eqFields,Go.part,Tryz.isAgg3,Tryz.isAgg86,Tryz.sizeOf86,Tryz.sizeOf3,Q6w,Zcw];by_cases h:x=y <;> by_cases h0:x0=y0 <;> by_cases h1:x1=y1 <;> by_cases h2:x2=y2 <;> by_cases h3:x3=y3 <;> simp [h,h0,h1,h2,h3]
theorem Zhy (a b:List Int) (ha:a.length=5) (hb:b.length=5) (w:World):(Op.equal 88 (.agg (a.map (Value.int .i64)).toArray) (.agg (b.map (Value.int .i64)).toArray)).run Tryz.prog w=.ok (decide (a=b)) w:=by
 match a,ha,b,hb with
 | [x,x0,x1,x2,x3],_,[y,y0,y1,y2,y3],_=>exact Zcx 9997 x x0 x1 x2 x3 y y0 y1 y2 y3 w
def Zo0:TI Tryz.prog:={ tiS (ks:=[1,4]) (ag:=[false,true]) 88 Tryz.isAgg88 Tryz.sizeOf88 Tryz.underlying88 Tryz.zeroValue88 Tryz.typeInfo88 40 rfl ⟨Tryz.sizeOf3,Tryz.sizeOf86,trivial⟩ ⟨Tryz.isAgg3,Tryz.isAgg86,trivial⟩ rfl with eqn:=some 5,heq:=λk h=>by injection h with h; subst h; exact ⟨Tryz.eqGuardType88,Zhy⟩ }
def Zo1:TI Tryz.prog:=tiS (ks:=[5,1,1]) (ag:=[true,false,false]) 90 Tryz.isAgg90 Tryz.sizeOf90 Tryz.underlying90 Tryz.zeroValue90 Tryz.typeInfo90 72 rfl ⟨Tryz.sizeOf88,Tryz.sizeOf48,Tryz.sizeOf3,trivial⟩ ⟨Tryz.isAgg88,Tryz.isAgg48,Tryz.isAgg3,trivial⟩ rfl
def Zo2:TI Tryz.prog:=Oc 94 Tryz.isAgg94 Tryz.sizeOf94 Tryz.underlying94 Tryz.zeroValue94 Tryz.typeInfo94 24 rfl
def Zlr:TI Tryz.prog:=Oc 100 Tryz.isAgg100 Tryz.sizeOf100 Tryz.underlying100 Tryz.zeroValue100 Tryz.typeInfo100 8 rfl
def Zls:TI Tryz.prog:=Oc 106 Tryz.isAgg106 Tryz.sizeOf106 Tryz.underlying106 Tryz.zeroValue106 Tryz.typeInfo106 8 rfl
def Zlt:TI Tryz.prog:=Oc 110 Tryz.isAgg110 Tryz.sizeOf110 Tryz.underlying110 Tryz.zeroValue110 Tryz.typeInfo110 24 rfl
def Zlu:TI Tryz.prog:=tiS (ks:=[12,1,1,1]) (ag:=[true,true,false,false]) 112 Tryz.isAgg112 Tryz.sizeOf112 Tryz.underlying112 Tryz.zeroValue112 Tryz.typeInfo112 264 rfl ⟨Tryz.sizeOf78,Tryz.sizeOf80,Tryz.sizeOf22,Tryz.sizeOf110,trivial⟩ ⟨Tryz.isAgg78,Tryz.isAgg80,Tryz.isAgg22,Tryz.isAgg110,trivial⟩ rfl
def Zlv:TI Tryz.prog:=Oc 115 Tryz.isAgg115 Tryz.sizeOf115 Tryz.underlying115 Tryz.zeroValue115 Tryz.typeInfo115 8 rfl
def Zlw:TI Tryz.prog:=tiS (ks:=[12,1,1]) (ag:=[true,true,false]) 120 Tryz.isAgg120 Tryz.sizeOf120 Tryz.underlying120 Tryz.zeroValue120 Tryz.typeInfo120 240 rfl ⟨Tryz.sizeOf78,Tryz.sizeOf80,Tryz.sizeOf22,trivial⟩ ⟨Tryz.isAgg78,Tryz.isAgg80,Tryz.isAgg22,trivial⟩ rfl
def Zlx:TI Tryz.prog:=tiS (ks:=[12,1,1]) (ag:=[true,true,false]) 124 Tryz.isAgg124 Tryz.sizeOf124 Tryz.underlying124 Tryz.zeroValue124 Tryz.typeInfo124 240 rfl ⟨Tryz.sizeOf78,Tryz.sizeOf80,Tryz.sizeOf22,trivial⟩ ⟨Tryz.isAgg78,Tryz.isAgg80,Tryz.isAgg22,trivial⟩ rfl
def Zly:TI Tryz.prog:=tiS (ks:=[4,1]) (ag:=[true,false]) 135 Tryz.isAgg135 Tryz.sizeOf135 Tryz.underlying135 Tryz.zeroValue135 Tryz.typeInfo135 88 rfl ⟨Tryz.sizeOf53,Tryz.sizeOf3,trivial⟩ ⟨Tryz.isAgg53,Tryz.isAgg3,trivial⟩ rfl
def Zlz:TI Tryz.prog:=Oc 149 Tryz.isAgg149 Tryz.sizeOf149 Tryz.underlying149 Tryz.zeroValue149 Tryz.typeInfo149 24 rfl
def Zl0:TI Tryz.prog:=Oc 150 Tryz.isAgg150 Tryz.sizeOf150 Tryz.underlying150 Tryz.zeroValue150 Tryz.typeInfo150 24 rfl
def Zl1:TI Tryz.prog:=tiS (ks:=[1,4,13]) (ag:=[false,true,true]) 158 Tryz.isAgg158 Tryz.sizeOf158 Tryz.underlying158 Tryz.zeroValue158 Tryz.typeInfo158 320 rfl ⟨Tryz.sizeOf39,Tryz.sizeOf35,Tryz.sizeOf43,trivial⟩ ⟨Tryz.isAgg39,Tryz.isAgg35,Tryz.isAgg43,trivial⟩ rfl
def Zl2:TI Tryz.prog:=tiS (ks:=[7,1,1,9]) (ag:=[true,false,false,true]) 167 Tryz.isAgg167 Tryz.sizeOf167 Tryz.underlying167 Tryz.zeroValue167 Tryz.typeInfo167 232 rfl ⟨Tryz.sizeOf90,Tryz.sizeOf4,Tryz.sizeOf4,Tryz.sizeOf74,trivial⟩ ⟨Tryz.isAgg90,Tryz.isAgg4,Tryz.isAgg4,Tryz.isAgg74,trivial⟩ rfl
def Zl3:TI Tryz.prog:=Oc 169 Tryz.isAgg169 Tryz.sizeOf169 Tryz.underlying169 Tryz.zeroValue169 Tryz.typeInfo169 24 rfl
def Zl4:TI Tryz.prog:=tiS (ks:=[5,9]) (ag:=[true,true]) 174 Tryz.isAgg174 Tryz.sizeOf174 Tryz.underlying174 Tryz.zeroValue174 Tryz.typeInfo174 192 rfl ⟨Tryz.sizeOf88,Tryz.sizeOf74,trivial⟩ ⟨Tryz.isAgg88,Tryz.isAgg74,trivial⟩ rfl
def Zl5:TI Tryz.prog:=tiS (ks:=[1,4,13]) (ag:=[false,true,true]) 185 Tryz.isAgg185 Tryz.sizeOf185 Tryz.underlying185 Tryz.zeroValue185 Tryz.typeInfo185 320 rfl ⟨Tryz.sizeOf39,Tryz.sizeOf35,Tryz.sizeOf43,trivial⟩ ⟨Tryz.isAgg39,Tryz.isAgg35,Tryz.isAgg43,trivial⟩ rfl
set_option maxRecDepth 20000 in
theorem Q6v (d:Nat) (x0 x1 y0 y1:Int) (w:World):(Op.equalIn (d+1+1) 191 (.agg #[.int .i64 x0,.int .i64 x1]) (.agg #[.int .i64 y0,.int .i64 y1])).run Tryz.prog w=.ok (decide ([x0,x1]=[y0,y1])) w:=by
 rw [run_equalIn_array w (d+1) _ _ (n:=2) (e:=3) rfl rfl];rw [show List.range 2=[0,1] from rfl,show Tryz.prog.cellsOf 3=1 from rfl];simp [Op.eqItems,Go.part,Tryz.isAgg3,Q6w];by_cases h0:x0=y0 <;> by_cases h1:x1=y1 <;> simp [h0,h1]
theorem Zcv (a b:List Int) (ha:a.length=2) (hb:b.length=2) (w:World):(Op.equal 191 (.agg (a.map (Value.int .i64)).toArray) (.agg (b.map (Value.int .i64)).toArray)).run Tryz.prog w=.ok (decide (a=b)) w:=by
 match a,ha,b,hb with
 | [x0,x1],_,[y0,y1],_=>exact Q6v 9998 x0 x1 y0 y1 w
def Zl6:TI Tryz.prog:={ tiA 191 Tryz.isAgg191 Tryz.sizeOf191 Tryz.underlying191 Tryz.zeroValue191 Tryz.typeInfo191 16 rfl Tryz.sizeOf3 with eqn:=some 2,heq:=λk h=>by injection h with h; subst h; exact ⟨Tryz.eqGuardType191,Zcv⟩ }
def Zl7:TI Tryz.prog:=Oc 192 Tryz.isAgg192 Tryz.sizeOf192 Tryz.underlying192 Tryz.zeroValue192 Tryz.typeInfo192 24 rfl
def Zl8:TI Tryz.prog:=tiS (ks:=[1,4,13]) (ag:=[false,true,true]) 195 Tryz.isAgg195 Tryz.sizeOf195 Tryz.underlying195 Tryz.zeroValue195 Tryz.typeInfo195 320 rfl ⟨Tryz.sizeOf39,Tryz.sizeOf35,Tryz.sizeOf43,trivial⟩ ⟨Tryz.isAgg39,Tryz.isAgg35,Tryz.isAgg43,trivial⟩ rfl
def Zl9:TI Tryz.prog:=Oc 199 Tryz.isAgg199 Tryz.sizeOf199 Tryz.underlying199 Tryz.zeroValue199 Tryz.typeInfo199 4 rfl
def Zma:TI Tryz.prog:=Oc 244 Tryz.isAgg244 Tryz.sizeOf244 Tryz.underlying244 Tryz.zeroValue244 Tryz.typeInfo244 24 rfl
def Zmb:TI Tryz.prog:=tiA 254 Tryz.isAgg254 Tryz.sizeOf254 Tryz.underlying254 Tryz.zeroValue254 Tryz.typeInfo254 176 rfl Tryz.sizeOf135
def Zmc:TI Tryz.prog:=tiS (ks:=[5,1,1,1,1]) (ag:=[true,false,false,false,false]) 272 Tryz.isAgg272 Tryz.sizeOf272 Tryz.underlying272 Tryz.zeroValue272 Tryz.typeInfo272 104 rfl ⟨Tryz.sizeOf88,Tryz.sizeOf28,Tryz.sizeOf3,Tryz.sizeOf41,Tryz.sizeOf4,trivial⟩ ⟨Tryz.isAgg88,Tryz.isAgg28,Tryz.isAgg3,Tryz.isAgg41,Tryz.isAgg4,trivial⟩ rfl
def Zmd:TI Tryz.prog:=Oc 280 Tryz.isAgg280 Tryz.sizeOf280 Tryz.underlying280 Tryz.zeroValue280 Tryz.typeInfo280 8 rfl
def Zme:TI Tryz.prog:=Oc 281 Tryz.isAgg281 Tryz.sizeOf281 Tryz.underlying281 Tryz.zeroValue281 Tryz.typeInfo281 8 rfl
def Zmf:TI Tryz.prog:=Oc 287 Tryz.isAgg287 Tryz.sizeOf287 Tryz.underlying287 Tryz.zeroValue287 Tryz.typeInfo287 24 rfl
def Zmg:TI Tryz.prog:=Oc 338 Tryz.isAgg338 Tryz.sizeOf338 Tryz.underlying338 Tryz.zeroValue338 Tryz.typeInfo338 24 rfl
def Zmh:TI Tryz.prog:=tiA 341 Tryz.isAgg341 Tryz.sizeOf341 Tryz.underlying341 Tryz.zeroValue341 Tryz.typeInfo341 272 rfl Tryz.sizeOf57
def Zmi:TI Tryz.prog:=tiS (ks:=[1]) (ag:=[false]) 356 Tryz.isAgg356 Tryz.sizeOf356 Tryz.underlying356 Tryz.zeroValue356 Tryz.typeInfo356 24 rfl ⟨Tryz.sizeOf287,trivial⟩ ⟨Tryz.isAgg287,trivial⟩ rfl
def Zmj:TI Tryz.prog:=Oc 358 Tryz.isAgg358 Tryz.sizeOf358 Tryz.underlying358 Tryz.zeroValue358 Tryz.typeInfo358 24 rfl
def tt:TT Tryz.prog:=(.nd (.nd (.nd (.nd (.nd (.nd (.nd .nil ti3 .nil) ti4 .nil) ti5 (.nd .nil ti9 .nil)) Zn5 (.nd (.nd .nil Zn6 .nil) Zn7 (.nd .nil Zn8 .nil))) Zn9 (.nd (.nd (.nd .nil Zoa .nil) Zob (.nd .nil Zoc .nil)) Zod (.nd (.nd .nil Zoe .nil) Zof (.nd .nil Zog .nil)))) Zoh (.nd (.nd (.nd (.nd (.nd .nil Zoi .nil) Zoj .nil) Zok (.nd .nil Zol .nil)) Zom (.nd (.nd .nil Zon .nil) Zoo (.nd .nil Zop .nil))) Zoq (.nd (.nd (.nd .nil Zor .nil) Zos (.nd .nil Zot .nil)) Zou (.nd (.nd .nil Zov .nil) Zow (.nd .nil Zox .nil))))) Zoy (.nd (.nd (.nd (.nd (.nd (.nd .nil Zoz .nil) Zo0 .nil) Zo1 (.nd .nil Zo2 .nil)) Zlr (.nd (.nd .nil Zls .nil) Zlt (.nd .nil Zlu .nil))) Zlv (.nd (.nd (.nd .nil Zlw .nil) Zlx (.nd .nil Zly .nil)) Zlz (.nd (.nd .nil Zl0 .nil) Zl1 (.nd .nil Zl2 .nil)))) Zl3 (.nd (.nd (.nd (.nd (.nd .nil Zl4 .nil) Zl5 .nil) Zl6 (.nd .nil Zl7 .nil)) Zl8 (.nd (.nd .nil Zl9 .nil) Zma (.nd .nil Zmb .nil))) Zmc (.nd (.nd (.nd .nil Zmd .nil) Zme (.nd .nil Zmf .nil)) Zmg (.nd (.nd .nil Zmh .nil) Zmi (.nd .nil Zmj .nil))))))
instance:Mo Tryz.prog:=⟨rfl⟩
end Orr
namespace Orr
open Go Go.Proofs
set_option maxRecDepth 10000
def lm (l:List Nat):List (List LV):=l.map λ(x:Nat)=>[.int .u32 (x:Int)]
abbrev lr (l:List Nat):TV:=.one (.row (lm l))
theorem Ux (l:List Nat):(lm l).length=l.length:=by simp [lm]
theorem Gk {l:List Nat} {i x:Nat} (h:l[i]? = some x):(lm l)[i]? = some [.int .u32 (x:Int)]:=by simp [lm,h]
def trm:List Nat->List Nat
 | []=>[]
 |
  x::l=>match trm l with
  | []=>if x=0 then [] else [x]
  | r=>x::r
theorem Ze7 {l:List Nat}:trm l=[]↔∀ x∈l,x=0:=by
 induction l with
 | nil=>simp [trm]
 |
  cons x l ih =>
  simp only [trm]
  split
  ·rename_i e;have h1:=ih.1 e;by_cases h:x=0
   ·simp [h]; exact h1
   ·simp [h]
  ·rename_i r hne;simp only [reduceCtorEq,Qq,forall_eq_or_imp,false_iff,not_and];exact λ_ h=>hne (ih.2 h)
theorem Qeo:∀ {l:List Nat} {n:Nat},n<=l.length->(∀ j,n<=j->j<l.length->l[j]? = some 0)->(n=0\/∃ x,l[n-1]? = some x/\x≠0)->l.take n=trm l
 | [],n,h,_,_=>by simp at h; subst h; rfl
 |
  x::l,0,h,hz,_=>by
  rw [V2];refine (Ze7.2 λy hy=>?_).symm;obtain ⟨j,hj⟩:=Zg.1 hy;have:=hz j (Qg _) (Qc.1 hj).1;rw [hj] at this; injection this
 |
  x::l,n+1,h,hz,ht=>by
  simp only [Q7,Nat.add_le_add_iff_right] at h;have hz':∀ j,n<=j->j<l.length->l[j]? = some 0:=λj h1 h2=>by simpa using hz (j+1) (by omega) (by simpa using h2)
  cases n with
  |
   zero =>
   have e:trm l=[]:=(Qeo (n:=0) h hz' (.inl rfl)).symm;rcases ht with h | ⟨y,h1,h2⟩
   ·omega
   ·simp at h1; subst h1; simp [trm,e,h2]
  |
   succ n =>
   have ih:=Qeo (n:=n+1) h hz' (.inr (by rcases ht with h | ⟨y,h1,h2⟩; (· omega); exact ⟨y,by simpa using h1,h2⟩));simp only [J8,trm];rw [<-ih];cases hl:l with
   | nil=>rw [hl] at h; simp at h
   | cons y l'=>simp [J8]
theorem Zlq (l:List Nat):Uw Tryz.prog 260 [lr l] [lr (trm l)]:=by
 refine Hn Tryz.func260 rfl (ln 0 rfl rfl λhl=>?_);rw [Ux] at hl;refine go tt [] rfl trivial ?_;refine lp (S:=Nat) 0 (λL1 n=>(3,.v (.one (.int .i64 (n:Int))))::L1) (λ_=>[]) id (λn=>n<=l.length/\∀ j,n<=j->j<l.length->l[j]? = some 0) (lm l).length ⟨by rw [Ux]; exact Qi _,λj h1 h2=>by rw [Ux] at h1; omega⟩ rfl (λ_ _=>rfl) rfl λn ⟨h1,h2⟩=>?_
 cases n with
 | zero=>exact en tt [.f (by simp),.f rfl,.i 0] rfl (by rw [<-Qeo h1 h2 (.inl rfl)]; simp [lm]) (by simp [Uu,Hf])
 |
  succ n =>
  obtain ⟨x,hx⟩:=gxE (l:=l) (i:=n) (by omega);by_cases h0:x=0
  ·refine go tt [.t (by simp),.r 11 (v:=.one (.int .i64 (n:Int))) (by simp),.x (Gk hx),.t (by simp [h0]),.r 17 (v:=.one (.int .i64 (n:Int))) (by simp)] rfl (by simp [Uu,Hf]; omega) ?_;exact rd n (by simp) ⟨by omega,λj h3 h4=>by
    rcases Vn h3 with rfl | h3
    ·rw [hx,h0]
    ·exact h2 j h3 h4⟩ rfl
  ·exact en tt [.t (by simp),.r 11 (v:=.one (.int .i64 (n:Int))) (by simp),.x (Gk hx),.f (by simp [h0]),.i (n+1)] rfl (by rw [<-Qeo h1 h2 (.inr ⟨x,hx,h0⟩)]; simp [lm]) (by simp [Uu,Hf,Ux] <;> omega)
def Sm (l:List Nat):Prop:=∀ x∈l,x<4294967296
theorem Qqp:∀ l:List Nat,Cut l (trm l).length/\l.take (trm l).length=trm l
 | []=>⟨⟨Qi _,λj _ h=>by simp at h,λh=>by simp [trm] at h⟩,rfl⟩
 |
  x::l=>by
  obtain ⟨⟨h1,h2,h3⟩,h4⟩:=Qqp l;simp only [trm]
  split
  ·rename_i e;rw [e] at h2 h3;by_cases h:x=0
   ·rw [if_pos h];refine ⟨⟨Qg _,λj _ hj=>?_,λh=>by simp at h⟩,rfl⟩;cases j with
    | zero=>simp [h]
    | succ j=>simpa using h2 j (Qg _) (by simpa using hj)
   ·rw [if_neg h];refine ⟨⟨by simp,λj h5 hj=>?_,λ_=>⟨x,rfl,h⟩⟩,rfl⟩;cases j with
    | zero=>simp at h5
    | succ j=>simpa using h2 j (Qg _) (by simpa using hj)
  ·rename_i r hne;refine ⟨⟨by simp [h1],λj h5 hj=>?_,λ_=>?_⟩,by simp [h4]⟩
   ·cases j with
    | zero=>simp at h5
    | succ j=>simpa using h2 j (by simpa using h5) (by simpa using hj)
   ·have hp:0<(trm l).length:=by
     cases e:trm l with
     | nil=>exact absurd e hne
     | cons=>simp
    obtain ⟨y,h5,h6⟩:=h3 hp;refine ⟨y,?_,h6⟩;rw [Q7,show (trm l).length+1-1=((trm l).length-1)+1 from by omega];simpa using h5
theorem Qn4 {l:List Nat} (h:Sm l):trm l=Fo (val l):=by
 obtain ⟨h1,h2⟩:=Qqp l;refine Q7x ?_ ?_
 ·rw [<-h2]; exact Zco h1 h
 ·rw [<-h2]; exact Zcp h1
theorem Cy (x:Nat):Sm (Fo x):=(Dy x).1
theorem Rx {x k:Nat} (h:sz x<=k):32*(Fo x).length<=k+31:=by
 have:=Zdr (Dy x);rw [Gq] at this; omega
theorem Qby {l:List Nat} (h:Sm l):Uw Tryz.prog 260 [lr l] [lr (Fo (val l))]:=Qn4 h ▸ Zlq l
theorem Q7y (l:List Nat):∀ c∈lm l,c.length=1:=λc hc=>by
 obtain ⟨x,_,rfl⟩:=Zx.1 hc; rfl
theorem Qe5 {l:List Nat} (h:Sm l) (hs:sz (val l)<=4294967296):Uw Tryz.prog 209 [lr l] [lr (Fo (val l))] :=
 w tt Tryz.func209 rfl [.c [] (Qby h),.s (Q7y (Fo (val l)))] rfl rfl (by have:=Rx hs; simp [Uu,Hf,Ux]; omega)
theorem Qfa {a:List Nat} (ha:Sm a):∃ p,Uw Tryz.prog 260 [lr a] [lr p]/\Nrm p/\val p=val a/\p.length<=a.length/\p=Fo (val a) :=
 ⟨_,Qby ha,Dy _,Gq _,by rw [<-Qn4 ha]; exact (Qqp a).1.1,rfl⟩
theorem Q4r {a b:List Nat} (ha:Sm a) (hb:Sm b):Uw Tryz.prog 267 [lr a,lr b] [.one (.int .i64 (I7 (val a) (val b)))]:=by
 refine Hn Tryz.func267 rfl (ln 0 rfl rfl λhl=>ln 1 rfl rfl λhl'=>?_);rw [Ux] at hl hl';obtain ⟨p,ca,np,vp,lp',_⟩:=Qfa ha;obtain ⟨q,cb,nq,vq,lq,_⟩:=Qfa hb;rw [<-vp,<-vq];by_cases h:p.length=q.length
 ·refine go tt [.c [] ca,.c [] cb,.f (by simp [Ux,h])] rfl (by simp [Uu,Hf,Ux] <;> omega) ?_;refine lp (S:=Int) 0 (λL1 i=>(5,.v (.one (.int .i64 i)))::L1) (λ_=>[]) (λi=>(i+1).toNat) (λi=>-1<=i/\i<p.length/\p.drop (i+1).toNat=q.drop (i+1).toNat) (((lm p).length:Int)-1) ⟨by omega,by simp [Ux]; omega,by simp [Ux,h]⟩ rfl (λ_ _=>rfl) rfl λi ⟨h1,h2,h3⟩=>?_
  rcases We i 0 with hi | hi
  ·obtain rfl:i=-1:=by omega
   exact en tt [.f (by decide)] rfl (by rw [Qy7]; exact congrArg val (by simpa using h3)) trivial
  ·obtain ⟨k,rfl⟩:=Yo hi;have e:((k:Int)+1).toNat=k+1:=by omega
   rw [e] at h3;obtain ⟨x,hx⟩:=gxE (l:=p) (i:=k) (by omega);obtain ⟨y,hy⟩:=gxE (l:=q) (i:=k) (by omega);rcases Vy x y with hxy | rfl | hxy
   ·exact en tt [.t (by simp),.x (Gk hx),.x (Gk hy),.t (by simp; omega)] rfl (by rw [Qhu (Q1j np.1 h3 hx hy hxy)]) (by simp [Uu,Hf,Ux] <;> omega)
   ·refine go tt [.t (by simp),.x (Gk hx),.x (Gk hy),.f (by simp),.x (Gk hx),.x (Gk hy),.f (by simp)] rfl (by simp [Uu,Hf,Ux] <;> omega) ?_;exact rd ((k:Int)-1) (by omega) ⟨by omega,by omega,by rw [show ((k:Int)-1+1).toNat=k from by omega]; exact Q2n h3 hx hy⟩ rfl
   ·exact en tt [.t (by simp),.x (Gk hx),.x (Gk hy),.f (by simp; omega),.x (Gk hx),.x (Gk hy),.t (by simp; omega)] rfl (by rw [Qht (Q1j nq.1 h3.symm hy hx hxy)]) (by simp [Uu,Hf,Ux] <;> omega)
 ·by_cases h2:p.length<q.length
  ·exact en tt [.c [] ca,.c [] cb,.t (by simp [Ux]; omega),.t (by simp [Ux]; omega)] rfl (by rw [Qhu (Cd np nq h2)]) (by simp [Uu,Hf])
  ·exact en tt [.c [] ca,.c [] cb,.t (by simp [Ux]; omega),.f (by simp [Ux]; omega)] rfl (by rw [Qht (Cd nq np (by omega))]) (by simp [Uu,Hf])
theorem Qcs (m:Nat):List.replicate m [LV.int .u32 0]=lm (List.replicate m 0):=by simp [lm]
theorem Nn (l:List Nat) (i x:Nat):(lm l).set i [.int .u32 (x:Int)]=lm (l.set i x):=by simp [lm,V1]
theorem B8 {a b:Int} (h:a=b):TV.one (LV.int .u64 a)=.one (.int .u64 b):=h ▸ rfl
theorem Df {a b:Int} (h:a=b):TV.one (LV.int .u32 a)=.one (.int .u32 b):=h ▸ rfl
theorem eI {a b:Int} (h:a=b):TV.one (LV.int .i64 a)=.one (.int .i64 b):=h ▸ rfl
theorem w32 (z:Int):IntKind.u32.wrap z=z % 4294967296:=by simp [IntKind.wrap,IntKind.bits,IntKind.signed]
theorem w64 (z:Int):IntKind.u64.wrap z=z % 18446744073709551616:=by simp [IntKind.wrap,IntKind.bits,IntKind.signed]
theorem Zfo {a b:List Nat} (ha:Sm a) (hb:Sm b) (h1:sz (val a)<=4294967296) (h2:sz (val b)<=4294967296):Uw Tryz.prog 314 [lr a,lr b] [lr (Fo (val a+val b))]:=by
 refine Hn Tryz.func314 rfl ?_;obtain ⟨p,ca,np,vp,_,ep⟩:=Qfa ha;obtain ⟨q,cb,nq,vq,_,eq⟩:=Qfa hb;have lp':=Rx h1;have lq:=Rx h2;rw [<-ep] at lp';rw [<-eq] at lq;rw [<-vp,<-vq];refine go tt [.c [] ca,.c [] cb] rfl trivial ?_;refine ct 1 (S:=List Nat×List Nat) (λs=>[(0,.v (lr s.1)),(1,.v (lr s.2))]) (λ_=>[]) (λs=>Nrm s.1/\Nrm s.2/\32*s.1.length<=4294967327/\s.2.length<=s.1.length/\val s.1+val s.2=val p+val q) rfl ?_ ?_
 ·by_cases h:p.length<q.length
  ·exact go tt [.t (by simp [Ux]; omega)] rfl trivial (rc (q,p) ⟨nq,np,lq,Jw h,Jm _ _⟩ rfl)
  ·exact go tt [.f (by simp [Ux]; omega)] rfl trivial (rc (p,q) ⟨np,nq,lp',Vg h,rfl⟩ rfl)
 ·intro ⟨p',q'⟩ ⟨np,nq,hp,hq,e⟩;dsimp only at np nq hp hq e;rw [<-e];clear ca cb e vp vq ep eq;refine go tt [.i ((lm p').length+1),.i ((lm p').length+1)] rfl (by simp [Uu,Hf,Ux] <;> omega) ?_;rw [Qcs];refine lp (S:=Nat×List Nat×Nat) 1 (λL1 s=>(27,.v (.one (.int .i64 (s.1:Int))))::(6,.v (.one (.int .u64 (s.2.2:Int))))::L1) (λs=>[.row false 199 1 (lm s.2.1)]) (λs=>p'.length-s.1)
   (λs=>s.1<=p'.length/\s.2.1.length=p'.length+1/\Sm s.2.1/\s.2.2<=1/\val (s.2.1.take s.1)+s.2.2*4294967296^s.1=val (p'.take s.1)+val (q'.take s.1)) (0,List.replicate ((lm p').length+1) 0,0)
   ⟨Qg _,by simp [Ux],λx hx=>by rw [Zv hx]; decide,Qg _,by simp [val]⟩ rfl (λ_ _=>rfl) rfl λ⟨i,o,c⟩ ⟨j1,j2,j3,j4,j5⟩=>?_
  dsimp only at j1 j2 j3 j4 j5 ⊢;by_cases hi:i<p'.length
  ·obtain ⟨x,hx⟩:=gxE (l:=p') (i:=i) hi;have xb:=np.1 x (Qa hx);have fin:∀ y s,(q'[i]? = some y\/q'.length<=i/\y=0)->y<4294967296->s=x+c+y->p'.length-(i+1)<p'.length-i/\i+1<=p'.length/\(o.set i (s % 4294967296)).length=p'.length+1/\Sm (o.set i (s % 4294967296))/\s / 4294967296<=1 /\
    val ((o.set i (s % 4294967296)).take (i+1))+s / 4294967296*4294967296^(i+1)=val (p'.take (i+1))+val (q'.take (i+1)):=λy s hy hyb hs =>
    ⟨by omega,hi,by simp [j2],My j3 i _ (by omega),by omega,Qra (by omega) hx hy j5 hs⟩
   by_cases hi2:i<q'.length
   ·obtain ⟨y,hy⟩:=gxE (l:=q') (i:=i) hi2;have yb:=nq.1 y (Qa hy);refine go tt [.t (by simp [Ux]; omega),.x (Gk hx),.t (by simp [Ux]; omega),.x (Gk hy),.w 2,.r 50 (v:=.one (.int .u32 (((x+c+y) % 4294967296:Nat):Int))) (by simp [IntKind.wrap,IntKind.bits,IntKind.signed]),.i 32,.r 52 (v:=.one (.int .u64 (((x+c+y) / 4294967296:Nat):Int))) (by simp),.i i] rfl (by simp [Uu,Hf,Ux,IntKind.bits] <;> omega) ?_;rw [Nn];exact rd (i+1,o.set i ((x+c+y) % 4294967296),(x+c+y) / 4294967296) (fin y _ (.inl hy) yb rfl).1 (fin y _ (.inl hy) yb rfl).2 rfl
   ·refine go tt [.t (by simp [Ux]; omega),.x (Gk hx),.f (by simp [Ux]; omega),.w 0,.r 50 (v:=.one (.int .u32 (((x+c+0) % 4294967296:Nat):Int))) (by simp [IntKind.wrap,IntKind.bits,IntKind.signed]),.i 32,.r 52 (v:=.one (.int .u64 (((x+c+0) / 4294967296:Nat):Int))) (by simp),.i i] rfl (by simp [Uu,Hf,Ux,IntKind.bits] <;> omega) ?_;rw [Nn];exact rd (i+1,o.set i ((x+c+0) % 4294967296),(x+c+0) / 4294967296) (fin 0 _ (.inr ⟨by omega,rfl⟩) (by decide) rfl).1 (fin 0 _ (.inr ⟨by omega,rfl⟩) (by decide) rfl).2 rfl
  ·obtain rfl:i=p'.length:=by omega
   refine go tt [.f (by simp [Ux]),.w 0,.r 59 (v:=.one (.int .u32 (c:Int))) (by simp [IntKind.wrap,IntKind.bits,IntKind.signed]; omega),.i (lm p').length] rfl (by simp [Uu,Hf,Ux,j2]) ?_;rw [Ux,Nn];have e:val (o.set p'.length c)=val p'+val q':=by
    have h1:=I1 o p'.length c (by omega);rw [Qn (by simp; omega)] at h1;rw [Qn (Qi _),Qn hq] at j5;rw [h1,<-j5,Zh]
   rw [<-e];exact en tt [.c [] (Qby (My j3 _ c (by omega)))] rfl rfl trivial
theorem Qrt {x y:Nat}:I7 x y<0↔x<y:=by unfold I7; split <;> (try split) <;> omega
theorem Zfq {a b:List Nat} (ha:Sm a) (hb:Sm b) (h1:sz (val a)<=4294967296):Uw Tryz.prog 315 [lr a,lr b] (if val b<=val a then [lr (Fo (val a-val b)),.one (.bool true)] else [lr [],.one (.bool false)]):=by
 refine Hn Tryz.func315 rfl ?_;obtain ⟨p,ca,np,vp,_,ep⟩:=Qfa ha;obtain ⟨q,cb,nq,vq,_,_⟩:=Qfa hb;have hp:=Rx h1;rw [<-ep] at hp;rw [<-vp,<-vq];have cc:=Q4r np.1 nq.1;by_cases hlt:val p<val q
 ·rw [if_neg (by omega)];exact en tt [.c [] ca,.c [] cb,.c [] cc,.t (by simpa using Qrt.2 hlt)] rfl rfl trivial
 rw [if_pos (by omega)];have hq:q.length<=p.length:=Vg λh=>hlt (Cd np nq h)
 refine go tt [.c [] ca,.c [] cb,.c [] cc,.f (by have:=mt Qrt.1 hlt; simpa using this),.i (lm p).length,.i (lm p).length] rfl (by simp [Uu,Hf,Ux] <;> omega) ?_;rw [Qcs];refine lp (S:=Nat×List Nat×Nat) 1 (λL1 s=>(24,.v (.one (.int .i64 (s.1:Int))))::(7,.v (.one (.int .u64 (s.2.2:Int))))::L1) (λs=>[.row false 199 1 (lm s.2.1)]) (λs=>p.length-s.1)
  (λs=>s.1<=p.length/\s.2.1.length=p.length/\Sm s.2.1/\s.2.2<=1/\val (s.2.1.take s.1)+val (q.take s.1)=val (p.take s.1)+s.2.2*4294967296^s.1) (0,List.replicate (lm p).length 0,0)
  ⟨Qg _,by simp [Ux],λx hx=>by rw [Zv hx]; decide,Qg _,by simp [val]⟩ rfl (λ_ _=>rfl) rfl λ⟨i,o,c⟩ ⟨j1,j2,j3,j4,j5⟩=>?_
 dsimp only at j1 j2 j3 j4 j5 ⊢;by_cases hi:i<p.length
 ·obtain ⟨x,hx⟩:=gxE (l:=p) (i:=i) hi;have xb:=np.1 x (Qa hx);have fin:∀ y s,(q[i]? = some y\/q.length<=i/\y=0)->y<4294967296->s=(x+18446744073709551616-c-y) % 18446744073709551616->p.length-(i+1)<p.length-i/\i+1<=p.length/\(o.set i (s % 4294967296)).length=p.length/\Sm (o.set i (s % 4294967296))/\s / 9223372036854775808<=1 /\
   val ((o.set i (s % 4294967296)).take (i+1))+val (q.take (i+1))=val (p.take (i+1))+s / 9223372036854775808*4294967296^(i+1):=λy s hy hyb hs=>by
   obtain ⟨h1,h2⟩:=Zaf (o:=o) (by omega) hx hy xb hyb j4 j5 hs;exact ⟨by omega,hi,by simp [j2],My j3 i _ (by omega),h2,h1⟩
  by_cases hi2:i<q.length
  ·obtain ⟨y,hy⟩:=gxE (l:=q) (i:=i) hi2;have yb:=nq.1 y (Qa hy);obtain ⟨s,hs⟩:=nmE ((x+18446744073709551616-c-y) % 18446744073709551616);refine go tt [.t (by simp [Ux]; omega),.x (Gk hx),.w 1,.r 32 (B8 (b:=(((x+18446744073709551616-c) % 18446744073709551616:Nat):Int)) (by rw [w64]; omega)),.t (by simp [Ux]; omega),.x (Gk hy),.w 1,.r 43 (B8 (b:=(s:Int)) (by rw [w64]; omega)),.w 0,.r 47 (Df (b:=((s % 4294967296:Nat):Int)) (by rw [w32]; omega)),.i 63,.r 49 (B8 (b:=((s / 9223372036854775808:Nat):Int)) (by simp)),.i i] rfl (by simp [Uu,Hf,Ux,IntKind.bits] <;> omega) ?_;rw [Nn];exact rd (i+1,o.set i (s % 4294967296),s / 9223372036854775808) (fin y _ (.inl hy) yb hs).1 (fin y _ (.inl hy) yb hs).2 rfl
  ·obtain ⟨s,hs⟩:=nmE ((x+18446744073709551616-c-0) % 18446744073709551616);have hf:=fin 0 _ (.inr ⟨by omega,rfl⟩) (by decide) hs;refine go tt [.t (by simp [Ux]; omega),.x (Gk hx),.w 1,.r 32 (B8 (b:=(s:Int)) (by rw [w64]; omega)),.f (by simp [Ux]; omega),.w 0,.r 47 (Df (b:=((s % 4294967296:Nat):Int)) (by rw [w32]; omega)),.i 63,.r 49 (B8 (b:=((s / 9223372036854775808:Nat):Int)) (by simp)),.i i] rfl (by simp [Uu,Hf,Ux,IntKind.bits] <;> omega) ?_;rw [Nn];exact rd (i+1,o.set i (s % 4294967296),s / 9223372036854775808) hf.1 hf.2 rfl
 ·obtain rfl:i=p.length:=by omega
  have e:val o=val p-val q:=by
   rw [Qn (Nat.le_of_eq j2),Qn hq,Qn (Qi _)] at j5;have h1:=C4 o j3;rw [j2] at h1;rcases Nat.le_one_iff_eq_zero_or_eq_one.1 j4 with rfl | rfl <;> omega
  rw [<-e];exact en tt [.f (by simp [Ux]),.c [] (Qby j3)] rfl rfl trivial
theorem Zkf {a b:List Nat} (ha:Sm a) (hb:Sm b) (h1:sz (val a)<=4294967296) (h2:sz (val b)<=4294967296):Uw Tryz.prog 277 [lr a,lr b] [lr (Fo (val a*val b))]:=by
 refine Hn Tryz.func277 rfl ?_;obtain ⟨p,ca,np,vp,_,ep⟩:=Qfa ha;obtain ⟨q,cb,nq,vq,_,eq⟩:=Qfa hb;have hp:=Rx h1;have hq:=Rx h2;rw [<-ep] at hp;rw [<-eq] at hq;rw [<-vp,<-vq];refine go tt [.c [] ca,.c [] cb,.i ((lm p).length+(lm q).length),.i ((lm p).length+(lm q).length)] rfl (by simp [Uu,Hf,Ux] <;> omega) ?_;rw [Qcs];refine lp (S:=Nat×List Nat) 1 (λL1 s=>(24,.v (.one (.int .i64 (s.1:Int))))::L1) (λs=>[.row false 199 1 (lm s.2)]) (λs=>p.length-s.1)
  (λs=>s.1<=p.length/\s.2.length=p.length+q.length/\Sm s.2/\(∀ j,s.1+q.length<=j->j<s.2.length->s.2[j]? = some 0)/\val s.2=val (p.take s.1)*val q) (0,List.replicate ((lm p).length+(lm q).length) 0)
  ⟨Qg _,by simp [Ux],λx hx=>by rw [Zv hx]; decide,λj _ hj=>by rw [J1,if_pos (by simpa using hj)],by simp [val,Qga]⟩ rfl (λ_ _=>rfl) rfl λ⟨i,o⟩ ⟨j1,j2,j3,j4,j5⟩=>?_
 dsimp only at j1 j2 j3 j4 j5 ⊢;by_cases hi:i<p.length
 ·obtain ⟨x,hx⟩:=gxE (l:=p) (i:=i) hi;have xb:=np.1 x (Qa hx);refine go tt [.t (by simp [Ux]; omega),.x (Gk hx)] rfl trivial ?_;refine lp (S:=Nat×List Nat×Nat) 1 (λL1 s=>(31,.v (.one (.int .i64 (s.1:Int))))::(8,.v (.one (.int .u64 (s.2.2:Int))))::L1) (λs=>[.row false 199 1 (lm s.2.1)]) (λs=>q.length-s.1)
   (λs=>s.1<=q.length/\s.2.1.length=p.length+q.length/\Sm s.2.1/\(∀ j,i+q.length<=j->j<s.2.1.length->s.2.1[j]? = some 0)/\s.2.2<4294967296/\val s.2.1+s.2.2*4294967296^(i+s.1)=val (p.take i)*val q+4294967296^i*x*val (q.take s.1)) (0,o,0)
   ⟨Qg _,j2,j3,j4,by simp,by simp [val,j5]⟩ rfl (λ_ _=>rfl) rfl λ⟨k,o',c⟩ ⟨k1,k2,k3,k4,k5,k6⟩=>?_
  dsimp only at k1 k2 k3 k4 k5 k6 ⊢;by_cases hk:k<q.length
  ·obtain ⟨y,hy⟩:=gxE (l:=q) (i:=k) hk;have yb:=nq.1 y (Qa hy);obtain ⟨z,hz⟩:=gxE (l:=o') (i:=i+k) (by omega);have zb:=k3 z (Qa hz);have hm:=O9 xb yb;have hm2:(x:Int)*(y:Int)=((x*y:Nat):Int):=by push_cast; rfl
   obtain ⟨s,hs⟩:=nmE (x*y+z+c);refine go tt [.t (by simp [Ux]; omega),.x (Gk hy),.r 40 (B8 (b:=((x*y:Nat):Int)) (by push_cast; rfl)),.i (i+k),.x (Gk hz),.r 50 (B8 (b:=(s:Int)) (by omega)),.w 1,.r 56 (Df (b:=((s % 4294967296:Nat):Int)) (by rw [w32]; omega)),.i 32,.r 58 (B8 (b:=((s / 4294967296:Nat):Int)) (by simp)),.i (i+k)] rfl ?_ ?_
   ·simp [Uu,Hf,Ux,IntKind.bits] <;> omega
   ·rw [Nn];exact rd (k+1,o'.set (i+k) (s % 4294967296),s / 4294967296) (show q.length-(k+1)<q.length-k by omega) ⟨hk,by simp [k2],My k3 _ _ (by omega),λj h3 h4=>by
     rw [Yh (by omega)]; exact k4 j h3 (by simpa using h4),(show s / 4294967296<4294967296 from by omega),Q77 hz hy k6 hs⟩ rfl
  ·obtain rfl:k=q.length:=by omega
   by_cases hq0:0<q.length
   ·refine go tt [.f (by simp [Ux]),.t (by simp [Ux]; omega),.w 1,.r 70 (Df (b:=((c % 4294967296:Nat):Int)) (by rw [w32]; omega)),.i (i+(lm q).length)] rfl (by simp [Uu,Hf,Ux,IntKind.bits] <;> omega) ?_;rw [Nn];refine rd (i+1,o'.set (i+(lm q).length) (c % 4294967296)) (show p.length-(i+1)<p.length-i by omega) ⟨hi,by simp [k2],My k3 _ _ (by omega),λj h3 h4=>?_,?_⟩ rfl
    ·rw [Ux,List.getElem?_set_ne (by dsimp only at h3; omega)];exact k4 j (by dsimp only at h3; omega) (by simpa using h4)
    ·rw [Ux];exact Q76 (k4 _ (Qi _) (by omega)) hx k5 rfl k6
   ·have q0:q=[]:=Qh (by omega);refine go tt [.f (by simp [Ux]),.f (by simp [Ux,q0])] rfl (by simp [Uu,Hf,Ux,IntKind.bits] <;> omega) ?_;refine rd (i+1,o') (show p.length-(i+1)<p.length-i by omega) ⟨hi,k2,k3,λj h3 h4=>k4 j (by dsimp only at h3; omega) h4,?_⟩ rfl;have c0:c*4294967296^(i+q.length)=0/\val o'=0:=by
     subst q0;simp only [val,List.take_nil,Yu] at k6;omega
    rw [c0.2,q0]; rfl
 ·obtain rfl:i=p.length:=by omega
  rw [Qn (Qi _)] at j5;rw [<-j5];exact en tt [.f (by simp [Ux]),.c [] (Qby j3)] rfl rfl trivial
theorem o64 {k q:Nat} (hq:q<4294967296) (hb:4294967296*k+q<18446744073709551616):orI .u64 ((4294967296*k:Nat):Int) (q:Int)=((4294967296*k+q:Nat):Int):=by
 have e1:(BitVec.ofInt 64 ((4294967296*k:Nat):Int)).toNat=4294967296*k:=by rw [BitVec.toNat_ofInt]; omega
 have e2:(BitVec.ofInt 64 (q:Int)).toNat=q:=by rw [BitVec.toNat_ofInt]; omega
 show IntKind.u64.wrap ((BitVec.ofInt 64 ((4294967296*k:Nat):Int) ||| BitVec.ofInt 64 (q:Int)).toNat:Int)=_;rw [BitVec.toNat_or,e1,e2,Ziq hq,w64]; omega
theorem oM {k p:Nat} (hp:p<4294967296) (hb:4294967296*k+p<18446744073709551616):orI .u64 (p:Int) ((4294967296*k:Nat):Int)=((4294967296*k+p:Nat):Int):=by
 have:=o64 hp hb;unfold orI at this ⊢;rw [BitVec.or_comm]; exact this
theorem o32 {s k p:Nat} (hp:p<2^s) (h1:p<4294967296) (h2:2^s*k<4294967296) (hb:p+2^s*k<4294967296):orI .u32 (p:Int) ((2^s*k:Nat):Int)=((p+2^s*k:Nat):Int):=by
 have e1:(BitVec.ofInt 32 ((2^s*k:Nat):Int)).toNat=2^s*k:=by rw [BitVec.toNat_ofInt]; omega
 have e2:(BitVec.ofInt 32 (p:Int)).toNat=p:=by rw [BitVec.toNat_ofInt]; omega
 have e3:p ||| 2^s*k=p+2^s*k:=by
  have:=W4 (i:=s) (b:=p) hp k;rw [Nat.or_comm,<-this,Jm]
 show IntKind.u32.wrap ((BitVec.ofInt 32 (p:Int) ||| BitVec.ofInt 32 ((2^s*k:Nat):Int)).toNat:Int)=_;rw [BitVec.toNat_or,e1,e2,e3,w32]; omega
theorem Zkt {l:List Nat} {v:Nat} (hl:Sm l) (hn:l.length<274877906944) (h0:0<v) (hv:v<4294967296):Uw Tryz.prog 316 [lr l,.one (.int .u32 (v:Int))] [lr (Fo (val l / v)),.one (.int .u32 ((val l % v:Nat):Int))]:=by
 refine Hn Tryz.func316 rfl ?_;refine go tt [.i (lm l).length,.i (lm l).length] rfl (by simp [Uu,Hf,Ux] <;> omega) ?_;rw [Qcs];refine lp (S:=Int×List Nat×Nat) 1 (λL1 s=>(8,.v (.one (.int .i64 s.1)))::(7,.v (.one (.int .u64 (s.2.2:Int))))::L1) (λs=>[.row false 199 1 (lm s.2.1)]) (λs=>(s.1+1).toNat)
  (λs=>-1<=s.1/\s.1<l.length/\s.2.1.length=l.length/\Sm s.2.1/\s.2.2<v/\val (l.drop (s.1+1).toNat)=v*val (s.2.1.drop (s.1+1).toNat)+s.2.2) (((lm l).length:Int)-1,List.replicate (lm l).length 0,0)
  ⟨by simp [Ux]; omega,by simp [Ux]; omega,by simp [Ux],λx hx=>by rw [Zv hx]; decide,h0,by simp [Ux,val]⟩ rfl (λ_ _=>rfl) rfl λ⟨i,o,r⟩ ⟨j1,j2,j3,j4,j5,j6⟩=>?_
 dsimp only at j1 j2 j3 j4 j5 j6 ⊢;rcases We i 0 with hi | hi
 ·obtain rfl:i=-1:=by omega
  simp only [show ((-1:Int)+1).toNat=0 from rfl,Xm] at j6;have e1:val l / v=val o:=by rw [j6,Up h0,V6 j5,Xx]
  have e2:val l % v=r:=by rw [j6,Uq,Xb j5]
  rw [e1,e2];exact en tt [.f (by decide),.c [] (Qby j4)] rfl rfl (by simp [Uu,Hf,Ux,IntKind.bits] <;> omega)
 ·obtain ⟨k,rfl⟩:=Yo hi;have e:((k:Int)+1).toNat=k+1:=by omega
  rw [e] at j6;obtain ⟨x,hx⟩:=gxE (l:=l) (i:=k) (by omega);have xb:=hl x (Qa hx);obtain ⟨s,hs⟩:=nmE (r*4294967296+x);obtain ⟨k1,k2,k3⟩:=Q8i hx xb (show k<o.length by omega) h0 j5 j6 hs;obtain ⟨q,hq⟩:=nmE (s / v);obtain ⟨u,hu⟩:=nmE (s % v);have hqi:(s:Int).tdiv v=(q:Int):=by rw [Ka (by omega),hq]; rfl
  have hui:(s:Int).tmod v=(u:Int):=by rw [Y3 (by omega),hu]; rfl
  rw [<-hq,<-hu] at k3;rw [<-hq] at k1;rw [<-hu] at k2;refine go tt [.t (by simp),.i 32,.r 21 (B8 (b:=((4294967296*r:Nat):Int)) (by omega)),.x (Gk hx),.r 27 (B8 (b:=(s:Int)) (by rw [o64 xb (by omega)]; omega)),
   .r 33 (B8 (b:=(q:Int)) hqi),.w 0,.r 34 (Df (b:=((q % 4294967296:Nat):Int)) (by rw [w32]; omega)),.r 38 (B8 (b:=(u:Int)) hui),.i k] rfl (by simp [Uu,Hf,Ux,IntKind.bits,hqi] <;> omega) ?_
  rw [Nn];exact rd ((k:Int)-1,o.set k (q % 4294967296),u) (by dsimp only; omega) ⟨by dsimp only; omega,by dsimp only; omega,by simp [j3],My j4 _ _ (by omega),k2,by dsimp only; rw [show ((k:Int)-1+1).toNat=k from by omega]; exact k3⟩ rfl
theorem Qc3 {i:Nat} {s:ByteArray} (h:∀ i,i<256->(s[i]?).map (·.toNat)=some (sz i)) (hi:i<256):(s[i]?).map (·.toNat)=some (sz i):=h i hi
set_option maxRecDepth 100000 in
theorem Qyi {x:Nat} (hx:x<4294967296):Uw Tryz.prog 310 [.one (.int .u32 (x:Int))] [.one (.int .i64 (sz x:Int))]:=by
 refine Hn Tryz.func310 rfl ?_;have h31:sz x<=32:=M9.2 (by omega);by_cases h1:65536<=x
 ·have e1:sz x=16+sz (x / 2^16):=Qej (by omega);obtain ⟨y,hy⟩:=nmE (x / 2^16);rw [<-hy] at e1;by_cases h2:256<=y
  ·have e2:sz y=8+sz (y / 2^8):=Qej (by omega);obtain ⟨z,hz⟩:=nmE (y / 2^8);rw [<-hz] at e2;exact en tt [.t (by simp; omega),.i 16,.r 6 (Df (b:=(y:Int)) (by simp [hy])),.t (by simp; omega),.i 8,.r 10 (Df (b:=(z:Int)) (by simp [hz])),.y (Qc3 (i:=z) (by decide) (by omega))] rfl (by rw [e1,e2]; simp; omega) (by simp [Uu,Hf,IntKind.bits] <;> omega)
  ·exact en tt [.t (by simp; omega),.i 16,.r 6 (Df (b:=(y:Int)) (by simp [hy])),.f (by simp; omega),.y (Qc3 (i:=y) (by decide) (by omega))] rfl (by rw [e1]; simp) (by simp [Uu,Hf,IntKind.bits] <;> omega)
 ·by_cases h2:256<=x
  ·have e2:sz x=8+sz (x / 2^8):=Qej (by omega);obtain ⟨z,hz⟩:=nmE (x / 2^8);rw [<-hz] at e2;exact en tt [.f (by simp; omega),.t (by simp; omega),.i 8,.r 10 (Df (b:=(z:Int)) (by simp [hz])),.y (Qc3 (i:=z) (by decide) (by omega))] rfl (by rw [e2]; simp) (by simp [Uu,Hf,IntKind.bits] <;> omega)
  ·exact en tt [.f (by simp; omega),.f (by simp; omega),.y (Qc3 (i:=x) (by decide) (by omega))] rfl (by simp) (by simp [Uu,Hf,IntKind.bits] <;> omega)
theorem Zg5 {x:Nat} (hx:x<4294967296):Uw Tryz.prog 317 [.one (.int .u32 (x:Int))] [.one (.int .i64 ((32-sz x:Nat):Int))]:=by
 have h31:sz x<=32:=M9.2 (by omega);exact w tt Tryz.func317 rfl [.c [] (Qyi hx)] rfl (by simp; omega) (by simp [Uu,Hf] <;> omega)
theorem Qu5 {l:List Nat} (hl:Sm l) (hs:sz (val l)<=4294967296):Uw Tryz.prog 270 [lr l] [.one (.int .i64 (sz (val l):Int))]:=by
 refine Hn Tryz.func270 rfl ?_;obtain ⟨p,ca,np,vp,_,ep⟩:=Qfa hl;have hp:=Rx hs;rw [<-ep] at hp;rw [<-vp] at hs ⊢;by_cases h0:p=[]
 ·subst h0;exact en tt [.c [] ca,.t (by simp [lm])] rfl rfl (by simp [Uu,Hf])
 ·have Dv:0<p.length:=J6.2 h0;obtain ⟨x,hx,hx0⟩:=np.2 h0;have xb:=np.1 x (Qa hx);have e:=Qxu np hx;have h31:sz x<=32:=M9.2 (by omega);have hn:(lm p).length≠0:=by rw [Ux]; omega
  refine en tt [.c [] ca,.f (by simp [Ux]; omega),.r 15 (eI (b:=((p.length-1:Nat):Int)) (by rw [Ux]; omega)),.x (Gk hx),.c [] (Qyi xb)] rfl (by rw [e,Ux]; simp; omega) (by simp [Uu,Hf,Ux] <;> omega)
theorem Qtt {s:Nat} (h:s<=31):((s:Nat):Int).tdiv 32=((0:Nat):Int):=by
 rw [Ka (by omega)]; omega
theorem Q9g {s:Nat} (h:s<=31):((s:Nat):Int).tmod 32=(s:Int):=Int.tmod_eq_of_lt (by omega) (by omega)
theorem Zik {s:Nat} (h:s<=31):max 0 (min (s:Int) 65536)=(s:Int):=by omega
theorem Zkl {a:List Nat} {s:Nat} (ha:Sm a) (h1:sz (val a)<=4294967400) (hs:s<=31):Uw Tryz.prog 337 [lr a,.one (.int .i64 (s:Int))] [lr (Fo (val a*2^s))]:=by
 refine Hn Tryz.func337 rfl ?_;obtain ⟨p,ca,np,vp,_,ep⟩:=Qfa ha;have hp:=Rx h1;rw [<-ep] at hp;rw [<-vp];have hq:((s:Nat):Int).tdiv 32=0:=Qtt hs;by_cases h0:p=[]
 ·subst h0;exact en tt [.c [] ca,.t (by simp [lm])] rfl (by simp [val,G5,lm]) (by simp [Uu,Hf])
 have Dv:0<p.length:=J6.2 h0;refine go tt [.c [] ca,.r 15 (eI (b:=(s:Int)) (Zik hs)),.f (by simp [Ux]; omega),.r 20 (eI (b:=((0:Nat):Int)) (Qtt hs)),.r 22 (eI (b:=(s:Int)) (Q9g hs)),.r 28 (eI (b:=(((lm p).length+1:Nat):Int)) (by omega)),.i ((lm p).length+1),.i ((lm p).length+1)] rfl (by have e:=Ux p; simp only [Uu,Hf]; omega) ?_;rw [Qcs];refine lp (S:=Nat×List Nat) 1 (λL1 s=>(32,.v (.one (.int .i64 (s.1:Int))))::L1) (λs=>[.row false 199 1 (lm s.2)]) (λs=>p.length-s.1)
  (λr=>r.1<=p.length/\r.2.length=p.length+1/\Sm r.2/\(∃ z,r.2[r.1]? = some z/\z<2^s)/\val (r.2.take (r.1+1))=val (p.take r.1)*2^s) (0,List.replicate ((lm p).length+1) 0)
  ⟨Qg _,by simp [Ux],λx hx=>by rw [Zv hx]; decide,⟨0,by simp,Z9 (by decide)⟩,by simp [val,J7]⟩ rfl (λ_ _=>rfl) rfl λ⟨i,o⟩ ⟨j1,j2,j3,⟨z,hz,hzs⟩,j5⟩=>?_
 dsimp only at j1 j2 j3 hz hzs j5 ⊢;by_cases hi:i<p.length
 ·obtain ⟨x,hx⟩:=gxE (l:=p) (i:=i) hi;have xb:=np.1 x (Qa hx);have zb:=j3 z (Qa hz);obtain ⟨k1,k2,k3,k4⟩:=Q93 hs hx xb hz hzs (by omega) j5;have hxs:=Zi5 hs xb;have h31:2^s<=2^31:=Zs (by decide) hs;have ec:(x:Int)*2^s=((x*2^s:Nat):Int):=by push_cast; rfl
  obtain ⟨m,hm⟩:=nmE (x*2^s);rw [<-hm] at k1 k2 k3 k4 hxs ec;refine go tt [.t (by simp [Ux]; omega),.x (Gk hx),.i s,.r 40 (B8 (b:=(m:Int)) ec),.i i,.x (Gk hz),.w 0,.r 52 (Df (b:=((m % 4294967296:Nat):Int)) (by rw [w32]; omega)),.r 53 (Df (b:=((z+m % 4294967296:Nat):Int)) (by rw [k4,o32 hzs zb (by omega) (by omega)])),.i i,
   .i 32,.r 61 (B8 (b:=((m / 2^32:Nat):Int)) (by simp)),.w 0,.r 62 (Df (b:=((m / 2^32 % 4294967296:Nat):Int)) (by rw [w32]; omega)),.i (i+1)] rfl (by simp [Uu,Hf,Ux,IntKind.bits,ec] <;> omega) ?_
  rw [Nn,Nn];exact rd (i+1,(o.set i (z+m % 4294967296)).set (i+1) (m / 2^32 % 4294967296)) (show p.length-(i+1)<p.length-i by omega) ⟨hi,by simp [j2],My (My j3 _ _ (by omega)) _ _ (by omega),⟨_,by rw [Jf (by simp; omega)],by omega⟩,k3⟩ rfl
 ·obtain rfl:i=p.length:=by omega
  rw [Qn (by omega),Qn (Qi _)] at j5;rw [<-j5];exact en tt [.f (by simp [Ux]),.c [] (Qby j3)] rfl rfl trivial
theorem Zkm {a:List Nat} {s:Nat} (ha:Sm a) (h1:sz (val a)<=4294967400) (hs:s<=31):Uw Tryz.prog 320 [lr a,.one (.int .i64 (s:Int))] [lr (Fo (val a / 2^s))]:=by
 refine Hn Tryz.func320 rfl ?_;obtain ⟨p,ca,np,vp,_,ep⟩:=Qfa ha;have hp:=Rx h1;rw [<-ep] at hp;rw [<-vp];have hq:((s:Nat):Int).tdiv 32=0:=Qtt hs;by_cases h0:p=[]
 ·subst h0;exact en tt [.c [] ca,.r 14 (eI (b:=(s:Int)) (Zik hs)),.r 16 (eI (b:=((0:Nat):Int)) (Qtt hs)),.r 18 (eI (b:=(s:Int)) (Q9g hs)),.t (by simp [lm])] rfl (by simp [val,G5,lm]) (by simp only [Uu,Hf]; omega)
 have Dv:0<p.length:=J6.2 h0;refine go tt [.c [] ca,.r 14 (eI (b:=(s:Int)) (Zik hs)),.r 16 (eI (b:=((0:Nat):Int)) (Qtt hs)),.r 18 (eI (b:=(s:Int)) (Q9g hs)),.f (by simp [Ux]; omega),.r 27 (eI (b:=((lm p).length:Int)) (by omega)),.i (lm p).length,.i (lm p).length] rfl (by have e:=Ux p; simp only [Uu,Hf]; omega) ?_;rw [Qcs];refine lp (S:=Nat×List Nat) 1 (λL1 s=>(31,.v (.one (.int .i64 (s.1:Int))))::L1) (λs=>[.row false 199 1 (lm s.2)]) (λs=>p.length-s.1)
  (λr=>r.1<=p.length/\r.2.length=p.length/\Sm r.2/\val (r.2.take r.1)=val p / 2^s % 4294967296^r.1) (0,List.replicate (lm p).length 0)
  ⟨Qg _,by simp [Ux],λx hx=>by rw [Zv hx]; decide,by simp [val]; omega⟩ rfl (λ_ _=>rfl) rfl λ⟨i,o⟩ ⟨j1,j2,j3,j5⟩=>?_
 dsimp only at j1 j2 j3 j5 ⊢;by_cases hi:i<p.length
 ·obtain ⟨x,hx⟩:=gxE (l:=p) (i:=i) hi;have xb:=np.1 x (Qa hx);have fin:∀ y m,(p[i+1]? = some y\/p.length<=i+1/\y=0)->m=(x+y*2^32) / 2^s->p.length-(i+1)<p.length-i/\i+1<=p.length/\(o.set i (m % 4294967296)).length=p.length/\Sm (o.set i (m % 4294967296))/\val ((o.set i (m % 4294967296)).take (i+1))=val p / 2^s % 4294967296^(i+1):=λy m hy hm =>
   ⟨by omega,hi,by simp [j2],My j3 _ _ (by omega),by subst hm; exact Q94 hs hx hy (by omega) np.1 j5⟩
  have hsp:0<2^s:=Z9 (by decide);by_cases hy0:i+1<p.length
  ·obtain ⟨y,hy⟩:=gxE (l:=p) (i:=i+1) hy0;have yb:=np.1 y (Qa hy);obtain ⟨v,hv⟩:=nmE (4294967296*y+x);obtain ⟨m,hm⟩:=nmE (v / 2^s);have hml:m<=v:=hm ▸ J5 _ _;have hf:=fin y m (.inl hy) (by rw [hm,hv]; congr 1; omega);refine go tt [.t (by simp [Ux]; omega),.x (Gk hx),.t (by simp [Ux]; omega),.x (Gk hy),.i 32,.r 57 (B8 (b:=((4294967296*y:Nat):Int)) (by omega)),.r 58 (B8 (b:=(v:Int)) (by rw [oM xb (by omega)]; omega)),
    .i s,.r 63 (B8 (b:=(m:Int)) (by rw [hm]; push_cast; rfl)),.w 0,.r 64 (Df (b:=((m % 4294967296:Nat):Int)) (by rw [w32]; omega)),.i i] rfl (by simp [Uu,Hf,Ux,IntKind.bits] <;> omega) ?_
   rw [Nn];exact rd (i+1,o.set i (m % 4294967296)) hf.1 hf.2 rfl
  ·obtain ⟨m,hm⟩:=nmE (x / 2^s);have hml:m<=x:=hm ▸ J5 _ _;have hf:=fin 0 m (.inr ⟨by omega,rfl⟩) (by rw [hm]; simp);refine go tt [.t (by simp [Ux]; omega),.x (Gk hx),.f (by simp [Ux]; omega),
    .i s,.r 63 (B8 (b:=(m:Int)) (by rw [hm]; push_cast; rfl)),.w 0,.r 64 (Df (b:=((m % 4294967296:Nat):Int)) (by rw [w32]; omega)),.i i] rfl (by simp [Uu,Hf,Ux,IntKind.bits] <;> omega) ?_
   rw [Nn];exact rd (i+1,o.set i (m % 4294967296)) hf.1 hf.2 rfl
 ·obtain rfl:i=p.length:=by omega
  have hvl:=C4 p np.1;rw [Qn (by omega),Xb (Xa (J5 _ _) hvl)] at j5;rw [<-j5];exact en tt [.f (by simp [Ux,j2]),.c [] (Qby j3)] rfl rfl trivial
def dgs:Nat->Nat->List Nat
 | 0,_=>[]
 | k+1,v=>v % 4294967296::dgs k (v / 4294967296)
theorem Q6k:∀ {l:List Nat},Sm l->l=dgs l.length (val l)
 | [],_=>rfl
 |
  x::l,h=>by
  have hx:=h x (.head _);have ih:=Q6k (l:=l) λy hy=>h y (.tail _ hy)
  simp only [Q7,dgs,val];rw [show (x+4294967296*val l) % 4294967296=x by omega,show (x+4294967296*val l) / 4294967296=val l by omega,<-ih]
theorem Qvx {l:List Nat} {k v:Nat} (h:Sm l) (hk:l.length=k) (hv:val l=v):dgs k v=l:=by
 rw [<-hk,<-hv]; exact (Q6k h).symm
theorem Qox:∀ {k v:Nat},(dgs k v).length=k/\Sm (dgs k v)/\(v<4294967296^k->val (dgs k v)=v)
 | 0,v=>⟨rfl,λx hx=>by (cases hx),λh=>by simp at h; subst h; rfl⟩
 |
  k+1,v=>by
  obtain ⟨h1,h2,h3⟩:=Qox (k:=k) (v:=v / 4294967296);refine ⟨by simp [dgs,h1],λx hx=>?_,λh=>?_⟩
  ·rcases Qq.1 hx with rfl | hx
   ·exact Z0 _ (by decide)
   ·exact h2 x hx
  ·simp only [dgs,val];rw [h3 (by rw [Zo] at h; exact Jd (by rw [Zh]; exact h))];omega
theorem Q54 {a:List Nat} {s n:Nat} (ha:Sm a) (h1:sz (val a)<=4294967400) (hs:s<=31) (hn:n<274877906944) (h0:0<n) (hv:val a*2^s<4294967296^n) :
 Se Tryz.prog 318 [lr a,.one (.int .i64 (s:Int)),.one (.int .i64 (n:Int))] [] [.one (.orow 0 1 none)] [.row false 199 1 (lm (dgs n (val a*2^s)))]:=by
 refine Hn Tryz.func318 rfl ?_;obtain ⟨v,hvv⟩:=nmE (val a*2^s);have cs:=Zkl ha h1 hs;rw [<-hvv] at cs hv ⊢;have hl:(Fo v).length<=n:=by
  apply Classical.byContradiction;intro hh;have h2:=Qdz (Dy v) (λe=>by rw [e] at hh; simp at hh);rw [Gq] at h2;have h3:4294967296^n<=4294967296^((Fo v).length-1):=Zs (by decide) (by omega);omega
 refine go tt [.i n,.i n,.c [] cs,.s (Q7y (Fo v)),.i (Fo v).length] rfl (by simp [Uu,Hf,Ux] <;> omega) ?_;have e:List.take 0 (List.replicate n [LV.int .u32 0])++(List.take (Fo v).length (lm (Fo v))++List.drop (0+(Fo v).length) (List.replicate n [LV.int .u32 0]))=lm (dgs n v):=by
  rw [Qvx (l:=Fo v++List.replicate (n-(Fo v).length) 0) (λx hx=>?_) (by simp; omega) (by rw [Mz,Qga,Gq]; simp)]
  ·rw [V2,Yz,Qn (by rw [Ux]; exact Qi _)];simp [lm]
  ·rcases Qt.1 hx with hx | hx
   ·exact Cy v x hx
   ·rw [Zv hx]; decide
 rw [e];exact ed tt [] [0] [] rfl trivial
theorem Qlq {pre x post:List Nat} {i u:Nat} (h:x[i]? = some u):(lm (pre++x++post))[pre.length+i]? = some [.int .u32 (u:Int)]:=Gk (by
 have hi:=(Qc.1 h).1;rw [Zi,Zn (by omega),Jj,Q8 hi]; exact h)
theorem Zav {pre x post:List Nat} {i v:Nat} (h:i<x.length):(lm (pre++x++post)).set (pre.length+i) [.int .u32 (v:Int)]=lm (pre++x.set i v++post):=by
 rw [Nn,Zi,List.set_append_right _ _ (by omega),Jj,List.set_append_left _ _ h,<-Zi]
theorem Zbz {pre x post ly:List Nat} {top nx xn x1 x2:Nat} (D:Dig x ly ly.length top nx xn x1 x2) (hn:ly.length<274877906944) :
 Se Tryz.prog 319 [.one (.orow 0 1 (some (pre.length,x.length))),lr ly] [.row true 199 1 (lm (pre++x++post))] [.one (.int .u32 ((val x / val ly:Nat):Int))] [.row true 199 1 (lm (pre++dgs x.length (val x % val ly)++post))]:=by
 refine Hn Tryz.func319 rfl ?_;have hxl:=D.hx;have hn2:=D.hn;have hb:=D.bnd;obtain ⟨head,hh⟩:=nmE (xn*2^32+x1);obtain ⟨g0,hg0⟩:=nmE (head / top);obtain ⟨r0,hr0⟩:=nmE (head % top);have hst:=D.start;rw [<-hh,<-hg0] at hst;have ht0:=D.top0;have hg0l:g0<=head:=hg0 ▸ J5 _ _;have hr0l:r0<top:=hr0 ▸ Z0 _ ht0;have htd:(head:Int).tdiv top=(g0:Int):=by rw [Ka (by omega),hg0]; rfl
 have htm:(head:Int).tmod top=(r0:Int):=by rw [Y3 (by omega),hr0]; rfl
 refine go tt [.r 23 (eI (b:=(ly.length:Int)) (by rw [Ux])),.r 26 (eI (b:=((ly.length-1:Nat):Int)) (by omega)),.x (Gk D.ltop),.r 32 (eI (b:=((ly.length-2:Nat):Int)) (by omega)),.x (Gk D.lnx),
  .i ly.length,.x (Qlq D.xn),.i 32,.r 41 (B8 (b:=((4294967296*xn:Nat):Int)) (by omega)),.r 44 (eI (b:=((ly.length-1:Nat):Int)) (by omega)),.i (ly.length-1),.x (Qlq D.x1),.r 48 (B8 (b:=(head:Int)) (by rw [o64 hb.2.2.2.1 (by omega)]; omega)),
  .r 51 (B8 (b:=(g0:Int)) htd),.r 54 (B8 (b:=(r0:Int)) htm)] rfl ?_ ?_
 ·simp only [Uu,Hf,htd,IntKind.bits]; omega
 refine ct 2 (S:=Nat) (λg=>[(0,.v (.one (.orow 0 1 (some (pre.length,x.length))))),(1,.v (lr ly)),(5,.v (.one (.int .i64 (ly.length:Int)))),(9,.v (.one (.int .u64 (g:Int))))]) (λ_=>[.row true 199 1 (lm (pre++x++post))]) (λg=>val x / val ly<=g/\(g-1)*val ly<=val x/\g<=4294967296) rfl ?_ ?_
 ·refine lp (S:=Nat×Nat) 1 (λL1 s=>(9,.v (.one (.int .u64 (s.1:Int))))::(10,.v (.one (.int .u64 (s.2:Int))))::L1) (λ_=>[.row true 199 1 (lm (pre++x++post))]) (λs=>4294967296-s.2)
   (λs=>s.1*top+s.2=xn*2^32+x1/\val x / val ly<=s.1/\s.2<4294967296/\s.1<18446744073709551616) (g0,r0)
   ⟨by rw [<-hh,hg0,hr0,Nat.mul_comm]; exact Nat.div_add_mod _ _,hst,by dsimp only; omega,by dsimp only; omega⟩ rfl (λ_ _=>rfl) rfl λ⟨g,r⟩ ⟨j1,j2,j3,j4⟩=>?_
  dsimp only at j1 j2 j3 j4 ⊢;by_cases hge:4294967296<=g
  ·have hrd:=D.round j1 j2 (.inl hge);by_cases h2:4294967296<=r+top
   ·exact go tt [.t (by simp; omega),.t rfl,.r 73 (B8 (b:=((g-1:Nat):Int)) (by omega)),.t (by simp; omega)] rfl (by simp [Uu,Hf] <;> omega) (rc (g-1) ⟨hrd.2.1,(hrd.2.2.2 h2).1,(hrd.2.2.2 h2).2⟩ rfl)
   ·exact go tt [.t (by simp; omega),.t rfl,.r 73 (B8 (b:=((g-1:Nat):Int)) (by omega)),.f (by simp; omega)] rfl (by simp [Uu,Hf] <;> omega) (rd (g-1,r+top) (by dsimp only; omega) ⟨hrd.2.2.1,hrd.2.1,by dsimp only; omega,by dsimp only; omega⟩ rfl)
  ·have hgn:=O9 (x:=g) (y:=nx) (by omega) hb.2.1;by_cases hc:r*2^32+x2<g*nx
   ·have hrd:=D.round j1 j2 (.inr hc);have e1:(g:Int)*(nx:Int)=((g*nx:Nat):Int):=by push_cast; rfl
    obtain ⟨m,hm⟩:=nmE (g*nx);rw [<-hm] at e1 hgn hc;by_cases h2:4294967296<=r+top
    ·exact go tt [.f (by simp; omega),.r 60 (B8 (b:=(m:Int)) e1),.i 32,.r 62 (B8 (b:=((4294967296*r:Nat):Int)) (by omega)),.r 65 (eI (b:=((ly.length-2:Nat):Int)) (by omega)),.i (ly.length-2),.x (Qlq D.x2),.r 69 (B8 (b:=((4294967296*r+x2:Nat):Int)) (o64 hb.2.2.2.2 (by omega))),.t (by simp; omega),.r 73 (B8 (b:=((g-1:Nat):Int)) (by omega)),.t (by simp; omega)] rfl (by simp only [Uu,Hf,e1,IntKind.bits]; omega) (rc (g-1) ⟨hrd.2.1,(hrd.2.2.2 h2).1,(hrd.2.2.2 h2).2⟩ rfl)
    ·exact go tt [.f (by simp; omega),.r 60 (B8 (b:=(m:Int)) e1),.i 32,.r 62 (B8 (b:=((4294967296*r:Nat):Int)) (by omega)),.r 65 (eI (b:=((ly.length-2:Nat):Int)) (by omega)),.i (ly.length-2),.x (Qlq D.x2),.r 69 (B8 (b:=((4294967296*r+x2:Nat):Int)) (o64 hb.2.2.2.2 (by omega))),.t (by simp; omega),.r 73 (B8 (b:=((g-1:Nat):Int)) (by omega)),.f (by simp; omega)] rfl (by simp only [Uu,Hf,e1,IntKind.bits]; omega) (rd (g-1,r+top) (by dsimp only; omega) ⟨hrd.2.2.1,hrd.2.1,by dsimp only; omega,by dsimp only; omega⟩ rfl)
   ·have hf:=D.fin j1 (by omega) (by omega);have e1:(g:Int)*(nx:Int)=((g*nx:Nat):Int):=by push_cast; rfl
    obtain ⟨m,hm⟩:=nmE (g*nx);rw [<-hm] at e1 hgn hc;exact go tt [.f (by simp; omega),.r 60 (B8 (b:=(m:Int)) e1),.i 32,.r 62 (B8 (b:=((4294967296*r:Nat):Int)) (by omega)),.r 65 (eI (b:=((ly.length-2:Nat):Int)) (by omega)),.i (ly.length-2),.x (Qlq D.x2),.r 69 (B8 (b:=((4294967296*r+x2:Nat):Int)) (o64 hb.2.2.2.2 (by omega))),.f (by simp; omega)] rfl (by simp only [Uu,Hf,e1,IntKind.bits]; omega) (rc g ⟨j2,hf,by omega⟩ rfl)
 ·intro g ⟨q1,q2,q3⟩;refine go tt [.r 80 (eI (b:=(ly.length:Int)) (by rw [Ux]))] rfl trivial ?_;refine lp (S:=Nat×List Nat×Nat×Nat) 1 (λL1 s=>(81,.v (.one (.int .i64 (s.1:Int))))::(11,.v (.one (.int .u64 (s.2.2.1:Int))))::(12,.v (.one (.int .u64 (s.2.2.2:Int))))::L1) (λs=>[.row true 199 1 (lm (pre++s.2.1++post))]) (λs=>ly.length-s.1)
   (λs=>s.1<=ly.length/\s.2.1.length=ly.length+1/\Sm s.2.1/\s.2.2.2<=1/\s.2.2.1<4294967296/\val (s.2.1.take s.1)+g*val (ly.take s.1)=val (x.take s.1)+(s.2.2.1+s.2.2.2)*4294967296^s.1/\s.2.1.drop s.1=x.drop s.1) (0,x,0,0)
   ⟨Qg _,hxl,D.xb,Qg _,by simp,by simp [val],rfl⟩ rfl (λ_ _=>rfl) rfl λ⟨i,o,cy,bw⟩ ⟨j1,j2,j3,j4,j5,j6,j7⟩=>?_
  dsimp only at j1 j2 j3 j4 j5 j6 j7 ⊢;by_cases hi:i<ly.length
  ·obtain ⟨w1,hw1⟩:=gxE (l:=ly) (i:=i) hi;obtain ⟨u,hu⟩:=gxE (l:=x) (i:=i) (by omega);have wb:=D.lb w1 (Qa hw1);have ub:=D.xb u (Qa hu);have hou:=(Qdf j7).trans hu;have hgw:g*w1<=18446744069414584320:=by
    have:=Zr q3 (show w1<=4294967295 by omega);omega
   obtain ⟨s,hs⟩:=nmE (((u+18446744073709551616-(g*w1+cy) % 4294967296) % 18446744073709551616+18446744073709551616-bw) % 18446744073709551616);have hstep:=Qpo (o:=o) (by omega) hu hw1 ub j4 j6 rfl hs;have e1:(g:Int)*(w1:Int)=((g*w1:Nat):Int):=by push_cast; rfl
   obtain ⟨m,hm⟩:=nmE (g*w1);rw [<-hm] at e1 hgw hs hstep;obtain ⟨p,hp⟩:=nmE (m+cy);rw [<-hp] at hs hstep;refine go tt [.t (by simp; omega),.x (Gk hw1),.r 89 (B8 (b:=(m:Int)) e1),.r 91 (B8 (b:=(p:Int)) (by omega)),.i 32,.r 93 (B8 (b:=((p / 2^32:Nat):Int)) (by simp)),.i i,.x (Qlq hou),.w 1,.r 100 (Df (b:=((p % 4294967296:Nat):Int)) (by rw [w32]; omega)),.w 1,.r 102 (B8 (b:=(((u+18446744073709551616-p % 4294967296) % 18446744073709551616:Nat):Int)) (by rw [w64]; omega)),.w 0,.r 104 (B8 (b:=(s:Int)) (by rw [w64]; omega)),
    .w 0,.r 108 (Df (b:=((s % 4294967296:Nat):Int)) (by rw [w32]; omega)),.i 63,.r 110 (B8 (b:=((s / 2^63:Nat):Int)) (by simp)),.i i] rfl (by simp only [Uu,Hf,e1,IntKind.bits,Ux,Q5]; omega) ?_
   rw [Zav (by omega)];exact rd (i+1,o.set i (s % 4294967296),p / 2^32,s / 2^63) (by dsimp only; omega) ⟨hi,by simp [j2],My j3 _ _ (by omega),hstep.2,by dsimp only; omega,hstep.1,Ql4 j7⟩ rfl
  ·obtain rfl:i=ly.length:=by omega
   have hon:=(Qdf j7).trans D.xn;rw [Qn (l:=ly) (Qi _)] at j6;obtain ⟨s,hs⟩:=nmE (((xn+18446744073709551616-cy) % 18446744073709551616+18446744073709551616-bw) % 18446744073709551616);obtain ⟨oa,hoa⟩:=nmE (o.set ly.length (s % 4294967296));have oal:oa.length=ly.length+1:=by rw [hoa,Jt]; exact j2
   have oab:Sm oa:=hoa ▸ My j3 _ _ (by omega);by_cases hs0:s / 2^63=0
   ·have hf:=D.fin0 j2 j5 j4 q1 j6 hs hs0;refine go tt [.f (by simp),.i ly.length,.x (Qlq hon),.w 1,.r 119 (B8 (b:=(((xn+18446744073709551616-cy) % 18446744073709551616:Nat):Int)) (by rw [w64]; omega)),.w 0,.r 121 (B8 (b:=(s:Int)) (by rw [w64]; omega)),.w 0,.r 125 (Df (b:=((s % 4294967296:Nat):Int)) (by rw [w32]; omega)),.i ly.length,.i 63,.r 128 (B8 (b:=((s / 2^63:Nat):Int)) (by simp)),.t (by simp; omega),.w 0,.r 131 (Df (b:=((val x / val ly:Nat):Int)) (by rw [w32]; omega))] rfl (by simp only [Uu,Hf,IntKind.bits,Ux,Q5]; omega) ?_;rw [Zav (by omega),<-Qvx (l:=o.set ly.length (s % 4294967296)) (k:=x.length) (hoa ▸ oab) (by rw [<-hoa,oal,hxl]) hf.2];exact ed tt [] [0] [] rfl trivial
   ·have hf:=D.fin1 j2 j3 j5 j4 q2 j6 hs hs0;rw [<-hoa] at hf;obtain ⟨v1,hv1⟩:=gxE (l:=oa) (i:=ly.length) (by omega);refine go tt [.f (by simp),.i ly.length,.x (Qlq hon),.w 1,.r 119 (B8 (b:=(((xn+18446744073709551616-cy) % 18446744073709551616:Nat):Int)) (by rw [w64]; omega)),.w 0,.r 121 (B8 (b:=(s:Int)) (by rw [w64]; omega)),.w 0,.r 125 (Df (b:=((s % 4294967296:Nat):Int)) (by rw [w32]; omega)),.i ly.length,.i 63,.r 128 (B8 (b:=((s / 2^63:Nat):Int)) (by simp)),.f (by simp; omega),.r 133 (eI (b:=(ly.length:Int)) (by rw [Ux]))] rfl (by simp only [Uu,Hf,IntKind.bits,Ux,Q5]; omega) ?_;rw [Zav (by omega),<-hoa];refine lp (S:=Nat×List Nat×Nat) 1 (λL1 s=>(134,.v (.one (.int .i64 (s.1:Int))))::(18,.v (.one (.int .u64 (s.2.2:Int))))::L1) (λs=>[.row true 199 1 (lm (pre++s.2.1++post))]) (λs=>ly.length-s.1)
     (λs=>s.1<=ly.length/\s.2.1.length=ly.length+1/\Sm s.2.1/\s.2.2<=1/\val (s.2.1.take s.1)+s.2.2*4294967296^s.1=val (oa.take s.1)+val (ly.take s.1)/\s.2.1.drop s.1=oa.drop s.1) (0,oa,0)
     ⟨Qg _,oal,oab,Qg _,by simp [val],rfl⟩ rfl (λ_ _=>rfl) rfl λ⟨j,o2,bk⟩ ⟨r1,r2,r3,r4,r5,r6⟩=>?_
    dsimp only at r1 r2 r3 r4 r5 r6 ⊢;by_cases hj:j<ly.length
    ·obtain ⟨w1,hw1⟩:=gxE (l:=ly) (i:=j) hj;obtain ⟨u,hu⟩:=gxE (l:=oa) (i:=j) (by omega);have wb:=D.lb w1 (Qa hw1);have ub:=oab u (Qa hu);have hou:=(Qdf r6).trans hu;obtain ⟨m,hm⟩:=nmE (u+bk+w1);have hstep:=Qra (o:=o2) (by omega) hu (.inl hw1) r5 hm;refine go tt [.t (by simp; omega),.x (Gk hw1),.i j,.x (Qlq hou),.r 148 (B8 (b:=(m:Int)) (by omega)),.w 0,.r 152 (Df (b:=((m % 4294967296:Nat):Int)) (by rw [w32]; omega)),.i 32,.r 154 (B8 (b:=((m / 4294967296:Nat):Int)) (by simp)),.i j] rfl (by simp only [Uu,Hf,IntKind.bits,Ux,Q5]; omega) ?_;rw [Zav (by omega)];exact rd (j+1,o2.set j (m % 4294967296),m / 4294967296) (by dsimp only; omega) ⟨hj,by simp [r2],My r3 _ _ (by omega),by dsimp only; omega,hstep,Ql4 r6⟩ rfl
    ·obtain rfl:j=ly.length:=by omega
     have hon2:=(Qdf r6).trans hv1;have vb:=oab v1 (Qa hv1);rw [Qn (l:=ly) (Qi _)] at r5;have hf2:=D.fin2 oal oab r2 r3 hv1 r4 hf.2 r5;refine go tt [.f (by simp),.i ly.length,.x (Qlq hon2),.w 1,.r 165 (Df (b:=(((v1+bk) % 4294967296:Nat):Int)) (by rw [w32]; omega)),.i ly.length,.w 0,.r 168 (Df (b:=((g % 4294967296:Nat):Int)) (by rw [w32]; omega)),.w 0,.r 169 (Df (b:=((val x / val ly:Nat):Int)) (Zlo hf.1 D.qlt))] rfl (by simp only [Uu,Hf,IntKind.bits,Ux,Q5]; omega) ?_;rw [Zav (by omega),<-Qvx (l:=o2.set ly.length ((v1+bk) % 4294967296)) (k:=x.length) (My r3 _ _ (by omega)) (by rw [Jt,r2,hxl]) hf2];exact ed tt [] [0] [] rfl trivial
theorem Q5g {o ly:List Nat} {lo top nx xn x1 x2:Nat} (hlo:lo+(ly.length+1)<=o.length) (D:Dig (win o lo ly.length) ly ly.length top nx xn x1 x2) (hn:ly.length<274877906944) :
 Se Tryz.prog 319 [.one (.orow 0 1 (some (lo,ly.length+1))),lr ly] [.row true 199 1 (lm o)] [.one (.int .u32 ((val (win o lo ly.length) / val ly:Nat):Int))] [.row true 199 1 (lm (o.take lo++dgs (ly.length+1) (val (win o lo ly.length) % val ly)++o.drop (lo+ly.length+1)))]:=by
 have:=Zbz (pre:=o.take lo) (post:=o.drop (lo+ly.length+1)) D hn;have e1:(o.take lo).length=lo:=by rw [Qr]; omega
 have e2:=Qes (o:=o) (i:=lo) (n:=ly.length) (by omega);rw [e1,e2,Qbl] at this;exact this
theorem Qrj {a b:List Nat} (ha:Sm a) (hb:Sm b) (h1:sz (val a)<=4294967296) (h2:sz (val b)<=4294967296) (hy:0<val b):Uw Tryz.prog 287 [lr a,lr b] [lr (Fo (val a / val b)),lr (Fo (val a % val b)),.one (.int .i64 0)]:=by
 refine Hn Tryz.func287 rfl ?_;obtain ⟨p,ca,np,vp,_,ep⟩:=Qfa ha;obtain ⟨q,cb,nq,vq,_,eq⟩:=Qfa hb;have hp:=Rx h1;have hq:=Rx h2;rw [<-ep] at hp;rw [<-eq] at hq;rw [<-vp,<-vq];rw [<-vp] at h1;rw [<-vq] at h2 hy;have q0:q≠[]:=λe=>by rw [e] at hy; simp [val] at hy
 have qp:0<q.length:=J6.2 q0;have c1:¬((lm q).length:Int)=0:=by rw [Ux]; omega
 by_cases hlt:p.length<q.length
 ·have hv:=Cd np nq hlt;rw [V6 hv,Xb hv,G5];exact en tt [.c [] ca,.c [] cb,.f (by simpa using c1),.t (by simp [Ux]; omega),.c [] (Qe5 np.1 h1)] rfl rfl (by simp [Uu,Hf])
 by_cases hone:q.length=1
 ·obtain ⟨y,rfl⟩:∃ y,q=[y]:=by
   match q,hone with
   | [y],_=>exact ⟨y,rfl⟩
  have yb:=nq.1 y (.head _);have vy:val [y]=y:=by simp [val]
  rw [vy] at hy ⊢;have co:=Zkt np.1 (by omega) hy yb;have sm:Sm [val p % y]:=λz hz=>by
   simp at hz; subst hz; exact Nat.lt_trans (Z0 _ hy) yb
  have cc:=Qby sm;rw [show val [val p % y]=val p % y from by simp [val]] at cc;exact en tt [.c [] ca,.c [] cb,.f (by simp [lm]),.f (by simp [Ux]; omega),.t (by simp [lm]),.x (Gk (l:=[y]) (i:=0) rfl),.c [] co,.c [] cc] rfl rfl (by simp [Uu,Hf])
 ·have hle:q.length<=p.length:=Vg hlt;obtain ⟨y1,hy1,hy10⟩:=nq.2 q0;have y1b:=nq.1 y1 (Qa hy1);have hszy:=Qxu nq hy1;have hsz1:sz y1<=32:=M9.2 (by omega);have hsz0:0<sz y1:=Zjg (by omega);obtain ⟨s,hs⟩:=nmE (32-sz y1);have hs31:s<=31:=by omega
  have Df:(2:Nat)^32=4294967296:=by decide
  obtain ⟨x,hx⟩:=nmE (val p);obtain ⟨y,hyv⟩:=nmE (val q);have cl:=Zg5 y1b;rw [<-hs] at cl;have hvx:val p*2^s<4294967296^(p.length+1):=by
   have h1:=C4 p np.1;rw [Zo];exact Xn (Xy h1 (show 0<2^s from Z9 (by decide))) (Zm _ (by rw [<-Df]; exact Zs (by decide) (by omega)))
  have hvy:val q*2^s<4294967296^q.length:=by
   have h1:=Qdw (val q);rw [<-Df,<-Ut];have h2:val q*2^s<2^sz (val q)*2^s:=Xy h1 (Z9 (by decide));rw [<-Xl] at h2;rw [show 32*q.length=sz (val q)+s from by omega];exact h2
  have cx:=Q54 np.1 (show sz (val p)<=4294967400 by omega) hs31 (show p.length+1<274877906944 by omega) (by omega) hvx;have cy:=Q54 nq.1 (show sz (val q)<=4294967400 by omega) hs31 (show q.length<274877906944 by omega) qp hvy;obtain ⟨hXl,hXb,hXv⟩:=Qox (k:=p.length+1) (v:=val p*2^s);obtain ⟨hYl,hYb,hYv⟩:=Qox (k:=q.length) (v:=val q*2^s);have hXv:=hXv hvx;have hYv:=hYv hvy;obtain ⟨X,hX⟩:=nmE (dgs (p.length+1) (val p*2^s));obtain ⟨Y,hY⟩:=nmE (dgs q.length (val q*2^s));rw [<-hX] at hXl hXb hXv cx;rw [<-hY] at hYl hYb hYv cy;have hyB:4294967296^(q.length-1)<=val q:=Qdz nq q0;have hR:=Qxb hXv hYv hXl hXb hYl hYb (show 2<=q.length by omega) (C4 p np.1) hyB hle;refine go tt [.c [] ca,.c [] cb,.f (by simpa using c1),.f (by simp [Ux]; omega),.f (by simp [Ux]; omega),.r 49 (eI (b:=((q.length-1:Nat):Int)) (by rw [Ux]; omega)),.x (Gk hy1),.c [] cl,.r 57 (eI (b:=((p.length+1:Nat):Int)) (by rw [Ux]; omega)),.c [0] cx,.r 62 (eI (b:=(q.length:Int)) (by rw [Ux])),.c [1] cy,.r 65 (eI (b:=(q.length:Int)) (by rw [Ux,hYl])),.r 70 (eI (b:=((p.length-q.length+1:Nat):Int)) (by rw [Ux]; omega)),.i (p.length-q.length+1),.i (p.length-q.length+1),.r 73 (eI (b:=((p.length-q.length+1:Nat):Int)) (by simp))] rfl ?_ ?_
  ·simp only [Uu,Hf,IntKind.bits,Ux];omega
  ·rw [Qcs];refine pb 1 rfl rfl ?_;refine lp (S:=Int×List Nat×List Nat) 3 (λL1 s=>(13,.v (.one (.int .i64 s.1)))::L1) (λs=>[.row false 199 1 (lm s.2.2),.gone,.row false 199 1 (lm s.2.1)]) (λs=>(s.1+1).toNat)
    (λs=>-1<=s.1/\s.1<p.length-q.length+1/\s.2.1.length=p.length-q.length+1/\Sm s.2.1/\Rest s.2.2 Y p.length q.length (s.1+1).toNat/\val (s.2.1.drop (s.1+1).toNat)*4294967296^(s.1+1).toNat*val Y+val s.2.2=val X) (((p.length-q.length+1:Nat):Int)-1,List.replicate (p.length-q.length+1) 0,X)
    ⟨by dsimp only; omega,by dsimp only; omega,by simp,λx hx=>by rw [List.eq_of_mem_replicate hx]; decide,by simpa using hR,by simp [val]⟩ rfl (λ_ _=>rfl) rfl λ⟨i,oq,ox⟩ ⟨j1,j2,j3,j4,j5,j6⟩=>?_
   dsimp only at j1 j2 j3 j4 j5 j6 ⊢;rcases We i 0 with hi | hi
   ·obtain rfl:i=-1:=by omega
    simp only [show ((-1:Int)+1).toNat=0 from rfl,Xm,Vh,Ys] at j5 j6;have hlt':val ox<val q*2^s:=by have:=j5.lt; rw [hYv] at this; simpa using this
    have hfin:=Q9h (x:=val p) (y:=val q) (s:=s) (r:=val ox) (q:=oq) hy (by rw [<-hXv,<-hYv]; exact j6) hlt';have hoxl:=j5.ol;have hox:=Qxw (o:=ox) (n:=q.length) (by omega) (Nat.lt_trans hlt' hvy);have hszm:sz (val (ox.take q.length))<=4294967400:=by
     rw [hox,hfin.2];have h1:=Zag (val p % val q) (2^s);have h2':=Re (Jw (Z0 (val p) hy));have h3:sz (2^s)<=s+1:=M9.2 (Nat.pow_lt_pow_right (by decide) (by omega));omega
    have cs:=Zkm (a:=ox.take q.length) (λu hu=>j5.ob u (Ql hu)) hszm hs31;rw [hox,hfin.2,Nat.mul_div_cancel _ (Z9 (by decide))] at cs;have cq:=Qby j4;rw [hfin.1] at cq;exact en tt [.f (by decide),.p 2,.p 0,.c [] cq,.i q.length,.r 95 (v:=lr (ox.take q.length)) (by simp [lm]),.c [] cs] rfl rfl (by simp [Uu,Hf,Ux]; omega)
   ·obtain ⟨k,rfl⟩:=Yo hi;have e:((k:Int)+1).toNat=k+1:=by omega
    rw [e] at j5 j6;obtain ⟨top,nx,xn,x1,x2,D⟩:=j5.dig;have hoxl:=j5.ol;have hm:=j5.hm;have cd:=Q5g (o:=ox) (lo:=k) (by omega) (hYl.symm ▸ D) (by omega);rw [hYl] at cd;have hwl:=Qes (o:=ox) (i:=k) (n:=q.length) (by omega);have hwlt:val (win ox k q.length) % val Y<4294967296^(q.length+1):=by
     have h3:=C4 (win ox k q.length) D.xb;rw [hwl] at h3;exact Xa (Nat.mod_le _ _) h3
    obtain ⟨d1,d2,d3⟩:=Qox (k:=q.length+1) (v:=val (win ox k q.length) % val Y);have hnx:=j5.next (w':=dgs (q.length+1) (val (win ox k q.length) % val Y)) (d1.trans hwl.symm) d2 (d3 hwlt) (q:=oq) (by omega) j6;have hdg:=D.qlt;refine go tt [.t (by simp),.i k,.i (k+q.length+1),.r 87 (v:=.one (.orow 0 1 (some (k,q.length+1)))) (by rw [show k+q.length+1-k=q.length+1 by omega]),.c [0] cd,.i k] rfl ?_ ?_
    ·simp only [Uu,Ux]; omega
    ·rw [Nn];refine rd ((k:Int)-1,oq.set k (val (win ox k q.length) / val Y),ox.take k++dgs (q.length+1) (val (win ox k q.length) % val Y)++ox.drop (k+q.length+1)) (by dsimp only; omega) ⟨by dsimp only; omega,by dsimp only; omega,by simp [j3],My j4 _ _ hdg,?_,?_⟩ rfl
     ·dsimp only; rw [show ((k:Int)-1+1).toNat=k from by omega]; exact hnx.1
     ·dsimp only; rw [show ((k:Int)-1+1).toNat=k from by omega]; exact hnx.2
def sg (z:Int):LV:=.bool (decide (z<0))
def mg (z:Int):LV:=.row (lm (Fo z.natAbs))
abbrev Hg (z:Int):List LV:=[sg z,mg z]
def Rj (x y:LV) (z:Int):Prop:=∃ b l,x=.bool b/\y=.row (lm l)/\Sm l/\z=U4 b (val l)
theorem U0 (z:Int):Rj (sg z) (mg z) z:=by
 refine ⟨_,_,rfl,rfl,Cy _,?_⟩;rw [Gq];unfold U4;by_cases h:z<0 <;> simp [h] <;> omega
theorem Zio (b:Bool) (m:Nat):[LV.bool (b && decide (0<m)),LV.row (lm (Fo m))]=Hg (U4 b m):=by
 simp only [Hg,sg,mg,Qki,Rw]
theorem Ca {m:Nat}:0<(Fo m).length↔0<m:=by
 rcases Qy m with h | h
 ·subst h; rw [G5]; simp
 ·rw [Dw (by omega)]; simp [h]
theorem Pg (b:Bool) (m:Nat):Uw Tryz.prog 208 [lr (Fo m),.one (.bool b)] [.agg (Hg (U4 b m))]:=by
 rw [<-Zio];have e:=Ca (m:=m);cases b with
 | false=>exact w tt Tryz.func208 rfl [.f rfl] rfl rfl trivial
 | true=>exact w tt Tryz.func208 rfl [.t rfl] rfl (by simp [Ux,e]) trivial
theorem P0 {b:Bool} {m:Nat} {k:Nat} (h:U9 (U4 b m)<=k):sz m<=k:=by
 unfold U9 at h; rwa [Rw] at h
theorem A5 {x y:LV} {z:Int} (hi:Rj x y z) (hs:U9 z<=4294967295):Uw Tryz.prog 149 [.agg [x,y]] [.agg (Hg z)]:=by
 obtain ⟨b,l,rfl,rfl,hl,rfl⟩:=hi;exact w tt Tryz.func149 rfl [.c [] (Qe5 hl (Qd (P0 hs) (by decide))),.c [] (Pg _ _)] rfl rfl trivial
theorem Qdj (b:Bool) (m:Nat):U4 (!b) m=-(U4 b m):=by unfold U4; cases b <;> simp
theorem Qlr {x y:LV} {z:Int} (hi:Rj x y z) (hs:U9 z<=4294967295):Uw Tryz.prog 148 [.agg [x,y]] [.agg (Hg (-z))]:=by
 obtain ⟨b,l,rfl,rfl,hl,rfl⟩:=hi;rw [<-Qdj];exact w tt Tryz.func148 rfl [.c [] (Qe5 hl (Qd (P0 hs) (by decide))),.c [] (Pg _ _)] rfl rfl trivial
theorem Ef {x y x' y':LV} {z z':Int} (hi:Rj x y z) (hi':Rj x' y' z') (hs:U9 z<=4294967295) (hs':U9 z'<=4294967295):Uw Tryz.prog 229 [.agg [x,y],.agg [x',y']] [.agg (Hg (z*z'))]:=by
 obtain ⟨b,l,rfl,rfl,hl,rfl⟩:=hi;obtain ⟨b',l',rfl,rfl,hl',rfl⟩:=hi';have e:U4 b (val l)*U4 b' (val l')=U4 (b != b') (val l*val l'):=by
  unfold U4; cases b <;> cases b' <;> simp [Int.neg_mul,Int.mul_neg]
 rw [e];exact w tt Tryz.func229 rfl [.c [] (Zkf hl hl' (Qd (P0 hs) (by decide)) (Qd (P0 hs') (by decide))),.c [] (Pg _ _)] rfl rfl trivial
theorem Qit {a b:List Nat} (ha:Sm a) (hb:Sm b) (h1:sz (val a)<=4294967296) (h:val b<=val a):Uw Tryz.prog 315 [lr a,lr b] [lr (Fo (val a-val b)),.one (.bool true)]:=by
 have:=Zfq ha hb h1; rwa [if_pos h] at this
theorem Q5c {a b:List Nat} (ha:Sm a) (hb:Sm b) (h1:sz (val a)<=4294967296) (h:val a<val b):Uw Tryz.prog 315 [lr a,lr b] [lr [],.one (.bool false)]:=by
 have:=Zfq ha hb h1; rwa [if_neg (by omega)] at this
theorem Qiu {x y x' y':LV} {z z':Int} (hi:Rj x y z) (hi':Rj x' y' z') (hs:U9 z<=4294967295) (hs':U9 z'<=4294967295):Uw Tryz.prog 286 [.agg [x,y],.agg [x',y']] [.agg (Hg (z+z'))]:=by
 obtain ⟨b,l,rfl,rfl,hl,rfl⟩:=hi;obtain ⟨b',l',rfl,rfl,hl',rfl⟩:=hi';have s1:=Qd (P0 hs) (show 4294967295<=4294967296 by decide);have s2:=Qd (P0 hs') (show 4294967295<=4294967296 by decide);by_cases hb:b=b'
 ·subst hb;have e:U4 b (val l)+U4 b (val l')=U4 b (val l+val l'):=by unfold U4; cases b <;> simp <;> omega
  rw [e];exact w tt Tryz.func286 rfl [.t (by simp),.c [] (Zfo hl hl' s1 s2),.c [] (Pg _ _)] rfl rfl trivial
 ·by_cases hle:val l'<=val l
  ·have e:U4 b (val l)+U4 b' (val l')=U4 b (val l-val l'):=by unfold U4; cases b <;> cases b' <;> simp at hb ⊢ <;> omega
   rw [e];exact w tt Tryz.func286 rfl [.f (by simpa using hb),.c [] (Qit hl hl' s1 hle),.t rfl,.c [] (Pg _ _)] rfl rfl trivial
  ·have e:U4 b (val l)+U4 b' (val l')=U4 b' (val l'-val l):=by unfold U4; cases b <;> cases b' <;> simp at hb ⊢ <;> omega
   rw [e];exact w tt Tryz.func286 rfl [.f (by simpa using hb),.c [] (Q5c hl hl' s1 (by omega)),.f rfl,.c [] (Qit hl' hl s2 (by omega)),.c [] (Pg _ _)] rfl rfl trivial
theorem Q5f {x y x' y':LV} {z z':Int} (hi:Rj x y z) (hi':Rj x' y' z') (hs:U9 z<=4294967295) (hs':U9 z'<=4294967295):Uw Tryz.prog 272 [.agg [x,y],.agg [x',y']] [.agg (Hg (z-z'))]:=by
 obtain ⟨b',l',rfl,rfl,hl',rfl⟩:=hi';have hn:Rj (.bool (!b')) (.row (lm l')) (-(U4 b' (val l'))):=⟨_,_,rfl,rfl,hl',(Qdj _ _).symm⟩;rw [Int.sub_eq_add_neg];have hi2:=hi;obtain ⟨b,l,rfl,rfl,hl,_⟩:=hi;exact w tt Tryz.func272 rfl [.c [] (Qiu hi2 hn hs (by rw [Hl]; exact hs'))] rfl rfl trivial
theorem Q50 {x y:LV} {z:Int} (hi:Rj x y z) (hs:U9 z<=4294967295):Uw Tryz.prog 266 [.agg [x,y]] [.one (.int .i64 (Int.sign z))]:=by
 obtain ⟨b,l,rfl,rfl,hl,rfl⟩:=hi;have s1:=Qd (P0 hs) (show 4294967295<=4294967296 by decide);have cb:=Qu5 hl s1;by_cases h0:val l=0
 ·have e:U4 b (val l)=0:=by unfold U4; rw [h0]; cases b <;> simp
  rw [e];exact w tt Tryz.func266 rfl [.c [] cb,.t (by simp [Qk9,h0])] rfl rfl trivial
 ·have hs0:sz (val l)≠0:=λh=>h0 (Qk9.1 h)
  cases b
  ·have e:(U4 false (val l)).sign=1:=Int.sign_eq_one_of_pos (by unfold U4; simp; omega);rw [e];exact w tt Tryz.func266 rfl [.c [] cb,.f (by simp; omega),.f rfl] rfl rfl trivial
  ·have e:(U4 true (val l)).sign=-1:=Int.sign_eq_neg_one_of_neg (by unfold U4; simp; omega);rw [e];exact w tt Tryz.func266 rfl [.c [] cb,.f (by simp; omega),.t rfl] rfl rfl trivial
theorem Qof {x y x' y':LV} {z z':Int} (hi:Rj x y z) (hi':Rj x' y' z') (hs:U9 z<=4294967295) (hs':U9 z'<=4294967295):Uw Tryz.prog 214 [.agg [x,y],.agg [x',y']] [.one (.int .i64 (C0 z z'))]:=by
 have c1:=Q50 hi hs;have c2:=Q50 hi' hs';obtain ⟨b,l,rfl,rfl,hl,hz⟩:=hi;obtain ⟨b',l',rfl,rfl,hl',hz'⟩:=hi';have k1:=Qct z;have k2:=Qct z';have zl:z.natAbs=val l:=by rw [hz,Rw]
 have zl':z'.natAbs=val l':=by rw [hz',Rw]
 by_cases h1:z.sign<z'.sign
 ·have e:C0 z z'=-1:=by unfold C0; rw [if_pos (by omega)]
  rw [e];exact w tt Tryz.func214 rfl [.c [] c1,.c [] c2,.t (by simpa using h1)] rfl rfl trivial
 ·by_cases h2:z'.sign<z.sign
  ·have e:C0 z z'=1:=by unfold C0; rw [if_neg (by omega),if_pos (by omega)]
   rw [e];exact w tt Tryz.func214 rfl [.c [] c1,.c [] c2,.f (by simpa using h1),.t (by simpa using h2)] rfl rfl trivial
  ·by_cases h3:z.sign<0
   ·have e:I7 (val l') (val l)=C0 z z':=by unfold C0 I7; rw [<-zl,<-zl']; split <;> split <;> (try split) <;> (try split) <;> omega
    have cc:=Q4r hl' hl;rw [e] at cc;exact w tt Tryz.func214 rfl [.c [] c1,.c [] c2,.f (by simpa using h1),.f (by simpa using h2),.t (by simpa using h3),.c [] cc] rfl rfl trivial
   ·have e:I7 (val l) (val l')=C0 z z':=by unfold C0 I7; rw [<-zl,<-zl']; split <;> split <;> (try split) <;> (try split) <;> omega
    have cc:=Q4r hl hl';rw [e] at cc;exact w tt Tryz.func214 rfl [.c [] c1,.c [] c2,.f (by simpa using h1),.f (by simpa using h2),.f (by simpa using h3),.c [] cc] rfl rfl trivial
theorem A6 {z:Int}:Uw Tryz.prog 224 [.agg (Hg z)] [.one (.bool (decide (z=0)))] :=
 w tt Tryz.func224 rfl [] rfl (by simp only [Ux]; congr 3; have:=Ca (m:=z.natAbs); rw [decide_eq_decide]; omega) trivial
theorem Qu9 {z:Int} (h1:-9223372036854775808<=z/\z<=9223372036854775807):Uw Tryz.prog 150 [.one (.int .i64 z)] [.agg (Hg z)]:=by
 obtain ⟨m,hm⟩:=nmE (z.natAbs);have sm:Sm [m % 4294967296,m / 4294967296]:=λx hx=>by
  simp at hx; rcases hx with rfl | rfl <;> omega
 have hv:val [m % 4294967296,m / 4294967296]=m:=by simp only [val]; omega
 have cn:=Qe5 sm (by rw [hv]; exact Qd (M9.2 (show m<2^64 by omega)) (show 64<=4294967296 by decide));rw [hv] at cn;by_cases hz:z<0
 ·have e:U4 true m=z:=by unfold U4; simp; omega
  have cm:=Pg true m;rw [e] at cm;exact w tt Tryz.func150 rfl [.w 0,.r 5 (B8 (b:=((18446744073709551616-m:Nat):Int)) (by rw [w64]; omega)),.t (by simpa using hz),.w 0,.r 9 (B8 (b:=(m:Int)) (by rw [w64]; omega)),.w 0,.r 11 (Df (b:=((m % 4294967296:Nat):Int)) (by rw [w32]; omega)),.i 32,.r 13 (B8 (b:=((m / 4294967296:Nat):Int)) (by simp)),.c [] cn,.r 18 (v:=.one (.bool true)) (by simp [hz]),.c [] cm] rfl rfl (by simp [Uu,IntKind.bits] <;> omega)
 ·have e:U4 false m=z:=by unfold U4; simp; omega
  have cm:=Pg false m;rw [e] at cm;exact w tt Tryz.func150 rfl [.w 0,.r 5 (B8 (b:=(m:Int)) (by rw [w64]; omega)),.f (by simpa using hz),.w 0,.r 11 (Df (b:=((m % 4294967296:Nat):Int)) (by rw [w32]; omega)),.i 32,.r 13 (B8 (b:=((m / 4294967296:Nat):Int)) (by simp)),.c [] cn,.r 18 (v:=.one (.bool false)) (by simp; omega),.c [] cm] rfl rfl (by simp [Uu,IntKind.bits] <;> omega)
theorem Qu8 {m n:Nat} (h1:sz m<=4294967296) (h2:sz n<=4294967296) (hn:0<n):Uw Tryz.prog 287 [lr (Fo m),lr (Fo n)] [lr (Fo (m / n)),lr (Fo (m % n)),.one (.int .i64 0)]:=by
 have:=Qrj (Cy m) (Cy n) (by rw [Gq]; exact h1) (by rw [Gq]; exact h2) (by rw [Gq]; exact hn);rwa [Gq,Gq] at this
theorem Q11 {x y x' y':LV} {z z':Int} (hi:Rj x y z) (hi':Rj x' y' z') (hs:U9 z<=4294967295) (hs':U9 z'<=4294967295) (hz:z'≠0):Uw Tryz.prog 288 [.agg [x,y],.agg [x',y']] [.agg (Hg (z / z')),.agg (Hg (z % z')),.one (.int .i64 0)]:=by
 obtain ⟨b,l,rfl,rfl,hl,hz1⟩:=hi;obtain ⟨b',l',rfl,rfl,hl',hz2⟩:=hi';have zl:z.natAbs=val l:=by rw [hz1,Rw]
 have zl':z'.natAbs=val l':=by rw [hz2,Rw]
 have s1:sz (val l)<=4294967296:=Qd (P0 (hz1 ▸ hs)) (by decide);have s2:sz (val l')<=4294967296:=Qd (P0 (hz2 ▸ hs')) (by decide);have hp:0<z'.natAbs:=by omega
 have e1:z=if b=true then -(z.natAbs:Int) else (z.natAbs:Int):=by rw [zl]; exact hz1
 have e2:z'=if b'=true then -(z'.natAbs:Int) else (z'.natAbs:Int):=by rw [zl']; exact hz2
 have cd:=Qrj hl hl' s1 s2 (by omega);rw [<-zl,<-zl'] at cd;have s0:sz (z.natAbs % z'.natAbs)<=4294967296:=Qd (Re (Jw (Z0 _ hp))) (by rw [zl']; exact s2);cases b with
 |
  false =>
  obtain ⟨d1,d2⟩:=Qja e2 hp e1;rw [d1,d2];exact w tt Tryz.func288 rfl [.c [] cd,.f rfl,.c [] (Pg _ _),.c [] (Pg _ _),.f rfl,.f rfl] rfl rfl trivial
 |
  true =>
  by_cases h0:z.natAbs % z'.natAbs=0
  ·obtain ⟨d1,d2⟩:=Qhd e2 hp e1 h0;rw [d1,d2];exact w tt Tryz.func288 rfl [.c [] cd,.f rfl,.c [] (Pg _ _),.c [] (Pg _ _),.t rfl,.f (by rw [h0,G5]; rfl)] rfl rfl trivial
  ·obtain ⟨d1,d2⟩:=Qi9 e2 hp e1 (by omega);rw [d1,d2];have ca:=Zfo (a:=Fo (z.natAbs / z'.natAbs)) (b:=[1]) (Cy _) (λx hx=>by simp at hx; subst hx; decide) (by rw [Gq]; exact Qd (Re (J5 _ _)) (by rw [zl]; exact s1)) (by decide);have cs:=Qit (a:=l') (b:=Fo (z.natAbs % z'.natAbs)) hl' (Cy _) s2 (by rw [Gq,<-zl']; exact Jw (Z0 _ hp));rw [Gq] at ca cs;rw [<-zl'] at cs;have hl0:=Ca (m:=z.natAbs % z'.natAbs);exact w tt Tryz.func288 rfl [.c [] cd,.f rfl,.c [] (Pg _ _),.c [] (Pg _ _),.t rfl,.t (by simp [Ux]; omega),.c [] ca,.c [] cs,.c [] (Pg _ _),.c [] (Pg _ _)] rfl rfl trivial
theorem Lv {x y x' y':LV} {z z':Int} (hi:Rj x y z) (hi':Rj x' y' z') (hs:U9 z<=4294967295) (hs':U9 z'<=4294967295) (hz:z'≠0) (hd:z % z'=0):Uw Tryz.prog 244 [.agg [x,y],.agg [x',y']] [.agg (Hg (z / z')),.one (.int .i64 0)]:=by
 have cd:=Q11 hi hi' hs hs' hz;obtain ⟨b,l,rfl,rfl,_⟩:=hi;obtain ⟨b',l',rfl,rfl,_⟩:=hi';exact w tt Tryz.func244 rfl [.c [] cd,.f rfl,.f (by rw [hd]; simp [Ux,G5])] rfl rfl trivial
end Orr
namespace Orr
open Go
abbrev Zjh (l:List Nat):LV:=.row (lm l)
def G9 (l:List Int):Nat:=l.foldl (λg z=>Nat.gcd g z.natAbs) 0
theorem Qml {l:List Int} {i:Nat} {z:Int} (h:l[i]? = some z):G9 (l.take (i+1))=Nat.gcd (G9 (l.take i)) z.natAbs:=by
 unfold G9;rw [Y6,h];simp [Vx]
theorem Zc0 (g x:Nat):Nat.gcd x (g % x)=Nat.gcd g x:=by
 rw [Wm g x,Nat.gcd_rec x g,Wm]
theorem Qli (l:List Int):l.foldl (λg z=>Nat.gcd g z.natAbs) 1=1:=by
 induction l with
 | nil=>rfl
 | cons z l ih=>simp [ih]
theorem Q7e {l:List Int} {i:Nat} (h:G9 (l.take i)=1):G9 l=1:=by
 have e:l=l.take i++l.drop i:=(Zd i l).symm;unfold G9 at h ⊢;rw [e,Vx,h,Qli]
def trim:List Int->List Int
 | []=>[]
 |
  x::l=>match trim l with
  | []=>if x=0 then [] else [x]
  | y::k=>x::y::k
theorem Qcv:∀ {l:List Int},(∀ x∈l,x=0)->trim l=[]
 | [],_=>rfl
 |
  x::l,h=>by
  have ih:=Qcv (l:=l) (λy hy=>h y (Qk _ hy));simp [trim,ih,h x (Qx ..)]
theorem Qn3:∀ {l:List Int} {m:Nat} {y:Int},(∀ j x,m<j->l[j]? = some x->x=0)->l[m]? = some y->y≠0->trim l=l.take (m+1)
 | [],m,y,_,h,_=>by simp at h
 |
  x::l,0,y,h1,h2,h3=>by
  have h0:trim l=[]:=Qcv λz hz=>by
   obtain ⟨j,hj⟩:=Zg.1 hz;exact h1 (j+1) z (by omega) (by simpa using hj)
  simp at h2;subst h2;simp [trim,h0,h3]
 |
  x::l,m+1,y,h1,h2,h3=>by
  have ih:=Qn3 (l:=l) (m:=m) (y:=y) (λj z hj hz=>h1 (j+1) z (by omega) (by simpa using hz)) (by simpa using h2) h3;cases hl:l with
  | nil=>subst hl; simp at h2
  |
   cons u k =>
   subst hl;rw [J8] at ih;simp only [trim] at ih ⊢;rw [ih];simp
def U3 (l:List Int):Prop:=trim l=l
theorem H6:∀ (l:List Int),U3 (trim l)
 | []=>rfl
 |
  x::l=>by
  have ih:=H6 l;unfold U3 at ih ⊢;cases h:trim l with
  | nil=>by_cases hx:x=0 <;> simp [trim,h,hx]
  |
   cons y k =>
   rw [h] at ih;simp only [trim,h] at ih ⊢;rw [ih]
theorem Qt9 {l:List Int} {m:Nat} (hm:m<=l.length) (h1:∀ j x,m<=j->l[j]? = some x->x=0) (h2:0<m->∃ y,l[m-1]? = some y/\y≠0):trim l=l.take m:=by
 rcases Qy m with h0 | h0
 ·subst h0;rw [Qcv λz hz=>?_]; rfl;obtain ⟨j,hj⟩:=Zg.1 hz;exact h1 j z (by omega) hj
 ·obtain ⟨y,hy,hy0⟩:=h2 h0;have:=Qn3 (l:=l) (m:=m-1) (y:=y) (λj x hj hx=>h1 j x (by omega) hx) hy hy0;rwa [show m-1+1=m from by omega] at this
def IsInts:List (List LV)->List Int->Prop
 | [],[]=>True
 | x::l,z::p=>(∃ a b,x=[a,b]/\Rj a b z)/\IsInts l p
 | _,_=>False
theorem IsInts.len:∀ {l:List (List LV)} {p:List Int},IsInts l p->l.length=p.length
 | [],[],_=>rfl
 | x::l,z::p,h=>by simp [h.2.len]
 | [],_::_,h=>h.elim
 | _::_,[],h=>h.elim
theorem IsInts.get:∀ {l:List (List LV)} {p:List Int},IsInts l p->∀ {i:Nat} {z:Int},p[i]? = some z->∃ a b,l[i]? = some [a,b]/\Rj a b z
 | [],[],_,i,z,h=>by simp at h
 |
  x::l,y::p,h,0,z,hz=>by
  simp at hz; subst hz;obtain ⟨a,b,rfl,hi⟩:=h.1;exact ⟨a,b,rfl,hi⟩
 | x::l,y::p,h,i+1,z,hz=>by simpa using h.2.get (i:=i) (by simpa using hz)
 | [],_::_,h,_,_,_=>h.elim
 | _::_,[],h,_,_,_=>h.elim
theorem Ha:∀ (p:List Int),IsInts (p.map Hg) p
 | []=>trivial
 | z::p=>⟨⟨_,_,rfl,U0 z⟩,Ha p⟩
theorem IsInts.append:∀ {l l':List (List LV)} {p p':List Int},IsInts l p->IsInts l' p'->IsInts (l++l') (p++p')
 | [],_,[],_,_,h=>h
 | x::l,_,z::p,_,h,h'=>⟨h.1,h.2.append h'⟩
 | [],_,_::_,_,h,_=>h.elim
 | _::_,_,[],_,h,_=>h.elim
def pl (p:List Int):LV:=.row (p.map Hg)
def ids (l:List Int):LV:=.row (l.map λ(x:Int)=>[.int .i64 x])
theorem Im:Rj (.bool false) (.row []) 0:=⟨false,[],rfl,rfl,(λx hx=>by cases hx),rfl⟩
theorem Zes:sg 0=.bool false:=rfl
theorem Ho {α β:Type} {f:α->β} {l:List α} {i:Nat} {x:α} (h:l[i]? = some x):(l.map f)[i]? = some (f x):=by rw [Zb,h]; rfl
theorem Zga {α:Type} {f:α->List LV} {sz:Nat} (l:List α) (h:∀ x,(f x).length=sz):∀ c∈l.map f,c.length=sz:=λc hc=>by
 obtain ⟨x,_,rfl⟩:=Zx.1 hc;exact h x
theorem Zdi:mg 0=.row []:=by simp [mg,G5,lm]
theorem Lk:Hg 0=[LV.bool false,LV.row []]:=by simp [Hg,Zes,Zdi]
end Orr
namespace Orr
open Go Go.Proofs
set_option maxRecDepth 10000
theorem Qhz {p:List Int} (hs:∀ z∈p,U9 z≤4294967295):sz (G9 p)≤4294967295:=by
 have key:∀ (p:List Int) (g:Nat),sz g≤4294967295->(∀ z∈p,U9 z≤4294967295)->sz (p.foldl (λg z=>Nat.gcd g z.natAbs) g)≤4294967295:=by
  intro p
  induction p with
  | nil=>exact λg h _=>h
  |
   cons z p ih =>
   intro g h hs;refine ih _ ?_ λy hy=>hs y (.tail _ hy)
   rcases Qy g with h0 | h0
   ·subst h0; show sz (Nat.gcd 0 z.natAbs)<=_; rw [Nat.gcd_zero_left]; exact hs z (.head _)
   ·exact Qd (Re (Nat.gcd_le_left _ h0)) h
 exact key p 0 (by decide) hs
theorem Q4t {l:List (List LV)} {p:List Int} (hi:IsInts l p) (hs:∀ z∈p,U9 z≤4294967295):Uw Tryz.prog 243 [.one (.row l)] [.agg (Hg ((G9 p:Nat):Int))]:=by
 refine Hn Tryz.func243 rfl (ln 0 rfl rfl λhl=>?_);have hlp:=hi.len;refine go tt [.z 3,.r 3 (v:=lr (Fo (G9 (p.take 0)))) (by simp [G9,G5,lm])] rfl trivial ?_;refine ct 2 (S:=Unit) (λ_=>[(2,.v (.one (.ow 0 0))),(3,.v (lr (Fo (G9 p))))]) (λ_=>[.blk 51 [.bool false,.nils],.gone]) (λ_=>True) rfl ?_ ?_
 ·refine lp (S:=Nat) 1 (λL1 i=>(12,.v (.one (.int .i64 (i:Int))))::(3,.v (lr (Fo (G9 (p.take i)))))::L1) (λ_=>[.blk 51 [.bool false,.nils]]) (λi=>p.length-i) (λi=>i<=p.length) 0 (Qg _) rfl (λ_ _=>rfl) rfl λi hip=>?_
  by_cases h:i<p.length
  ·have hlt:i<l.length:=by omega
   obtain ⟨c,hc⟩:=gxE (l:=l) (i:=i) hlt;obtain ⟨z,hz⟩:=gxE (l:=p) (i:=i) h;obtain ⟨x,y,hc',b,r,rfl,rfl,hr,hzz⟩:=hi.get hz;rw [hc] at hc'; injection hc' with hc'; subst hc'
   have hsz:=hs z (Qa hz);have hg0:sz (G9 (p.take i))<=4294967295:=Qhz λy hy=>hs y (Ql hy)
   have ezr:z.natAbs=val r:=by rw [hzz,Rw]
   have cn:=Qe5 hr (by rw [<-ezr]; exact Qd hsz (by decide));rw [<-ezr] at cn;refine go tt [.t (by simp; omega),.x hc,.c [] cn] rfl trivial ?_;refine lp (S:=Nat×Nat) 2 (λL1 s=>(3,.v (lr (Fo s.1)))::(6,.v (lr (Fo s.2)))::L1) (λ_=>[.blk 51 [.bool false,.nils],.blk 51 [.bool b,.row (lm r)]]) (λs=>s.2) (λs=>Nat.gcd s.1 s.2=Nat.gcd (G9 (p.take i)) z.natAbs/\sz s.1<=4294967295/\sz s.2<=4294967295) (G9 (p.take i),z.natAbs) ⟨rfl,hg0,hsz⟩ rfl (λ_ _=>rfl) rfl λ⟨g,u⟩ ⟨j1,j2,j3⟩=>?_
   dsimp only at j1 j2 j3 ⊢;have hul:=Ca (m:=u);by_cases hu:0<u
   ·have cd:=Qu8 (m:=g) (n:=u) (by omega) (by omega) hu;refine go tt [.t (by simp [Ux]; omega),.c [] cd] rfl trivial ?_;exact rd (u,g % u) (Z0 _ hu) ⟨(Zc0 g u).trans j1,j3,Qd (Re (Jw (Z0 _ hu))) j3⟩ rfl
   ·obtain rfl:u=0:=by omega
    rw [Nat.gcd_zero_right,<-Qml hz] at j1;subst j1;by_cases h1:G9 (p.take (i+1))=1
    ·have e1:Fo (G9 (p.take (i+1)))=[1]:=by rw [h1,Dw (by decide)]; simp [G5]
     refine go tt [.f (by simp [G5,lm]),.t (by rw [e1]; rfl),.x (Gk (i:=0) (x:=1) (by rw [e1]; rfl)),.t rfl] rfl trivial ?_;exact rc () trivial (by rw [h1,Q7e h1]; rfl)
    ·obtain ⟨g,hg⟩:=nmE (G9 (p.take (i+1)));rw [<-hg] at h1 j2 ⊢;by_cases h2:(Fo g).length=1
     ·obtain ⟨v,hv⟩:∃ v,Fo g=[v]:=by
       match hm:Fo g,h2 with
       | [v],_=>exact ⟨v,rfl⟩
      have hv1:v≠1:=λe=>h1 (by rw [<-Gq g,hv,e]; rfl)
      refine go tt [.f (by simp [G5,lm]),.t (by simp [Ux,h2]),.x (Gk (i:=0) (x:=v) (by rw [hv]; rfl)),.f (by simp; omega)] rfl (by simp [Uu] <;> omega) ?_;exact rd (i+1) (by omega) h (by rw [<-hg]; rfl)
     ·refine go tt [.f (by simp [G5,lm]),.f (by simp [Ux]; omega),.f rfl] rfl (by simp [Uu] <;> omega) ?_;exact rd (i+1) (by omega) h (by rw [<-hg]; rfl)
  ·obtain rfl:i=p.length:=by omega
   refine go tt [.f (by simp; omega)] rfl trivial ?_;rw [Q0];exact rc () trivial rfl
 ·intro _ _;have cn:=Qe5 (Cy (G9 p)) (by rw [Gq]; exact Qd (Qhz hs) (by decide));rw [Gq] at cn;exact en tt [.c [] cn,.c [] (Pg false _)] rfl (by simp [U4]) trivial
end Orr
namespace Orr
open Go
def Rl:List Nat->Nat
 | []=>0
 | x::l=>x+10000*Rl l
def Dg (l:List Nat):Prop:=∀ x∈l,x<10000
def Fp (x:Nat):List Nat:=if h:x=0 then [] else (x % 10000)::Fp (x / 10000)
termination_by x
decreasing_by omega
theorem G0:Fp 0=[]:=by unfold Fp; simp
theorem If {x:Nat} (h:x≠0):Fp x=(x % 10000)::Fp (x / 10000):=by rw [Fp]; simp [h]
theorem Ht (x:Nat):Rl (Fp x)=x:=by
 induction x using Nat.strongRecOn with
 |
  _ x ih =>
  rcases Qy x with h | h
  ·subst h; rw [G0]; rfl
  ·rw [If (by omega)];simp only [Rl];rw [ih _ (by omega)]; omega
theorem Nj (x:Nat):Dg (Fp x):=by
 induction x using Nat.strongRecOn with
 |
  _ x ih =>
  rcases Qy x with h | h
  ·subst h; rw [G0]; intro y hy; cases hy
  ·rw [If (by omega)];intro y hy;rcases Qq.1 hy with rfl | hy
   ·omega
   ·exact ih _ (by omega) y hy
theorem Qde {x:Nat}:(Fp x).length=0↔x=0:=by
 constructor
 ·intro h;have h0:=Qh h;have:=Ht x;rw [h0] at this;exact this.symm
 ·rintro rfl; rw [G0]; rfl
theorem Lz {x:Nat} (h:x≠0):(Fp (x / 10000)).length+1=(Fp x).length:=by rw [If h]; rfl
theorem Q2h {x:Nat} (h:x<1000000000000):(Fp x).length<=3:=by
 by_cases h0:x=0
 ·subst h0; rw [G0]; exact Qg _
 ·have h1:=Lz h0;by_cases h2:x / 10000=0
  ·rw [h2,G0] at h1; simp at h1; omega
  ·have h3:=Lz h2;by_cases h4:x / 10000 / 10000=0
   ·rw [h4,G0] at h3; simp at h3; omega
   ·have h5:=Lz h4;have h6:x / 10000 / 10000 / 10000=0:=by omega
    rw [h6,G0] at h5; simp at h5; omega
theorem Px (x:Nat):(Fp x).length<=sz x:=by
 induction x using Nat.strongRecOn with
 |
  _ x ih =>
  by_cases h0:x=0
  ·subst h0; rw [G0]; exact Qg _
  ·have h1:=Lz h0;have h2:=ih (x / 10000) (by omega);have h3:sz (x / 10000)+1<=sz x:=by
    have h4:x<2^sz x:=Qdw x;rcases hs:sz x with _ | k
    ·rw [hs] at h4; simp at h4; omega
    ·rw [hs] at h4;have:sz (x / 10000)<=k:=M9.2 (by rw [Zo] at h4; omega);omega
   omega
theorem Si (a b:List Nat):Rl (a++b)=Rl a+10000^a.length*Rl b:=by
 induction a with
 | nil=>simp [Rl]
 |
  cons x a ih =>
  simp only [Xf,Rl,ih,Q7,Zo];rw [Xv,<-Xq,Zh 10000 (10000^a.length)]; omega
theorem Ry {l:List Nat} {i x:Nat} (h:l[i]? = some x):Rl (l.take (i+1))=Rl (l.take i)+10000^i*x:=by
 have hi:=(Qc.1 h).1;rw [show l.take (i+1)=l.take i++[x] by rw [Zw,h]; rfl,Si,Qr,Zt (by omega)];simp [Rl]
theorem Qje:∀ {l:List Nat},Dg l->Rl l<10000^l.length
 | [],_=>by simp [Rl]
 |
  x::l,h=>by
  have h1:=h x (Qx ..);have h2:=Qje (l:=l) λy hy=>h y (Qk _ hy)
  simp only [Rl,Q7,Zo]; omega
theorem Qjf:∀ {l:List Nat},(∀ x∈l,x=0)->Rl l=0
 | [],_=>rfl
 |
  x::l,h=>by
  have h1:=h x (Qx ..);have h2:=Qjf (l:=l) λy hy=>h y (Qk _ hy)
  simp [Rl,h1,h2]
theorem Dg.take {l:List Nat} (h:Dg l) (k:Nat):Dg (l.take k):=λx hx=>h x (Ql hx)
theorem Dg.snoc {l:List Nat} (h:Dg l) {x:Nat} (hx:x<10000):Dg (l++[x]):=by
 intro y hy;rcases Qt.1 hy with hy | hy
 ·exact h y hy
 ·rw [Qj.1 hy]; exact hx
theorem Dg.nil:Dg []:=λx h=>by cases h
theorem Qvw:∀ {l:List Nat},Dg l->(∀ x,l[l.length-1]? = some x->x≠0)->l=Fp (Rl l)
 | [],_,_=>by rw [Rl,G0]
 |
  x::l,h,hl=>by
  have h1:=h x (Qx ..);have h2:l=Fp (Rl l):=Qvw (λy hy=>h y (Qk _ hy)) λy hy=>hl y (by
   rcases l with _ | ⟨z,t⟩
   ·simp at hy
   ·simpa using hy)
  have h3:x+10000*Rl l≠0:=by
   intro e;have hx:x=0:=by omega
   have hd:Rl l=0:=by omega
   rw [hd,G0] at h2;subst h2;exact hl x rfl hx
  simp only [Rl];rw [If h3,show (x+10000*Rl l) % 10000=x by omega,show (x+10000*Rl l) / 10000=Rl l by omega,<-h2]
theorem Qr5 {l:List Nat} {m:Nat} (hd:Dg l) (hm:m<=l.length) (h1:∀ j x,m<=j->l[j]? = some x->x=0) (h2:0<m->∃ y,l[m-1]? = some y/\y≠0):l.take m=Fp (Rl l):=by
 have e:Rl l=Rl (l.take m):=by
  conv=>lhs; rw [<-Zd m l,Si]
  rw [Qjf (l:=l.drop m) λx hx=>?_]
  ·omega
  ·obtain ⟨j,hj⟩:=Zg.1 hx;rw [Xe] at hj;exact h1 (m+j) x (by omega) hj
 rw [e];refine Qvw (hd.take m) λx hx=>?_
 have hl:(l.take m).length=m:=by rw [Qr]; omega
 rw [hl] at hx;rcases Qy m with h0 | h0
 ·subst h0; simp at hx
 ·obtain ⟨y,hy,hy0⟩:=h2 h0;rw [Ve (by omega),hy] at hx;injection hx with hx; rw [<-hx]; exact hy0
theorem Ql2 {o c i d m P V:Nat} (hP:P=10000^i) (h:o+c*P=V):o+P*((c+d*m) % 10000)+(c+d*m) / 10000*(P*10000)=V+P*d*m:=by
 have e:=Xk (c+d*m) 10000;generalize (c+d*m) / 10000=q at *;generalize (c+d*m) % 10000=r at *;have e2:P*(c+d*m)=P*(10000*q+r):=by rw [e]
 grind
theorem Ol {x y:Nat} (h:x<=y):(Fp x).length<=(Fp y).length:=by
 induction y using Nat.strongRecOn generalizing x with
 |
  _ y ih =>
  by_cases h0:x=0
  ·subst h0; rw [G0]; exact Qg _
  ·have h1:=Lz h0;have h2:=Lz (x:=y) (by omega);have:=ih (y / 10000) (by omega) (x:=x / 10000) (Nat.div_le_div_right h);omega
theorem Q2g {n x:Nat} (h:10000^n<=x):n+1<=(Fp x).length:=by
 have h1:=Qje (Nj x);rw [Ht] at h1;have h2:n<(Fp x).length:=(Nat.pow_lt_pow_iff_right (by decide)).1 (Xa h h1);omega
theorem Qr3 {x y:Nat} (h:(Fp x).length<(Fp y).length):x<y:=by
 rcases Q6 x y with h1 | h1
 ·exact h1
 ·have:=Ol h1; omega
theorem Q2i {k y:Nat} (h:y<10000^k):(Fp y).length<=k:=by
 induction k generalizing y with
 |
  zero =>
  have:y=0:=by simpa using h
  subst this; rw [G0]; exact Qi _
 |
  succ k ih =>
  by_cases hy0:y=0
  ·subst hy0; rw [G0]; exact Qg _
  ·have h8:=Lz hy0;have:=ih (y:=y / 10000) (by rw [Zo] at h; omega);omega
theorem Q6g {o:List Nat} (h:Dg o) (hl:o.length<=(Fp (Rl o)).length):o=Fp (Rl o):=by
 refine Qvw h λx hx h0=>?_
 subst h0;have hne:0<o.length:=by
  rcases o with _ | ⟨a,o⟩
  ·simp at hx
  ·simp
 have h1:Rl o=Rl (o.take (o.length-1)):=by
  have:=Ry hx;rw [show o.length-1+1=o.length by omega,Q0] at this;omega
 have h2:=Qje (h.take (o.length-1));rw [<-h1,Qr,Zt (by omega)] at h2;have:=Q2i h2;omega
theorem Oo {l:List Nat} {j d:Nat} (h:l[j]? = some d):Rl (l.drop j)=d+10000*Rl (l.drop (j+1)):=by
 obtain ⟨hj,he⟩:=Qc.1 h;rw [Zl hj,he]; rfl
theorem Qfb {l:List Nat} {j y:Nat} (h:j<l.length):(l.set j y).drop j=y::l.drop (j+1):=by
 rw [Zl (by simpa using h)];simp only [List.getElem_set_self];rw [List.drop_set_of_lt (by omega)]
theorem Dg.set {l:List Nat} (h:Dg l) {j y:Nat} (hy:y<10000):Dg (l.set j y):=by
 intro x hx;rcases Yd hx with hx | rfl
 ·exact h x hx
 ·exact hy
theorem Dg.zeros (n:Nat):Dg (List.replicate n 0):=by
 intro x hx; rw [Zv hx]; decide
theorem Qr7 {V kd d:Nat} (hk:0<kd):(d+10000*V) / kd=(V % kd*10000+d) / kd+10000*(V / kd)/\(d+10000*V) % kd=(V % kd*10000+d) % kd/\(d<10000->(V % kd*10000+d) / kd<10000):=by
 have e:=Xk V kd;have e2:d+10000*V=(V % kd*10000+d)+kd*(10000*(V / kd)):=by
  conv=>lhs; rw [<-e]
  grind
 refine ⟨?_,?_,λhd=>?_⟩
 ·rw [e2,Wl _ _ hk]
 ·rw [e2,Ki]
 ·have:=Z0 V hk;exact (V3 hk).2 (by grind)
theorem Qhw (l:List Nat) (j:Nat) (h:j<=l.length):Rl l=Rl (l.take j)+10000^j*Rl (l.drop j):=by
 conv=>lhs; rw [<-Zd j l,Si]
 rw [Qr,Zt h]
theorem Qi8 {a b:List Nat} {j d e:Nat} (ha:Dg a) (hd:a[j]? = some d) (he:b[j]? = some e) (hs:a.drop (j+1)=b.drop (j+1)) (h:d<e):Rl a<Rl b:=by
 have h1:=(Qc.1 hd).1;have h2:=(Qc.1 he).1;rw [Qhw a j (by omega),Qhw b j (by omega),Oo hd,Oo he,hs];have h3:=Qje (ha.take j);rw [Qr,Zt (by omega)] at h3;generalize 10000^j=P at *;have h4:P*(d+10000*Rl (b.drop (j+1)))+P<=P*(e+10000*Rl (b.drop (j+1))):=by
  rw [<-Ko]; exact Zm _ (by omega)
 omega
def dl (l:List Nat):LV:=.row (l.map λ(x:Nat)=>[.int .i64 (x:Int)])
theorem H7 (l:List Nat):(l.map λ(x:Nat)=>[LV.int .i64 (x:Int)]).length=l.length:=by simp
theorem Gi {l:List Nat} {i x:Nat} (h:l[i]? = some x):(l.map λ(x:Nat)=>[LV.int .i64 (x:Int)])[i]? = some [.int .i64 (x:Int)]:=by rw [Zb,h]; rfl
abbrev nd (x:Nat):LV:=dl (Fp x)
end Orr
namespace Orr
open Go Go.Proofs
set_option maxRecDepth 10000
abbrev M3 (l:List Nat):List (List LV):=l.map λ(x:Nat)=>[.int .i64 (x:Int)]
theorem Zhu (l:List Nat):∀ c∈M3 l,c.length=1:=λc hc=>by obtain ⟨x,_,rfl⟩:=Zx.1 hc; rfl
theorem Qe7 {l:List Nat} (hd:Dg l):Uw Tryz.prog 191 [.one (.row (M3 l))] [.one (nd (Rl l))]:=by
 refine Hn Tryz.func191 rfl (ln 0 rfl rfl λhl=>?_);rw [Zc] at hl;refine go tt [] rfl trivial ?_;refine lp (S:=Nat) 0 (λL1 n=>(3,.v (.one (.int .i64 (n:Int))))::L1) (λ_=>[]) id (λn=>n<=l.length/\∀ j x,n<=j->l[j]? = some x->x=0) (M3 l).length ⟨by simp,λj x h1 h2=>by
  have:=(Qc.1 h2).1; simp at h1; omega⟩ rfl (λ_ _=>rfl) rfl λn ⟨h1,h2⟩=>?_
 cases n with
 | zero=>exact en tt [.g 8 false (by simp),.f rfl,.i 0] rfl (by have:=Qr5 hd h1 h2 (λh=>by omega); unfold nd; rw [<-this]; simp [dl]) (by simp [Uu])
 |
  succ n =>
  obtain ⟨x,hx⟩:=gxE (l:=l) (i:=n) (by omega);by_cases h0:x=0
  ·refine go tt [.g 8 true (by simp),.r 11 (v:=.one (.int .i64 (n:Int))) (by simp),.x (Gi hx),.t (by simp [h0]),.r 17 (v:=.one (.int .i64 (n:Int))) (by simp)] rfl (by simp [Uu]; omega) ?_;exact rd n (by simp) ⟨by omega,λj y h3 h4=>by
    rcases Vn h3 with rfl | h3
    ·rw [hx] at h4; injection h4 with h4; rw [<-h4,h0]
    ·exact h2 j y h3 h4⟩ rfl
  ·exact en tt [.g 8 true (by simp),.r 11 (v:=.one (.int .i64 (n:Int))) (by simp),.x (Gi hx),.f (by simp [h0]),.i (n+1)] rfl (by have:=Qr5 hd h1 h2 (λ_=>⟨x,hx,h0⟩); unfold nd; rw [<-this]; simp [dl,List.map_take]) (by simp [Uu] <;> omega)
theorem Qy2 {x kd:Nat} (hxs:sz x<=100000000) (hk:0<kd/\kd<=65536):Uw Tryz.prog 190 [.one (nd x),.one (.int .i64 (kd:Int))] [.one (nd (x / kd)),.one (.int .i64 ((x % kd:Nat):Int))]:=by
 have hln:=Qd (Px x) hxs;obtain ⟨l,hl⟩:=nmE (Fp x);have hx:Rl l=x:=by rw [hl,Ht]
 have hd:Dg l:=by rw [hl]; exact Nj x
 show Uw Tryz.prog 190 [.one (.row (M3 (Fp x))),.one (.int .i64 (kd:Int))] _;rw [<-hl] at hln ⊢;rw [<-hx];have hll:=H7 l;refine Hn Tryz.func190 rfl ?_;refine go tt [.i (M3 l).length,.i (M3 l).length] rfl (by simp [Uu]; omega) ?_;rw [hll,show List.replicate l.length [LV.int .i64 0]=M3 (List.replicate l.length 0) from by simp [M3]];refine lp (S:=Nat×List Nat×Nat) 1 (λL1 s=>(8,.v (.one (.int .i64 ((s.1:Int)-1))))::(7,.v (.one (.int .i64 (s.2.2:Int))))::L1) (λs=>[.row false 3 1 (M3 s.2.1)]) (λs=>s.1) (λs=>s.1<=l.length/\s.2.1.length=l.length/\Dg s.2.1/\Rl (s.2.1.drop s.1)=Rl (l.drop s.1) / kd/\s.2.2=Rl (l.drop s.1) % kd) (l.length,List.replicate l.length 0,0) ⟨Qi _,by simp,Dg.zeros _,by simp [Rl],by simp [Rl]⟩ rfl (λ_ _=>rfl) rfl λ⟨k,o,R⟩ ⟨j1,j2,j3,j4,hR⟩=>?_
 dsimp only at j1 j2 j3 j4 hR ⊢;cases k with
 |
  zero =>
  have cc:=Qe7 j3;rw [Xm,Xm] at j4;rw [j4] at cc;exact en tt [.f (by simp),.c [] cc] rfl (by rw [hR,Xm]) trivial
 |
  succ k =>
  obtain ⟨d,hdk⟩:=gxE (l:=l) (i:=k) (by omega);have hd0:=hd d (Qa hdk);have hdd:=Oo hdk;obtain ⟨s1,s2,s3⟩:=Qr7 (V:=Rl (l.drop (k+1))) (kd:=kd) (d:=d) hk.1;rw [<-hdd] at s1 s2;have hr:=Z0 (Rl (l.drop (k+1))) hk.1;rw [<-hR] at s1 s2 s3 hr;have e:((k+1:Nat):Int)-1=(k:Int):=by omega
  have htd:((R:Int)*10000+(d:Int)).tdiv (kd:Int)=(((R*10000+d) / kd:Nat):Int):=rfl;have hle:=J5 (R*10000+d) kd;have htb:0<=((R:Int)*10000+(d:Int)).tdiv (kd:Int)/\((R:Int)*10000+(d:Int)).tdiv (kd:Int)<=655369999:=by
   rw [htd]; revert hle; generalize (R*10000+d) / kd=Q; intro hle; omega
  rw [e];refine go tt [.t (by simp),.x (Gi hdk),.r 26 (eI (b:=((R*10000+d:Nat):Int)) (by omega)),.r 31 (eI (b:=(((R*10000+d) / kd:Nat):Int)) (by rfl)),.i k,.r 35 (eI (b:=(((R*10000+d) % kd:Nat):Int)) (by rfl))] rfl (by simp [Uu]; omega) ?_;exact rd (k,o.set k ((R*10000+d) / kd),(R*10000+d) % kd) (by dsimp only; omega) ⟨by dsimp only; omega,by simp [j2],j3.set (s3 hd0),by dsimp only; rw [Qfb (by omega)]; simp only [Rl]; rw [j4,s1],by dsimp only; exact s2.symm⟩ (by simp [M3,List.map_set]; rfl)
theorem Zjf (x k:Nat):sz (x / k)<=sz x:=Re (J5 _ _)
theorem Qwj {x y:Nat} {o:List Nat} (h:Fo x=o++Fo y) (h0:y≠0):Fo x=(o++[y % 4294967296])++Fo (y / 4294967296):=by
 rw [h,Dw h0]; simp
theorem Zdd (o:List Nat) (z:Nat):lm (o++[z])=lm o++[[.int .u32 (z:Int)]]:=by simp [lm]
theorem Zkn {x:Nat} (hx:sz x<=100000000):Uw Tryz.prog 114 [.one (nd x)] [lr (Fo x)]:=by
 have hlx:=Rx hx;refine Hn Tryz.func114 rfl ?_;refine go tt [.o 3 199 1] rfl trivial ?_;refine lp (S:=Nat×List Nat) 1 (λL1 s=>(0,.v (.one (nd s.1)))::(3,.v (.one (.orow 0 1 none)))::L1) (λs=>[.row false 199 1 (lm s.2)]) (λs=>s.1) (λs=>Fo x=s.2++Fo s.1/\s.1<=x) (x,[]) ⟨rfl,Qi _⟩ rfl (λ_ _=>rfl) rfl λ⟨y,o⟩ ⟨j1,j2⟩=>?_
 dsimp only at j1 j2 ⊢;by_cases h0:y=0
 ·subst h0;rw [G5,Zy] at j1;rw [j1];exact en tt [.f (by simp [G0])] rfl rfl trivial
 ·have hs:=Qwj j1 h0;have hsy:sz y<=100000000:=Qd (Re j2) hx;have c1:=Qy2 (x:=y) (kd:=65536) hsy (by decide);have c2:=Qy2 (x:=y / 65536) (kd:=65536) (Qd (Zjf _ _) hsy) (by decide);have hl:(Fp y).length≠0:=λh=>h0 (Qde.1 h)
  have ol:o.length<=(Fo x).length:=by rw [j1]; simp
  have e:y / 65536 % 65536*65536+y % 65536=y % 4294967296:=by omega
  have e2:y / 65536 / 65536=y / 4294967296:=by omega
  refine go tt [.t (by simp; omega),.c [] c1,.c [] c2,.r 26 (Df (b:=((y % 4294967296:Nat):Int)) (by omega)),.s (sz:=1) (l:=[[.int .u32 ((y % 4294967296:Nat):Int)]]) (λc hc=>by rw [Qj.1 hc]; rfl)] rfl (by simp [Uu,Ux]; omega) ?_;rw [<-e2] at hs;exact rd (y / 65536 / 65536,o++[y % 4294967296]) (by dsimp only; omega) ⟨hs,by dsimp only; omega⟩ (by rw [Zdd]; rfl)
abbrev ri (z:Int):List LV:=[nd z.natAbs,sg z]
theorem Zlh (b:Bool) (m:Nat):[nd m,LV.bool (b && decide (0<m))]=ri (U4 b m):=by
 simp only [ri,sg,Rw,Qki]
theorem Zil (x:Nat):(0<(Fp x).length)↔0<x:=by
 have:=Qde (x:=x); omega
theorem Lx (b:Bool) (m:Nat):Uw Tryz.prog 115 [.one (nd m),.one (.bool b)] [.agg (ri (U4 b m))]:=by
 rw [<-Zlh];have e:=Zil m;cases b with
 | false=>exact w tt Tryz.func115 rfl [.g 7 false rfl] rfl rfl trivial
 | true=>exact w tt Tryz.func115 rfl [.g 7 true rfl] rfl (by simp [e]) trivial
theorem Mm {z:Int}:Uw Tryz.prog 132 [.agg (ri z)] [.one (.bool (decide (z=0)))] :=
 w tt Tryz.func132 rfl [] rfl (by have h:=Qde (x:=z.natAbs); simp only [H7]; congr 3; rw [decide_eq_decide]; omega) trivial
theorem A7 {z:Int}:Uw Tryz.prog 131 [.agg (ri z)] [.agg (ri (-z))]:=by
 have h:=Lx (!decide (z<0)) z.natAbs;have e:U4 (!decide (z<0)) z.natAbs=-z:=by unfold U4; by_cases h:z<0 <;> simp [h] <;> omega
 rw [e] at h;exact w tt Tryz.func131 rfl [.c [] h] rfl rfl trivial
theorem Q5d {z:Int} (hz:U9 z<=100000000):Uw Tryz.prog 54 [.agg (ri z)] [.agg (Hg z)] :=
 w tt Tryz.func54 rfl [.c [] (Zkn hz)] rfl rfl trivial
theorem eBo {a b:Bool} (h:a=b):TV.one (LV.bool a)=.one (.bool b):=h ▸ rfl
theorem L8 (l:List Nat) (x:Nat):M3 (l++[x])=M3 l++[[.int .i64 (x:Int)]]:=by simp [M3]
theorem Qr4 {x y:Nat} {o:List Nat} (h:Fp x=o++Fp y) (h0:y≠0):Fp x=(o++[y % 10000])++Fp (y / 10000):=by
 rw [h,If h0]; simp
theorem Zhh {b:Bool} {x:Nat} (hx:x<=4000000000000000000) (hb:b=true->0<x):Uw Tryz.prog 57 [.one (.int .i64 (U4 b x))] [.agg (ri (U4 b x))]:=by
 have hl:(Fp x).length<=100:=by
  have:=Px x;have h2:sz x<=64:=M9.2 (by omega);omega
 have hm:=Lx b x;refine Hn Tryz.func57 rfl ?_;cases b with
 |
  false =>
  show AK Tryz.prog _ _ _ (Qbx 0 [.one (.int .i64 (x:Int))]) [];refine go tt [.f (by simp <;> omega),.r 3 (eBo (b:=false) (by simp)),.f rfl,.o 4 3 1] rfl trivial ?_;refine lp (S:=Nat×List Nat) 2 (λL1 s=>(0,.v (.one (.int .i64 (s.1:Int))))::(4,.v (.one (.orow 1 1 none)))::L1) (λs=>[.blk 33 [.nils,.bool false],.row false 3 1 (M3 s.2)]) (λs=>s.1) (λs=>Fp x=s.2++Fp s.1/\s.1<=x) (x,[]) ⟨rfl,Qi _⟩ rfl (λ_ _=>rfl) rfl λ⟨y,o⟩ ⟨j1,j2⟩=>?_
  dsimp only at j1 j2 ⊢;by_cases h0:y=0
  ·subst h0;rw [G0,Zy] at j1;rw [<-j1];exact en tt [.f (by simp),.c [] hm] rfl rfl trivial
  ·have hs:=Qr4 j1 h0;have ol:o.length<=(Fp x).length:=by rw [j1]; simp
   refine go tt [.t (by simp; omega),.r 18 (eI (b:=((y % 10000:Nat):Int)) (by rfl)),.s (sz:=1) (l:=[[.int .i64 ((y % 10000:Nat):Int)]]) (λc hc=>by rw [Qj.1 hc]; rfl),.r 22 (eI (b:=((y / 10000:Nat):Int)) (by rfl))] rfl (by simp [Uu,H7]; omega) ?_;exact rd (y / 10000,o++[y % 10000]) (by dsimp only; omega) ⟨hs,by dsimp only; omega⟩ (by rw [L8]; rfl)
 |
  true =>
  show AK Tryz.prog _ _ _ (Qbx 0 [.one (.int .i64 (-(x:Int)))]) [];refine go tt [.f (by simp <;> omega),.r 3 (eBo (b:=true) (by simpa using hb rfl)),.t rfl,.r 0 (eI (b:=(x:Int)) (by omega)),.o 4 3 1] rfl (by simp [Uu]; omega) ?_;refine lp (S:=Nat×List Nat) 2 (λL1 s=>(0,.v (.one (.int .i64 (s.1:Int))))::(4,.v (.one (.orow 1 1 none)))::L1) (λs=>[.blk 33 [.nils,.bool false],.row false 3 1 (M3 s.2)]) (λs=>s.1) (λs=>Fp x=s.2++Fp s.1/\s.1<=x) (x,[]) ⟨rfl,Qi _⟩ rfl (λ_ _=>rfl) rfl λ⟨y,o⟩ ⟨j1,j2⟩=>?_
  dsimp only at j1 j2 ⊢;by_cases h0:y=0
  ·subst h0;rw [G0,Zy] at j1;rw [<-j1];exact en tt [.f (by simp),.c [] hm] rfl rfl trivial
  ·have hs:=Qr4 j1 h0;have ol:o.length<=(Fp x).length:=by rw [j1]; simp
   refine go tt [.t (by simp; omega),.r 18 (eI (b:=((y % 10000:Nat):Int)) (by rfl)),.s (sz:=1) (l:=[[.int .i64 ((y % 10000:Nat):Int)]]) (λc hc=>by rw [Qj.1 hc]; rfl),.r 22 (eI (b:=((y / 10000:Nat):Int)) (by rfl))] rfl (by simp [Uu,H7]; omega) ?_;exact rd (y / 10000,o++[y % 10000]) (by dsimp only; omega) ⟨hs,by dsimp only; omega⟩ (by rw [L8]; rfl)
theorem C5 {n:Int} (hn:-4000000000000000000<=n/\n<=4000000000000000000):Uw Tryz.prog 57 [.one (.int .i64 n)] [.agg (ri n)]:=by
 have e:U4 (decide (n<0)) n.natAbs=n:=by unfold U4; by_cases h:n<0 <;> simp [h] <;> omega
 have h:=Zhh (b:=decide (n<0)) (x:=n.natAbs) (by omega) (λh=>by have:=of_decide_eq_true h; omega);rwa [e] at h
theorem Qca (x:Nat):(M3 (Fp x)).length=(Fp x).length:=H7 _
theorem Q3c (z:Int):∀ c∈[[LV.int .i64 z]],c.length=1:=λc hc=>by rw [Qj.1 hc]; rfl
theorem Zkw {x:Nat} (h:x<=1000000000):(Fp x).length<=3:=Q2h (by omega)
theorem tdn (n:Nat):((n:Nat):Int).tdiv 10000=((n / 10000:Nat):Int):=rfl
theorem Qcu (n:Nat):((n:Nat):Int).tdiv 2=((n / 2:Nat):Int):=rfl
theorem Qc8 {x mu c0:Nat} (hx:sz x<=100000000) (hmu:mu<=65536) (hc:c0<=1000000000):Uw Tryz.prog 192 [.one (nd x),.one (.int .i64 (mu:Int)),.one (.int .i64 (c0:Int))] [.one (nd (x*mu+c0))]:=by
 have hxl:=Qd (Px x) hx;have hll:=Qca x;show Uw Tryz.prog 192 [.one (.row (M3 (Fp x))),.one (.int .i64 (mu:Int)),.one (.int .i64 (c0:Int))] _;refine Hn Tryz.func192 rfl ?_;refine go tt [.r 11 (eI (b:=(((Fp x).length+2:Nat):Int)) (by rw [hll]; omega)),.i 0,.i ((Fp x).length+2)] rfl (by simp [Uu]; omega) ?_;refine lp (S:=Nat×Nat×List Nat) 1 (λL1 s=>(8,.v (.one (.int .i64 (s.1:Int))))::(7,.v (.one (.orow 0 1 none)))::(2,.v (.one (.int .i64 (s.2.1:Int))))::L1.filter (λx=>x.1 != 12)) (λs=>[.row false 3 1 (M3 s.2.2)]) (λs=>((Fp x).length-s.1)*4+(Fp s.2.1).length) (λs=>Dg s.2.2/\s.2.2.length=s.1/\Rl s.2.2+s.2.1*10000^s.1=Rl ((Fp x).take s.1)*mu+c0/\(s.1<=(Fp x).length\/s.1+(Fp s.2.1).length<=(Fp x).length+3)/\s.2.1<=1000000000) (0,c0,[]) ⟨Dg.nil,rfl,by simp [Rl],.inl (Qg _),hc⟩ rfl (λ_ _=>rfl) rfl λs hs=>?_
 obtain ⟨i,c,o⟩:=s;obtain ⟨hp0,hp1,hp2,hp3,hp4⟩:=hs;dsimp only at hp0 hp1 hp2 hp3 hp4 ⊢;have hcl:=Zkw (x:=c) hp4;by_cases h1:i<(Fp x).length
 ·obtain ⟨d,hd⟩:=gxE (l:=(Fp x)) (i:=i) h1;have hd9:=Nj x d (Qa hd);have hdm:d*mu<=9999*65536:=Zr (by omega) hmu;have hc3:=Zkw (x:=(c+d*mu) / 10000) (by omega);have hol:(M3 o).length=i:=by rw [H7,hp1]
  refine go tt [.g 17 true (decide_eq_true (by omega)),.t rfl,.t (decide_eq_true (by omega)),.x (Gi hd),.r 33 (eI (b:=((d*mu:Nat):Int)) (by simp)),.r 34 (eI (b:=((c+d*mu:Nat):Int)) (by omega)),.r 37 (eI (b:=(((c+d*mu) % 10000:Nat):Int)) (by rfl)),.s (sz:=1) (Q3c _),.r 41 (eI (b:=(((c+d*mu) / 10000:Nat):Int)) (by rfl))] rfl (by simp [Uu,hol,tdn,Qcu,-Int.natCast_add,-Int.natCast_mul]; omega) ?_;exact rd (i+1,(c+d*mu) / 10000,o++[(c+d*mu) % 10000]) (by dsimp only; omega) ⟨hp0.snoc (Nat.mod_lt _ (by decide)),by dsimp only; rw [List.length_append]; show o.length+1=_; omega,by
   dsimp only;rw [Si,Ry hd,hp1,Nat.pow_succ]; simp only [Rl,Nat.mul_zero,Nat.add_zero]; have:=Ql2 (d:=d) (m:=mu) rfl hp2; rw [this]; grind,.inl (by dsimp only; omega),by dsimp only; omega⟩ (by rw [L8]; rfl)
 ·by_cases h2:0<c
  ·have hdc:=Lz (x:=c) (by omega);have hol:(M3 o).length=i:=by rw [H7,hp1]
   refine go tt [.g 17 false (decide_eq_false (by omega)),.t (decide_eq_true (by omega)),.f (decide_eq_false (by omega)),.r 37 (eI (b:=((c % 10000:Nat):Int)) (by rfl)),.s (sz:=1) (Q3c _),.r 41 (eI (b:=((c / 10000:Nat):Int)) (by rfl))] rfl (by simp [Uu,hol,tdn,Qcu,-Int.natCast_add]; omega) ?_;exact rd (i+1,c / 10000,o++[c % 10000]) (by dsimp only; omega) ⟨hp0.snoc (Nat.mod_lt _ (by decide)),by dsimp only; rw [List.length_append]; show o.length+1=_; omega,by
    dsimp only;rw [Si,hp1,Nat.pow_succ]; simp only [Rl,Nat.mul_zero,Nat.add_zero]; have:=Ql2 (d:=0) (m:=mu) rfl hp2; simp only [Nat.zero_mul,Nat.mul_zero,Nat.add_zero] at this; rw [this,List.take_of_length_le (by omega),List.take_of_length_le (by omega)],.inr (by dsimp only; omega),by dsimp only; omega⟩ (by rw [L8]; rfl)
  ·have cc:=Qe7 hp0;rw [show Rl o=x*mu+c0 from by
    have h:=hp2; rw [Qn (by omega),Ht,show c=0 by omega] at h; omega] at cc
   exact en tt [.g 17 false (decide_eq_false (by omega)),.f (decide_eq_false (by omega)),.c [] cc] rfl rfl trivial
theorem Q32 {l:List Nat} {j d:Nat} (h:l[j]? = some d):val (l.drop j)=d+4294967296*val (l.drop (j+1)):=by
 have hi:=(Qc.1 h).1;rw [Zl hi,(Qc.1 h).2]; rfl
theorem Qhb:∀ (l:List Nat) (j:Nat),val (l.drop j)<=val l
 | l,0=>Qi _
 | [],j+1=>by simp
 |
  x::l,j+1=>by
  have:=Qhb l j;rw [Kf]; simp only [val]; omega
theorem Zbr {l:List Nat} (hu:∀ u∈l,u<4294967296) (hl:l.length≤1099511627776) (hx:sz (val l)≤100000000):Uw Tryz.prog 117 [lr l] [.one (nd (val l))]:=by
 have hll:=Ux l;show Uw Tryz.prog 117 [.one (.row (lm l))] _;refine Hn Tryz.func117 rfl ?_;refine go tt [.z 3,.r 7 (eI (b:=((l.length:Nat):Int)-1) (by rw [hll]))] rfl (by simp [Uu]; omega) ?_;refine lp (S:=Nat×List Nat) 0 (λL1 s=>(4,.v (.one (.int .i64 ((s.1:Int)-1))))::(3,.v (.one (.row (M3 s.2))))::L1) (λ_=>[]) (λs=>s.1) (λs=>s.1<=l.length/\s.2=Fp (val (l.drop s.1))) (l.length,[]) ⟨Nat.le_refl _,by dsimp only; rw [List.drop_eq_nil_of_le (Nat.le_refl _)]; show []=Fp 0; rw [G0]⟩ rfl (λ_ _=>rfl) rfl λs hs=>?_
 obtain ⟨j,o⟩:=s;obtain ⟨hj,ho⟩:=hs;dsimp only at hj ho ⊢;subst ho;cases j with
 | zero=>exact en tt [.f (by simp)] rfl (by rw [Xm]; rfl) trivial
 |
  succ j =>
  obtain ⟨d,hd⟩:=gxE (l:=l) (i:=j) (by omega);have hd9:=hu d (Qa hd);have hdd:=Q32 hd;have hle:=Qhb l j;have hs2:sz (val (l.drop (j+1))*65536+d / 65536)<=100000000:=Qd (Re (by omega)) hx;have hs1:sz (val (l.drop (j+1)))<=100000000:=Qd (Re (by omega)) hx;have c1:=Qc8 (x:=val (l.drop (j+1))) (mu:=65536) (c0:=d / 65536) hs1 (by omega) (by omega);have c2:=Qc8 (x:=val (l.drop (j+1))*65536+d / 65536) (mu:=65536) (c0:=d % 65536) hs2 (by omega) (by omega);have ej:((j+1:Nat):Int)-1=(j:Int):=by omega
  have e2:(val (l.drop (j+1))*65536+d / 65536)*65536+d % 65536=val (l.drop j):=by rw [hdd]; omega
  rw [e2] at c2;rw [ej];refine go tt [.t (decide_eq_true (by omega)),.x (Gk hd),.r 17 (Df (b:=((d / 65536:Nat):Int)) (by rfl)),.c [] c1,.x (Gk hd),.r 25 (Df (b:=((d % 65536:Nat):Int)) (by rfl)),.c [] c2] rfl (by simp [Uu,IntKind.bits]; omega) ?_;exact rd (j,Fp (val (l.drop j))) (by dsimp only; omega) ⟨by dsimp only; omega,rfl⟩ rfl
theorem Qu6 {x y:Nat} (hx:sz x<=200000000) (hy:sz y<=200000000):Uw Tryz.prog 221 [.one (nd x),.one (nd y)] [.one (.int .i64 (I7 x y))]:=by
 have hxl:=Qd (Px x) hx;have hyl:=Qd (Px y) hy;have lx:=Qca x;have ly:=Qca y;show Uw Tryz.prog 221 [.one (.row (M3 (Fp x))),.one (.row (M3 (Fp y)))] _;refine Hn Tryz.func221 rfl ?_;by_cases hl:(Fp x).length=(Fp y).length
 ·refine go tt [.f (by simp; omega),.r 18 (eI (b:=((Fp x).length:Int)-1) (by rw [lx]))] rfl (by simp [Uu]; omega) ?_;refine lp (S:=Nat) 0 (λL1 j=>(5,.v (.one (.int .i64 ((j:Int)-1))))::L1) (λ_=>[]) (λj=>j) (λj=>j<=(Fp x).length/\(Fp x).drop j=(Fp y).drop j) (Fp x).length ⟨Qi _,by rw [Yq (Qi _),Yq (by omega)]⟩ rfl (λ_ _=>rfl) rfl λj hs=>?_
  obtain ⟨hj,hp⟩:=hs;cases j with
  |
   zero =>
   have hxy:x=y:=by rw [Xm,Xm] at hp; rw [<-Ht x,<-Ht y,hp]
   exact en tt [.f (by simp)] rfl (by rw [Qy7 hxy]) trivial
  |
   succ j =>
   obtain ⟨d,hd⟩:=gxE (l:=(Fp x)) (i:=j) (by omega);obtain ⟨e,he⟩:=gxE (l:=(Fp y)) (i:=j) (by omega);have ej:((j+1:Nat):Int)-1=(j:Int):=by omega
   rw [ej];by_cases h2:d=e
   ·refine go tt [.t (decide_eq_true (by omega)),.x (Gi hd),.x (Gi he),.f (by simp [h2])] rfl (by simp [Uu]; omega) ?_;exact rd j (by omega) ⟨by omega,by rw [Zl (by omega:j<(Fp x).length),Zl (by omega:j<(Fp y).length),hp,(Qc.1 hd).2,(Qc.1 he).2,h2]⟩ rfl
   ·by_cases h3:d<e
    ·have hxy:=Qi8 (Nj x) hd he hp h3;rw [Ht,Ht] at hxy;exact en tt [.t (decide_eq_true (by omega)),.x (Gi hd),.x (Gi he),.t (by simp; omega),.x (Gi hd),.x (Gi he),.t (decide_eq_true (by omega))] rfl (by rw [Qhu hxy]) trivial
    ·have hxy:=Qi8 (Nj y) he hd hp.symm (by omega);rw [Ht,Ht] at hxy;exact en tt [.t (decide_eq_true (by omega)),.x (Gi hd),.x (Gi he),.t (by simp; omega),.x (Gi hd),.x (Gi he),.f (decide_eq_false (by omega))] rfl (by rw [Qht hxy]) trivial
 ·by_cases hlt:(Fp x).length<(Fp y).length
  ·exact en tt [.t (by simp; omega),.t (decide_eq_true (by omega))] rfl (by rw [Qhu (Qr3 hlt)]) trivial
  ·exact en tt [.t (by simp; omega),.f (decide_eq_false (by omega))] rfl (by rw [Qht (Qr3 (by omega))]) trivial
theorem Qa1 {o c s P V:Nat} (h:o+c*P=V):o+P*((c+s) % 10000)+(c+s) / 10000*(P*10000)=V+P*s:=by
 have e:=Xk (c+s) 10000;generalize (c+s) / 10000=q at *;generalize (c+s) % 10000=r at *;have e2:P*(c+s)=P*(10000*q+r):=by rw [e]
 grind
theorem E5 {l:List Nat} {i:Nat} (h:l.length<=i):Rl (l.take (i+1))=Rl (l.take i):=by rw [Qn (by omega),Qn h]
theorem Qzk {l:List Nat} {p v u:Nat} (h:l[p]? = some v):Rl (l.set p u)+10000^p*v=Rl l+10000^p*u:=by
 have hp:=(Qc.1 h).1;rw [Qhw (l.set p u) p (by rw [Jt]; omega),Qhw l p (by omega),Oo h,Qfb hp,List.take_set_of_le (Qi _)];simp only [Rl];generalize 10000^p=P;grind
theorem L9 {l:List Nat} {p u:Nat} (h:p<l.length):Rl ((l.set p u).take (p+1))=Rl (l.take p)+10000^p*u:=by
 rw [Ry (l:=l.set p u) (i:=p) (x:=u) (by simp [h]),List.take_set_of_le (Qi _)]
structure AddI (x y:Nat) (s:Nat×Nat×List Nat):Prop where
 d:Dg s.2.2
 l:s.2.2.length=s.1
 v:Rl s.2.2+s.2.1*10000^s.1=Rl ((Fp x).take s.1)+Rl ((Fp y).take s.1)
 c:s.2.1<=1
 b:s.1<=max (Fp x).length (Fp y).length\/s.1=max (Fp x).length (Fp y).length+1/\10000^(max (Fp x).length (Fp y).length)<=x+y/\s.2.1=0
theorem Zg2 {x y:Nat} (hx:sz x<=200000000) (hy:sz y<=200000000):Uw Tryz.prog 220 [.one (nd x),.one (nd y)] [.one (nd (x+y))]:=by
 have hxl:=Qd (Px x) hx;have hyl:=Qd (Px y) hy;have lx:=Qca x;have ly:=Qca y;show Uw Tryz.prog 220 [.one (.row (M3 (Fp x))),.one (.row (M3 (Fp y)))] _;refine Hn Tryz.func220 rfl ?_;refine go tt [.o 5 3 1] rfl trivial ?_;refine lp (S:=Nat×Nat×List Nat) 1 (λL1 s=>(7,.v (.one (.int .i64 (s.1:Int))))::(6,.v (.one (.int .i64 (s.2.1:Int))))::(5,.v (.one (.orow 0 1 none)))::L1) (λs=>[.row false 3 1 (M3 s.2.2)]) (λs=>(max (Fp x).length (Fp y).length-s.1)*2+s.2.1) (AddI x y) (0,0,[]) ⟨Dg.nil,rfl,by simp [Rl],by decide,.inl (Qg _)⟩ rfl (λ_ _=>rfl) rfl λs hs=>?_
 obtain ⟨i,c,o⟩:=s;obtain ⟨hp0,hp1,hp2,hp3,hp4⟩:=hs;dsimp only at hp0 hp1 hp2 hp3 hp4 ⊢;have hol:(M3 o).length=i:=by rw [H7,hp1]
 by_cases h1:i<(Fp x).length
 ·obtain ⟨d,hd⟩:=gxE (l:=(Fp x)) (i:=i) h1;have hd9:=Nj x d (Qa hd);by_cases h2:i<(Fp y).length
  ·obtain ⟨e,he⟩:=gxE (l:=(Fp y)) (i:=i) h2;have he9:=Nj y e (Qa he);refine go tt [.g 12 true (decide_eq_true (by omega)),.g 18 true rfl,.t rfl,.t (decide_eq_true (by omega)),.x (Gi hd),.r 33 (eI (b:=((c+d:Nat):Int)) (by omega)),.t (decide_eq_true (by omega)),.x (Gi he),.r 43 (eI (b:=((c+(d+e):Nat):Int)) (by omega)),.r 46 (eI (b:=(((c+(d+e)) % 10000:Nat):Int)) (by rfl)),.s (sz:=1) (Q3c _),.r 50 (eI (b:=(((c+(d+e)) / 10000:Nat):Int)) (by rfl))] rfl (by simp [Uu,hol,tdn,Qcu,-Int.natCast_add]; omega) ?_;exact rd (i+1,(c+(d+e)) / 10000,o++[(c+(d+e)) % 10000]) (by dsimp only; omega) ⟨hp0.snoc (Nat.mod_lt _ (by decide)),by dsimp only; rw [List.length_append]; show o.length+1=_; omega,by
    dsimp only;rw [Si,hp1,Nat.pow_succ]; simp only [Rl,Nat.mul_zero,Nat.add_zero]; have:=Qa1 (s:=d+e) hp2; rw [this,Ry hd,Ry he]; grind,by dsimp only; omega,.inl (by dsimp only; omega)⟩ (by rw [L8]; rfl)
  ·refine go tt [.g 12 true (decide_eq_true (by omega)),.g 18 true rfl,.t rfl,.t (decide_eq_true (by omega)),.x (Gi hd),.r 33 (eI (b:=((c+d:Nat):Int)) (by omega)),.f (decide_eq_false (by omega)),.r 46 (eI (b:=(((c+d) % 10000:Nat):Int)) (by rfl)),.s (sz:=1) (Q3c _),.r 50 (eI (b:=(((c+d) / 10000:Nat):Int)) (by rfl))] rfl (by simp [Uu,hol,tdn,Qcu,-Int.natCast_add]; omega) ?_;exact rd (i+1,(c+d) / 10000,o++[(c+d) % 10000]) (by dsimp only; omega) ⟨hp0.snoc (Nat.mod_lt _ (by decide)),by dsimp only; rw [List.length_append]; show o.length+1=_; omega,by
    dsimp only;rw [Si,hp1,Nat.pow_succ]; simp only [Rl,Nat.mul_zero,Nat.add_zero]; have:=Qa1 (s:=d) hp2; rw [this,Ry hd,E5 (l:=Fp y) (by omega)]; grind,by dsimp only; omega,.inl (by dsimp only; omega)⟩ (by rw [L8]; rfl)
 ·by_cases h2:i<(Fp y).length
  ·obtain ⟨e,he⟩:=gxE (l:=(Fp y)) (i:=i) h2;have he9:=Nj y e (Qa he);refine go tt [.g 12 false (decide_eq_false (by omega)),.g 18 true (decide_eq_true (by omega)),.t rfl,.f (decide_eq_false (by omega)),.t (decide_eq_true (by omega)),.x (Gi he),.r 43 (eI (b:=((c+e:Nat):Int)) (by omega)),.r 46 (eI (b:=(((c+e) % 10000:Nat):Int)) (by rfl)),.s (sz:=1) (Q3c _),.r 50 (eI (b:=(((c+e) / 10000:Nat):Int)) (by rfl))] rfl (by simp [Uu,hol,tdn,Qcu,-Int.natCast_add]; omega) ?_;exact rd (i+1,(c+e) / 10000,o++[(c+e) % 10000]) (by dsimp only; omega) ⟨hp0.snoc (Nat.mod_lt _ (by decide)),by dsimp only; rw [List.length_append]; show o.length+1=_; omega,by
    dsimp only;rw [Si,hp1,Nat.pow_succ]; simp only [Rl,Nat.mul_zero,Nat.add_zero]; have:=Qa1 (s:=e) hp2; rw [this,Ry he,E5 (l:=Fp x) (by omega)]; grind,by dsimp only; omega,.inl (by dsimp only; omega)⟩ (by rw [L8]; rfl)
  ·by_cases h3:0<c
   ·refine go tt [.g 12 false (decide_eq_false (by omega)),.g 18 false (decide_eq_false (by omega)),.t (decide_eq_true (by omega)),.f (decide_eq_false (by omega)),.f (decide_eq_false (by omega)),.r 46 (eI (b:=((c % 10000:Nat):Int)) (by rfl)),.s (sz:=1) (Q3c _),.r 50 (eI (b:=((c / 10000:Nat):Int)) (by rfl))] rfl (by simp [Uu,hol,tdn,Qcu,-Int.natCast_add]; omega) ?_;exact rd (i+1,c / 10000,o++[c % 10000]) (by dsimp only; omega) ⟨hp0.snoc (Nat.mod_lt _ (by decide)),by dsimp only; rw [List.length_append]; show o.length+1=_; omega,by
     dsimp only;rw [Si,hp1,Nat.pow_succ]; simp only [Rl,Nat.mul_zero,Nat.add_zero]; have:=Qa1 (s:=0) hp2; rw [Nat.add_zero,Nat.mul_zero,Nat.add_zero] at this; rw [this,E5 (l:=Fp y) (by omega),E5 (l:=Fp x) (by omega)],by dsimp only; omega,.inr ⟨by dsimp only; omega,by
      have h:=hp2; rw [List.take_of_length_le (by omega),List.take_of_length_le (by omega),Ht,Ht,show c=1 by omega,Nat.one_mul,show i=(max (Fp x).length (Fp y).length) by omega] at h; omega,by dsimp only; omega⟩⟩ (by rw [L8]; rfl)
   ·have hv:Rl o=x+y:=by
     have h:=hp2;rw [Qn (by omega),Qn (by omega),Ht,Ht,show c=0 by omega] at h;omega
    have hfin:o=Fp (x+y):=by
     have h:=Q6g (o:=o) hp0;rw [hv] at h;refine h ?_;have m1:=Ol (x:=x) (y:=x+y) (by omega);have m2:=Ol (x:=y) (y:=x+y) (by omega);rcases hp4 with hb | ⟨_,hb,_⟩
     ·omega
     ·have:=Q2g hb; omega
    exact en tt [.g 12 false (decide_eq_false (by omega)),.g 18 false (decide_eq_false (by omega)),.f (decide_eq_false (by omega))] rfl (by rw [hfin]; rfl) trivial
theorem Qa2 {o b a c P u d e c':Nat} (h:o+b=a+c*P) (hs:u+e+c=d+10000*c'):(o+P*u)+(b+P*e)=(a+P*d)+c'*(P*10000):=by
 have e2:P*(u+e+c)=P*(d+10000*c'):=by rw [hs]
 grind
theorem Ih (o:List Nat) (i u:Nat):M3 (o.set i u)=(M3 o).set i [.int .i64 (u:Int)]:=by simp [M3,V1]
theorem Qvc {x y:Nat} (hx:sz x<=200000000) (hy:sz y<=200000000) (hyx:y<=x):Uw Tryz.prog 222 [.one (nd x),.one (nd y)] [.one (nd (x-y))]:=by
 have hxl:=Qd (Px x) hx;have hyl:=Qd (Px y) hy;have lx:=Qca x;have ly:=Qca y;have hmy:=Ol hyx;show Uw Tryz.prog 222 [.one (.row (M3 (Fp x))),.one (.row (M3 (Fp y)))] _;refine Hn Tryz.func222 rfl ?_;refine go tt [.i (M3 (Fp x)).length,.i (M3 (Fp x)).length] rfl (by simp [Uu]; omega) ?_;rw [lx,show List.replicate (Fp x).length [LV.int .i64 0]=M3 (List.replicate (Fp x).length 0) from by simp [M3]];refine lp (S:=Nat×Nat×List Nat) 1 (λL1 s=>(14,.v (.one (.int .i64 (s.1:Int))))::(6,.v (.one (.int .i64 (s.2.1:Int))))::L1) (λs=>[.row false 3 1 (M3 s.2.2)]) (λs=>(Fp x).length-s.1) (λs=>s.1<=(Fp x).length/\s.2.2.length=(Fp x).length/\Dg s.2.2/\Rl (s.2.2.take s.1)+Rl ((Fp y).take s.1)=Rl ((Fp x).take s.1)+s.2.1*10000^s.1/\s.2.1<=1) (0,0,List.replicate (Fp x).length 0) ⟨Qg _,Ja ..,Dg.zeros _,by simp [Rl],Qg _⟩ rfl (λ_ _=>rfl) rfl λs hs=>?_
 obtain ⟨i,c,o⟩:=s;obtain ⟨hp0,hp1,hp2,hp3,hp4⟩:=hs;dsimp only at hp0 hp1 hp2 hp3 hp4 ⊢;have hol:(M3 o).length=(Fp x).length:=by rw [H7,hp1]
 by_cases h1:i<(Fp x).length
 ·obtain ⟨d,hd⟩:=gxE (l:=(Fp x)) (i:=i) h1;have hd9:=Nj x d (Qa hd);by_cases h2:i<(Fp y).length
  ·obtain ⟨e,he⟩:=gxE (l:=(Fp y)) (i:=i) h2;have he9:=Nj y e (Qa he);by_cases h3:d<c+e
   ·refine go tt [.t (decide_eq_true (by omega)),.x (Gi hd),.t (decide_eq_true (by omega)),.x (Gi he),.t (decide_eq_true (by omega)),.r 36 (eI (b:=((d+10000-c-e:Nat):Int)) (by omega)),.i i] rfl (by simp [Uu,hol,tdn,Qcu,-Int.natCast_add]; omega) ?_;exact rd (i+1,1,o.set i (d+10000-c-e)) (by dsimp only; omega) ⟨by dsimp only; omega,by dsimp only; rw [List.length_set]; exact hp1,hp2.set (by omega),by
     dsimp only;rw [L9 (by omega),Ry hd,Ry he,Nat.pow_succ]; exact Qa2 hp3 (u:=d+10000-c-e) (d:=d) (e:=e) (c':=1) (by omega),by dsimp only; omega⟩ (by rw [Ih]; rfl)
   ·refine go tt [.t (decide_eq_true (by omega)),.x (Gi hd),.t (decide_eq_true (by omega)),.x (Gi he),.r 32 (eI (b:=((d-c-e:Nat):Int)) (by omega)),.f (decide_eq_false (by omega)),.i i] rfl (by simp [Uu,hol,tdn,Qcu,-Int.natCast_add]; omega) ?_;exact rd (i+1,0,o.set i (d-c-e)) (by dsimp only; omega) ⟨by dsimp only; omega,by dsimp only; rw [List.length_set]; exact hp1,hp2.set (by omega),by
     dsimp only;rw [L9 (by omega),Ry hd,Ry he,Nat.pow_succ]; exact Qa2 hp3 (u:=d-c-e) (d:=d) (e:=e) (c':=0) (by omega),by dsimp only; omega⟩ (by rw [Ih]; rfl)
  ·have hy0:Rl ((Fp y).take (i+1))=Rl ((Fp y).take i)+10000^i*0:=by rw [E5 (by omega),Yu,Xx]
   by_cases h3:d<c
   ·refine go tt [.t (decide_eq_true (by omega)),.x (Gi hd),.f (decide_eq_false (by omega)),.t (decide_eq_true (by omega)),.r 36 (eI (b:=((d+10000-c:Nat):Int)) (by omega)),.i i] rfl (by simp [Uu,hol,tdn,Qcu,-Int.natCast_add]; omega) ?_;exact rd (i+1,1,o.set i (d+10000-c)) (by dsimp only; omega) ⟨by dsimp only; omega,by dsimp only; rw [List.length_set]; exact hp1,hp2.set (by omega),by
     dsimp only;rw [L9 (by omega),Ry hd,hy0,Nat.pow_succ]; exact Qa2 hp3 (u:=d+10000-c) (d:=d) (e:=0) (c':=1) (by omega),by dsimp only; omega⟩ (by rw [Ih]; rfl)
   ·refine go tt [.t (decide_eq_true (by omega)),.x (Gi hd),.r 22 (eI (b:=((d-c:Nat):Int)) (by omega)),.f (decide_eq_false (by omega)),.f (decide_eq_false (by omega)),.i i] rfl (by simp [Uu,hol,tdn,Qcu,-Int.natCast_add]; omega) ?_;exact rd (i+1,0,o.set i (d-c)) (by dsimp only; omega) ⟨by dsimp only; omega,by dsimp only; rw [List.length_set]; exact hp1,hp2.set (by omega),by
     dsimp only;rw [L9 (by omega),Ry hd,hy0,Nat.pow_succ]; exact Qa2 hp3 (u:=d-c) (d:=d) (e:=0) (c':=0) (by omega),by dsimp only; omega⟩ (by rw [Ih]; rfl)
 ·have hi:i=(Fp x).length:=by omega
  have hv:Rl o=x-y:=by
   have h:=hp3;rw [Qn (by omega),Qn (by omega),Qn (by omega),Ht,Ht] at h;have hlt:=Qje hp2;rw [hp1,<-hi] at hlt;have hc0:c=0:=by
    rcases Qy c with h0 | h0
    ·exact h0
    ·exfalso;have:c=1:=by omega
     rw [this,Wx] at h; omega
   rw [hc0] at h; omega
  have cc:=Qe7 hp2;rw [hv] at cc;exact en tt [.f (decide_eq_false (by omega)),.c [] cc] rfl rfl trivial
theorem Qjb {o o2 c P u v s V:Nat} (h:o+c*P=V) (hs:o2+P*v=o+P*u) {q:Nat} (hu:u+10000*q=v+c+s):o2+q*(P*10000)=V+P*s:=by
 have e2:P*(u+10000*q)=P*(v+c+s):=by rw [hu]
 grind
theorem Zkx (S:Nat):S % 10000+10000*(S / 10000)=S:=Uo S 10000
structure MulI (x y i d:Nat) (s:Nat×Nat×List Nat):Prop where
 l:s.2.2.length=(Fp x).length+(Fp y).length
 dg:Dg s.2.2
 v:Rl s.2.2+s.2.1*10000^(i+s.1)=Rl ((Fp x).take i)*y+10000^i*d*Rl ((Fp y).take s.1)
 c:s.2.1<10000
 b:s.1<=(Fp y).length/\(∀ j v,i+(Fp y).length<=j->s.2.2[j]? = some v->v=0)\/s.1=(Fp y).length+1/\s.2.1=0/\∀ j v,i+(Fp y).length+1<=j->s.2.2[j]? = some v->v=0
theorem Zg6 {x y:Nat} (hx:sz x<=200000000) (hy:sz y<=200000000):Uw Tryz.prog 116 [.one (nd x),.one (nd y)] [.one (nd (x*y))]:=by
 have hxl:=Qd (Px x) hx;have hyl:=Qd (Px y) hy;have lx:=Qca x;have ly:=Qca y;show Uw Tryz.prog 116 [.one (.row (M3 (Fp x))),.one (.row (M3 (Fp y)))] _;refine Hn Tryz.func116 rfl ?_;refine go tt [.r 14 (eI (b:=(((Fp x).length+(Fp y).length:Nat):Int)) (by rw [lx,ly]; omega)),.i ((Fp x).length+(Fp y).length),.i ((Fp x).length+(Fp y).length)] rfl (by simp [Uu]; omega) ?_;rw [show List.replicate ((Fp x).length+(Fp y).length) [LV.int .i64 0]=M3 (List.replicate ((Fp x).length+(Fp y).length) 0) from by simp [M3]];refine lp (S:=Nat×List Nat) 1 (λL1 s=>(18,.v (.one (.int .i64 (s.1:Int))))::L1) (λs=>[.row false 3 1 (M3 s.2)]) (λs=>(Fp x).length-s.1) (λs=>s.1<=(Fp x).length/\s.2.length=(Fp x).length+(Fp y).length/\Dg s.2/\Rl s.2=Rl ((Fp x).take s.1)*y/\∀ j v,s.1+(Fp y).length<=j->s.2[j]? = some v->v=0) (0,List.replicate ((Fp x).length+(Fp y).length) 0) ⟨Qg _,Ja ..,Dg.zeros _,by rw [Qjf (λx hx=>Zv hx)]; simp [Rl],λj v _ hv=>Zv (Qa hv)⟩ rfl (λ_ _=>rfl) rfl λs hs=>?_
 obtain ⟨i,o⟩:=s;obtain ⟨hp0,hp1,hp2,hp3,hp4⟩:=hs;dsimp only at hp0 hp1 hp2 hp3 hp4 ⊢;by_cases h1:i<(Fp x).length
 ·obtain ⟨d,hd⟩:=gxE (l:=(Fp x)) (i:=i) h1;have hd9:=Nj x d (Qa hd);refine go tt [.t (decide_eq_true (by omega))] rfl trivial ?_;refine lp (S:=Nat×Nat×List Nat) 1 (λL1 s=>(8,.v (.one (.int .i64 (s.1:Int))))::(7,.v (.one (.int .i64 (s.2.1:Int))))::L1) (λs=>[.row false 3 1 (M3 s.2.2)]) (λs=>((Fp y).length-s.1)*2+min s.2.1 1) (MulI x y i d) (0,0,o) ⟨hp1,hp2,by dsimp only; rw [hp3]; simp [Rl],by show 0<10000; decide,.inl ⟨Nat.zero_le _,hp4⟩⟩ rfl (λ_ _=>rfl) rfl λs hs=>?_
  obtain ⟨k,c,o2⟩:=s;obtain ⟨hq0,hq1,hq2,hq3,hq4⟩:=hs;dsimp only at hq0 hq1 hq2 hq3 hq4 ⊢;have hol:(M3 o2).length=(Fp x).length+(Fp y).length:=by rw [H7,hq0]
  by_cases h2:k<(Fp y).length
  ·obtain ⟨e,he⟩:=gxE (l:=(Fp y)) (i:=k) h2;have he9:=Nj y e (Qa he);have hde:d*e<=9999*9999:=Zr (by omega) (by omega);obtain ⟨v,hoi⟩:=gxE (l:=o2) (i:=i+k) (by omega);have hv9:=hq1 v (Qa hoi);refine go tt [.g 25 true (decide_eq_true (by omega)),.t rfl,.r 34 (eI (b:=((i+k:Nat):Int)) (by omega)),.i (i+k),.x (Gi hoi),.r 38 (eI (b:=((v+c:Nat):Int)) (by omega)),.t (decide_eq_true (by omega)),.x (Gi hd),.x (Gi he),.r 52 (eI (b:=((d*e:Nat):Int)) (by simp)),.r 53 (eI (b:=((v+c+d*e:Nat):Int)) (by omega)),.r 57 (eI (b:=((i+k:Nat):Int)) (by omega)),.r 59 (eI (b:=(((v+c+d*e) % 10000:Nat):Int)) (by rfl)),.i (i+k),.r 62 (eI (b:=(((v+c+d*e) / 10000:Nat):Int)) (by rfl))] rfl (by simp [Uu,hol,tdn,Qcu,-Int.natCast_add,-Int.natCast_mul]; omega) ?_;exact rd (k+1,(v+c+d*e) / 10000,o2.set (i+k) ((v+c+d*e) % 10000)) (by dsimp only; omega) ⟨by dsimp only; rw [List.length_set]; exact hq0,hq1.set (Nat.mod_lt _ (by decide)),by
    dsimp only;rw [<-Nat.add_assoc i k 1,Nat.pow_succ]; have:=Qjb hq2 (Qzk hoi (u:=((v+c)+(d*e)) % 10000)) (s:=d*e) (q:=((v+c)+(d*e)) / 10000) (by rw [Zkx]); rw [this,Ry he,Nat.pow_add]; grind,by dsimp only; omega,.inl ⟨by dsimp only; omega,λj w hj hw=>(by
     dsimp only at hw;rcases hq4 with ⟨_,h⟩ | ⟨_,_,h⟩ <;> (rw [Yh (by omega)] at hw; exact h j w (by omega) hw))⟩⟩ (by rw [Ih]; rfl)
  ·by_cases h3:0<c
   ·have hk:k=(Fp y).length:=by omega
    have hz:∀ j v,i+(Fp y).length<=j->o2[j]? = some v->v=0:=by
     rcases hq4 with ⟨_,h⟩ | ⟨_,h,_⟩
     ·exact h
     ·omega
    obtain ⟨v,hoi⟩:=gxE (l:=o2) (i:=i+k) (by omega);have hv0:v=0:=hz (i+k) v (by omega) hoi;have hv9:=hq1 v (Qa hoi);refine go tt [.g 25 false (decide_eq_false (by omega)),.t (decide_eq_true (by omega)),.r 34 (eI (b:=((i+k:Nat):Int)) (by omega)),.i (i+k),.x (Gi hoi),.r 38 (eI (b:=((v+c:Nat):Int)) (by omega)),.f (decide_eq_false (by omega)),.r 57 (eI (b:=((i+k:Nat):Int)) (by omega)),.r 59 (eI (b:=(((v+c) % 10000:Nat):Int)) (by rfl)),.i (i+k),.r 62 (eI (b:=(((v+c) / 10000:Nat):Int)) (by rfl))] rfl (by simp [Uu,hol,tdn,Qcu,-Int.natCast_add]; omega) ?_;exact rd (k+1,(v+c) / 10000,o2.set (i+k) ((v+c) % 10000)) (by dsimp only; omega) ⟨by dsimp only; rw [List.length_set]; exact hq0,hq1.set (Nat.mod_lt _ (by decide)),by
     dsimp only;rw [<-Nat.add_assoc i k 1,Nat.pow_succ]; have:=Qjb hq2 (Qzk hoi (u:=(v+c) % 10000)) (s:=0) (q:=(v+c) / 10000) (by rw [Zkx]; rfl); rw [this,Nat.mul_zero,Nat.add_zero,E5 (by omega)],by dsimp only; omega,.inr ⟨by dsimp only; omega,by dsimp only; omega,λj w hj hw=>(by
      dsimp only at hw;rw [Yh (by omega)] at hw; exact hz j w (by omega) hw)⟩⟩ (by rw [Ih]; rfl)
   ·refine go tt [.g 25 false (decide_eq_false (by omega)),.f (decide_eq_false (by omega))] rfl (by simp [Uu]; omega) ?_;exact rd (i+1,o2) (by dsimp only; omega) ⟨by dsimp only; omega,hq0,hq1,by
     dsimp only;rw [Ry hd,Jp]; have h:=hq2; rw [show c=0 by omega,Qn (l:=Fp y) (i:=k) (by omega),Ht] at h; rw [Ya,Xx] at h; exact h,by
     dsimp only;rcases hq4 with ⟨_,h⟩ | ⟨_,_,h⟩
     ·exact λj w hj hw=>h j w (by omega) hw
     ·exact λj w hj hw=>h j w (by omega) hw⟩ rfl
 ·have hv:Rl o=x*y:=by rw [hp3,Qn (by omega),Ht]
  have cc:=Qe7 hp2;rw [hv] at cc;exact en tt [.f (decide_eq_false (by omega)),.c [] cc] rfl rfl trivial
theorem Qy9 {x y:Nat}:I7 x y<=0↔x<=y:=by
 unfold I7;constructor
 ·intro h; split at h
  ·omega
  ·split at h <;> omega
 ·intro h; split
  ·omega
  ·split <;> omega
theorem Q2l {R y lo:Nat} (h1:y*lo<=R) (h2:R<y*(lo+1)):R / y=lo/\R % y=R-y*lo:=by
 have hy:0<y:=by
  rcases Qy y with h | h
  ·subst h; simp at h2
  ·exact h
 have e:R / y=lo:=Nat.div_eq_of_lt_le (by rw [Zh]; exact h1) (by rw [Zh]; exact h2);refine ⟨e,?_⟩;have:=Xk R y;rw [e] at this; omega
theorem Zah {R y:Nat} (h:R<y*10000):sz R<=sz y+14:=by
 refine M9.2 (Xn h ?_);have:=Qdw y;rw [Xl];have e:(2:Nat)^14=16384:=by decide
 rw [e]; exact Zr (by omega) (by decide)
theorem Q3w (y:Nat):sz (y*10000)<=sz y+14:=by
 refine M9.2 ?_;have:=Qdw y;rw [Xl];have e:(2:Nat)^14=16384:=by decide
 rw [e]; omega
theorem Q4s {x y:Nat} (hx:sz x<=90000000) (hy:sz y<=90000000) (hy0:0<y):Uw Tryz.prog 201 [.one (nd x),.one (nd y)] [.one (nd (x / y)),.one (nd (x % y))]:=by
 have hxl:=Qd (Px x) hx;have hyl:=Qd (Px y) hy;have lx:=Qca x;show Uw Tryz.prog 201 [.one (.row (M3 (Fp x))),.one (nd y)] _;refine Hn Tryz.func201 rfl ?_;refine go tt [.i (M3 (Fp x)).length,.i (M3 (Fp x)).length,.z 7,.r 17 (eI (b:=((Fp x).length:Int)-1) (by rw [lx]))] rfl (by simp [Uu]; omega) ?_;rw [lx,show List.replicate (Fp x).length [LV.int .i64 0]=M3 (List.replicate (Fp x).length 0) from by simp [M3]];refine lp (S:=Nat×List Nat×List Nat) 1 (λL1 s=>(8,.v (.one (.int .i64 ((s.1:Int)-1))))::(7,.v (.one (.row (M3 s.2.1))))::L1) (λs=>[.row false 3 1 (M3 s.2.2)]) (λs=>s.1) (λs=>s.1<=(Fp x).length/\s.2.2.length=(Fp x).length/\Dg s.2.2/\Rl (s.2.2.drop s.1)=Rl ((Fp x).drop s.1) / y/\s.2.1=Fp (Rl ((Fp x).drop s.1) % y)) ((Fp x).length,[],List.replicate (Fp x).length 0) ⟨Nat.le_refl _,List.length_replicate ..,Dg.zeros _,by dsimp only; rw [List.drop_eq_nil_of_le (by simp),List.drop_eq_nil_of_le (Nat.le_refl _)]; simp [Rl],by dsimp only; rw [List.drop_eq_nil_of_le (Nat.le_refl _)]; simp [Rl,G0]⟩ rfl (λ_ _=>rfl) rfl λs hs=>?_
 obtain ⟨j,R,o⟩:=s;obtain ⟨hp0,hp1,hp2,hp3,hp4⟩:=hs;dsimp only at hp0 hp1 hp2 hp3 hp4 ⊢;cases j with
 |
  zero =>
  have cc:=Qe7 hp2;rw [Xm,Xm,Ht] at hp3;rw [Xm,Ht] at hp4;rw [hp3] at cc;exact en tt [.f (by simp),.c [] cc] rfl (by rw [hp4]; rfl) trivial
 |
  succ j =>
  obtain ⟨d,hd⟩:=gxE (l:=(Fp x)) (i:=j) (by omega);have hd9:=Nj x d (Qa hd);have hdd:=Oo hd;obtain ⟨hq1,hq2,hq3⟩:=Qr7 (V:=Rl ((Fp x).drop (j+1))) (kd:=y) (d:=d) hy0;rw [<-hdd] at hq1 hq2;have hq3:=hq3 hd9;obtain ⟨rr,hrr0⟩:=nmE (Rl ((Fp x).drop (j+1)) % y);have hrr:rr<y:=by rw [hrr0]; exact Z0 _ hy0
  rw [<-hrr0] at hp4 hq1 hq2 hq3;subst hp4;have hrl:(Fp rr).length<=(Fp y).length:=Ol (by omega);have hR:rr*10000+d<y*10000:=by omega
  have hRs:=Zah hR;have hdv:Dg (d::Fp rr):=λz hz=>by
   rcases Qq.1 hz with rfl | hz
   ·exact hd9
   ·exact Nj rr z hz
  have cc:=Qe7 hdv;rw [show Rl (d::Fp rr)=rr*10000+d from by simp only [Rl]; rw [Ht]; omega] at cc;have hol:(M3 o).length=(Fp x).length:=by rw [H7,hp1]
  have hrrl:=H7 (Fp rr);have ej:((j+1:Nat):Int)-1=(j:Int):=by omega
  rw [ej];refine go tt [.t (decide_eq_true (by omega)),.x (Gi hd),.lo,.s (sz:=1) (Zhu (Fp rr)),.c [] cc] rfl (by simp [Uu,Qca]; omega) ?_;refine lp (S:=Nat×Nat) 2 (λL1 s=>(9,.v (.one (.int .i64 (s.1:Int))))::(10,.v (.one (.int .i64 (s.2:Int))))::L1) (λ_=>[.row false 3 1 (M3 o),.gone]) (λs=>s.2-s.1) (λs=>s.1<=s.2/\s.2<=9999/\y*s.1<=rr*10000+d/\rr*10000+d<y*(s.2+1)) (0,9999) ⟨by decide,by decide,by dsimp only; omega,by dsimp only; omega⟩ rfl (λ_ _=>rfl) rfl λs hs=>?_
  obtain ⟨lo,hi⟩:=s;obtain ⟨hb0,hb1,hb2,hb3⟩:=hs;dsimp only at hb0 hb1 hb2 hb3 ⊢;by_cases h2:lo<hi
  ·obtain ⟨m,hm⟩:=nmE ((lo+hi+1) / 2);have hym:y*m<=y*10000:=Zm y (by omega);have c1:=Qc8 (x:=y) (mu:=m) (c0:=0) (by omega) (by omega) (by omega);have c2:=Qu6 (x:=y*m+0) (y:=rr*10000+d) (Qd (Re (show _<=y*10000 by omega)) (Qd (Q3w y) (by omega))) (by omega);by_cases h3:y*m+0<=rr*10000+d
   ·refine go tt [.t (decide_eq_true (by omega)),.r 35 (eI (b:=((lo+hi:Nat):Int)) (by omega)),.r 36 (eI (b:=((lo+hi+1:Nat):Int)) (by omega)),.r 37 (eI (b:=(m:Int)) (by rw [hm]; rfl)),.c [] c1,.c [] c2,.t (decide_eq_true (Qy9.2 h3))] rfl (by simp [Uu,Qcu,-Int.natCast_add]; omega) ?_;exact rd (m,hi) (by dsimp only; omega) ⟨by dsimp only; omega,hb1,by dsimp only; omega,hb3⟩ rfl
   ·refine go tt [.t (decide_eq_true (by omega)),.r 35 (eI (b:=((lo+hi:Nat):Int)) (by omega)),.r 36 (eI (b:=((lo+hi+1:Nat):Int)) (by omega)),.r 37 (eI (b:=(m:Int)) (by rw [hm]; rfl)),.c [] c1,.c [] c2,.f (decide_eq_false λh=>h3 (Qy9.1 h)),.r 46 (eI (b:=((m-1:Nat):Int)) (by omega))] rfl (by simp [Uu,Qcu,-Int.natCast_add]; omega) ?_;exact rd (lo,m-1) (by dsimp only; omega) ⟨by dsimp only; omega,by dsimp only; omega,hb2,by dsimp only; rw [show m-1+1=m by omega]; omega⟩ rfl
  ·have hlh:lo=hi:=by omega
   have hfd:=Q2l hb2 (by rw [hlh]; exact hb3);have c1:=Qc8 (x:=y) (mu:=lo) (c0:=0) (by omega) (by omega) (by omega);have c2:=Qvc (x:=rr*10000+d) (y:=y*lo+0) (by omega) (Qd (Re (show _<=rr*10000+d by omega)) (by omega)) (by omega);rw [show rr*10000+d-(y*lo+0)=Rl ((Fp x).drop j) % y from by rw [hq2,hfd.2]; omega] at c2;refine go tt [.f (decide_eq_false (by omega)),.i j,.c [] c1,.c [] c2] rfl (by simp [Uu,hol,tdn,Qcu,-Int.natCast_add]; omega) ?_;exact rd (j,Fp (Rl ((Fp x).drop j) % y),o.set j lo) (by dsimp only; omega) ⟨by dsimp only; omega,by dsimp only; rw [List.length_set]; exact hp1,hp2.set (by omega),by
    dsimp only;rw [Qfb (by omega)]; simp only [Rl]; rw [hp3,hq1,hfd.1],rfl⟩ (by rw [Ih]; rfl)
end Orr
namespace Orr
def Bd (s:Nat) (p:List Int):Prop:=∀ z∈p,U9 z≤s
theorem Mf:U9 0=0:=rfl
theorem Q4m {s:Nat} {p:List Int} (h:Bd s p) {i:Nat} {z:Int} (hz:p[i]? = some z):U9 z<=s:=h z (Qa hz)
theorem Fb {s:Nat} {p:List Int} (h:Bd s p) (k:Nat):U9 (p.getD k 0)<=s:=by
 rw [Qf];cases hk:p[k]? with
 | none=>rw [K5,Mf]; exact Qg _
 | some z=>exact Q4m h hk
theorem Uv {s t:Nat} {p:List Int} (h:Bd s p) (ht:s<=t):Bd t p:=λz hz=>Qd (h z hz) ht
theorem Of {s:Nat}:Bd s []:=λz hz=>by cases hz
theorem Zgv {s:Nat} {n:Nat} {g:Nat->Int} (h:∀ k,k<n->U9 (g k)<=s):Bd s ((List.range n).map g):=λz hz=>by
 obtain ⟨k,hk,rfl⟩:=Zx.1 hz;exact h k (Kq.1 hk)
theorem Qub:∀ (l:List Int),∀ z∈trim l,z∈l
 | [],z,h=>by cases h
 |
  x::l,z,h=>by
  have ih:=Qub l;cases hl:trim l with
  |
   nil =>
   simp only [trim,hl] at h
   split at h
   ·cases h
   ·rw [Qj] at h; rw [h]; exact Qx ..
  |
   cons y k =>
   simp only [trim,hl] at h;rcases Qq.1 h with rfl | h
   ·exact Qx ..
   ·exact Qk _ (ih z (by rw [hl]; exact h))
theorem Hq (l:List Int):(trim l).length<=l.length:=by
 induction l with
 | nil=>exact Qi _
 |
  cons x l ih =>
  cases hl:trim l with
  | nil=>simp only [trim,hl]; split <;> simp
  | cons y k=>simp only [trim,hl]; rw [hl] at ih; simp at ih ⊢; exact ih
theorem Tc {s:Nat} {p:List Int} (h:Bd s p):Bd s (trim p):=λz hz=>h z (Qub p z hz)
theorem D4:∀ (l:List Int) (k:Nat),(trim l).getD k 0=l.getD k 0
 | [],k=>rfl
 |
  x::l,k=>by
  have ih:=D4 l;cases hl:trim l with
  |
   nil =>
   rw [hl] at ih;simp only [trim,hl]
   split
   ·rename_i hx;cases k with
    | zero=>simp [hx]
    | succ k=>have:=ih k; simp at this ⊢; exact this
   ·cases k with
    | zero=>simp
    | succ k=>have:=ih k; simp at this ⊢; exact this
  |
   cons y m =>
   rw [hl] at ih;simp only [trim,hl];cases k with
   | zero=>simp
   | succ k=>have:=ih k; simp at this ⊢; exact this
def P8 (n:Nat) (g:Nat->Int):List Int:=trim ((List.range n).map g)
theorem Fl (n:Nat) (g:Nat->Int):U3 (P8 n g):=H6 _
theorem E6 (n:Nat) (g:Nat->Int):(P8 n g).length<=n:=Qd (Hq _) (by simp)
theorem Ti (n:Nat) (g:Nat->Int) (k:Nat):(P8 n g).getD k 0=if k<n then g k else 0:=by
 unfold P8;rw [D4,Qf,Zb]
 split
 ·rename_i h; rw [List.getElem?_range h]; rfl
 ·rename_i h; rw [List.getElem?_eq_none (by simpa using h)]; rfl
theorem Qau {s n:Nat} {g:Nat->Int} (h:∀ k,k<n->U9 (g k)<=s):Bd s (P8 n g):=Tc (Zgv h)
def Bv (p q:List Int):List Int:=P8 (max p.length q.length) λk=>p.getD k 0+q.getD k 0
def Po (p q:List Int):List Int:=P8 (max p.length q.length) λk=>p.getD k 0-q.getD k 0
def S5 (p:List Int):List Int:=P8 p.length λk=>-(p.getD k 0)
def Fi (p:List Int) (c:Int):List Int:=P8 p.length λk=>p.getD k 0*c
def Gf (p:List Int):List Int:=P8 (p.length-1) λk=>p.getD (k+1) 0*((k+1:Nat):Int)
theorem Qob {s t:Nat} {p q:List Int} (h:Bd s p) (h':Bd t q):Bd (max s t+1) (Bv p q):=Qau λk _=>Qd (Qds _ _) (by have:=Fb h k; have:=Fb h' k; omega)
theorem A1 {s t:Nat} {p q:List Int} (h:Bd s p) (h':Bd t q):Bd (max s t+1) (Po p q):=Qau λk _=>Qd (Qpe _ _) (by have:=Fb h k; have:=Fb h' k; omega)
theorem Qav {s:Nat} {p:List Int} (h:Bd s p):Bd s (S5 p):=Qau λk _=>by rw [Hl]; exact Fb h k
theorem Gp {s t:Nat} {p:List Int} {c:Int} (h:Bd s p) (hc:U9 c<=t):Bd (s+t) (Fi p c):=Qau λk _=>Qd (Ft _ _) (by have:=Fb h k; omega)
theorem Qj6 (p q:List Int):(Bv p q).length<=max p.length q.length:=E6 _ _
theorem Lh (p q:List Int):(Po p q).length<=max p.length q.length:=E6 _ _
theorem Lf (p:List Int):(S5 p).length<=p.length:=E6 _ _
theorem Fz (p:List Int) (c:Int):(Fi p c).length<=p.length:=E6 _ _
theorem Pi (p:List Int):(Gf p).length<=p.length-1:=E6 _ _
theorem Qpd {k t:Nat} (h:k<2^t):U9 (k:Int)<=t:=by rw [Te]; simpa using h
theorem Q21 {k:Nat} (h:k<274877906944):U9 (k:Int)<=4294967295:=Qd (Qpd (t:=38) (Kn h (by decide))) (by omega)
theorem Qhp {s t:Nat} {p:List Int} (h:Bd s p) (hl:p.length<=2^t):Bd (s+t) (Gf p):=Qau λk hk=>Qd (Ft _ _) (by
 have:=Fb h (k+1);have:=Qpd (k:=k+1) (t:=t) (by omega);omega)
def Ag (x:Int) (b:List Int) (i:Nat) (o:List Int):Nat->List Int
 | 0=>o
 | k+1=>(Ag x b i o k).set (i+k) ((Ag x b i o k).getD (i+k) 0+x*b.getD k 0)
def No (a b o:List Int):Nat->List Int
 | 0=>o
 | i+1=>Ag (a.getD i 0) b i (No a b o i) b.length
def Fu (a b:List Int):List Int:=if a.length=0\/b.length=0 then [] else trim (No a b (List.replicate (a.length+b.length-1) 0) a.length)
theorem Ah (x:Int) (b:List Int) (i:Nat) (o:List Int) (k:Nat):(Ag x b i o k).length=o.length:=by
 induction k with
 | zero=>rfl
 | succ k ih=>simp [Ag,ih]
theorem Np (a b o:List Int) (i:Nat):(No a b o i).length=o.length:=by
 induction i with
 | zero=>rfl
 | succ i ih=>simp [No,Ah,ih]
theorem Q7k (l:List Int) (i m:Nat) (v:Int) (h:i<l.length):(l.set i v).getD m 0=if m=i then v else l.getD m 0:=by
 rw [Qf,Y5,Qf];by_cases e:i=m
 ·subst e; simp [h]
 ·rw [if_neg e,if_neg (λh=>e h.symm)]
theorem Qfv (x:Int) (b:List Int) (i:Nat) (o:List Int) (k m:Nat) (h:i+k<=o.length):(Ag x b i o k).getD m 0=if i<=m/\m<i+k then o.getD m 0+x*b.getD (m-i) 0 else o.getD m 0:=by
 induction k with
 | zero=>simp only [Ag]; rw [if_neg (by omega)]
 |
  succ k ih =>
  have ih:=ih (by omega);simp only [Ag];rw [Q7k _ _ _ _ (by rw [Ah]; omega)];by_cases e:m=i+k
  ·subst e;rw [if_pos rfl,if_pos (by omega),show i+k-i=k from by omega];rw [ih,if_neg (by omega)]
  ·rw [if_neg e,ih];by_cases h1:i<=m/\m<i+k
   ·rw [if_pos h1,if_pos (by omega)]
   ·rw [if_neg h1,if_neg (by omega)]
theorem Mg {x y:Int} {s t:Nat} (hx:U9 x<=s) (hy:U9 y<=t):(x*y).natAbs<=2^(s+t):=by
 have h:=Qd (Ft x y) (show _<=s+t by omega);rw [Te] at h; omega
theorem Qpn {x:Int} {b:List Int} {i:Nat} {o:List Int} {k M:Nat} (h:i+k<=o.length) (ho:∀ m,(o.getD m 0).natAbs<=i*M) (hx:∀ j,(x*b.getD j 0).natAbs<=M) (m:Nat):((Ag x b i o k).getD m 0).natAbs<=(i+1)*M:=by
 rw [Qfv x b i o k m h,Xh];have h1:=ho m
 split
 ·have h2:=hx (m-i);generalize i*M=q at *;omega
 ·omega
theorem Qpm {a b o:List Int} {i M:Nat} (h:∀ j,j<i->j+b.length<=o.length) (ho:∀ m,o.getD m 0=0) (hx:∀ i j,(a.getD i 0*b.getD j 0).natAbs<=M) (m:Nat):((No a b o i).getD m 0).natAbs<=i*M:=by
 induction i generalizing m with
 | zero=>simp only [No]; rw [ho]; simp
 |
  succ i ih =>
  simp only [No];exact Qpn (by rw [Np]; exact h i (by omega)) (ih λj hj=>h j (by omega)) (hx i) m
theorem El {z:Int} {i s t:Nat} (h:z.natAbs<=i*2^s) (hi:i<2^t):U9 z<=s+t:=by
 rw [Te];have h1:i*2^s<2^t*2^s:=Xy hi (Z9 (by decide));rw [<-Xl,Jm t s] at h1;omega
theorem Tw (n m:Nat):(List.replicate n (0:Int)).getD m 0=0:=by
 rw [Qf,J1]; split <;> rfl
theorem Qin {s:Nat} {p:List Int} (h:∀ m,U9 (p.getD m 0)<=s):Bd s p:=λz hz=>by
 obtain ⟨i,hi⟩:=Zg.1 hz;have:=h i;rw [Qf,hi] at this;exact this
theorem O5 (a b:List Int):(Fu a b).length<=a.length+b.length-1:=by
 unfold Fu
 split
 ·simp
 ·refine Qd (Hq _) ?_;rw [Np]; simp
theorem Qc2 {s t u:Nat} {a b:List Int} (ha:Bd s a) (hb:Bd t b) (hl:a.length<2^u):Bd (s+t+u) (Fu a b):=by
 unfold Fu
 split
 ·exact Of
 ·refine Tc (Qin λm=>?_);exact El (Qpm (M:=2^(s+t)) (λj hj=>by simp; omega) (Tw _) (λi j=>Mg (Fb ha i) (Fb hb j)) m) hl
theorem G8 (a b:List Int):U3 (Fu a b):=by
 unfold Fu
 split
 ·rfl
 ·exact H6 _
def Pu (a:List Int) (n d:Int):Nat->Int×Int
 | 0=>(0,1)
 | k+1=>((Pu a n d k).1*n+a.getD (a.length-1-k) 0*(Pu a n d k).2,(Pu a n d k).2*d)
def Zec (a:List Int) (n d:Int):Int:=(Pu a n d a.length).1
theorem Qqw {a:List Int} {n d:Int} {s t k:Nat} (ha:Bd s a) (hn:U9 n<=t) (hd:U9 d<=t):U9 (Pu a n d k).1<=s+2+k*(t+1)/\U9 (Pu a n d k).2<=1+k*t:=by
 induction k with
 | zero=>exact ⟨by simp [Pu,Mf],by simp [Pu]; decide⟩
 |
  succ k ih =>
  obtain ⟨h1,h2⟩:=ih;have h3:=Fb ha (a.length-1-k);have e1:k*(t+1)=k*t+k:=by rw [Xv,Ys]
  rw [Xh,Xh];refine ⟨?_,?_⟩
  ·simp only [Pu];refine Qd (Qds _ _) ?_;have h4:=Ft (Pu a n d k).1 n;have h5:=Ft (a.getD (a.length-1-k) 0) (Pu a n d k).2;generalize k*t=q at *;rw [e1] at h1 ⊢;omega
  ·simp only [Pu];have h4:=Ft (Pu a n d k).2 d;generalize k*t=q at *;omega
end Orr
namespace Orr
theorem Qfj {l:List Int} {i:Nat} (h:i<l.length):l[i]? = some (l.getD i 0):=by
 rw [Qf,Qe h]; rfl
theorem Qor {x y:Int}:C0 x y=0↔x=y:=by
 unfold C0;constructor
 ·intro h
  split at h
  ·omega
  ·split at h <;> omega
 ·rintro rfl; simp
theorem Hk {p:List Int} (h:U3 p) (h0:0<p.length):p.getD (p.length-1) 0≠0:=by
 induction p with
 | nil=>simp at h0
 |
  cons x l ih =>
  unfold U3 at h;cases hl:trim l with
  |
   nil =>
   simp only [trim,hl] at h
   split at h
   ·cases h
   ·rename_i hx;injection h with h1 h2;subst h2;simpa using hx
  |
   cons y k =>
   simp only [trim,hl] at h;injection h with h1 h2;rw [<-hl] at h2;have ih:=ih h2 (by rw [<-h2,hl]; simp);have h3:0<l.length:=by rw [<-h2,hl]; simp
   simp only [Q7,Jv];obtain ⟨m,hm⟩:∃ m,l.length=m+1:=⟨l.length-1,by omega⟩;rw [hm] at ih ⊢;simpa using ih
end Orr
namespace Orr
theorem Qj8 (p:List Int):(List.range p.length).map (λk=>p.getD k 0)=p:=by
 apply Xu;intro i;rw [Zb];rcases Q6 i p.length with h | h
 ·rw [X9 h];simp [Qe h]
 ·rw [Qu (by simpa using h),Qu h]; rfl
theorem Qjj {p q:List Int} (hl:p.length=q.length) (h:∀ j,j<p.length->p.getD j 0=q.getD j 0):p=q:=by
 rw [<-Qj8 p,<-Qj8 q,<-hl];exact Wp λj hj=>h j (Kq.1 hj)
end Orr
namespace Orr
abbrev rl (q:Rat):List LV:=[sg q.num,mg q.num,sg (q.den:Int),mg (q.den:Int)]
theorem Nl (n d:Int):G9 [n,d]=Int.gcd d n:=by
 unfold G9;simp only [Xg,List.foldl_nil,Nat.gcd_zero_left];exact Wm _ _
theorem Qsh {n d:Int} (hd:d≠0):(0:Int)<((G9 [n,d]:Nat):Int):=by
 rw [Nl];have:=Int.gcd_pos_of_ne_zero_left n hd;omega
theorem Qjs (n d:Int):n % ((G9 [n,d]:Nat):Int)=0:=by
 rw [Nl]; exact Jz (Vw ..)
theorem Qjt (n d:Int):d % ((G9 [n,d]:Nat):Int)=0:=by
 rw [Nl]; exact Jz (Ue ..)
theorem Q0h {n g:Int} (h:n % g=0):-n % g=0:=by
 exact Jz (Int.dvd_neg.2 (Yn h))
theorem Qzy {n d:Int} {s:Nat} (hd:d≠0) (h:U9 d<=s):U9 ((G9 [n,d]:Nat):Int)<=s:=by
 rw [Nl];refine Qd (Re ?_) h;have:=Kd (by omega:0<d.natAbs) (show Int.gcd d n∣d.natAbs from K0 _ _);simpa using this
theorem Qpj {n d:Int} (hd:0<d):n / ((G9 [n,d]:Nat):Int)=(Rat.divInt n d).num/\d / ((G9 [n,d]:Nat):Int)=((Rat.divInt n d).den:Int):=by
 rw [Nl,Rat.num_divInt,Wv,if_neg (by omega),Jo hd,Y9];refine ⟨rfl,?_⟩;rw [Int.natCast_ediv,Int.natAbs_of_nonneg (by omega)]
theorem Zdg {n d:Int} (hd:d<0):-n / ((G9 [n,d]:Nat):Int)=(Rat.divInt n d).num/\-d / ((G9 [n,d]:Nat):Int)=((Rat.divInt n d).den:Int):=by
 rw [Nl,Rat.num_divInt,Wv,if_neg (by omega),Jb hd,Ke,Y9];refine ⟨rfl,?_⟩;rw [Int.natCast_ediv,Int.ofNat_natAbs_of_nonpos (by omega)]
theorem O3 (u g:Int):U9 (u / g)<=U9 u:=by
 unfold U9;exact Re (Int.natAbs_ediv_le_natAbs u g)
theorem Qj3 {n d:Int} {s:Nat} (h:U9 n<=s):U9 (Rat.divInt n d).num<=s:=by
 rw [Rat.num_divInt];refine Qd (O3 _ _) ?_;unfold U9;rw [Jy];refine Qd (Re ?_) h;have:d.sign.natAbs<=1:=by rcases Qct d with ⟨_,e⟩ | ⟨_,e⟩ | ⟨_,e⟩ <;> rw [e] <;> decide
 calc d.sign.natAbs*n.natAbs<=1*n.natAbs:=Qz _ this
  _=n.natAbs:=Wx _
theorem Qj2 {n d:Int} {s:Nat} (h:U9 d<=s) (h1:1<=s):U9 ((Rat.divInt n d).den:Int)<=s:=by
 rw [Wv]
 split
 ·exact h1
 ·refine Qd (Re ?_) h;exact J5 _ _
def Qs (s:Nat) (q:Rat):Prop:=U9 q.num<=s/\U9 (q.den:Int)<=s
theorem Qs.mono {s t:Nat} {q:Rat} (h:Qs s q) (ht:s<=t):Qs t q:=⟨Qd h.1 ht,Qd h.2 ht⟩
theorem Qs.divInt {s:Nat} {n d:Int} (h:U9 n<=s) (h':U9 d<=s) (h1:1<=s):Qs s (Rat.divInt n d):=⟨Qj3 h,Qj2 h' h1⟩
theorem Bs (q:Rat):(q.den:Int)≠0:=by have:=q.den_nz; omega
theorem den_pos (q:Rat):(0:Int)<(q.den:Int):=by have:=q.den_nz; omega
def Gx (n d:Int):Rat:=Rat.divInt n (if d=0 then 1 else d)
theorem Qec (q:Rat):Gx q.num q.den=q:=by
 unfold Gx;rw [if_neg (Bs q)]; exact Zz q
def Gt (a b:Rat):Int:=C0 (a.num*(b.den:Int)) (b.num*(a.den:Int))
theorem B7 {a b:Rat}:Gt a b<0↔a<b:=by
 rw [Rat.lt_iff]; unfold Gt C0;constructor
 ·intro h; split at h
  ·assumption
  ·split at h <;> omega
 ·intro h; rw [if_pos h]; decide
theorem Nh {a b:Rat}:0<Gt a b↔b<a:=by
 rw [Rat.lt_iff]; unfold Gt C0;constructor
 ·intro h; split at h
  ·omega
  ·split at h
   ·assumption
   ·omega
 ·intro h; rw [if_neg (by omega),if_pos h]; decide
theorem Bq (a:Rat):Gt a a=0:=by unfold Gt C0; simp
end Orr
namespace Orr
open Go Go.Proofs
set_option maxRecDepth 10000
abbrev fr (q:Rat):List LV:=ri q.num++ri (q.den:Int)
theorem L6:Fp 1=[1]:=by rw [If (by decide)]; rw [G0]
theorem Mc {n:Int}:Uw Tryz.prog 68 [.agg (ri n),.agg (ri 1)] [.agg (fr (n:Rat))]:=by
 have h0:(M3 (Fp (1:Int).natAbs))[0]? = some [LV.int .i64 1]:=by rw [show (1:Int).natAbs=1 from rfl,L6]; rfl
 have h1:decide (((M3 (Fp (1:Int).natAbs)).length:Int)=1)=true:=by rw [show (1:Int).natAbs=1 from rfl,L6]; rfl
 exact w tt Tryz.func68 rfl [.c [] (Mm (z:=1)),.f rfl,.f rfl,.g 19 true h1,.x h0,.t rfl] rfl rfl trivial
theorem Qir {n:Int} (hn:-4000000000000000000<=n/\n<=4000000000000000000):Uw Tryz.prog 112 [.one (.int .i64 n),.one (.int .i64 1)] [.agg (fr (n:Rat))] :=
 w tt Tryz.func112 rfl [.c [] (C5 hn),.c [] (C5 (n:=1) (by decide)),.c [] Mc] rfl rfl trivial
theorem Zko {q:Rat} (hq:Qs 100000000 q):Uw Tryz.prog 32 [.agg (fr q)] [.agg (rl q)] :=
 w tt Tryz.func32 rfl [.c [] (Q5d hq.1),.c [] (Q5d hq.2)] rfl rfl trivial
end Orr
