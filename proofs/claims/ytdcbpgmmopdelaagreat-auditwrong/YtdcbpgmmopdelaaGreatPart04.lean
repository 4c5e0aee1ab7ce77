/- Ntt L1 L2 L3 L4 L5 M1 P2 M2 PolyL RatL RefPL RefGL RatOkL T1 T2 T3 -/
import Derived.Test.YtdcbpgmmopdelaaGreatPart03
import Derived.Laws.StructEq
import Derived.Test.YtdcbpgmmopdelaaGreatProg
import Derived.Test.YtdcbpgmmopdelaaGreatPart00
set_option linter.all false
namespace Orr
open Go Go.Proofs Tryz
theorem Qav(d:Nat)(x y:Int)(w:World):(Op.equalIn (d+1) 3 (.int .i64 x) (.int .i64 y)).run prog w=.ok (decide (x=y)) w:=by
 simp[Op.equalIn,runUnderlying3];rfl
noncomputable def ti3:TI prog:=QV 3 isAgg3 sizeOf3 underlying3 zeroValue3 typeInfo3 8 rfl
noncomputable def ti4:TI prog:=QV 4 isAgg4 sizeOf4 underlying4 zeroValue4 typeInfo4 1 rfl
noncomputable def ti5:TI prog:=QV 5 isAgg5 sizeOf5 underlying5 zeroValue5 typeInfo5 1 rfl
noncomputable def ti9:TI prog:=QV 9 isAgg9 sizeOf9 underlying9 zeroValue9 typeInfo9 16 rfl
noncomputable def ti22:TI prog:=QV 22 isAgg22 sizeOf22 underlying22 zeroValue22 typeInfo22 24 rfl
noncomputable def ti23:TI prog:=QV 23 isAgg23 sizeOf23 underlying23 zeroValue23 typeInfo23 24 rfl
noncomputable def ti24:TI prog:=QV 24 isAgg24 sizeOf24 underlying24 zeroValue24 typeInfo24 24 rfl
noncomputable def ti28:TI prog:=QV 28 isAgg28 sizeOf28 underlying28 zeroValue28 typeInfo28 24 rfl
noncomputable def ti29:TI prog:=QV 29 isAgg29 sizeOf29 underlying29 zeroValue29 typeInfo29 24 rfl
noncomputable def ti30:TI prog:=QV 30 isAgg30 sizeOf30 underlying30 zeroValue30 typeInfo30 24 rfl
noncomputable def ti32:TI prog:=WW (ks:=[1,1]) (ag:=[false,false]) 32 isAgg32 sizeOf32 underlying32 zeroValue32 typeInfo32 32 rfl ⟨sizeOf30,sizeOf4,trivial⟩ ⟨isAgg30,isAgg4,trivial⟩ rfl
noncomputable def ti34:TI prog:=WW (ks:=[2,2]) (ag:=[true,true]) 34 isAgg34 sizeOf34 underlying34 zeroValue34 typeInfo34 64 rfl ⟨sizeOf32,sizeOf32,trivial⟩ ⟨isAgg32,isAgg32,trivial⟩ rfl
noncomputable def ti36:TI prog:=WW (ks:=[1,1,4,4]) (ag:=[false,false,true,true]) 36 isAgg36 sizeOf36 underlying36 zeroValue36 typeInfo36 176 rfl ⟨sizeOf28,sizeOf29,sizeOf34,sizeOf34,trivial⟩ ⟨isAgg28,isAgg29,isAgg34,isAgg34,trivial⟩ rfl
noncomputable def ti38:TI prog:=QV 38 isAgg38 sizeOf38 underlying38 zeroValue38 typeInfo38 24 rfl
set_option maxRecDepth 20000 in
theorem Qo0(d:Nat)(x0 x1 x2 x3 y0 y1 y2 y3:Int)(w:World):(Op.equalIn (d+1+1) 42 (.agg #[.int .i64 x0,.int .i64 x1,.int .i64 x2,.int .i64 x3]) (.agg #[.int .i64 y0,.int .i64 y1,.int .i64 y2,.int .i64 y3])).run prog w=.ok (decide ([x0,x1,x2,x3]=[y0,y1,y2,y3])) w:=by
 rw[run_equalIn_array w (d+1) _ _ (n:=4) (e:=3) rfl rfl];rw[show List.range 4=[0,1,2,3] from rfl,show prog.cellsOf 3=1 from rfl];simp[Op.eqItems,Go.part,isAgg3,Qav];by_cases h0:x0=y0 <;> by_cases h1:x1=y1 <;> by_cases h2:x2=y2 <;> by_cases h3:x3=y3 <;> simp[h0,h1,h2,h3]
noncomputable def ti42:TI prog:=tiA 42 isAgg42 sizeOf42 underlying42 zeroValue42 typeInfo42 32 rfl sizeOf3
set_option maxRecDepth 20000 in
theorem Qo1(d:Nat)(x x0 x1 x2 x3 y y0 y1 y2 y3:Int)(w:World):(Op.equalIn (d+1+1+1) 44 (.agg #[.int .i64 x,.int .i64 x0,.int .i64 x1,.int .i64 x2,.int .i64 x3]) (.agg #[.int .i64 y,.int .i64 y0,.int .i64 y1,.int .i64 y2,.int .i64 y3])).run prog w=.ok (decide ([x,x0,x1,x2,x3]=[y,y0,y1,y2,y3])) w:=by
 rw[run_equalIn_struct w (d+1+1) 44 _ _ rfl Tryz.stoodInHeld44];have hf:(prog.fieldsOf 44).toList=[{ name := "Kind",type:=3,offset:=0,embedded:=false,tag := "",pkgPath := "",byteOffset:=0 },{ name := "Ids",type:=42,offset:=1,embedded:=false,tag := "",pkgPath := "",byteOffset:=8 }]:=by simp[Program.fieldsOf,underlying44]
 rw[hf];simp[Op.eqFields,Go.part,isAgg3,isAgg42,sizeOf42,sizeOf3,Qav,Qo0];by_cases h:x=y <;> by_cases h0:x0=y0 <;> by_cases h1:x1=y1 <;> by_cases h2:x2=y2 <;> by_cases h3:x3=y3 <;> simp[h,h0,h1,h2,h3]
theorem Quf(a b:Ft)(ha:a.length=5)(hb:b.length=5)(w:World):(Op.equal 44 (.agg (a.map (Value.int .i64)).toArray) (.agg (b.map (Value.int .i64)).toArray)).run prog w=.ok (decide (a=b)) w:=by
 match a,ha,b,hb with
 | [x,x0,x1,x2,x3],_,[y,y0,y1,y2,y3],_=>exact Qo1 9997 x x0 x1 x2 x3 y y0 y1 y2 y3 w
noncomputable def ti44:TI prog:={ WW (ks:=[1,4]) (ag:=[false,true]) 44 isAgg44 sizeOf44 underlying44 zeroValue44 typeInfo44 40 rfl ⟨sizeOf3,sizeOf42,trivial⟩ ⟨isAgg3,isAgg42,trivial⟩ rfl with eqn:=some 5,heq:=λk h=>by injection h with h;subst h;exact⟨eqGuardType44,Quf⟩ }
noncomputable def ti45:TI prog:=QV 45 isAgg45 sizeOf45 underlying45 zeroValue45 typeInfo45 24 rfl
noncomputable def ti47:TI prog:=WW (ks:=[5,1,1,1,1]) (ag:=[true,false,false,false,false]) 47 isAgg47 sizeOf47 underlying47 zeroValue47 typeInfo47 104 rfl ⟨sizeOf44,sizeOf28,sizeOf3,sizeOf45,sizeOf4,trivial⟩ ⟨isAgg44,isAgg28,isAgg3,isAgg45,isAgg4,trivial⟩ rfl
noncomputable def ti48:TI prog:=QV 48 isAgg48 sizeOf48 underlying48 zeroValue48 typeInfo48 24 rfl
noncomputable def ti51:TI prog:=QV 51 isAgg51 sizeOf51 underlying51 zeroValue51 typeInfo51 24 rfl
noncomputable def ti52:TI prog:=QV 52 isAgg52 sizeOf52 underlying52 zeroValue52 typeInfo52 24 rfl
noncomputable def ti53:TI prog:=QV 53 isAgg53 sizeOf53 underlying53 zeroValue53 typeInfo53 24 rfl
noncomputable def ti55:TI prog:=WW (ks:=[1,1]) (ag:=[false,false]) 55 isAgg55 sizeOf55 underlying55 zeroValue55 typeInfo55 32 rfl ⟨sizeOf4,sizeOf53,trivial⟩ ⟨isAgg4,isAgg53,trivial⟩ rfl
noncomputable def ti57:TI prog:=WW (ks:=[2,2]) (ag:=[true,true]) 57 isAgg57 sizeOf57 underlying57 zeroValue57 typeInfo57 64 rfl ⟨sizeOf55,sizeOf55,trivial⟩ ⟨isAgg55,isAgg55,trivial⟩ rfl
noncomputable def ti59:TI prog:=WW (ks:=[1,4,4]) (ag:=[false,true,true]) 59 isAgg59 sizeOf59 underlying59 zeroValue59 typeInfo59 152 rfl ⟨sizeOf52,sizeOf57,sizeOf57,trivial⟩ ⟨isAgg52,isAgg57,isAgg57,trivial⟩ rfl
noncomputable def ti63:TI prog:=QV 63 isAgg63 sizeOf63 underlying63 zeroValue63 typeInfo63 24 rfl
noncomputable def ti65:TI prog:=WW (ks:=[1,1,1,1,1]) (ag:=[false,false,false,false,false]) 65 isAgg65 sizeOf65 underlying65 zeroValue65 typeInfo65 120 rfl ⟨sizeOf23,sizeOf23,sizeOf23,sizeOf23,sizeOf63,trivial⟩ ⟨isAgg23,isAgg23,isAgg23,isAgg23,isAgg63,trivial⟩ rfl
noncomputable def ti74:TI prog:=WW (ks:=[1,1,2]) (ag:=[false,false,true]) 74 isAgg74 sizeOf74 underlying74 zeroValue74 typeInfo74 80 rfl ⟨sizeOf52,sizeOf52,sizeOf55,trivial⟩ ⟨isAgg52,isAgg52,isAgg55,trivial⟩ rfl
noncomputable def ti76:TI prog:=WW (ks:=[4,1]) (ag:=[true,false]) 76 isAgg76 sizeOf76 underlying76 zeroValue76 typeInfo76 88 rfl ⟨sizeOf74,sizeOf3,trivial⟩ ⟨isAgg74,isAgg3,trivial⟩ rfl
set_option maxRecDepth 20000 in
theorem Qo2(d:Nat)(x0 x1 x2 y0 y1 y2:Int)(w:World):(Op.equalIn (d+1+1) 79 (.agg #[.int .i64 x0,.int .i64 x1,.int .i64 x2]) (.agg #[.int .i64 y0,.int .i64 y1,.int .i64 y2])).run prog w=.ok (decide ([x0,x1,x2]=[y0,y1,y2])) w:=by
 rw[run_equalIn_array w (d+1) _ _ (n:=3) (e:=3) rfl rfl];rw[show List.range 3=[0,1,2] from rfl,show prog.cellsOf 3=1 from rfl];simp[Op.eqItems,Go.part,isAgg3,Qav];by_cases h0:x0=y0 <;> by_cases h1:x1=y1 <;> by_cases h2:x2=y2 <;> simp[h0,h1,h2]
theorem dZ(a b:Ft)(ha:a.length=3)(hb:b.length=3)(w:World):(Op.equal 79 (.agg (a.map (Value.int .i64)).toArray) (.agg (b.map (Value.int .i64)).toArray)).run prog w=.ok (decide (a=b)) w:=by
 match a,ha,b,hb with
 | [x0,x1,x2],_,[y0,y1,y2],_=>exact Qo2 9998 x0 x1 x2 y0 y1 y2 w
noncomputable def ti79:TI prog:={ tiA 79 isAgg79 sizeOf79 underlying79 zeroValue79 typeInfo79 24 rfl sizeOf3 with eqn:=some 3,heq:=λk h=>by injection h with h;subst h;exact⟨eqGuardType79,dZ⟩ }
noncomputable def ti84:TI prog:=QV 84 isAgg84 sizeOf84 underlying84 zeroValue84 typeInfo84 24 rfl
noncomputable def ti85:TI prog:=QV 85 isAgg85 sizeOf85 underlying85 zeroValue85 typeInfo85 8 rfl
noncomputable def ti92:TI prog:=WW (ks:=[1,1,1,5]) (ag:=[false,false,false,true]) 92 isAgg92 sizeOf92 underlying92 zeroValue92 typeInfo92 112 rfl ⟨sizeOf3,sizeOf3,sizeOf3,sizeOf76,trivial⟩ ⟨isAgg3,isAgg3,isAgg3,isAgg76,trivial⟩ rfl
noncomputable def ti94:TI prog:=QV 94 isAgg94 sizeOf94 underlying94 zeroValue94 typeInfo94 24 rfl
noncomputable def ti95:TI prog:=QV 95 isAgg95 sizeOf95 underlying95 zeroValue95 typeInfo95 8 rfl
noncomputable def ti101:TI prog:=WW (ks:=[1,1,1,5]) (ag:=[false,false,false,true]) 101 isAgg101 sizeOf101 underlying101 zeroValue101 typeInfo101 112 rfl ⟨sizeOf3,sizeOf3,sizeOf3,sizeOf76,trivial⟩ ⟨isAgg3,isAgg3,isAgg3,isAgg76,trivial⟩ rfl
noncomputable def ti103:TI prog:=QV 103 isAgg103 sizeOf103 underlying103 zeroValue103 typeInfo103 24 rfl
noncomputable def ti104:TI prog:=QV 104 isAgg104 sizeOf104 underlying104 zeroValue104 typeInfo104 8 rfl
noncomputable def ti110:TI prog:=WW (ks:=[1,1,1,5]) (ag:=[false,false,false,true]) 110 isAgg110 sizeOf110 underlying110 zeroValue110 typeInfo110 112 rfl ⟨sizeOf3,sizeOf3,sizeOf3,sizeOf76,trivial⟩ ⟨isAgg3,isAgg3,isAgg3,isAgg76,trivial⟩ rfl
noncomputable def ti112:TI prog:=QV 112 isAgg112 sizeOf112 underlying112 zeroValue112 typeInfo112 24 rfl
noncomputable def ti113:TI prog:=QV 113 isAgg113 sizeOf113 underlying113 zeroValue113 typeInfo113 8 rfl
noncomputable def ti119:TI prog:=WW (ks:=[1,1,1,5]) (ag:=[false,false,false,true]) 119 isAgg119 sizeOf119 underlying119 zeroValue119 typeInfo119 112 rfl ⟨sizeOf3,sizeOf3,sizeOf3,sizeOf76,trivial⟩ ⟨isAgg3,isAgg3,isAgg3,isAgg76,trivial⟩ rfl
noncomputable def ti121:TI prog:=QV 121 isAgg121 sizeOf121 underlying121 zeroValue121 typeInfo121 24 rfl
noncomputable def ti122:TI prog:=QV 122 isAgg122 sizeOf122 underlying122 zeroValue122 typeInfo122 8 rfl
noncomputable def ti128:TI prog:=WW (ks:=[1,1,1,5]) (ag:=[false,false,false,true]) 128 isAgg128 sizeOf128 underlying128 zeroValue128 typeInfo128 112 rfl ⟨sizeOf3,sizeOf3,sizeOf3,sizeOf76,trivial⟩ ⟨isAgg3,isAgg3,isAgg3,isAgg76,trivial⟩ rfl
noncomputable def ti133:TI prog:=WW (ks:=[1,1,4]) (ag:=[false,false,true]) 133 isAgg133 sizeOf133 underlying133 zeroValue133 typeInfo133 128 rfl ⟨sizeOf28,sizeOf28,sizeOf74,trivial⟩ ⟨isAgg28,isAgg28,isAgg74,trivial⟩ rfl
noncomputable def ti135:TI prog:=WW (ks:=[6,1]) (ag:=[true,false]) 135 isAgg135 sizeOf135 underlying135 zeroValue135 typeInfo135 136 rfl ⟨sizeOf133,sizeOf3,trivial⟩ ⟨isAgg133,isAgg3,trivial⟩ rfl
noncomputable def ti144:TI prog:=WW (ks:=[5,1,1]) (ag:=[true,false,false]) 144 isAgg144 sizeOf144 underlying144 zeroValue144 typeInfo144 72 rfl ⟨sizeOf44,sizeOf52,sizeOf3,trivial⟩ ⟨isAgg44,isAgg52,isAgg3,trivial⟩ rfl
noncomputable def ti150:TI prog:=QV 150 isAgg150 sizeOf150 underlying150 zeroValue150 typeInfo150 24 rfl
noncomputable def ti166:TI prog:=WW (ks:=[10,1,1,1]) (ag:=[true,false,false,false]) 166 isAgg166 sizeOf166 underlying166 zeroValue166 typeInfo166 232 rfl ⟨sizeOf36,sizeOf38,sizeOf3,sizeOf45,trivial⟩ ⟨isAgg36,isAgg38,isAgg3,isAgg45,trivial⟩ rfl
noncomputable def ti168:TI prog:=WW (ks:=[1,4,13]) (ag:=[false,true,true]) 168 isAgg168 sizeOf168 underlying168 zeroValue168 typeInfo168 320 rfl ⟨sizeOf24,sizeOf34,sizeOf166,trivial⟩ ⟨isAgg24,isAgg34,isAgg166,trivial⟩ rfl
noncomputable def ti169:TI prog:=QV 169 isAgg169 sizeOf169 underlying169 zeroValue169 typeInfo169 8 rfl
noncomputable def ti174:TI prog:=QV 174 isAgg174 sizeOf174 underlying174 zeroValue174 typeInfo174 24 rfl
noncomputable def ti176:TI prog:=WW (ks:=[1,9,1,1]) (ag:=[false,true,false,false]) 176 isAgg176 sizeOf176 underlying176 zeroValue176 typeInfo176 192 rfl ⟨sizeOf4,sizeOf59,sizeOf174,sizeOf3,trivial⟩ ⟨isAgg4,isAgg59,isAgg174,isAgg3,trivial⟩ rfl
noncomputable def ti178:TI prog:=WW (ks:=[1]) (ag:=[false]) 178 isAgg178 sizeOf178 underlying178 zeroValue178 typeInfo178 24 rfl ⟨sizeOf22,trivial⟩ ⟨isAgg22,trivial⟩ rfl
noncomputable def ti180:TI prog:=WW (ks:=[12,1,1]) (ag:=[true,true,false]) 180 isAgg180 sizeOf180 underlying180 zeroValue180 typeInfo180 240 rfl ⟨sizeOf176,sizeOf178,sizeOf22,trivial⟩ ⟨isAgg176,isAgg178,isAgg22,trivial⟩ rfl
noncomputable def ti191:TI prog:=QV 191 isAgg191 sizeOf191 underlying191 zeroValue191 typeInfo191 24 rfl
noncomputable def ti206:TI prog:=WW (ks:=[1,4,13]) (ag:=[false,true,true]) 206 isAgg206 sizeOf206 underlying206 zeroValue206 typeInfo206 320 rfl ⟨sizeOf24,sizeOf34,sizeOf166,trivial⟩ ⟨isAgg24,isAgg34,isAgg166,trivial⟩ rfl
noncomputable def ti210:TI prog:=QV 210 isAgg210 sizeOf210 underlying210 zeroValue210 typeInfo210 24 rfl
noncomputable def ti212:TI prog:=WW (ks:=[12,1,1,1]) (ag:=[true,true,false,false]) 212 isAgg212 sizeOf212 underlying212 zeroValue212 typeInfo212 264 rfl ⟨sizeOf176,sizeOf178,sizeOf22,sizeOf210,trivial⟩ ⟨isAgg176,isAgg178,isAgg22,isAgg210,trivial⟩ rfl
noncomputable def ti215:TI prog:=WW (ks:=[1,4,13]) (ag:=[false,true,true]) 215 isAgg215 sizeOf215 underlying215 zeroValue215 typeInfo215 320 rfl ⟨sizeOf24,sizeOf34,sizeOf166,trivial⟩ ⟨isAgg24,isAgg34,isAgg166,trivial⟩ rfl
noncomputable def ti220:TI prog:=WW (ks:=[12,1,1]) (ag:=[true,true,false]) 220 isAgg220 sizeOf220 underlying220 zeroValue220 typeInfo220 240 rfl ⟨sizeOf176,sizeOf178,sizeOf22,trivial⟩ ⟨isAgg176,isAgg178,isAgg22,trivial⟩ rfl
noncomputable def ti222:TI prog:=QV 222 isAgg222 sizeOf222 underlying222 zeroValue222 typeInfo222 4 rfl
noncomputable def ti225:TI prog:=WW (ks:=[1,4,13]) (ag:=[false,true,true]) 225 isAgg225 sizeOf225 underlying225 zeroValue225 typeInfo225 320 rfl ⟨sizeOf24,sizeOf34,sizeOf166,trivial⟩ ⟨isAgg24,isAgg34,isAgg166,trivial⟩ rfl
noncomputable def ti230:TI prog:=WW (ks:=[12,1,1]) (ag:=[true,true,false]) 230 isAgg230 sizeOf230 underlying230 zeroValue230 typeInfo230 240 rfl ⟨sizeOf176,sizeOf178,sizeOf63,trivial⟩ ⟨isAgg176,isAgg178,isAgg63,trivial⟩ rfl
noncomputable def ti232:TI prog:=QV 232 isAgg232 sizeOf232 underlying232 zeroValue232 typeInfo232 24 rfl
noncomputable def ti235:TI prog:=WW (ks:=[1,4,13]) (ag:=[false,true,true]) 235 isAgg235 sizeOf235 underlying235 zeroValue235 typeInfo235 320 rfl ⟨sizeOf24,sizeOf34,sizeOf166,trivial⟩ ⟨isAgg24,isAgg34,isAgg166,trivial⟩ rfl
noncomputable def ti240:TI prog:=WW (ks:=[12,1,1]) (ag:=[true,true,false]) 240 isAgg240 sizeOf240 underlying240 zeroValue240 typeInfo240 240 rfl ⟨sizeOf176,sizeOf178,sizeOf22,trivial⟩ ⟨isAgg176,isAgg178,isAgg22,trivial⟩ rfl
noncomputable def ti262:TI prog:=tiA 262 isAgg262 sizeOf262 underlying262 zeroValue262 typeInfo262 272 rfl sizeOf135
noncomputable def ti288:TI prog:=WW (ks:=[7,1,1,9]) (ag:=[true,false,false,true]) 288 isAgg288 sizeOf288 underlying288 zeroValue288 typeInfo288 232 rfl ⟨sizeOf144,sizeOf4,sizeOf4,sizeOf59,trivial⟩ ⟨isAgg144,isAgg4,isAgg4,isAgg59,trivial⟩ rfl
set_option maxRecDepth 20000 in
theorem Qio(d:Nat)(x0 x1 y0 y1:Int)(w:World):(Op.equalIn (d+1+1) 305 (.agg #[.int .i64 x0,.int .i64 x1]) (.agg #[.int .i64 y0,.int .i64 y1])).run prog w=.ok (decide ([x0,x1]=[y0,y1])) w:=by
 rw[run_equalIn_array w (d+1) _ _ (n:=2) (e:=3) rfl rfl];rw[show List.range 2=[0,1] from rfl,show prog.cellsOf 3=1 from rfl];simp[Op.eqItems,Go.part,isAgg3,Qav];by_cases h0:x0=y0 <;> by_cases h1:x1=y1 <;> simp[h0,h1]
theorem Qoz(a b:Ft)(ha:a.length=2)(hb:b.length=2)(w:World):(Op.equal 305 (.agg (a.map (Value.int .i64)).toArray) (.agg (b.map (Value.int .i64)).toArray)).run prog w=.ok (decide (a=b)) w:=by
 match a,ha,b,hb with
 | [x0,x1],_,[y0,y1],_=>exact Qio 9998 x0 x1 y0 y1 w
noncomputable def ti305:TI prog:={ tiA 305 isAgg305 sizeOf305 underlying305 zeroValue305 typeInfo305 16 rfl sizeOf3 with eqn:=some 2,heq:=λk h=>by injection h with h;subst h;exact⟨eqGuardType305,Qoz⟩ }
noncomputable def ti311:TI prog:=tiA 311 isAgg311 sizeOf311 underlying311 zeroValue311 typeInfo311 48 rfl sizeOf305
noncomputable def ti330:TI prog:=QV 330 isAgg330 sizeOf330 underlying330 zeroValue330 typeInfo330 24 rfl
noncomputable def ti331:TI prog:=QV 331 isAgg331 sizeOf331 underlying331 zeroValue331 typeInfo331 24 rfl
noncomputable def ti335:TI prog:=QV 335 isAgg335 sizeOf335 underlying335 zeroValue335 typeInfo335 24 rfl
noncomputable def ti371:TI prog:=QV 371 isAgg371 sizeOf371 underlying371 zeroValue371 typeInfo371 24 rfl
noncomputable def ti374:TI prog:=tiA 374 isAgg374 sizeOf374 underlying374 zeroValue374 typeInfo374 176 rfl sizeOf76
noncomputable def ti398:TI prog:=QV 398 isAgg398 sizeOf398 underlying398 zeroValue398 typeInfo398 24 rfl
noncomputable def ti403:TI prog:=WW (ks:=[1]) (ag:=[false]) 403 isAgg403 sizeOf403 underlying403 zeroValue403 typeInfo403 24 rfl ⟨sizeOf335,trivial⟩ ⟨isAgg335,trivial⟩ rfl
noncomputable def ti411:TI prog:=QV 411 isAgg411 sizeOf411 underlying411 zeroValue411 typeInfo411 8 rfl
noncomputable def ti412:TI prog:=QV 412 isAgg412 sizeOf412 underlying412 zeroValue412 typeInfo412 8 rfl
theorem Qdn(em:Bool)(n:Nat)(v:Int)(w:World):(Instr.checkKey em (n+1) 3 (.int .i64 v)).run prog w=.ok () w:=by
 rw[Instr.checkKey];simp[runUnderlying3]
theorem rR(em:Bool)(n:Nat)(a b c:Int)(w:World):(Instr.checkKey em (n+1+1) 79 (.agg #[.int .i64 a,.int .i64 b,.int .i64 c])).run prog w=.ok () w:=by
 rw[Instr.checkKey];simp[runUnderlying79];rw[show List.range' 0 3=[0,1,2] from rfl];simp[Go.part,isAgg3,sizeOf3,Qdn]
theorem NV(em:Bool)(ks:Ft)(hk:ks.length=3)(w:World):(Instr.checkKey em 10000 79 (Iw ks)).run prog w=.ok () w:=by
 match ks,hk with
 | [a,b,c],_=>exact rR em 9998 a b c w
theorem Qj3:MapT prog 380 79 3 (.int .i64 0):=⟨runUnderlying380,⟨_,runUnderlying79,λ_ _=>rfl⟩,NV,λx y hx hy w=>dZ x y hx hy w,zeroValue3,rfl⟩
noncomputable def ti380:TI prog:={ QV 380 isAgg380 sizeOf380 underlying380 zeroValue380 typeInfo380 8 rfl with md:=some (.int .i64 0),hmd:=λd h=>by injection h with h;subst h;exact⟨79,3,Qj3⟩ }
theorem Qj4:MapT prog 381 79 4 (.bool false):=⟨runUnderlying381,⟨_,runUnderlying79,λ_ _=>rfl⟩,NV,λx y hx hy w=>dZ x y hx hy w,zeroValue4,rfl⟩
noncomputable def ti381:TI prog:={ QV 381 isAgg381 sizeOf381 underlying381 zeroValue381 typeInfo381 8 rfl with md:=some (.bool false),hmd:=λd h=>by injection h with h;subst h;exact⟨79,4,Qj4⟩ }
noncomputable def tt:TT prog:=(.nd (.nd (.nd (.nd (.nd (.nd (.nd .nil ti3 .nil) ti4 .nil) ti5 (.nd (.nd .nil ti9 .nil) ti22 .nil)) ti23 (.nd (.nd (.nd .nil ti24 .nil) ti28 .nil) ti29 (.nd .nil ti30 .nil))) ti32 (.nd (.nd (.nd (.nd .nil ti34 .nil) ti36 .nil) ti38 (.nd .nil ti42 .nil)) ti44 (.nd (.nd (.nd .nil ti45 .nil) ti47 .nil) ti48 (.nd .nil ti51 .nil)))) ti52 (.nd (.nd (.nd (.nd (.nd .nil ti53 .nil) ti55 .nil) ti57 (.nd (.nd .nil ti59 .nil) ti63 .nil)) ti65 (.nd (.nd (.nd .nil ti74 .nil) ti76 .nil) ti79 (.nd .nil ti84 .nil))) ti85 (.nd (.nd (.nd (.nd .nil ti92 .nil) ti94 .nil) ti95 (.nd .nil ti101 .nil)) ti103 (.nd (.nd (.nd .nil ti104 .nil) ti110 .nil) ti112 (.nd .nil ti113 .nil))))) ti119 (.nd (.nd (.nd (.nd (.nd (.nd .nil ti121 .nil) ti122 .nil) ti128 (.nd (.nd .nil ti133 .nil) ti135 .nil)) ti144 (.nd (.nd (.nd .nil ti150 .nil) ti166 .nil) ti168 (.nd .nil ti169 .nil))) ti174 (.nd (.nd (.nd (.nd .nil ti176 .nil) ti178 .nil) ti180 (.nd .nil ti191 .nil)) ti206 (.nd (.nd (.nd .nil ti210 .nil) ti212 .nil) ti215 (.nd .nil ti220 .nil)))) ti222 (.nd (.nd (.nd (.nd (.nd .nil ti225 .nil) ti230 .nil) ti232 (.nd (.nd .nil ti235 .nil) ti240 .nil)) ti262 (.nd (.nd (.nd .nil ti288 .nil) ti305 .nil) ti311 (.nd .nil ti330 .nil))) ti331 (.nd (.nd (.nd (.nd .nil ti335 .nil) ti371 .nil) ti374 (.nd .nil ti380 .nil)) ti381 (.nd (.nd (.nd .nil ti398 .nil) ti403 .nil) ti411 (.nd .nil ti412 .nil))))))
instance:Mo prog:=⟨rfl⟩
theorem Ff{n : Nat}{Q : Exit -> Sg -> List OB -> Prop}{L L' : Sg}{B B' : List OB}{it it' : List It}{as0 : List Qv}{ob : List Prop}(hs : List (H Tryz.prog))(h : (match run tt n 100000 it L B hs [] []with
 |some (it, L, B, q, ob) => (match qW ob with
  |some ob => some (it, L, B, q.map (·.1), q.map (·.2), ob)
  |none => none)
 |none => none) = some (it', L', B', as0, as0, ob)) (k : AK Tryz.prog n Q it' L' B') (ho : Ge ob := by exact trivial) : AK Tryz.prog n Q it L B := go tt hs h ho k
theorem Fg{n : Nat}{Q : Exit -> Sg -> List OB -> Prop}{L L' : Sg}{B B' : List OB}{it it' : List It}{as0 : List Qv}{ob : List Prop}(hs : List (H Tryz.prog))(h : (match run tt n 100000 it L B hs [] []with
 |some (it, L, B, q, ob) => (match qW ob with
  |some ob => some (it, L, B, q.map (·.1), q.map (·.2), ob)
  |none => none)
 |none => none) = some (it', L', B', as0, as0, ob)) (k : AK Tryz.prog n Q it' L' B') (ho : Ge ob := by simp[Ge];omega) : AK Tryz.prog n Q it L B := go tt hs h ho k
theorem Fi {n : Nat} {f : FuncId} {fn : Func} {c : Code} {args res us : List TV} {as0 : List Qv} {ob : List Prop} (hf : Tryz.prog.funcs[f]? = some fn) (hh : (fn.body, fn.ntmps, (fn.name == "runtime.NumGoroutine"), Nat.ble args.length n) = (some c, n, false, true)) (hs : List (H Tryz.prog))
 (h : wE tt n c fn.results.toList args hs = some (us, as0, as0, ob)) (he : us = res := by exact rfl) (ho : Ge ob := by exact trivial) : yT Tryz.prog f args res := w tt hf hh hs h he ho
theorem Fh{n : Nat}{L : Sg}{B : List OB}{fn : Func}{res us : List TV}{it : List It}{as0 : List Qv}{ob : List Prop}(hs : List (H Tryz.prog))(h : enE tt n fn.results.toList it L B hs = some (us, as0, as0, ob))(he : us = res := by exact rfl)(ho : Ge ob := by exact trivial) : AK Tryz.prog n (RQ Tryz.prog fn n 0 λu B => u = res /\ B = []) it L B := en tt hs h he ho
theorem Fj{n : Nat}{L : Sg}{B : List OB}{fn : Func}{k : Nat}{res : List TV}{Bout : List OB}{it : List It}{as0 : List Qv}{ob : List Prop}(ps is : List Nat)(hs : List (H Tryz.prog))(h : edE tt n k fn.results.toList it L B hs res Bout ps is = some (as0, as0, ob))(ho : Ge ob := by exact trivial) : AK Tryz.prog n (RQ Tryz.prog fn n k λu B => u = res /\ B = Bout) it L B := ed tt ps is hs h ho
theorem Fl{n : Nat}{Q : Exit -> Sg -> List OB -> Prop}{L : Sg}{B : List OB}{S : Type}{c : Code}{r : List It}{L1 : Sg}(k : Nat)(st : Sg -> S -> Sg)(bs : S -> List OB)(μ : S -> Nat)(I : S -> Prop)(s0 : S)(h0 : I s0)(hL : prn (fK c []) L = some L1){as0 : List Qv}(hs : two (aS none L B (st L1 s0) (bs s0)) = some (as0, as0))
 (round : ∀s, I s -> AK Tryz.prog n Q (.code c :: .rnd (some k) (λL B => ∃s', μ s' < μ s /\ I s' /\ L = st L1 s' /\ B = bs s') :: r) (st L1 s) (bs s)) (hk : ∀s, I s -> (bs s).length = k := by exact λ_ _ => rfl) : AK Tryz.prog n Q (.code (.loop c) :: r) L B := lp k st bs μ I s0 h0 hL hk hs round
abbrev Fo(f : Nat)(a r : List TV) : Prop := yT Tryz.prog f a r
end Orr
namespace Orr
open Go Go.Proofs Tryz
set_option maxRecDepth 10000
def lm(l:Fv):Fz:=l.map λ(x:Nat)=>[.int .u32 (x:Int)]
abbrev lr(l:Fv):TV:=.one (.row (lm l))
theorem Gi(l:Fv):(lm l).length=l.length:=by simp[lm]
theorem Rj{l:Fv}{i x:Nat}(h:l[i]? = some x):(lm l)[i]? = some [.int .u32 (x:Int)]:=by simp[lm,h]
def uC:Fv->Fv
 | []=>[]
 |
  x::l=>match uC l with
  | []=>if x=0 then []else [x]
  |r=>x::r
theorem Qri{l:Fv}:uC l=[]↔∀x∈l,x=0:=by
 induction l with
 |nil=>simp[uC]
 |
  cons x l ih =>
  simp only[uC]
  split
  ·rename_i e;have h1:=ih.1 e;by_cases h:x=0
   ·simp[h];exact h1
   ·simp[h]
  ·rename_i r hne;simp only[reduceCtorEq,Qj,forall_eq_or_imp,false_iff,not_and];exact λ_ h=>hne (ih.2 h)
theorem TJ:∀{l:Fv} {n:Nat},n<=l.length->(∀j,n<=j->j<l.length->l[j]? = some 0)->(n=0\/∃x,l[n-1]? = some x/\x≠0)->l.take n=uC l
 | [],n,h,_,_=>by simp at h;subst h;rfl
 |
  x::l,0,h,hz,_=>by
  rw[Vy];refine(Qri.2 λy hy=>?_).symm;obtain⟨j,hj⟩:=Zp.1 hy;have:=hz j (Qh _) (Qd.1 hj).1;rw[hj]at this;injection this
 |
  x::l,n+1,h,hz,ht=>by
  simp only[Zf,Nat.add_le_add_iff_right]at h;have hz':∀j,n<=j->j<l.length->l[j]? = some 0:=λj h1 h2=>by simpa using hz (j+1) (by omega) (by simpa using h2)
  cases n with
  |
   zero =>
   have e:uC l=[]:=(TJ (n:=0) h hz' (.inl rfl)).symm;rcases ht with h|⟨y,h1,h2⟩
   ·omega
   ·simp at h1;subst h1;simp[uC,e,h2]
  |
   succ n =>
   have ih:=TJ (n:=n+1) h hz' (.inr (by rcases ht with h|⟨y,h1,h2⟩;(· omega);exact⟨y,by simpa using h1,h2⟩));simp only[K7,uC];rw[<-ih];cases hl:l with
   |nil=>rw[hl]at h;simp at h
   |cons y l'=>simp[K7]
theorem Qyl(l:Fv):Fo 372 [lr l] [lr (uC l)]:=by
 refine Sk func372 rfl (ln 0 rfl rfl λhl=>?_);rw[Gi]at hl;refine Ff [] rfl ?_;refine Fl (S:=Nat) 0 (λL1 n=>(3,.v (.oi n))::L1) (λ_=>[]) id (λn=>n<=l.length/\∀j,n<=j->j<l.length->l[j]? = some 0) (lm l).length ⟨by rw[Gi];exact Qn _,λj h1 h2=>by rw[Gi]at h1;omega⟩ rfl rfl λn ⟨h1,h2⟩=>?_
 cases n with
 |zero=>exact Fh [.f (by simp),.f rfl,.i 0] rfl (by rw[<-TJ h1 h2 (.inl rfl)];simp[lm]) (by simp[Ge,Sb])
 |
  succ n =>
  obtain⟨x,hx⟩:=gxE (l:=l) (i:=n) (by omega);by_cases h0:x=0
  ·refine go tt [.t (by simp),.r 11 (v:=.oi n) (by simp),.x (Rj hx),.t (by simp[h0]),.r 17 (v:=.oi n) (by simp)] rfl (by simp[Ge,Sb];omega) ?_;exact rd n (by simp) ⟨by omega,λj h3 h4=>by
    rcases V8 h3 with rfl|h3
    ·rw[hx,h0]
    ·exact h2 j h3 h4⟩ rfl
  ·exact Fh [.t (by simp),.r 11 (v:=.oi n) (by simp),.x (Rj hx),.f (by simp[h0]),.i (n+1)] rfl (by rw[<-TJ h1 h2 (.inr ⟨x,hx,h0⟩)];simp[lm]) (by simp[Ge,Sb,Gi] <;> omega)
def Sm(l:Fv):Prop:=∀x∈l,x<4294967296
theorem uD:∀l:Fv,Cut l (uC l).length/\l.take (uC l).length=uC l
 | []=>⟨⟨Qn _,λj _ h=>by simp at h,λh=>by simp[uC]at h⟩,rfl⟩
 |
  x::l=>by
  obtain⟨⟨h1,h2,h3⟩,h4⟩:=uD l;simp only[uC]
  split
  ·rename_i e;rw[e]at h2 h3;by_cases h:x=0
   ·rw[if_pos h];refine⟨⟨Qh _,λj _ hj=>?_,λh=>by simp at h⟩,rfl⟩;cases j with
    |zero=>simp[h]
    |succ j=>simpa using h2 j (Qh _) (by simpa using hj)
   ·rw[if_neg h];refine⟨⟨by simp,λj h5 hj=>?_,λ_=>⟨x,rfl,h⟩⟩,rfl⟩;cases j with
    |zero=>simp at h5
    |succ j=>simpa using h2 j (Qh _) (by simpa using hj)
  ·rename_i r hne;refine⟨⟨by simp[h1],λj h5 hj=>?_,λ_=>?_⟩,by simp[h4]⟩
   ·cases j with
    |zero=>simp at h5
    |succ j=>simpa using h2 j (by simpa using h5) (by simpa using hj)
   ·have hp:0<(uC l).length:=by
     cases e:uC l with
     |nil=>exact absurd e hne
     |cons=>simp
    obtain⟨y,h5,h6⟩:=h3 hp;refine⟨y,?_,h6⟩;rw[Zf,show(uC l).length+1-1=((uC l).length-1)+1 from by omega];simpa using h5
theorem yU{l:Fv}(h:Sm l):uC l=Hx (val l):=by
 obtain⟨h1,h2⟩:=uD l;refine Qjz ?_ ?_
 ·rw[<-h2];exact Qos h1 h
 ·rw[<-h2];exact Qot h1
theorem E9(x:Nat):Sm (Hx x):=(A9 x).1
theorem P8{x k:Nat}(h:sz x<=k):32*(Hx x).length<=k+31:=by
 have:=Qp4 (A9 x);rw[Rm]at this;omega
theorem WE{l:Fv}(h:Sm l):Fo 372 [lr l] [lr (Hx (val l))]:=yU h ▸ Qyl l
theorem Qj0(l:Fv):∀c∈lm l,c.length=1:=λc hc=>by
 obtain⟨x,_,rfl⟩:=Zd.1 hc;rfl
theorem SZ{l:Fv}(h:Sm l)(hs:sz (val l)<=4294967296):Fo 373 [lr l] [lr (Hx (val l))] :=
 Fi func373 rfl [.k (WE h),.s (Qj0 (Hx (val l)))] rfl rfl (by have:=P8 hs;simp[Ge,Sb,Gi];omega)
theorem SG{a:Fv}(ha:Sm a):∃p,Fo 372 [lr a] [lr p]/\fD p/\val p=val a/\p.length<=a.length/\p=Hx (val a) :=
 ⟨_,WE ha,A9 _,Rm _,by rw[<-yU ha];exact(uD a).1.1,rfl⟩
theorem Qgg{a b:Fv}(ha:Sm a)(hb:Sm b):Fo 386 [lr a,lr b] [.oi (JO (val a) (val b))]:=by
 refine Sk func386 rfl (ln 0 rfl rfl λhl=>ln 1 rfl rfl λhl'=>?_);rw[Gi]at hl hl';obtain⟨p,ca,np,vp,lp',_⟩:=SG ha;obtain⟨q,cb,nq,vq,lq,_⟩:=SG hb;rw[<-vp,<-vq];by_cases h:p.length=q.length
 ·refine go tt [.k ca,.k cb,.f (by simp[Gi,h])] rfl (by simp[Ge,Sb,Gi] <;> omega) ?_;refine Fl (S:=Int) 0 (λL1 i=>(5,.v (.oi i))::L1) (λ_=>[]) (λi=>(i+1).toNat) (λi=>-1<=i/\i<p.length/\p.drop (i+1).toNat=q.drop (i+1).toNat) (((lm p).length:Int)-1) ⟨by omega,by simp[Gi];omega,by simp[Gi,h]⟩ rfl rfl λi ⟨h1,h2,h3⟩=>?_
  rcases W4 i 0 with hi|hi
  ·obtain rfl:i=-1:=by omega
   exact Fh [.f (by decide)] rfl (by rw[Qac];exact congrArg val (by simpa using h3)) trivial
  ·obtain⟨k,rfl⟩:=Vi hi;have e:((k:Int)+1).toNat=k+1:=by omega
   rw[e]at h3;obtain⟨x,hx⟩:=gxE (l:=p) (i:=k) (by omega);obtain⟨y,hy⟩:=gxE (l:=q) (i:=k) (by omega);rcases J0 x y with hxy|rfl|hxy
   ·exact Fh [.t (by simp),.x (Rj hx),.x (Rj hy),.t (by simp;omega)] rfl (by rw[BI (Qc1 np.1 h3 hx hy hxy)]) (by simp[Ge,Sb,Gi] <;> omega)
   ·refine go tt [.t (by simp),.x (Rj hx),.x (Rj hy),.f (by simp),.x (Rj hx),.x (Rj hy),.f (by simp)] rfl (by simp[Ge,Sb,Gi] <;> omega) ?_;exact rd ((k:Int)-1) (by omega) ⟨by omega,by omega,by rw[show((k:Int)-1+1).toNat=k from by omega];exact Qd4 h3 hx hy⟩ rfl
   ·exact Fh [.t (by simp),.x (Rj hx),.x (Rj hy),.f (by simp;omega),.x (Rj hx),.x (Rj hy),.t (by simp;omega)] rfl (by rw[BA (Qc1 nq.1 h3.symm hy hx hxy)]) (by simp[Ge,Sb,Gi] <;> omega)
 ·by_cases h2:p.length<q.length
  ·exact Fh [.k ca,.k cb,.t (by simp[Gi];omega),.t (by simp[Gi];omega)] rfl (by rw[BI (Ew np nq h2)]) (by simp[Ge,Sb])
  ·exact Fh [.k ca,.k cb,.t (by simp[Gi];omega),.f (by simp[Gi];omega)] rfl (by rw[BA (Ew nq np (by omega))]) (by simp[Ge,Sb])
theorem FK(m:Nat):List.replicate m [LV.int .u32 0]=lm (List.replicate m 0):=by simp[lm]
theorem Ls(l:Fv)(i x:Nat):(lm l).set i [.int .u32 (x:Int)]=lm (l.set i x):=by simp[lm,V1]
theorem Eu{a b:Int}(h:a=b):TV.one (LV.int .u64 a)=.one (.int .u64 b):=h ▸ rfl
theorem Ar{a b:Int}(h:a=b):TV.one (LV.int .u32 a)=.one (.int .u32 b):=h ▸ rfl
theorem eI{a b:Int}(h:a=b):TV.one (LV.int .i64 a)=.oi b:=h ▸ rfl
theorem yF(z:Int):IntKind.u32.wrap z=z % 4294967296:=by simp[IntKind.wrap,IntKind.bits,IntKind.signed]
theorem w64(z:Int):IntKind.u64.wrap z=z % 18446744073709551616:=by simp[IntKind.wrap,IntKind.bits,IntKind.signed]
theorem Qr5{a b:Fv}(ha:Sm a)(hb:Sm b)(h1:sz (val a)<=4294967296)(h2:sz (val b)<=4294967296):Fo 388 [lr a,lr b] [lr (Hx (val a+val b))]:=by
 refine Sk func388 rfl ?_;obtain⟨p,ca,np,vp,_,ep⟩:=SG ha;obtain⟨q,cb,nq,vq,_,eq⟩:=SG hb;have lp':=P8 h1;have lq:=P8 h2;rw[<-ep]at lp';rw[<-eq]at lq;rw[<-vp,<-vq];refine Ff [.k ca,.k cb] rfl ?_;refine ct 1 (S:=Fv×Fv) (λs=>[(0,.v (lr s.1)),(1,.v (lr s.2))]) (λ_=>[]) (λs=>fD s.1/\fD s.2/\32*s.1.length<=4294967327/\s.2.length<=s.1.length/\val s.1+val s.2=val p+val q) rfl ?_ ?_
 ·by_cases h:p.length<q.length
  ·exact go tt [.t (by simp[Gi];omega)] rfl trivial (rc (q,p) ⟨nq,np,lq,Yn h,Yl _ _⟩ rfl)
  ·exact go tt [.f (by simp[Gi];omega)] rfl trivial (rc (p,q) ⟨np,nq,lp',Vl h,rfl⟩ rfl)
 ·intro⟨p',q'⟩ ⟨np,nq,hp,hq,e⟩;dsimp only at np nq hp hq e;rw[<-e];clear ca cb e vp vq ep eq;refine go tt [.i ((lm p').length+1),.i ((lm p').length+1)] rfl (by simp[Ge,Sb,Gi] <;> omega) ?_;rw[FK];refine lp (S:=Nat×Fv×Nat) 1 (λL1 s=>(27,.v (.oi (s.1:Int)))::(6,.v (.one (.int .u64 (s.2.2:Int))))::L1) (λs=>[.row false 222 1 (lm s.2.1)]) (λs=>p'.length-s.1)
   (λs=>s.1<=p'.length/\s.2.1.length=p'.length+1/\Sm s.2.1/\s.2.2<=1/\val (s.2.1.take s.1)+s.2.2*4294967296^s.1=val (p'.take s.1)+val (q'.take s.1)) (0,List.replicate ((lm p').length+1) 0,0)
   ⟨Qh _,by simp[Gi],λx hx=>by rw[Zz hx];decide,Qh _,by simp[val]⟩ rfl (λ_ _=>rfl) rfl λ⟨i,o,c⟩ ⟨j1,j2,j3,j4,j5⟩=>?_
  dsimp only at j1 j2 j3 j4 j5 ⊢;by_cases hi:i<p'.length
  ·obtain⟨x,hx⟩:=gxE (l:=p') (i:=i) hi;have xb:=np.1 x (Qa hx);have fin:∀y s,(q'[i]? = some y\/q'.length<=i/\y=0)->y<4294967296->s=x+c+y->p'.length-(i+1)<p'.length-i/\i+1<=p'.length/\(o.set i (s % 4294967296)).length=p'.length+1/\Sm (o.set i (s % 4294967296))/\s / 4294967296<=1 /\
    val ((o.set i (s % 4294967296)).take (i+1))+s / 4294967296*4294967296^(i+1)=val (p'.take (i+1))+val (q'.take (i+1)):=λy s hy hyb hs =>
    ⟨by omega,hi,by simp[j2],Dy j3 i _ (by omega),by omega,fL (by omega) hx hy j5 hs⟩
   by_cases hi2:i<q'.length
   ·obtain⟨y,hy⟩:=gxE (l:=q') (i:=i) hi2;have yb:=nq.1 y (Qa hy);refine go tt [.t (by simp[Gi];omega),.x (Rj hx),.t (by simp[Gi];omega),.x (Rj hy),.w 2,.r 50 (v:=.one (.int .u32 (((x+c+y) % 4294967296:Nat):Int))) (by simp[IntKind.wrap,IntKind.bits,IntKind.signed]),.i 32,.r 52 (v:=.one (.int .u64 (((x+c+y) / 4294967296:Nat):Int))) (by simp),.i i] rfl (by simp[Ge,Sb,Gi,IntKind.bits] <;> omega) ?_;rw[Ls];exact rd (i+1,o.set i ((x+c+y) % 4294967296),(x+c+y) / 4294967296) (fin y _ (.inl hy) yb rfl).1 (fin y _ (.inl hy) yb rfl).2 rfl
   ·refine go tt [.t (by simp[Gi];omega),.x (Rj hx),.f (by simp[Gi];omega),.w 0,.r 50 (v:=.one (.int .u32 (((x+c+0) % 4294967296:Nat):Int))) (by simp[IntKind.wrap,IntKind.bits,IntKind.signed]),.i 32,.r 52 (v:=.one (.int .u64 (((x+c+0) / 4294967296:Nat):Int))) (by simp),.i i] rfl (by simp[Ge,Sb,Gi,IntKind.bits] <;> omega) ?_;rw[Ls];exact rd (i+1,o.set i ((x+c+0) % 4294967296),(x+c+0) / 4294967296) (fin 0 _ (.inr ⟨by omega,rfl⟩) (by decide) rfl).1 (fin 0 _ (.inr ⟨by omega,rfl⟩) (by decide) rfl).2 rfl
  ·obtain rfl:i=p'.length:=by omega
   refine go tt [.f (by simp[Gi]),.w 0,.r 59 (v:=.one (.int .u32 (c:Int))) (by simp[IntKind.wrap,IntKind.bits,IntKind.signed];omega),.i (lm p').length] rfl (by simp[Ge,Sb,Gi,j2]) ?_;rw[Gi,Ls];have e:val (o.set p'.length c)=val p'+val q':=by
    have h1:=JH o p'.length c (by omega);rw[Qp (by simp;omega)]at h1;rw[Qp (Qn _),Qp hq]at j5;rw[h1,<-j5,Zo]
   rw[<-e];exact Fh [.k (WE (Dy j3 _ c (by omega)))] rfl
theorem rP{x y:Nat}:JO x y<0↔x<y:=by unfold JO;split <;> (try split) <;> omega
theorem Qr8{a b:Fv}(ha:Sm a)(hb:Sm b)(h1:sz (val a)<=4294967296):Fo 389 [lr a,lr b] (if val b<=val a then [lr (Hx (val a-val b)),.one (.bool true)]else [lr [],.one (.bool false)]):=by
 refine Sk func389 rfl ?_;obtain⟨p,ca,np,vp,_,ep⟩:=SG ha;obtain⟨q,cb,nq,vq,_,_⟩:=SG hb;have hp:=P8 h1;rw[<-ep]at hp;rw[<-vp,<-vq];have cc:=Qgg np.1 nq.1;by_cases hlt:val p<val q
 ·rw[if_neg (by omega)];exact Fh [.k ca,.k cb,.k cc,.t (by simpa using rP.2 hlt)] rfl
 rw[if_pos (by omega)];have hq:q.length<=p.length:=Vl λh=>hlt (Ew np nq h)
 refine go tt [.k ca,.k cb,.k cc,.f (by have:=mt rP.1 hlt;simpa using this),.i (lm p).length,.i (lm p).length] rfl (by simp[Ge,Sb,Gi] <;> omega) ?_;rw[FK];refine lp (S:=Nat×Fv×Nat) 1 (λL1 s=>(24,.v (.oi (s.1:Int)))::(7,.v (.one (.int .u64 (s.2.2:Int))))::L1) (λs=>[.row false 222 1 (lm s.2.1)]) (λs=>p.length-s.1)
  (λs=>s.1<=p.length/\s.2.1.length=p.length/\Sm s.2.1/\s.2.2<=1/\val (s.2.1.take s.1)+val (q.take s.1)=val (p.take s.1)+s.2.2*4294967296^s.1) (0,List.replicate (lm p).length 0,0)
  ⟨Qh _,by simp[Gi],λx hx=>by rw[Zz hx];decide,Qh _,by simp[val]⟩ rfl (λ_ _=>rfl) rfl λ⟨i,o,c⟩ ⟨j1,j2,j3,j4,j5⟩=>?_
 dsimp only at j1 j2 j3 j4 j5 ⊢;by_cases hi:i<p.length
 ·obtain⟨x,hx⟩:=gxE (l:=p) (i:=i) hi;have xb:=np.1 x (Qa hx);have fin:∀y s,(q[i]? = some y\/q.length<=i/\y=0)->y<4294967296->s=(x+18446744073709551616-c-y) % 18446744073709551616->p.length-(i+1)<p.length-i/\i+1<=p.length/\(o.set i (s % 4294967296)).length=p.length/\Sm (o.set i (s % 4294967296))/\s / 9223372036854775808<=1 /\
   val ((o.set i (s % 4294967296)).take (i+1))+val (q.take (i+1))=val (p.take (i+1))+s / 9223372036854775808*4294967296^(i+1):=λy s hy hyb hs=>by
   obtain⟨h1,h2⟩:=Qml (o:=o) (by omega) hx hy xb hyb j4 j5 hs;exact⟨by omega,hi,by simp[j2],Dy j3 i _ (by omega),h2,h1⟩
  by_cases hi2:i<q.length
  ·obtain⟨y,hy⟩:=gxE (l:=q) (i:=i) hi2;have yb:=nq.1 y (Qa hy);obtain⟨s,hs⟩:=nmE ((x+18446744073709551616-c-y) % 18446744073709551616);refine go tt [.t (by simp[Gi];omega),.x (Rj hx),.w 1,.r 32 (Eu (b:=(((x+18446744073709551616-c) % 18446744073709551616:Nat):Int)) (by rw[w64];omega)),.t (by simp[Gi];omega),.x (Rj hy),.w 1,.r 43 (Eu (b:=(s:Int)) (by rw[w64];omega)),.w 0,.r 47 (Ar (b:=((s % 4294967296:Nat):Int)) (by rw[yF];omega)),.i 63,.r 49 (Eu (b:=((s / 9223372036854775808:Nat):Int)) (by simp)),.i i] rfl (by simp[Ge,Sb,Gi,IntKind.bits] <;> omega) ?_;rw[Ls];exact rd (i+1,o.set i (s % 4294967296),s / 9223372036854775808) (fin y _ (.inl hy) yb hs).1 (fin y _ (.inl hy) yb hs).2 rfl
  ·obtain⟨s,hs⟩:=nmE ((x+18446744073709551616-c-0) % 18446744073709551616);have hf:=fin 0 _ (.inr ⟨by omega,rfl⟩) (by decide) hs;refine go tt [.t (by simp[Gi];omega),.x (Rj hx),.w 1,.r 32 (Eu (b:=(s:Int)) (by rw[w64];omega)),.f (by simp[Gi];omega),.w 0,.r 47 (Ar (b:=((s % 4294967296:Nat):Int)) (by rw[yF];omega)),.i 63,.r 49 (Eu (b:=((s / 9223372036854775808:Nat):Int)) (by simp)),.i i] rfl (by simp[Ge,Sb,Gi,IntKind.bits] <;> omega) ?_;rw[Ls];exact rd (i+1,o.set i (s % 4294967296),s / 9223372036854775808) hf.1 hf.2 rfl
 ·obtain rfl:i=p.length:=by omega
  have e:val o=val p-val q:=by
   rw[Qp (Nat.le_of_eq j2),Qp hq,Qp (Qn _)]at j5;have h1:=Ai o j3;rw[j2]at h1;rcases Nat.le_one_iff_eq_zero_or_eq_one.1 j4 with rfl|rfl <;> omega
  rw[<-e];exact Fh [.f (by simp[Gi]),.k (WE j3)] rfl
theorem Qw0{a b:Fv}(ha:Sm a)(hb:Sm b)(h1:sz (val a)<=4294967296)(h2:sz (val b)<=4294967296):Fo 296 [lr a,lr b] [lr (Hx (val a*val b))]:=by
 refine Sk func296 rfl ?_;obtain⟨p,ca,np,vp,_,ep⟩:=SG ha;obtain⟨q,cb,nq,vq,_,eq⟩:=SG hb;have hp:=P8 h1;have hq:=P8 h2;rw[<-ep]at hp;rw[<-eq]at hq;rw[<-vp,<-vq];refine go tt [.k ca,.k cb,.i ((lm p).length+(lm q).length),.i ((lm p).length+(lm q).length)] rfl (by simp[Ge,Sb,Gi] <;> omega) ?_;rw[FK];refine lp (S:=Nat×Fv) 1 (λL1 s=>(24,.v (.oi (s.1:Int)))::L1) (λs=>[.row false 222 1 (lm s.2)]) (λs=>p.length-s.1)
  (λs=>s.1<=p.length/\s.2.length=p.length+q.length/\Sm s.2/\(∀j,s.1+q.length<=j->j<s.2.length->s.2[j]? = some 0)/\val s.2=val (p.take s.1)*val q) (0,List.replicate ((lm p).length+(lm q).length) 0)
  ⟨Qh _,by simp[Gi],λx hx=>by rw[Zz hx];decide,λj _ hj=>by rw[Yu,if_pos (by simpa using hj)],by simp[val,MS]⟩ rfl (λ_ _=>rfl) rfl λ⟨i,o⟩ ⟨j1,j2,j3,j4,j5⟩=>?_
 dsimp only at j1 j2 j3 j4 j5 ⊢;by_cases hi:i<p.length
 ·obtain⟨x,hx⟩:=gxE (l:=p) (i:=i) hi;have xb:=np.1 x (Qa hx);refine Ff [.t (by simp[Gi];omega),.x (Rj hx)] rfl ?_;refine lp (S:=Nat×Fv×Nat) 1 (λL1 s=>(31,.v (.oi (s.1:Int)))::(8,.v (.one (.int .u64 (s.2.2:Int))))::L1) (λs=>[.row false 222 1 (lm s.2.1)]) (λs=>q.length-s.1)
   (λs=>s.1<=q.length/\s.2.1.length=p.length+q.length/\Sm s.2.1/\(∀j,i+q.length<=j->j<s.2.1.length->s.2.1[j]? = some 0)/\s.2.2<4294967296/\val s.2.1+s.2.2*4294967296^(i+s.1)=val (p.take i)*val q+4294967296^i*x*val (q.take s.1)) (0,o,0)
   ⟨Qh _,j2,j3,j4,by simp,by simp[val,j5]⟩ rfl (λ_ _=>rfl) rfl λ⟨k,o',c⟩ ⟨k1,k2,k3,k4,k5,k6⟩=>?_
  dsimp only at k1 k2 k3 k4 k5 k6 ⊢;by_cases hk:k<q.length
  ·obtain⟨y,hy⟩:=gxE (l:=q) (i:=k) hk;have yb:=nq.1 y (Qa hy);obtain⟨z,hz⟩:=gxE (l:=o') (i:=i+k) (by omega);have zb:=k3 z (Qa hz);have hm:=VW xb yb;have hm2:(x:Int)*(y:Int)=((x*y:Nat):Int):=by push_cast;rfl
   obtain⟨s,hs⟩:=nmE (x*y+z+c);refine go tt [.t (by simp[Gi];omega),.x (Rj hy),.r 40 (Eu (b:=((x*y:Nat):Int)) (by push_cast;rfl)),.i (i+k),.x (Rj hz),.r 50 (Eu (b:=(s:Int)) (by omega)),.w 1,.r 56 (Ar (b:=((s % 4294967296:Nat):Int)) (by rw[yF];omega)),.i 32,.r 58 (Eu (b:=((s / 4294967296:Nat):Int)) (by simp)),.i (i+k)] rfl ?_ ?_
   ·simp[Ge,Sb,Gi,IntKind.bits] <;> omega
   ·rw[Ls];exact rd (k+1,o'.set (i+k) (s % 4294967296),s / 4294967296) (show q.length-(k+1)<q.length-k by omega) ⟨hk,by simp[k2],Dy k3 _ _ (by omega),λj h3 h4=>by
     rw[Yq (by omega)];exact k4 j h3 (by simpa using h4),(show s / 4294967296<4294967296 from by omega),Qka hz hy k6 hs⟩ rfl
  ·obtain rfl:k=q.length:=by omega
   by_cases hq0:0<q.length
   ·refine go tt [.f (by simp[Gi]),.t (by simp[Gi];omega),.w 1,.r 70 (Ar (b:=((c % 4294967296:Nat):Int)) (by rw[yF];omega)),.i (i+(lm q).length)] rfl (by simp[Ge,Sb,Gi,IntKind.bits] <;> omega) ?_;rw[Ls];refine rd (i+1,o'.set (i+(lm q).length) (c % 4294967296)) (show p.length-(i+1)<p.length-i by omega) ⟨hi,by simp[k2],Dy k3 _ _ (by omega),λj h3 h4=>?_,?_⟩ rfl
    ·rw[Gi,List.getElem?_set_ne (by dsimp only at h3;omega)];exact k4 j (by dsimp only at h3;omega) (by simpa using h4)
    ·rw[Gi];exact Qj9 (k4 _ (Qn _) (by omega)) hx k5 rfl k6
   ·have q0:q=[]:=Qf (by omega);refine go tt [.f (by simp[Gi]),.f (by simp[Gi,q0])] rfl (by simp[Ge,Sb,Gi,IntKind.bits] <;> omega) ?_;refine rd (i+1,o') (show p.length-(i+1)<p.length-i by omega) ⟨hi,k2,k3,λj h3 h4=>k4 j (by dsimp only at h3;omega) h4,?_⟩ rfl;have c0:c*4294967296^(i+q.length)=0/\val o'=0:=by
     subst q0;simp only[val,List.take_nil,Vo]at k6;omega
    rw[c0.2,q0];rfl
 ·obtain rfl:i=p.length:=by omega
  rw[Qp (Qn _)]at j5;rw[<-j5];exact Fh [.f (by simp[Gi]),.k (WE j3)] rfl
theorem o64{k q:Nat}(hq:q<4294967296)(hb:4294967296*k+q<18446744073709551616):orI .u64 ((4294967296*k:Nat):Int) (q:Int)=((4294967296*k+q:Nat):Int):=by
 have e1:(BitVec.ofInt 64 ((4294967296*k:Nat):Int)).toNat=4294967296*k:=by rw[BitVec.toNat_ofInt];omega
 have e2:(BitVec.ofInt 64 (q:Int)).toNat=q:=by rw[BitVec.toNat_ofInt];omega
 show IntKind.u64.wrap ((BitVec.ofInt 64 ((4294967296*k:Nat):Int) ||| BitVec.ofInt 64 (q:Int)).toNat:Int)=_;rw[BitVec.toNat_or,e1,e2,Qvb hq,w64];omega
theorem oM{k p:Nat}(hp:p<4294967296)(hb:4294967296*k+p<18446744073709551616):orI .u64 (p:Int) ((4294967296*k:Nat):Int)=((4294967296*k+p:Nat):Int):=by
 have:=o64 hp hb;unfold orI at this ⊢;rw[BitVec.or_comm];exact this
theorem o32{s k p:Nat}(hp:p<2^s)(h1:p<4294967296)(h2:2^s*k<4294967296)(hb:p+2^s*k<4294967296):orI .u32 (p:Int) ((2^s*k:Nat):Int)=((p+2^s*k:Nat):Int):=by
 have e1:(BitVec.ofInt 32 ((2^s*k:Nat):Int)).toNat=2^s*k:=by rw[BitVec.toNat_ofInt];omega
 have e2:(BitVec.ofInt 32 (p:Int)).toNat=p:=by rw[BitVec.toNat_ofInt];omega
 have e3:p ||| 2^s*k=p+2^s*k:=by
  have:=Uo (i:=s) (b:=p) hp k;rw[Nat.or_comm,<-this,Yl]
 show IntKind.u32.wrap ((BitVec.ofInt 32 (p:Int) ||| BitVec.ofInt 32 ((2^s*k:Nat):Int)).toNat:Int)=_;rw[BitVec.toNat_or,e1,e2,e3,yF];omega
theorem Qw8{l:Fv}{v:Nat}(hl:Sm l)(hn:l.length<274877906944)(h0:0<v)(hv:v<4294967296):Fo 403 [lr l,.one (.int .u32 (v:Int))] [lr (Hx (val l / v)),.one (.int .u32 ((val l % v:Nat):Int))]:=by
 refine Sk func403 rfl ?_;refine go tt [.i (lm l).length,.i (lm l).length] rfl (by simp[Ge,Sb,Gi] <;> omega) ?_;rw[FK];refine lp (S:=Int×Fv×Nat) 1 (λL1 s=>(8,.v (.oi s.1))::(7,.v (.one (.int .u64 (s.2.2:Int))))::L1) (λs=>[.row false 222 1 (lm s.2.1)]) (λs=>(s.1+1).toNat)
  (λs=>-1<=s.1/\s.1<l.length/\s.2.1.length=l.length/\Sm s.2.1/\s.2.2<v/\val (l.drop (s.1+1).toNat)=v*val (s.2.1.drop (s.1+1).toNat)+s.2.2) (((lm l).length:Int)-1,List.replicate (lm l).length 0,0)
  ⟨by simp[Gi];omega,by simp[Gi];omega,by simp[Gi],λx hx=>by rw[Zz hx];decide,h0,by simp[Gi,val]⟩ rfl (λ_ _=>rfl) rfl λ⟨i,o,r⟩ ⟨j1,j2,j3,j4,j5,j6⟩=>?_
 dsimp only at j1 j2 j3 j4 j5 j6 ⊢;rcases W4 i 0 with hi|hi
 ·obtain rfl:i=-1:=by omega
  simp only[show((-1:Int)+1).toNat=0 from rfl,Je]at j6;have e1:val l / v=val o:=by rw[j6,U7 h0,Kt j5,Jh]
  have e2:val l % v=r:=by rw[j6,U8,Xf j5]
  rw[e1,e2];exact Fh [.f (by decide),.k (WE j4)] rfl rfl (by simp[Ge,Sb,Gi,IntKind.bits] <;> omega)
 ·obtain⟨k,rfl⟩:=Vi hi;have e:((k:Int)+1).toNat=k+1:=by omega
  rw[e]at j6;obtain⟨x,hx⟩:=gxE (l:=l) (i:=k) (by omega);have xb:=hl x (Qa hx);obtain⟨s,hs⟩:=nmE (r*4294967296+x);obtain⟨k1,k2,k3⟩:=Qkf hx xb (show k<o.length by omega) h0 j5 j6 hs;obtain⟨q,hq⟩:=nmE (s / v);obtain⟨u,hu⟩:=nmE (s % v);have hqi:(s:Int).tdiv v=(q:Int):=by rw[Kv (by omega),hq];rfl
  have hui:(s:Int).tmod v=(u:Int):=by rw[Vs (by omega),hu];rfl
  rw[<-hq,<-hu]at k3;rw[<-hq]at k1;rw[<-hu]at k2;refine go tt [.t (by simp),.i 32,.r 21 (Eu (b:=((4294967296*r:Nat):Int)) (by omega)),.x (Rj hx),.r 27 (Eu (b:=(s:Int)) (by rw[o64 xb (by omega)];omega)),
   .r 33 (Eu (b:=(q:Int)) hqi),.w 0,.r 34 (Ar (b:=((q % 4294967296:Nat):Int)) (by rw[yF];omega)),.r 38 (Eu (b:=(u:Int)) hui),.i k] rfl (by simp[Ge,Sb,Gi,IntKind.bits,hqi] <;> omega) ?_
  rw[Ls];exact rd ((k:Int)-1,o.set k (q % 4294967296),u) (by dsimp only;omega) ⟨by dsimp only;omega,by dsimp only;omega,by simp[j3],Dy j4 _ _ (by omega),k2,by dsimp only;rw[show((k:Int)-1+1).toNat=k from by omega];exact k3⟩ rfl
theorem GX{i:Nat}{s:ByteArray}(h:∀i,i<256->(s[i]?).map (·.toNat)=some (sz i))(hi:i<256):(s[i]?).map (·.toNat)=some (sz i):=h i hi
set_option maxRecDepth 100000 in
theorem iS{x:Nat}(hx:x<4294967296):Fo 397 [.one (.int .u32 (x:Int))] [.oi (sz x:Int)]:=by
 refine Sk func397 rfl ?_;have h31:sz x<=32:=La.2 (by omega);by_cases h1:65536<=x
 ·have e1:sz x=16+sz (x / 2^16):=RO (by omega);obtain⟨y,hy⟩:=nmE (x / 2^16);rw[<-hy]at e1;by_cases h2:256<=y
  ·have e2:sz y=8+sz (y / 2^8):=RO (by omega);obtain⟨z,hz⟩:=nmE (y / 2^8);rw[<-hz]at e2;exact Fh [.t (by simp;omega),.i 16,.r 6 (Ar (b:=(y:Int)) (by simp[hy])),.t (by simp;omega),.i 8,.r 10 (Ar (b:=(z:Int)) (by simp[hz])),.y (GX (i:=z) (by decide) (by omega))] rfl (by rw[e1,e2];simp;omega) (by simp[Ge,Sb,IntKind.bits] <;> omega)
  ·exact Fh [.t (by simp;omega),.i 16,.r 6 (Ar (b:=(y:Int)) (by simp[hy])),.f (by simp;omega),.y (GX (i:=y) (by decide) (by omega))] rfl (by rw[e1];simp) (by simp[Ge,Sb,IntKind.bits] <;> omega)
 ·by_cases h2:256<=x
  ·have e2:sz x=8+sz (x / 2^8):=RO (by omega);obtain⟨z,hz⟩:=nmE (x / 2^8);rw[<-hz]at e2;exact Fh [.f (by simp;omega),.t (by simp;omega),.i 8,.r 10 (Ar (b:=(z:Int)) (by simp[hz])),.y (GX (i:=z) (by decide) (by omega))] rfl (by rw[e2];simp) (by simp[Ge,Sb,IntKind.bits] <;> omega)
  ·exact Fh [.f (by simp;omega),.f (by simp;omega),.y (GX (i:=x) (by decide) (by omega))] rfl (by simp) (by simp[Ge,Sb,IntKind.bits] <;> omega)
theorem Qto{x:Nat}(hx:x<4294967296):Fo 404 [.one (.int .u32 (x:Int))] [.oi ((32-sz x:Nat):Int)]:=by
 have h31:sz x<=32:=La.2 (by omega);exact Fi func404 rfl [.k (iS hx)] rfl (by simp;omega) (by simp[Ge,Sb] <;> omega)
theorem bK{l:Fv}(hl:Sm l)(hs:sz (val l)<=4294967296):Fo 368 [lr l] [.oi (sz (val l):Int)]:=by
 refine Sk func368 rfl ?_;obtain⟨p,ca,np,vp,_,ep⟩:=SG hl;have hp:=P8 hs;rw[<-ep]at hp;rw[<-vp]at hs ⊢;by_cases h0:p=[]
 ·subst h0;exact Fh [.k ca,.t (by simp[lm])] rfl rfl (by simp[Ge,Sb])
 ·have Ee:0<p.length:=Yx.2 h0;obtain⟨x,hx,hx0⟩:=np.2 h0;have xb:=np.1 x (Qa hx);have e:=aN np hx;have h31:sz x<=32:=La.2 (by omega);have hn:(lm p).length≠0:=by rw[Gi];omega
  refine Fh [.k ca,.f (by simp[Gi];omega),.r 15 (eI (b:=((p.length-1:Nat):Int)) (by rw[Gi];omega)),.x (Rj hx),.k (iS xb)] rfl (by rw[e,Gi];simp;omega) (by simp[Ge,Sb,Gi] <;> omega)
theorem mZ{s:Nat}(h:s<=31):((s:Nat):Int).tdiv 32=((0:Nat):Int):=by
 rw[Kv (by omega)];omega
theorem Qlg{s:Nat}(h:s<=31):((s:Nat):Int).tmod 32=(s:Int):=Int.tmod_eq_of_lt (by omega) (by omega)
theorem Qu4{s:Nat}(h:s<=31):max 0 (min (s:Int) 65536)=(s:Int):=by omega
theorem Qw4{a:Fv}{s:Nat}(ha:Sm a)(h1:sz (val a)<=4294967400)(hs:s<=31):Fo 413 [lr a,.oi s] [lr (Hx (val a*2^s))]:=by
 refine Sk func413 rfl ?_;obtain⟨p,ca,np,vp,_,ep⟩:=SG ha;have hp:=P8 h1;rw[<-ep]at hp;rw[<-vp];have hq:((s:Nat):Int).tdiv 32=0:=mZ hs;by_cases h0:p=[]
 ·subst h0;exact Fh [.k ca,.t (by simp[lm])] rfl (by simp[val,Tp,lm]) (by simp[Ge,Sb])
 have Ee:0<p.length:=Yx.2 h0;refine go tt [.k ca,.r 15 (eI (b:=(s:Int)) (Qu4 hs)),.f (by simp[Gi];omega),.r 20 (eI (b:=((0:Nat):Int)) (mZ hs)),.r 22 (eI (b:=(s:Int)) (Qlg hs)),.r 28 (eI (b:=(((lm p).length+1:Nat):Int)) (by omega)),.i ((lm p).length+1),.i ((lm p).length+1)] rfl (by have e:=Gi p;simp only[Ge,Sb];omega) ?_;rw[FK];refine lp (S:=Nat×Fv) 1 (λL1 s=>(32,.v (.oi (s.1:Int)))::L1) (λs=>[.row false 222 1 (lm s.2)]) (λs=>p.length-s.1)
  (λr=>r.1<=p.length/\r.2.length=p.length+1/\Sm r.2/\(∃z,r.2[r.1]? = some z/\z<2^s)/\val (r.2.take (r.1+1))=val (p.take r.1)*2^s) (0,List.replicate ((lm p).length+1) 0)
  ⟨Qh _,by simp[Gi],λx hx=>by rw[Zz hx];decide,⟨0,by simp,Zy (by decide)⟩,by simp[val,Yh]⟩ rfl (λ_ _=>rfl) rfl λ⟨i,o⟩ ⟨j1,j2,j3,⟨z,hz,hzs⟩,j5⟩=>?_
 dsimp only at j1 j2 j3 hz hzs j5 ⊢;by_cases hi:i<p.length
 ·obtain⟨x,hx⟩:=gxE (l:=p) (i:=i) hi;have xb:=np.1 x (Qa hx);have zb:=j3 z (Qa hz);obtain⟨k1,k2,k3,k4⟩:=Ql6 hs hx xb hz hzs (by omega) j5;have hxs:=Qvs hs xb;have h31:2^s<=2^31:=Zs (by decide) hs;have ec:(x:Int)*2^s=((x*2^s:Nat):Int):=by push_cast;rfl
  obtain⟨m,hm⟩:=nmE (x*2^s);rw[<-hm]at k1 k2 k3 k4 hxs ec;refine go tt [.t (by simp[Gi];omega),.x (Rj hx),.i s,.r 40 (Eu (b:=(m:Int)) ec),.i i,.x (Rj hz),.w 0,.r 52 (Ar (b:=((m % 4294967296:Nat):Int)) (by rw[yF];omega)),.r 53 (Ar (b:=((z+m % 4294967296:Nat):Int)) (by rw[k4,o32 hzs zb (by omega) (by omega)])),.i i,
   .i 32,.r 61 (Eu (b:=((m / 2^32:Nat):Int)) (by simp)),.w 0,.r 62 (Ar (b:=((m / 2^32 % 4294967296:Nat):Int)) (by rw[yF];omega)),.i (i+1)] rfl (by simp[Ge,Sb,Gi,IntKind.bits,ec] <;> omega) ?_
  rw[Ls,Ls];exact rd (i+1,(o.set i (z+m % 4294967296)).set (i+1) (m / 2^32 % 4294967296)) (show p.length-(i+1)<p.length-i by omega) ⟨hi,by simp[j2],Dy (Dy j3 _ _ (by omega)) _ _ (by omega),⟨_,by rw[Jq (by simp;omega)],by omega⟩,k3⟩ rfl
 ·obtain rfl:i=p.length:=by omega
  rw[Qp (by omega),Qp (Qn _)]at j5;rw[<-j5];exact Fh [.f (by simp[Gi]),.k (WE j3)] rfl
theorem Qw5{a:Fv}{s:Nat}(ha:Sm a)(h1:sz (val a)<=4294967400)(hs:s<=31):Fo 407 [lr a,.oi s] [lr (Hx (val a / 2^s))]:=by
 refine Sk func407 rfl ?_;obtain⟨p,ca,np,vp,_,ep⟩:=SG ha;have hp:=P8 h1;rw[<-ep]at hp;rw[<-vp];have hq:((s:Nat):Int).tdiv 32=0:=mZ hs;by_cases h0:p=[]
 ·subst h0;exact Fh [.k ca,.r 14 (eI (b:=(s:Int)) (Qu4 hs)),.r 16 (eI (b:=((0:Nat):Int)) (mZ hs)),.r 18 (eI (b:=(s:Int)) (Qlg hs)),.t (by simp[lm])] rfl (by simp[val,Tp,lm]) (by simp only[Ge,Sb];omega)
 have Ee:0<p.length:=Yx.2 h0;refine go tt [.k ca,.r 14 (eI (b:=(s:Int)) (Qu4 hs)),.r 16 (eI (b:=((0:Nat):Int)) (mZ hs)),.r 18 (eI (b:=(s:Int)) (Qlg hs)),.f (by simp[Gi];omega),.r 27 (eI (b:=((lm p).length:Int)) (by omega)),.i (lm p).length,.i (lm p).length] rfl (by have e:=Gi p;simp only[Ge,Sb];omega) ?_;rw[FK];refine lp (S:=Nat×Fv) 1 (λL1 s=>(31,.v (.oi (s.1:Int)))::L1) (λs=>[.row false 222 1 (lm s.2)]) (λs=>p.length-s.1)
  (λr=>r.1<=p.length/\r.2.length=p.length/\Sm r.2/\val (r.2.take r.1)=val p / 2^s % 4294967296^r.1) (0,List.replicate (lm p).length 0)
  ⟨Qh _,by simp[Gi],λx hx=>by rw[Zz hx];decide,by simp[val];omega⟩ rfl (λ_ _=>rfl) rfl λ⟨i,o⟩ ⟨j1,j2,j3,j5⟩=>?_
 dsimp only at j1 j2 j3 j5 ⊢;by_cases hi:i<p.length
 ·obtain⟨x,hx⟩:=gxE (l:=p) (i:=i) hi;have xb:=np.1 x (Qa hx);have fin:∀y m,(p[i+1]? = some y\/p.length<=i+1/\y=0)->m=(x+y*2^32) / 2^s->p.length-(i+1)<p.length-i/\i+1<=p.length/\(o.set i (m % 4294967296)).length=p.length/\Sm (o.set i (m % 4294967296))/\val ((o.set i (m % 4294967296)).take (i+1))=val p / 2^s % 4294967296^(i+1):=λy m hy hm =>
   ⟨by omega,hi,by simp[j2],Dy j3 _ _ (by omega),by subst hm;exact Ql7 hs hx hy (by omega) np.1 j5⟩
  have hsp:0<2^s:=Zy (by decide);by_cases hy0:i+1<p.length
  ·obtain⟨y,hy⟩:=gxE (l:=p) (i:=i+1) hy0;have yb:=np.1 y (Qa hy);obtain⟨v,hv⟩:=nmE (4294967296*y+x);obtain⟨m,hm⟩:=nmE (v / 2^s);have hml:m<=v:=hm ▸ Yv _ _;have hf:=fin y m (.inl hy) (by rw[hm,hv];congr 1;omega);refine go tt [.t (by simp[Gi];omega),.x (Rj hx),.t (by simp[Gi];omega),.x (Rj hy),.i 32,.r 57 (Eu (b:=((4294967296*y:Nat):Int)) (by omega)),.r 58 (Eu (b:=(v:Int)) (by rw[oM xb (by omega)];omega)),
    .i s,.r 63 (Eu (b:=(m:Int)) (by rw[hm];push_cast;rfl)),.w 0,.r 64 (Ar (b:=((m % 4294967296:Nat):Int)) (by rw[yF];omega)),.i i] rfl (by simp[Ge,Sb,Gi,IntKind.bits] <;> omega) ?_
   rw[Ls];exact rd (i+1,o.set i (m % 4294967296)) hf.1 hf.2 rfl
  ·obtain⟨m,hm⟩:=nmE (x / 2^s);have hml:m<=x:=hm ▸ Yv _ _;have hf:=fin 0 m (.inr ⟨by omega,rfl⟩) (by rw[hm];simp);refine go tt [.t (by simp[Gi];omega),.x (Rj hx),.f (by simp[Gi];omega),
    .i s,.r 63 (Eu (b:=(m:Int)) (by rw[hm];push_cast;rfl)),.w 0,.r 64 (Ar (b:=((m % 4294967296:Nat):Int)) (by rw[yF];omega)),.i i] rfl (by simp[Ge,Sb,Gi,IntKind.bits] <;> omega) ?_
   rw[Ls];exact rd (i+1,o.set i (m % 4294967296)) hf.1 hf.2 rfl
 ·obtain rfl:i=p.length:=by omega
  have hvl:=Ai p np.1;rw[Qp (by omega),Xf (Xj (Yv _ _) hvl)]at j5;rw[<-j5];exact Fh [.f (by simp[Gi,j2]),.k (WE j3)] rfl
def tY:Nat->Nat->Fv
 | 0,_=>[]
 |k+1,v=>v % 4294967296::tY k (v / 4294967296)
theorem Qib:∀{l:Fv},Sm l->l=tY l.length (val l)
 | [],_=>rfl
 |
  x::l,h=>by
  have hx:=h x (.head _);have ih:=Qib (l:=l) λy hy=>h y (.tail _ hy)
  simp only[Zf,tY,val];rw[show(x+4294967296*val l) % 4294967296=x by omega,show(x+4294967296*val l) / 4294967296=val l by omega,<-ih]
theorem cB{l:Fv}{k v:Nat}(h:Sm l)(hk:l.length=k)(hv:val l=v):tY k v=l:=by
 rw[<-hk,<-hv];exact(Qib h).symm
theorem vR:∀{k v:Nat},(tY k v).length=k/\Sm (tY k v)/\(v<4294967296^k->val (tY k v)=v)
 | 0,v=>⟨rfl,λx hx=>by(cases hx),λh=>by simp at h;subst h;rfl⟩
 |
  k+1,v=>by
  obtain⟨h1,h2,h3⟩:=vR (k:=k) (v:=v / 4294967296);refine⟨by simp[tY,h1],λx hx=>?_,λh=>?_⟩
  ·rcases Qj.1 hx with rfl|hx
   ·exact Xp _ (by decide)
   ·exact h2 x hx
  ·simp only[tY,val];rw[h3 (by rw[Zq]at h;exact Jw (by rw[Zo];exact h))];omega
theorem Qhv{a:Fv}{s n:Nat}(ha:Sm a)(h1:sz (val a)<=4294967400)(hs:s<=31)(hn:n<274877906944)(h0:0<n)(hv:val a*2^s<4294967296^n) :
 Cf prog 405 [lr a,.oi s,.oi n] [] [.one (.orow 0 1 none)] [.row false 222 1 (lm (tY n (val a*2^s)))]:=by
 refine Sk func405 rfl ?_;obtain⟨v,hvv⟩:=nmE (val a*2^s);have cs:=Qw4 ha h1 hs;rw[<-hvv]at cs hv ⊢;have hl:(Hx v).length<=n:=by
  apply Classical.byContradiction;intro hh;have h2:=HL (A9 v) (λe=>by rw[e]at hh;simp at hh);rw[Rm]at h2;have h3:4294967296^n<=4294967296^((Hx v).length-1):=Zs (by decide) (by omega);omega
 refine go tt [.i n,.i n,.k cs,.s (Qj0 (Hx v)),.i (Hx v).length] rfl (by simp[Ge,Sb,Gi] <;> omega) ?_;have e:List.take 0 (List.replicate n [LV.int .u32 0])++(List.take (Hx v).length (lm (Hx v))++List.drop (0+(Hx v).length) (List.replicate n [LV.int .u32 0]))=lm (tY n v):=by
  rw[cB (l:=Hx v++List.replicate (n-(Hx v).length) 0) (λx hx=>?_) (by simp;omega) (by rw[D2,MS,Rm];simp)]
  ·rw[Vy,J5,Qp (by rw[Gi];exact Qn _)];simp[lm]
  ·rcases Qr.1 hx with hx|hx
   ·exact E9 v x hx
   ·rw[Zz hx];decide
 rw[e];exact Fj [] [0] [] rfl
theorem qT{pre x post:Fv}{i u:Nat}(h:x[i]? = some u):(lm (pre++x++post))[pre.length+i]? = some [.int .u32 (u:Int)]:=Rj (by
 have hi:=(Qd.1 h).1;rw[Zj,Zk (by omega),J9,Q3 hi];exact h)
theorem Qm4{pre x post:Fv}{i v:Nat}(h:i<x.length):(lm (pre++x++post)).set (pre.length+i) [.int .u32 (v:Int)]=lm (pre++x.set i v++post):=by
 rw[Ls,Zj,List.set_append_right _ _ (by omega),J9,List.set_append_left _ _ h,<-Zj]
theorem Qn8{pre x post ly:Fv}{top nx xn x1 x2:Nat}(D:Dig x ly ly.length top nx xn x1 x2)(hn:ly.length<274877906944) :
 Cf prog 406 [.one (.orow 0 1 (some (pre.length,x.length))),lr ly] [.row true 222 1 (lm (pre++x++post))] [.one (.int .u32 ((val x / val ly:Nat):Int))] [.row true 222 1 (lm (pre++tY x.length (val x % val ly)++post))]:=by
 refine Sk func406 rfl ?_;have hxl:=D.hx;have hn2:=D.hn;have hb:=D.bnd;obtain⟨head,hh⟩:=nmE (xn*2^32+x1);obtain⟨g0,hg0⟩:=nmE (head / top);obtain⟨r0,hr0⟩:=nmE (head % top);have hst:=D.start;rw[<-hh,<-hg0]at hst;have ht0:=D.top0;have hg0l:g0<=head:=hg0 ▸ Yv _ _;have hr0l:r0<top:=hr0 ▸ Xp _ ht0;have htd:(head:Int).tdiv top=(g0:Int):=by rw[Kv (by omega),hg0];rfl
 have htm:(head:Int).tmod top=(r0:Int):=by rw[Vs (by omega),hr0];rfl
 refine go tt [.r 23 (eI (b:=(ly.length:Int)) (by rw[Gi])),.r 26 (eI (b:=((ly.length-1:Nat):Int)) (by omega)),.x (Rj D.ltop),.r 32 (eI (b:=((ly.length-2:Nat):Int)) (by omega)),.x (Rj D.lnx),
  .i ly.length,.x (qT D.xn),.i 32,.r 41 (Eu (b:=((4294967296*xn:Nat):Int)) (by omega)),.r 44 (eI (b:=((ly.length-1:Nat):Int)) (by omega)),.i (ly.length-1),.x (qT D.x1),.r 48 (Eu (b:=(head:Int)) (by rw[o64 hb.2.2.2.1 (by omega)];omega)),
  .r 51 (Eu (b:=(g0:Int)) htd),.r 54 (Eu (b:=(r0:Int)) htm)] rfl ?_ ?_
 ·simp only[Ge,Sb,htd,IntKind.bits];omega
 refine ct 2 (S:=Nat) (λg=>[(0,.v (.one (.orow 0 1 (some (pre.length,x.length))))),(1,.v (lr ly)),(5,.v (.oi (ly.length:Int))),(9,.v (.one (.int .u64 (g:Int))))]) (λ_=>[.row true 222 1 (lm (pre++x++post))]) (λg=>val x / val ly<=g/\(g-1)*val ly<=val x/\g<=4294967296) rfl ?_ ?_
 ·refine lp (S:=Nat×Nat) 1 (λL1 s=>(9,.v (.one (.int .u64 (s.1:Int))))::(10,.v (.one (.int .u64 (s.2:Int))))::L1) (λ_=>[.row true 222 1 (lm (pre++x++post))]) (λs=>4294967296-s.2)
   (λs=>s.1*top+s.2=xn*2^32+x1/\val x / val ly<=s.1/\s.2<4294967296/\s.1<18446744073709551616) (g0,r0)
   ⟨by rw[<-hh,hg0,hr0,Nat.mul_comm];exact Nat.div_add_mod _ _,hst,by dsimp only;omega,by dsimp only;omega⟩ rfl (λ_ _=>rfl) rfl λ⟨g,r⟩ ⟨j1,j2,j3,j4⟩=>?_
  dsimp only at j1 j2 j3 j4 ⊢;by_cases hge:4294967296<=g
  ·have hrd:=D.round j1 j2 (.inl hge);by_cases h2:4294967296<=r+top
   ·exact go tt [.t (by simp;omega),.t rfl,.r 73 (Eu (b:=((g-1:Nat):Int)) (by omega)),.t (by simp;omega)] rfl (by simp[Ge,Sb] <;> omega) (rc (g-1) ⟨hrd.2.1,(hrd.2.2.2 h2).1,(hrd.2.2.2 h2).2⟩ rfl)
   ·exact go tt [.t (by simp;omega),.t rfl,.r 73 (Eu (b:=((g-1:Nat):Int)) (by omega)),.f (by simp;omega)] rfl (by simp[Ge,Sb] <;> omega) (rd (g-1,r+top) (by dsimp only;omega) ⟨hrd.2.2.1,hrd.2.1,by dsimp only;omega,by dsimp only;omega⟩ rfl)
  ·have hgn:=VW (x:=g) (y:=nx) (by omega) hb.2.1;by_cases hc:r*2^32+x2<g*nx
   ·have hrd:=D.round j1 j2 (.inr hc);have e1:(g:Int)*(nx:Int)=((g*nx:Nat):Int):=by push_cast;rfl
    obtain⟨m,hm⟩:=nmE (g*nx);rw[<-hm]at e1 hgn hc;by_cases h2:4294967296<=r+top
    ·exact go tt [.f (by simp;omega),.r 60 (Eu (b:=(m:Int)) e1),.i 32,.r 62 (Eu (b:=((4294967296*r:Nat):Int)) (by omega)),.r 65 (eI (b:=((ly.length-2:Nat):Int)) (by omega)),.i (ly.length-2),.x (qT D.x2),.r 69 (Eu (b:=((4294967296*r+x2:Nat):Int)) (o64 hb.2.2.2.2 (by omega))),.t (by simp;omega),.r 73 (Eu (b:=((g-1:Nat):Int)) (by omega)),.t (by simp;omega)] rfl (by simp only[Ge,Sb,e1,IntKind.bits];omega) (rc (g-1) ⟨hrd.2.1,(hrd.2.2.2 h2).1,(hrd.2.2.2 h2).2⟩ rfl)
    ·exact go tt [.f (by simp;omega),.r 60 (Eu (b:=(m:Int)) e1),.i 32,.r 62 (Eu (b:=((4294967296*r:Nat):Int)) (by omega)),.r 65 (eI (b:=((ly.length-2:Nat):Int)) (by omega)),.i (ly.length-2),.x (qT D.x2),.r 69 (Eu (b:=((4294967296*r+x2:Nat):Int)) (o64 hb.2.2.2.2 (by omega))),.t (by simp;omega),.r 73 (Eu (b:=((g-1:Nat):Int)) (by omega)),.f (by simp;omega)] rfl (by simp only[Ge,Sb,e1,IntKind.bits];omega) (rd (g-1,r+top) (by dsimp only;omega) ⟨hrd.2.2.1,hrd.2.1,by dsimp only;omega,by dsimp only;omega⟩ rfl)
   ·have hf:=D.fin j1 (by omega) (by omega);have e1:(g:Int)*(nx:Int)=((g*nx:Nat):Int):=by push_cast;rfl
    obtain⟨m,hm⟩:=nmE (g*nx);rw[<-hm]at e1 hgn hc;exact go tt [.f (by simp;omega),.r 60 (Eu (b:=(m:Int)) e1),.i 32,.r 62 (Eu (b:=((4294967296*r:Nat):Int)) (by omega)),.r 65 (eI (b:=((ly.length-2:Nat):Int)) (by omega)),.i (ly.length-2),.x (qT D.x2),.r 69 (Eu (b:=((4294967296*r+x2:Nat):Int)) (o64 hb.2.2.2.2 (by omega))),.f (by simp;omega)] rfl (by simp only[Ge,Sb,e1,IntKind.bits];omega) (rc g ⟨j2,hf,by omega⟩ rfl)
 ·intro g ⟨q1,q2,q3⟩;refine Ff [.r 80 (eI (b:=(ly.length:Int)) (by rw[Gi]))] rfl ?_;refine lp (S:=Nat×Fv×Nat×Nat) 1 (λL1 s=>(81,.v (.oi (s.1:Int)))::(11,.v (.one (.int .u64 (s.2.2.1:Int))))::(12,.v (.one (.int .u64 (s.2.2.2:Int))))::L1) (λs=>[.row true 222 1 (lm (pre++s.2.1++post))]) (λs=>ly.length-s.1)
   (λs=>s.1<=ly.length/\s.2.1.length=ly.length+1/\Sm s.2.1/\s.2.2.2<=1/\s.2.2.1<4294967296/\val (s.2.1.take s.1)+g*val (ly.take s.1)=val (x.take s.1)+(s.2.2.1+s.2.2.2)*4294967296^s.1/\s.2.1.drop s.1=x.drop s.1) (0,x,0,0)
   ⟨Qh _,hxl,D.xb,Qh _,by simp,by simp[val],rfl⟩ rfl (λ_ _=>rfl) rfl λ⟨i,o,cy,bw⟩ ⟨j1,j2,j3,j4,j5,j6,j7⟩=>?_
  dsimp only at j1 j2 j3 j4 j5 j6 j7 ⊢;by_cases hi:i<ly.length
  ·obtain⟨w1,hw1⟩:=gxE (l:=ly) (i:=i) hi;obtain⟨u,hu⟩:=gxE (l:=x) (i:=i) (by omega);have wb:=D.lb w1 (Qa hw1);have ub:=D.xb u (Qa hu);have hou:=(GN j7).trans hu;have hgw:g*w1<=18446744069414584320:=by
    have:=Xl q3 (show w1<=4294967295 by omega);omega
   obtain⟨s,hs⟩:=nmE (((u+18446744073709551616-(g*w1+cy) % 4294967296) % 18446744073709551616+18446744073709551616-bw) % 18446744073709551616);have hstep:=kL (o:=o) (by omega) hu hw1 ub j4 j6 rfl hs;have e1:(g:Int)*(w1:Int)=((g*w1:Nat):Int):=by push_cast;rfl
   obtain⟨m,hm⟩:=nmE (g*w1);rw[<-hm]at e1 hgw hs hstep;obtain⟨p,hp⟩:=nmE (m+cy);rw[<-hp]at hs hstep;refine go tt [.t (by simp;omega),.x (Rj hw1),.r 89 (Eu (b:=(m:Int)) e1),.r 91 (Eu (b:=(p:Int)) (by omega)),.i 32,.r 93 (Eu (b:=((p / 2^32:Nat):Int)) (by simp)),.i i,.x (qT hou),.w 1,.r 100 (Ar (b:=((p % 4294967296:Nat):Int)) (by rw[yF];omega)),.w 1,.r 102 (Eu (b:=(((u+18446744073709551616-p % 4294967296) % 18446744073709551616:Nat):Int)) (by rw[w64];omega)),.w 0,.r 104 (Eu (b:=(s:Int)) (by rw[w64];omega)),
    .w 0,.r 108 (Ar (b:=((s % 4294967296:Nat):Int)) (by rw[yF];omega)),.i 63,.r 110 (Eu (b:=((s / 2^63:Nat):Int)) (by simp)),.i i] rfl (by simp only[Ge,Sb,e1,IntKind.bits,Gi,Q6];omega) ?_
   rw[Qm4 (by omega)];exact rd (i+1,o.set i (s % 4294967296),p / 2^32,s / 2^63) (by dsimp only;omega) ⟨hi,by simp[j2],Dy j3 _ _ (by omega),hstep.2,by dsimp only;omega,hstep.1,zG j7⟩ rfl
  ·obtain rfl:i=ly.length:=by omega
   have hon:=(GN j7).trans D.xn;rw[Qp (l:=ly) (Qn _)]at j6;obtain⟨s,hs⟩:=nmE (((xn+18446744073709551616-cy) % 18446744073709551616+18446744073709551616-bw) % 18446744073709551616);obtain⟨oa,hoa⟩:=nmE (o.set ly.length (s % 4294967296));have oal:oa.length=ly.length+1:=by rw[hoa,Jk];exact j2
   have oab:Sm oa:=hoa ▸ Dy j3 _ _ (by omega);by_cases CY:s / 2^63=0
   ·have hf:=D.fin0 j2 j5 j4 q1 j6 hs CY;refine go tt [.f (by simp),.i ly.length,.x (qT hon),.w 1,.r 119 (Eu (b:=(((xn+18446744073709551616-cy) % 18446744073709551616:Nat):Int)) (by rw[w64];omega)),.w 0,.r 121 (Eu (b:=(s:Int)) (by rw[w64];omega)),.w 0,.r 125 (Ar (b:=((s % 4294967296:Nat):Int)) (by rw[yF];omega)),.i ly.length,.i 63,.r 128 (Eu (b:=((s / 2^63:Nat):Int)) (by simp)),.t (by simp;omega),.w 0,.r 131 (Ar (b:=((val x / val ly:Nat):Int)) (by rw[yF];omega))] rfl (by simp only[Ge,Sb,IntKind.bits,Gi,Q6];omega) ?_;rw[Qm4 (by omega),<-cB (l:=o.set ly.length (s % 4294967296)) (k:=x.length) (hoa ▸ oab) (by rw[<-hoa,oal,hxl]) hf.2];exact Fj [] [0] [] rfl
   ·have hf:=D.fin1 j2 j3 j5 j4 q2 j6 hs CY;rw[<-hoa]at hf;obtain⟨v1,hv1⟩:=gxE (l:=oa) (i:=ly.length) (by omega);refine go tt [.f (by simp),.i ly.length,.x (qT hon),.w 1,.r 119 (Eu (b:=(((xn+18446744073709551616-cy) % 18446744073709551616:Nat):Int)) (by rw[w64];omega)),.w 0,.r 121 (Eu (b:=(s:Int)) (by rw[w64];omega)),.w 0,.r 125 (Ar (b:=((s % 4294967296:Nat):Int)) (by rw[yF];omega)),.i ly.length,.i 63,.r 128 (Eu (b:=((s / 2^63:Nat):Int)) (by simp)),.f (by simp;omega),.r 133 (eI (b:=(ly.length:Int)) (by rw[Gi]))] rfl (by simp only[Ge,Sb,IntKind.bits,Gi,Q6];omega) ?_;rw[Qm4 (by omega),<-hoa];refine lp (S:=Nat×Fv×Nat) 1 (λL1 s=>(134,.v (.oi (s.1:Int)))::(18,.v (.one (.int .u64 (s.2.2:Int))))::L1) (λs=>[.row true 222 1 (lm (pre++s.2.1++post))]) (λs=>ly.length-s.1)
     (λs=>s.1<=ly.length/\s.2.1.length=ly.length+1/\Sm s.2.1/\s.2.2<=1/\val (s.2.1.take s.1)+s.2.2*4294967296^s.1=val (oa.take s.1)+val (ly.take s.1)/\s.2.1.drop s.1=oa.drop s.1) (0,oa,0)
     ⟨Qh _,oal,oab,Qh _,by simp[val],rfl⟩ rfl (λ_ _=>rfl) rfl λ⟨j,o2,bk⟩ ⟨r1,r2,r3,r4,r5,r6⟩=>?_
    dsimp only at r1 r2 r3 r4 r5 r6 ⊢;by_cases hj:j<ly.length
    ·obtain⟨w1,hw1⟩:=gxE (l:=ly) (i:=j) hj;obtain⟨u,hu⟩:=gxE (l:=oa) (i:=j) (by omega);have wb:=D.lb w1 (Qa hw1);have ub:=oab u (Qa hu);have hou:=(GN r6).trans hu;obtain⟨m,hm⟩:=nmE (u+bk+w1);have hstep:=fL (o:=o2) (by omega) hu (.inl hw1) r5 hm;refine go tt [.t (by simp;omega),.x (Rj hw1),.i j,.x (qT hou),.r 148 (Eu (b:=(m:Int)) (by omega)),.w 0,.r 152 (Ar (b:=((m % 4294967296:Nat):Int)) (by rw[yF];omega)),.i 32,.r 154 (Eu (b:=((m / 4294967296:Nat):Int)) (by simp)),.i j] rfl (by simp only[Ge,Sb,IntKind.bits,Gi,Q6];omega) ?_;rw[Qm4 (by omega)];exact rd (j+1,o2.set j (m % 4294967296),m / 4294967296) (by dsimp only;omega) ⟨hj,by simp[r2],Dy r3 _ _ (by omega),by dsimp only;omega,hstep,zG r6⟩ rfl
    ·obtain rfl:j=ly.length:=by omega
     have hon2:=(GN r6).trans hv1;have vb:=oab v1 (Qa hv1);rw[Qp (l:=ly) (Qn _)]at r5;have hf2:=D.fin2 oal oab r2 r3 hv1 r4 hf.2 r5;refine go tt [.f (by simp),.i ly.length,.x (qT hon2),.w 1,.r 165 (Ar (b:=(((v1+bk) % 4294967296:Nat):Int)) (by rw[yF];omega)),.i ly.length,.w 0,.r 168 (Ar (b:=((g % 4294967296:Nat):Int)) (by rw[yF];omega)),.w 0,.r 169 (Ar (b:=((val x / val ly:Nat):Int)) (Qyk hf.1 D.qlt))] rfl (by simp only[Ge,Sb,IntKind.bits,Gi,Q6];omega) ?_;rw[Qm4 (by omega),<-cB (l:=o2.set ly.length ((v1+bk) % 4294967296)) (k:=x.length) (Dy r3 _ _ (by omega)) (by rw[Jk,r2,hxl]) hf2];exact Fj [] [0] [] rfl
theorem Qg6{o ly:Fv}{lo top nx xn x1 x2:Nat}(hlo:lo+(ly.length+1)<=o.length)(D:Dig (FD o lo ly.length) ly ly.length top nx xn x1 x2)(hn:ly.length<274877906944) :
 Cf prog 406 [.one (.orow 0 1 (some (lo,ly.length+1))),lr ly] [.row true 222 1 (lm o)] [.one (.int .u32 ((val (FD o lo ly.length) / val ly:Nat):Int))] [.row true 222 1 (lm (o.take lo++tY (ly.length+1) (val (FD o lo ly.length) % val ly)++o.drop (lo+ly.length+1)))]:=by
 have:=Qn8 (pre:=o.take lo) (post:=o.drop (lo+ly.length+1)) D hn;have e1:(o.take lo).length=lo:=by rw[Qz];omega
 have e2:=TR (o:=o) (i:=lo) (n:=ly.length) (by omega);rw[e1,e2,WS]at this;exact this
theorem gW{a b:Fv}(ha:Sm a)(hb:Sm b)(h1:sz (val a)<=4294967296)(h2:sz (val b)<=4294967296)(hy:0<val b):Fo 382 [lr a,lr b] [lr (Hx (val a / val b)),lr (Hx (val a % val b)),.oi 0]:=by
 refine Sk func382 rfl ?_;obtain⟨p,ca,np,vp,_,ep⟩:=SG ha;obtain⟨q,cb,nq,vq,_,eq⟩:=SG hb;have hp:=P8 h1;have hq:=P8 h2;rw[<-ep]at hp;rw[<-eq]at hq;rw[<-vp,<-vq];rw[<-vp]at h1;rw[<-vq]at h2 hy;have q0:q≠[]:=λe=>by rw[e]at hy;simp[val]at hy
 have qp:0<q.length:=Yx.2 q0;have c1:¬((lm q).length:Int)=0:=by rw[Gi];omega
 by_cases hlt:p.length<q.length
 ·have hv:=Ew np nq hlt;rw[Kt hv,Xf hv,Tp];exact Fh [.k ca,.k cb,.f (by simpa using c1),.t (by simp[Gi];omega),.k (SZ np.1 h1)] rfl rfl (by simp[Ge,Sb])
 by_cases hone:q.length=1
 ·obtain⟨y,rfl⟩:∃y,q=[y]:=by
   match q,hone with
   | [y],_=>exact⟨y,rfl⟩
  have yb:=nq.1 y (.head _);have vy:val [y]=y:=by simp[val]
  rw[vy]at hy ⊢;have co:=Qw8 np.1 (by omega) hy yb;have sm:Sm [val p % y]:=λz hz=>by
   simp at hz;subst hz;exact Nat.lt_trans (Xp _ hy) yb
  have cc:=WE sm;rw[show val [val p % y]=val p % y from by simp[val]]at cc;exact Fh [.k ca,.k cb,.f (by simp[lm]),.f (by simp[Gi];omega),.t (by simp[lm]),.x (Rj (l:=[y]) (i:=0) rfl),.k co,.k cc] rfl rfl (by simp[Ge,Sb])
 ·have hle:q.length<=p.length:=Vl hlt;obtain⟨y1,hy1,hy10⟩:=nq.2 q0;have y1b:=nq.1 y1 (Qa hy1);have hszy:=aN nq hy1;have hsz1:sz y1<=32:=La.2 (by omega);have hsz0:0<sz y1:=Qv2 (by omega);obtain⟨s,hs⟩:=nmE (32-sz y1);have hs31:s<=31:=by omega
  have Ar:(2:Nat)^32=4294967296:=by decide
  obtain⟨x,hx⟩:=nmE (val p);obtain⟨y,hyv⟩:=nmE (val q);have cl:=Qto y1b;rw[<-hs]at cl;have hvx:val p*2^s<4294967296^(p.length+1):=by
   have h1:=Ai p np.1;rw[Zq];exact X7 (Ji h1 (show 0<2^s from Zy (by decide))) (Zl _ (by rw[<-Ar];exact Zs (by decide) (by omega)))
  have hvy:val q*2^s<4294967296^q.length:=by
   have h1:=HM (val q);rw[<-Ar,<-Fe];have h2:val q*2^s<2^sz (val q)*2^s:=Ji h1 (Zy (by decide));rw[<-Xs]at h2;rw[show 32*q.length=sz (val q)+s from by omega];exact h2
  have cx:=Qhv np.1 (show sz (val p)<=4294967400 by omega) hs31 (show p.length+1<274877906944 by omega) (by omega) hvx;have cy:=Qhv nq.1 (show sz (val q)<=4294967400 by omega) hs31 (show q.length<274877906944 by omega) qp hvy;obtain⟨hXl,hXb,hXv⟩:=vR (k:=p.length+1) (v:=val p*2^s);obtain⟨hYl,hYb,hYv⟩:=vR (k:=q.length) (v:=val q*2^s);have hXv:=hXv hvx;have hYv:=hYv hvy;obtain⟨X,hX⟩:=nmE (tY (p.length+1) (val p*2^s));obtain⟨Y,hY⟩:=nmE (tY q.length (val q*2^s));rw[<-hX]at hXl hXb hXv cx;rw[<-hY]at hYl hYb hYv cy;have hyB:4294967296^(q.length-1)<=val q:=HL nq q0;have hR:=eS hXv hYv hXl hXb hYl hYb (show 2<=q.length by omega) (Ai p np.1) hyB hle;refine go tt [.k ca,.k cb,.f (by simpa using c1),.f (by simp[Gi];omega),.f (by simp[Gi];omega),.r 49 (eI (b:=((q.length-1:Nat):Int)) (by rw[Gi];omega)),.x (Rj hy1),.k cl,.r 57 (eI (b:=((p.length+1:Nat):Int)) (by rw[Gi];omega)),.c [0] cx,.r 62 (eI (b:=(q.length:Int)) (by rw[Gi])),.c [1] cy,.r 65 (eI (b:=(q.length:Int)) (by rw[Gi,hYl])),.r 70 (eI (b:=((p.length-q.length+1:Nat):Int)) (by rw[Gi];omega)),.i (p.length-q.length+1),.i (p.length-q.length+1),.r 73 (eI (b:=((p.length-q.length+1:Nat):Int)) (by simp))] rfl ?_ ?_
  ·simp only[Ge,Sb,IntKind.bits,Gi];omega
  ·rw[FK];refine pb 1 rfl rfl ?_;refine lp (S:=Int×Fv×Fv) 3 (λL1 s=>(13,.v (.oi s.1))::L1) (λs=>[.row false 222 1 (lm s.2.2),.gone,.row false 222 1 (lm s.2.1)]) (λs=>(s.1+1).toNat)
    (λs=>-1<=s.1/\s.1<p.length-q.length+1/\s.2.1.length=p.length-q.length+1/\Sm s.2.1/\Rest s.2.2 Y p.length q.length (s.1+1).toNat/\val (s.2.1.drop (s.1+1).toNat)*4294967296^(s.1+1).toNat*val Y+val s.2.2=val X) (((p.length-q.length+1:Nat):Int)-1,List.replicate (p.length-q.length+1) 0,X)
    ⟨by dsimp only;omega,by dsimp only;omega,by simp,λx hx=>by rw[List.eq_of_mem_replicate hx];decide,by simpa using hR,by simp[val]⟩ rfl (λ_ _=>rfl) rfl λ⟨i,oq,ox⟩ ⟨j1,j2,j3,j4,j5,j6⟩=>?_
   dsimp only at j1 j2 j3 j4 j5 j6 ⊢;rcases W4 i 0 with hi|hi
   ·obtain rfl:i=-1:=by omega
    simp only[show((-1:Int)+1).toNat=0 from rfl,Je,Ve,Y0]at j5 j6;have hlt':val ox<val q*2^s:=by have:=j5.lt;rw[hYv]at this;simpa using this
    have hfin:=Qlh (x:=val p) (y:=val q) (s:=s) (r:=val ox) (q:=oq) hy (by rw[<-hXv,<-hYv];exact j6) hlt';have hoxl:=j5.ol;have hox:=aC (o:=ox) (n:=q.length) (by omega) (Nat.lt_trans hlt' hvy);have hszm:sz (val (ox.take q.length))<=4294967400:=by
     rw[hox,hfin.2];have h1:=Qmm (val p % val q) (2^s);have h2':=Pi (Yn (Xp (val p) hy));have h3:sz (2^s)<=s+1:=La.2 (Nat.pow_lt_pow_right (by decide) (by omega));omega
    have cs:=Qw5 (a:=ox.take q.length) (λu hu=>j5.ob u (Qq hu)) hszm hs31;rw[hox,hfin.2,Nat.mul_div_cancel _ (Zy (by decide))]at cs;have cq:=WE j4;rw[hfin.1]at cq;exact Fh [.f (by decide),.p 2,.p 0,.k cq,.i q.length,.r 95 (v:=lr (ox.take q.length)) (by simp[lm]),.k cs] rfl rfl (by simp[Ge,Sb,Gi];omega)
   ·obtain⟨k,rfl⟩:=Vi hi;have e:((k:Int)+1).toNat=k+1:=by omega
    rw[e]at j5 j6;obtain⟨top,nx,xn,x1,x2,D⟩:=j5.dig;have hoxl:=j5.ol;have hm:=j5.hm;have cd:=Qg6 (o:=ox) (lo:=k) (by omega) (hYl.symm ▸ D) (by omega);rw[hYl]at cd;have hwl:=TR (o:=ox) (i:=k) (n:=q.length) (by omega);have hwlt:val (FD ox k q.length) % val Y<4294967296^(q.length+1):=by
     have h3:=Ai (FD ox k q.length) D.xb;rw[hwl]at h3;exact Xj (Nat.mod_le _ _) h3
    obtain⟨d1,d2,d3⟩:=vR (k:=q.length+1) (v:=val (FD ox k q.length) % val Y);have hnx:=j5.next (w':=tY (q.length+1) (val (FD ox k q.length) % val Y)) (d1.trans hwl.symm) d2 (d3 hwlt) (q:=oq) (by omega) j6;have hdg:=D.qlt;refine go tt [.t (by simp),.i k,.i (k+q.length+1),.r 87 (v:=.one (.orow 0 1 (some (k,q.length+1)))) (by rw[show k+q.length+1-k=q.length+1 by omega]),.c [0] cd,.i k] rfl ?_ ?_
    ·simp only[Ge,Gi];omega
    ·rw[Ls];refine rd ((k:Int)-1,oq.set k (val (FD ox k q.length) / val Y),ox.take k++tY (q.length+1) (val (FD ox k q.length) % val Y)++ox.drop (k+q.length+1)) (by dsimp only;omega) ⟨by dsimp only;omega,by dsimp only;omega,by simp[j3],Dy j4 _ _ hdg,?_,?_⟩ rfl
     ·dsimp only;rw[show((k:Int)-1+1).toNat=k from by omega];exact hnx.1
     ·dsimp only;rw[show((k:Int)-1+1).toNat=k from by omega];exact hnx.2
def sg(z:Int):LV:=.bool (decide (z<0))
def mg(z:Int):LV:=.row (lm (Hx z.natAbs))
abbrev Sj(z:Int):Fy:=[sg z,mg z]
def Mw(x y:LV)(z:Int):Prop:=∃b l,x=.bool b/\y=.row (lm l)/\Sm l/\z=Gv b (val l)
theorem Gl(z:Int):Mw (sg z) (mg z) z:=by
 refine⟨_,_,rfl,rfl,E9 _,?_⟩;rw[Rm];unfold Gv;by_cases h:z<0 <;> simp[h] <;> omega
theorem Qu8(b:Bool)(m:Nat):[LV.bool (b && decide (0<m)),LV.row (lm (Hx m))]=Sj (Gv b m):=by
 simp only[Sj,sg,mg,IR,P6]
theorem Ev{m:Nat}:0<(Hx m).length↔0<m:=by
 rcases Qx m with h|h
 ·subst h;rw[Tp];simp
 ·rw[A7 (by omega)];simp[h]
theorem Bi(b:Bool)(m:Nat):Fo 295 [lr (Hx m),.one (.bool b)] [.agg (Sj (Gv b m))]:=by
 rw[<-Qu8];have e:=Ev (m:=m);cases b with
 |false=>exact Fi func295 rfl [.f rfl] rfl
 |true=>exact Fi func295 rfl [.t rfl] rfl (by simp[Gi,e]) trivial
theorem Cc{b:Bool}{m:Nat}{k:Nat}(h:Gy (Gv b m)<=k):sz m<=k:=by
 unfold Gy at h;rwa[P6]at h
theorem XT{x y:LV}{z:Int}(hi:Mw x y z)(hs:Gy z<=4294967295):Fo 297 [.agg [x,y]] [.agg (Sj z)]:=by
 obtain⟨b,l,rfl,rfl,hl,rfl⟩:=hi;exact Fi func297 rfl [.k (SZ hl (Qe (Cc hs) (by decide))),.k (Bi _ _)] rfl
theorem GA(b:Bool)(m:Nat):Gv (!b) m=-(Gv b m):=by unfold Gv;cases b <;> simp
theorem gU{x y:LV}{z:Int}(hi:Mw x y z)(hs:Gy z<=4294967295):Fo 306 [.agg [x,y]] [.agg (Sj (-z))]:=by
 obtain⟨b,l,rfl,rfl,hl,rfl⟩:=hi;rw[<-GA];exact Fi func306 rfl [.k (SZ hl (Qe (Cc hs) (by decide))),.k (Bi _ _)] rfl
theorem Do{x y x' y':LV}{z z':Int}(hi:Mw x y z)(hi':Mw x' y' z')(hs:Gy z<=4294967295)(hs':Gy z'<=4294967295):Fo 191 [.agg [x,y],.agg [x',y']] [.agg (Sj (z*z'))]:=by
 obtain⟨b,l,rfl,rfl,hl,rfl⟩:=hi;obtain⟨b',l',rfl,rfl,hl',rfl⟩:=hi';have e:Gv b (val l)*Gv b' (val l')=Gv (b != b') (val l*val l'):=by
  unfold Gv;cases b <;> cases b' <;> simp[Int.neg_mul,Int.mul_neg]
 rw[e];exact Fi func191 rfl [.k (Qw0 hl hl' (Qe (Cc hs) (by decide)) (Qe (Cc hs') (by decide))),.k (Bi _ _)] rfl
theorem LX{a b:Fv}(ha:Sm a)(hb:Sm b)(h1:sz (val a)<=4294967296)(h:val b<=val a):Fo 389 [lr a,lr b] [lr (Hx (val a-val b)),.one (.bool true)]:=by
 have:=Qr8 ha hb h1;rwa[if_pos h]at this
theorem Qgx{a b:Fv}(ha:Sm a)(hb:Sm b)(h1:sz (val a)<=4294967296)(h:val a<val b):Fo 389 [lr a,lr b] [lr [],.one (.bool false)]:=by
 have:=Qr8 ha hb h1;rwa[if_neg (by omega)]at this
theorem LJ{x y x' y':LV}{z z':Int}(hi:Mw x y z)(hi':Mw x' y' z')(hs:Gy z<=4294967295)(hs':Gy z'<=4294967295):Fo 358 [.agg [x,y],.agg [x',y']] [.agg (Sj (z+z'))]:=by
 obtain⟨b,l,rfl,rfl,hl,rfl⟩:=hi;obtain⟨b',l',rfl,rfl,hl',rfl⟩:=hi';have s1:=Qe (Cc hs) (show 4294967295<=4294967296 by decide);have s2:=Qe (Cc hs') (show 4294967295<=4294967296 by decide);by_cases hb:b=b'
 ·subst hb;have e:Gv b (val l)+Gv b (val l')=Gv b (val l+val l'):=by unfold Gv;cases b <;> simp <;> omega
  rw[e];exact Fi func358 rfl [.t (by simp),.k (Qr5 hl hl' s1 s2),.k (Bi _ _)] rfl
 ·by_cases hle:val l'<=val l
  ·have e:Gv b (val l)+Gv b' (val l')=Gv b (val l-val l'):=by unfold Gv;cases b <;> cases b' <;> simp at hb ⊢ <;> omega
   rw[e];exact Fi func358 rfl [.f (by simpa using hb),.k (LX hl hl' s1 hle),.t rfl,.k (Bi _ _)] rfl
  ·have e:Gv b (val l)+Gv b' (val l')=Gv b' (val l'-val l):=by unfold Gv;cases b <;> cases b' <;> simp at hb ⊢ <;> omega
   rw[e];exact Fi func358 rfl [.f (by simpa using hb),.k (Qgx hl hl' s1 (by omega)),.f rfl,.k (LX hl' hl s2 (by omega)),.k (Bi _ _)] rfl
theorem Qtv{x y x' y':LV}{z z':Int}(hi:Mw x y z)(hi':Mw x' y' z')(hs:Gy z<=4294967295)(hs':Gy z'<=4294967295):Fo 303 [.agg [x,y],.agg [x',y']] [.agg (Sj (z-z'))]:=by
 obtain⟨b',l',rfl,rfl,hl',rfl⟩:=hi';have hn:Mw (.bool (!b')) (.row (lm l')) (-(Gv b' (val l'))):=⟨_,_,rfl,rfl,hl',(GA _ _).symm⟩;rw[Int.sub_eq_add_neg];have hi2:=hi;obtain⟨b,l,rfl,rfl,hl,_⟩:=hi;exact Fi func303 rfl [.k (LJ hi2 hn hs (by rw[T0];exact hs'))] rfl
theorem Qhr{x y:LV}{z:Int}(hi:Mw x y z)(hs:Gy z<=4294967295):Fo 385 [.agg [x,y]] [.oi (Int.sign z)]:=by
 obtain⟨b,l,rfl,rfl,hl,rfl⟩:=hi;have s1:=Qe (Cc hs) (show 4294967295<=4294967296 by decide);have cb:=bK hl s1;by_cases h0:val l=0
 ·have e:Gv b (val l)=0:=by unfold Gv;rw[h0];cases b <;> simp
  rw[e];exact Fi func385 rfl [.k cb,.t (by simp[OP,h0])] rfl
 ·have CY:sz (val l)≠0:=λh=>h0 (OP.1 h)
  cases b
  ·have e:(Gv false (val l)).sign=1:=Int.sign_eq_one_of_pos (by unfold Gv;simp;omega);rw[e];exact Fi func385 rfl [.k cb,.f (by simp;omega),.f rfl] rfl
  ·have e:(Gv true (val l)).sign=-1:=Int.sign_eq_neg_one_of_neg (by unfold Gv;simp;omega);rw[e];exact Fi func385 rfl [.k cb,.f (by simp;omega),.t rfl] rfl
theorem yI{x y x' y':LV}{z z':Int}(hi:Mw x y z)(hi':Mw x' y' z')(hs:Gy z<=4294967295)(hs':Gy z'<=4294967295):Fo 354 [.agg [x,y],.agg [x',y']] [.oi (Ac z z')]:=by
 have c1:=Qhr hi hs;have c2:=Qhr hi' hs';obtain⟨b,l,rfl,rfl,hl,hz⟩:=hi;obtain⟨b',l',rfl,rfl,hl',hz'⟩:=hi';have k1:=FG z;have k2:=FG z';have zl:z.natAbs=val l:=by rw[hz,P6]
 have zl':z'.natAbs=val l':=by rw[hz',P6]
 by_cases h1:z.sign<z'.sign
 ·have e:Ac z z'=-1:=by unfold Ac;rw[if_pos (by omega)]
  rw[e];exact Fi func354 rfl [.k c1,.k c2,.t (by simpa using h1)] rfl
 ·by_cases h2:z'.sign<z.sign
  ·have e:Ac z z'=1:=by unfold Ac;rw[if_neg (by omega),if_pos (by omega)]
   rw[e];exact Fi func354 rfl [.k c1,.k c2,.f (by simpa using h1),.t (by simpa using h2)] rfl
  ·by_cases h3:z.sign<0
   ·have e:JO (val l') (val l)=Ac z z':=by unfold Ac JO;rw[<-zl,<-zl'];split <;> split <;> (try split) <;> (try split) <;> omega
    have cc:=Qgg hl' hl;rw[e]at cc;exact Fi func354 rfl [.k c1,.k c2,.f (by simpa using h1),.f (by simpa using h2),.t (by simpa using h3),.k cc] rfl
   ·have e:JO (val l) (val l')=Ac z z':=by unfold Ac JO;rw[<-zl,<-zl'];split <;> split <;> (try split) <;> (try split) <;> omega
    have cc:=Qgg hl hl';rw[e]at cc;exact Fi func354 rfl [.k c1,.k c2,.f (by simpa using h1),.f (by simpa using h2),.f (by simpa using h3),.k cc] rfl
theorem YU{z:Int}:Fo 298 [.agg (Sj z)] [.one (.bool (decide (z=0)))] :=
 Fi func298 rfl [] rfl (by simp only[Gi];congr 3;have:=Ev (m:=z.natAbs);rw[decide_eq_decide];omega) trivial
theorem bH{z:Int}(h1:-9223372036854775808<=z/\z<=9223372036854775807):Fo 299 [.oi z] [.agg (Sj z)]:=by
 obtain⟨m,hm⟩:=nmE (z.natAbs);have sm:Sm [m % 4294967296,m / 4294967296]:=λx hx=>by
  simp at hx;rcases hx with rfl|rfl <;> omega
 have hv:val [m % 4294967296,m / 4294967296]=m:=by simp only[val];omega
 have cn:=SZ sm (by rw[hv];exact Qe (La.2 (show m<2^64 by omega)) (show 64<=4294967296 by decide));rw[hv]at cn;by_cases hz:z<0
 ·have e:Gv true m=z:=by unfold Gv;simp;omega
  have cm:=Bi true m;rw[e]at cm;exact Fi func299 rfl [.w 0,.r 5 (Eu (b:=((18446744073709551616-m:Nat):Int)) (by rw[w64];omega)),.t (by simpa using hz),.w 0,.r 9 (Eu (b:=(m:Int)) (by rw[w64];omega)),.w 0,.r 11 (Ar (b:=((m % 4294967296:Nat):Int)) (by rw[yF];omega)),.i 32,.r 13 (Eu (b:=((m / 4294967296:Nat):Int)) (by simp)),.k cn,.r 18 (v:=.one (.bool true)) (by simp[hz]),.k cm] rfl rfl (by simp[Ge,IntKind.bits] <;> omega)
 ·have e:Gv false m=z:=by unfold Gv;simp;omega
  have cm:=Bi false m;rw[e]at cm;exact Fi func299 rfl [.w 0,.r 5 (Eu (b:=(m:Int)) (by rw[w64];omega)),.f (by simpa using hz),.w 0,.r 11 (Ar (b:=((m % 4294967296:Nat):Int)) (by rw[yF];omega)),.i 32,.r 13 (Eu (b:=((m / 4294967296:Nat):Int)) (by simp)),.k cn,.r 18 (v:=.one (.bool false)) (by simp;omega),.k cm] rfl rfl (by simp[Ge,IntKind.bits] <;> omega)
theorem bU{m n:Nat}(h1:sz m<=4294967296)(h2:sz n<=4294967296)(hn:0<n):Fo 382 [lr (Hx m),lr (Hx n)] [lr (Hx (m / n)),lr (Hx (m % n)),.oi 0]:=by
 have:=gW (E9 m) (E9 n) (by rw[Rm];exact h1) (by rw[Rm];exact h2) (by rw[Rm];exact hn);rwa[Rm,Rm]at this
theorem Qdf{x y x' y':LV}{z z':Int}(hi:Mw x y z)(hi':Mw x' y' z')(hs:Gy z<=4294967295)(hs':Gy z'<=4294967295)(hz:z'≠0):Fo 383 [.agg [x,y],.agg [x',y']] [.agg (Sj (z / z')),.agg (Sj (z % z')),.oi 0]:=by
 obtain⟨b,l,rfl,rfl,hl,hz1⟩:=hi;obtain⟨b',l',rfl,rfl,hl',hz2⟩:=hi';have zl:z.natAbs=val l:=by rw[hz1,P6]
 have zl':z'.natAbs=val l':=by rw[hz2,P6]
 have s1:sz (val l)<=4294967296:=Qe (Cc (hz1 ▸ hs)) (by decide);have s2:sz (val l')<=4294967296:=Qe (Cc (hz2 ▸ hs')) (by decide);have hp:0<z'.natAbs:=by omega
 have e1:z=if b=true then -(z.natAbs:Int)else(z.natAbs:Int):=by rw[zl];exact hz1
 have e2:z'=if b'=true then -(z'.natAbs:Int)else(z'.natAbs:Int):=by rw[zl'];exact hz2
 have cd:=gW hl hl' s1 s2 (by omega);rw[<-zl,<-zl']at cd;have s0:sz (z.natAbs % z'.natAbs)<=4294967296:=Qe (Pi (Yn (Xp _ hp))) (by rw[zl'];exact s2);cases b with
 |
  false =>
  obtain⟨d1,d2⟩:=EF e2 hp e1;rw[d1,d2];exact Fi func383 rfl [.k cd,.f rfl,.k (Bi _ _),.k (Bi _ _),.f rfl,.f rfl] rfl
 |
  true =>
  by_cases h0:z.natAbs % z'.natAbs=0
  ·obtain⟨d1,d2⟩:=BK e2 hp e1 h0;rw[d1,d2];exact Fi func383 rfl [.k cd,.f rfl,.k (Bi _ _),.k (Bi _ _),.t rfl,.f (by rw[h0,Tp];rfl)] rfl
  ·obtain⟨d1,d2⟩:=EU e2 hp e1 (by omega);rw[d1,d2];have ca:=Qr5 (a:=Hx (z.natAbs / z'.natAbs)) (b:=[1]) (E9 _) (λx hx=>by simp at hx;subst hx;decide) (by rw[Rm];exact Qe (Pi (Yv _ _)) (by rw[zl];exact s1)) (by decide);have cs:=LX (a:=l') (b:=Hx (z.natAbs % z'.natAbs)) hl' (E9 _) s2 (by rw[Rm,<-zl'];exact Yn (Xp _ hp));rw[Rm]at ca cs;rw[<-zl']at cs;have hl0:=Ev (m:=z.natAbs % z'.natAbs);exact Fi func383 rfl [.k cd,.f rfl,.k (Bi _ _),.k (Bi _ _),.t rfl,.t (by simp[Gi];omega),.k ca,.k cs,.k (Bi _ _),.k (Bi _ _)] rfl
theorem Ob{x y x' y':LV}{z z':Int}(hi:Mw x y z)(hi':Mw x' y' z')(hs:Gy z<=4294967295)(hs':Gy z'<=4294967295)(hz:z'≠0)(hd:z % z'=0):Fo 337 [.agg [x,y],.agg [x',y']] [.agg (Sj (z / z')),.oi 0]:=by
 have cd:=Qdf hi hi' hs hs' hz;obtain⟨b,l,rfl,rfl,_⟩:=hi;obtain⟨b',l',rfl,rfl,_⟩:=hi';exact Fi func337 rfl [.k cd,.f rfl,.f (by rw[hd];simp[Gi,Tp])] rfl
end Orr
namespace Orr
open Go
abbrev Qv5(l:Fv):LV:=.row (lm l)
def Tx(l:Ft):Nat:=l.foldl (λg z=>Nat.gcd g z.natAbs) 0
theorem PY{l:Ft}{i:Nat}{z:Int}(h:l[i]? = some z):Tx (l.take (i+1))=Nat.gcd (Tx (l.take i)) z.natAbs:=by
 unfold Tx;rw[X2,h];simp[Wo]
theorem Qpc(g x:Nat):Nat.gcd x (g % x)=Nat.gcd g x:=by
 rw[W8 g x,Nat.gcd_rec x g,W8]
theorem qY(l:Ft):l.foldl (λg z=>Nat.gcd g z.natAbs) 1=1:=by
 induction l with
 |nil=>rfl
 |cons z l ih=>simp[ih]
theorem Qi5{l:Ft}{i:Nat}(h:Tx (l.take i)=1):Tx l=1:=by
 have e:l=l.take i++l.drop i:=(Zh i l).symm;unfold Tx at h ⊢;rw[e,Wo,h,qY]
def trim:Ft->Ft
 | []=>[]
 |
  x::l=>match trim l with
  | []=>if x=0 then []else [x]
  |y::k=>x::y::k
theorem FT:∀{l:Ft},(∀x∈l,x=0)->trim l=[]
 | [],_=>rfl
 |
  x::l,h=>by
  have ih:=FT (l:=l) (λy hy=>h y (Qi _ hy));simp[trim,ih,h x (Qw ..)]
theorem yW:∀{l:Ft} {m:Nat} {y:Int},(∀j x,m<j->l[j]? = some x->x=0)->l[m]? = some y->y≠0->trim l=l.take (m+1)
 | [],m,y,_,h,_=>by simp at h
 |
  x::l,0,y,h1,h2,h3=>by
  have h0:trim l=[]:=FT λz hz=>by
   obtain⟨j,hj⟩:=Zp.1 hz;exact h1 (j+1) z (by omega) (by simpa using hj)
  simp at h2;subst h2;simp[trim,h0,h3]
 |
  x::l,m+1,y,h1,h2,h3=>by
  have ih:=yW (l:=l) (m:=m) (y:=y) (λj z hj hz=>h1 (j+1) z (by omega) (by simpa using hz)) (by simpa using h2) h3;cases hl:l with
  |nil=>subst hl;simp at h2
  |
   cons u k =>
   subst hl;rw[K7]at ih;simp only[trim]at ih ⊢;rw[ih];simp
def Gh(l:Ft):Prop:=trim l=l
theorem Tl:∀(l:Ft),Gh (trim l)
 | []=>rfl
 |
  x::l=>by
  have ih:=Tl l;unfold Gh at ih ⊢;cases h:trim l with
  |nil=>by_cases hx:x=0 <;> simp[trim,h,hx]
  |
   cons y k =>
   rw[h]at ih;simp only[trim,h]at ih ⊢;rw[ih]
theorem mO{l:Ft}{m:Nat}(hm:m<=l.length)(h1:∀j x,m<=j->l[j]? = some x->x=0)(h2:0<m->∃y,l[m-1]? = some y/\y≠0):trim l=l.take m:=by
 rcases Qx m with h0|h0
 ·subst h0;rw[FT λz hz=>?_];rfl;obtain⟨j,hj⟩:=Zp.1 hz;exact h1 j z (by omega) hj
 ·obtain⟨y,hy,hy0⟩:=h2 h0;have:=yW (l:=l) (m:=m-1) (y:=y) (λj x hj hx=>h1 j x (by omega) hx) hy hy0;rwa[show m-1+1=m from by omega]at this
def IsInts:Fz->Ft->Prop
 | [],[]=>True
 |x::l,z::p=>(∃a b,x=[a,b]/\Mw a b z)/\IsInts l p
 |_,_=>False
theorem IsInts.len:∀{l:Fz} {p:Ft},IsInts l p->l.length=p.length
 | [],[],_=>rfl
 |x::l,z::p,h=>by simp[h.2.len]
 | [],_::_,h=>h.elim
 |_::_,[],h=>h.elim
theorem IsInts.get:∀{l:Fz} {p:Ft},IsInts l p->∀{i:Nat} {z:Int},p[i]? = some z->∃a b,l[i]? = some [a,b]/\Mw a b z
 | [],[],_,i,z,h=>by simp at h
 |
  x::l,y::p,h,0,z,hz=>by
  simp at hz;subst hz;obtain⟨a,b,rfl,hi⟩:=h.1;exact⟨a,b,rfl,hi⟩
 |x::l,y::p,h,i+1,z,hz=>by simpa using h.2.get (i:=i) (by simpa using hz)
 | [],_::_,h,_,_,_=>h.elim
 |_::_,[],h,_,_,_=>h.elim
theorem Pe:∀(p:Ft),IsInts (p.map Sj) p
 | []=>trivial
 |z::p=>⟨⟨_,_,rfl,Gl z⟩,Pe p⟩
theorem IsInts.append:∀{l l':Fz} {p p':Ft},IsInts l p->IsInts l' p'->IsInts (l++l') (p++p')
 | [],_,[],_,_,h=>h
 |x::l,_,z::p,_,h,h'=>⟨h.1,h.2.append h'⟩
 | [],_,_::_,_,h,_=>h.elim
 |_::_,_,[],_,h,_=>h.elim
def pl(p:Ft):LV:=.row (p.map Sj)
def ids(l:Ft):LV:=.row (l.map λ(x:Int)=>[.int .i64 x])
theorem dP:Mw (.bool false) (.row []) 0:=⟨false,[],rfl,rfl,(λx hx=>by cases hx),rfl⟩
theorem Qq3:sg 0=.bool false:=rfl
theorem Tk{α β:Type}{f:α->β}{l:List α}{i:Nat}{x:α}(h:l[i]? = some x):(l.map f)[i]? = some (f x):=by rw[Zb,h];rfl
theorem Qxt{α:Type}{f:α->Fy}{sz:Nat}(l:List α)(h:∀x,(f x).length=sz):∀c∈l.map f,c.length=sz:=λc hc=>by
 obtain⟨x,_,rfl⟩:=Zd.1 hc;exact h x
theorem Qpt:mg 0=.row []:=by simp[mg,Tp,lm]
theorem Iz:Sj 0=[LV.bool false,LV.row []]:=by simp[Sj,Qq3,Qpt]
end Orr
namespace Orr
open Go Go.Proofs Tryz
set_option maxRecDepth 10000
theorem CJ{p:Ft}(hs:∀z∈p,Gy z≤4294967295):sz (Tx p)≤4294967295:=by
 have key:∀(p:Ft) (g:Nat),sz g≤4294967295->(∀z∈p,Gy z≤4294967295)->sz (p.foldl (λg z=>Nat.gcd g z.natAbs) g)≤4294967295:=by
  intro p
  induction p with
  |nil=>exact λg h _=>h
  |
   cons z p ih =>
   intro g h hs;refine ih _ ?_ λy hy=>hs y (.tail _ hy)
   rcases Qx g with h0|h0
   ·subst h0;show sz (Nat.gcd 0 z.natAbs)<=_;rw[Nat.gcd_zero_left];exact hs z (.head _)
   ·exact Qe (Pi (Nat.gcd_le_left _ h0)) h
 exact key p 0 (by decide) hs
theorem Qgk{l:Fz}{p:Ft}(hi:IsInts l p)(hs:∀z∈p,Gy z≤4294967295):Fo 336 [.one (.row l)] [.agg (Sj ((Tx p:Nat):Int))]:=by
 refine Sk func336 rfl (ln 0 rfl rfl λhl=>?_);have hlp:=hi.len;refine Ff [.z 3,.r 3 (v:=lr (Hx (Tx (p.take 0)))) (by simp[Tx,Tp,lm])] rfl ?_;refine ct 2 (S:=Unit) (λ_=>[(2,.v (.one (.ow 0 0))),(3,.v (lr (Hx (Tx p))))]) (λ_=>[.blk 55 [.bool false,.nils],.gone]) (λ_=>True) rfl ?_ ?_
 ·refine Fl (S:=Nat) 1 (λL1 i=>(12,.v (.oi i))::(3,.v (lr (Hx (Tx (p.take i)))))::L1) (λ_=>[.blk 55 [.bool false,.nils]]) (λi=>p.length-i) (λi=>i<=p.length) 0 (Qh _) rfl rfl λi hip=>?_
  by_cases h:i<p.length
  ·have hlt:i<l.length:=by omega
   obtain⟨c,hc⟩:=gxE (l:=l) (i:=i) hlt;obtain⟨z,hz⟩:=gxE (l:=p) (i:=i) h;obtain⟨x,y,hc',b,r,rfl,rfl,hr,hzz⟩:=hi.get hz;rw[hc]at hc';injection hc' with hc';subst hc'
   have hsz:=hs z (Qa hz);have hg0:sz (Tx (p.take i))<=4294967295:=CJ λy hy=>hs y (Qq hy)
   have ezr:z.natAbs=val r:=by rw[hzz,P6]
   have cn:=SZ hr (by rw[<-ezr];exact Qe hsz (by decide));rw[<-ezr]at cn;refine Ff [.t (by simp;omega),.x hc,.k cn] rfl ?_;refine Fl (S:=Nat×Nat) 2 (λL1 s=>(3,.v (lr (Hx s.1)))::(6,.v (lr (Hx s.2)))::L1) (λ_=>[.blk 55 [.bool false,.nils],.blk 55 [.bool b,.row (lm r)]]) (λs=>s.2) (λs=>Nat.gcd s.1 s.2=Nat.gcd (Tx (p.take i)) z.natAbs/\sz s.1<=4294967295/\sz s.2<=4294967295) (Tx (p.take i),z.natAbs) ⟨rfl,hg0,hsz⟩ rfl rfl λ⟨g,u⟩ ⟨j1,j2,j3⟩=>?_
   dsimp only at j1 j2 j3 ⊢;have hul:=Ev (m:=u);by_cases hu:0<u
   ·have cd:=bU (m:=g) (n:=u) (by omega) (by omega) hu;refine Ff [.t (by simp[Gi];omega),.k cd] rfl ?_;exact rd (u,g % u) (Xp _ hu) ⟨(Qpc g u).trans j1,j3,Qe (Pi (Yn (Xp _ hu))) j3⟩ rfl
   ·obtain rfl:u=0:=by omega
    rw[Nat.gcd_zero_right,<-PY hz]at j1;subst j1;by_cases h1:Tx (p.take (i+1))=1
    ·have e1:Hx (Tx (p.take (i+1)))=[1]:=by rw[h1,A7 (by decide)];simp[Tp]
     refine Ff [.f (by simp[Tp,lm]),.t (by rw[e1];rfl),.x (Rj (i:=0) (x:=1) (by rw[e1];rfl)),.t rfl] rfl ?_;exact rc () trivial (by rw[h1,Qi5 h1];rfl)
    ·obtain⟨g,hg⟩:=nmE (Tx (p.take (i+1)));rw[<-hg]at h1 j2 ⊢;by_cases h2:(Hx g).length=1
     ·obtain⟨v,hv⟩:∃v,Hx g=[v]:=by
       match hm:Hx g,h2 with
       | [v],_=>exact⟨v,rfl⟩
      have hv1:v≠1:=λe=>h1 (by rw[<-Rm g,hv,e];rfl)
      refine go tt [.f (by simp[Tp,lm]),.t (by simp[Gi,h2]),.x (Rj (i:=0) (x:=v) (by rw[hv];rfl)),.f (by simp;omega)] rfl (by simp[Ge] <;> omega) ?_;exact rd (i+1) (by omega) h (by rw[<-hg];rfl)
     ·refine go tt [.f (by simp[Tp,lm]),.f (by simp[Gi];omega),.f rfl] rfl (by simp[Ge] <;> omega) ?_;exact rd (i+1) (by omega) h (by rw[<-hg];rfl)
  ·obtain rfl:i=p.length:=by omega
   refine Ff [.f (by simp;omega)] rfl ?_;rw[Za];exact rc () trivial rfl
 ·intro _ _;have cn:=SZ (E9 (Tx p)) (by rw[Rm];exact Qe (CJ hs) (by decide));rw[Rm]at cn;exact Fh [.k cn,.k (Bi false _)] rfl (by simp[Gv]) trivial
end Orr
namespace Orr
def Bd(s:Nat)(p:Ft):Prop:=∀z∈p,Gy z≤s
theorem C5:Gy 0=0:=rfl
theorem Qgd{s:Nat}{p:Ft}(h:Bd s p){i:Nat}{z:Int}(hz:p[i]? = some z):Gy z<=s:=h z (Qa hz)
theorem G5{s:Nat}{p:Ft}(h:Bd s p)(k:Nat):Gy (p.getD k 0)<=s:=by
 rw[Qc];cases hk:p[k]? with
 |none=>rw[Ww,C5];exact Qh _
 |some z=>exact Qgd h hk
theorem Gd{s t:Nat}{p:Ft}(h:Bd s p)(ht:s<=t):Bd t p:=λz hz=>Qe (h z hz) ht
theorem YV{s:Nat}:Bd s []:=λz hz=>by cases hz
theorem Qtf{s:Nat}{n:Nat}{g:Nat->Int}(h:∀k,k<n->Gy (g k)<=s):Bd s ((List.range n).map g):=λz hz=>by
 obtain⟨k,hk,rfl⟩:=Zd.1 hz;exact h k (Kn.1 hk)
theorem nZ:∀(l:Ft),∀z∈trim l,z∈l
 | [],z,h=>by cases h
 |
  x::l,z,h=>by
  have ih:=nZ l;cases hl:trim l with
  |
   nil =>
   simp only[trim,hl]at h
   split at h
   ·cases h
   ·rw[Qo]at h;rw[h];exact Qw ..
  |
   cons y k =>
   simp only[trim,hl]at h;rcases Qj.1 h with rfl|h
   ·exact Qw ..
   ·exact Qi _ (ih z (by rw[hl];exact h))
theorem Sr(l:Ft):(trim l).length<=l.length:=by
 induction l with
 |nil=>exact Qn _
 |
  cons x l ih =>
  cases hl:trim l with
  |nil=>simp only[trim,hl];split <;> simp
  |cons y k=>simp only[trim,hl];rw[hl]at ih;simp at ih ⊢;exact ih
theorem Md{s:Nat}{p:Ft}(h:Bd s p):Bd s (trim p):=λz hz=>h z (nZ p z hz)
theorem Lc:∀(l:Ft) (k:Nat),(trim l).getD k 0=l.getD k 0
 | [],k=>rfl
 |
  x::l,k=>by
  have ih:=Lc l;cases hl:trim l with
  |
   nil =>
   rw[hl]at ih;simp only[trim,hl]
   split
   ·rename_i hx;cases k with
    |zero=>simp[hx]
    |succ k=>have:=ih k;simp at this ⊢;exact this
   ·cases k with
    |zero=>simp
    |succ k=>have:=ih k;simp at this ⊢;exact this
  |
   cons y m =>
   rw[hl]at ih;simp only[trim,hl];cases k with
   |zero=>simp
   |succ k=>have:=ih k;simp at this ⊢;exact this
def B8(n:Nat)(g:Nat->Int):Ft:=trim ((List.range n).map g)
theorem Gk(n:Nat)(g:Nat->Int):Gh (B8 n g):=Tl _
theorem Ip(n:Nat)(g:Nat->Int):(B8 n g).length<=n:=Qe (Sr _) (by simp)
theorem S5(n:Nat)(g:Nat->Int)(k:Nat):(B8 n g).getD k 0=if k<n then g k else 0:=by
 unfold B8;rw[Lc,Qc,Zb]
 split
 ·rename_i h;rw[List.getElem?_range h];rfl
 ·rename_i h;rw[List.getElem?_eq_none (by simpa using h)];rfl
theorem XF{s n:Nat}{g:Nat->Int}(h:∀k,k<n->Gy (g k)<=s):Bd s (B8 n g):=Md (Qtf h)
def Mt(p q:Ft):Ft:=B8 (max p.length q.length) λk=>p.getD k 0+q.getD k 0
def Ma(p q:Ft):Ft:=B8 (max p.length q.length) λk=>p.getD k 0-q.getD k 0
def Nn(p:Ft):Ft:=B8 p.length λk=>-(p.getD k 0)
def Gs(p:Ft)(c:Int):Ft:=B8 p.length λk=>p.getD k 0*c
def Hn(p:Ft):Ft:=B8 (p.length-1) λk=>p.getD (k+1) 0*((k+1:Nat):Int)
theorem Oa{s t:Nat}{p q:Ft}(h:Bd s p)(h':Bd t q):Bd (max s t+1) (Mt p q):=XF λk _=>Qe (KP _ _) (by have:=G5 h k;have:=G5 h' k;omega)
theorem Dh{s t:Nat}{p q:Ft}(h:Bd s p)(h':Bd t q):Bd (max s t+1) (Ma p q):=XF λk _=>Qe (Qbe _ _) (by have:=G5 h k;have:=G5 h' k;omega)
theorem XG{s:Nat}{p:Ft}(h:Bd s p):Bd s (Nn p):=XF λk _=>by rw[T0];exact G5 h k
theorem G9{s t:Nat}{p:Ft}{c:Int}(h:Bd s p)(hc:Gy c<=t):Bd (s+t) (Gs p c):=XF λk _=>Qe (Ho _ _) (by have:=G5 h k;omega)
theorem E5(p q:Ft):(Mt p q).length<=max p.length q.length:=Ip _ _
theorem Mm(p q:Ft):(Ma p q).length<=max p.length q.length:=Ip _ _
theorem Lr(p:Ft):(Nn p).length<=p.length:=Ip _ _
theorem Gz(p:Ft)(c:Int):(Gs p c).length<=p.length:=Ip _ _
theorem Pw(p:Ft):(Hn p).length<=p.length-1:=Ip _ _
theorem kV{k t:Nat}(h:k<2^t):Gy (k:Int)<=t:=by rw[Pn];simpa using h
theorem Qeg{k:Nat}(h:k<274877906944):Gy (k:Int)<=4294967295:=Qe (kV (t:=38) (Wj h (by decide))) (by omega)
theorem BB{s t:Nat}{p:Ft}(h:Bd s p)(hl:p.length<=2^t):Bd (s+t) (Hn p):=XF λk hk=>Qe (Ho _ _) (by
 have:=G5 h (k+1);have:=kV (k:=k+1) (t:=t) (by omega);omega)
def ZU(x:Int)(b:Ft)(i:Nat)(o:Ft):Nat->Ft
 | 0=>o
 |k+1=>(ZU x b i o k).set (i+k) ((ZU x b i o k).getD (i+k) 0+x*b.getD k 0)
def Lt(a b o:Ft):Nat->Ft
 | 0=>o
 |i+1=>ZU (a.getD i 0) b i (Lt a b o i) b.length
def Gq(a b:Ft):Ft:=if a.length=0\/b.length=0 then []else trim (Lt a b (List.replicate (a.length+b.length-1) 0) a.length)
theorem ZH(x:Int)(b:Ft)(i:Nat)(o:Ft)(k:Nat):(ZU x b i o k).length=o.length:=by
 induction k with
 |zero=>rfl
 |succ k ih=>simp[ZU,ih]
theorem Lu(a b o:Ft)(i:Nat):(Lt a b o i).length=o.length:=by
 induction i with
 |zero=>rfl
 |succ i ih=>simp[Lt,ZH,ih]
theorem Qjc(l:Ft)(i m:Nat)(v:Int)(h:i<l.length):(l.set i v).getD m 0=if m=i then v else l.getD m 0:=by
 rw[Qc,Jz,Qc];by_cases e:i=m
 ·subst e;simp[h]
 ·rw[if_neg e,if_neg (λh=>e h.symm)]
theorem PC(x:Int)(b:Ft)(i:Nat)(o:Ft)(k m:Nat)(h:i+k<=o.length):(ZU x b i o k).getD m 0=if i<=m/\m<i+k then o.getD m 0+x*b.getD (m-i) 0 else o.getD m 0:=by
 induction k with
 |zero=>simp only[ZU];rw[if_neg (by omega)]
 |
  succ k ih =>
  have ih:=ih (by omega);simp only[ZU];rw[Qjc _ _ _ _ (by rw[ZH];omega)];by_cases e:m=i+k
  ·subst e;rw[if_pos rfl,if_pos (by omega),show i+k-i=k from by omega];rw[ih,if_neg (by omega)]
  ·rw[if_neg e,ih];by_cases h1:i<=m/\m<i+k
   ·rw[if_pos h1,if_pos (by omega)]
   ·rw[if_neg h1,if_neg (by omega)]
theorem C6{x y:Int}{s t:Nat}(hx:Gy x<=s)(hy:Gy y<=t):(x*y).natAbs<=2^(s+t):=by
 have h:=Qe (Ho x y) (show _<=s+t by omega);rw[Pn]at h;omega
theorem kD{x:Int}{b:Ft}{i:Nat}{o:Ft}{k M:Nat}(h:i+k<=o.length)(ho:∀m,(o.getD m 0).natAbs<=i*M)(hx:∀j,(x*b.getD j 0).natAbs<=M)(m:Nat):((ZU x b i o k).getD m 0).natAbs<=(i+1)*M:=by
 rw[PC x b i o k m h,Xq];have h1:=ho m
 split
 ·have h2:=hx (m-i);generalize i*M=q at *;omega
 ·omega
theorem kC{a b o:Ft}{i M:Nat}(h:∀j,j<i->j+b.length<=o.length)(ho:∀m,o.getD m 0=0)(hx:∀i j,(a.getD i 0*b.getD j 0).natAbs<=M)(m:Nat):((Lt a b o i).getD m 0).natAbs<=i*M:=by
 induction i generalizing m with
 |zero=>simp only[Lt];rw[ho];simp
 |
  succ i ih =>
  simp only[Lt];exact kD (by rw[Lu];exact h i (by omega)) (ih λj hj=>h j (by omega)) (hx i) m
theorem O6{z:Int}{i s t:Nat}(h:z.natAbs<=i*2^s)(hi:i<2^t):Gy z<=s+t:=by
 rw[Pn];have h1:i*2^s<2^t*2^s:=Ji hi (Zy (by decide));rw[<-Xs,Yl t s]at h1;omega
theorem Ty(n m:Nat):(List.replicate n (0:Int)).getD m 0=0:=by
 rw[Qc,Yu];split <;> rfl
theorem DC{s:Nat}{p:Ft}(h:∀m,Gy (p.getD m 0)<=s):Bd s p:=λz hz=>by
 obtain⟨i,hi⟩:=Zp.1 hz;have:=h i;rw[Qc,hi]at this;exact this
theorem Te(a b:Ft):(Gq a b).length<=a.length+b.length-1:=by
 unfold Gq
 split
 ·simp
 ·refine Qe (Sr _) ?_;rw[Lu];simp
theorem Si{s t u:Nat}{a b:Ft}(ha:Bd s a)(hb:Bd t b)(hl:a.length<2^u):Bd (s+t+u) (Gq a b):=by
 unfold Gq
 split
 ·exact YV
 ·refine Md (DC λm=>?_);exact O6 (kC (M:=2^(s+t)) (λj hj=>by simp;omega) (Ty _) (λi j=>C6 (G5 ha i) (G5 hb j)) m) hl
theorem Hp(a b:Ft):Gh (Gq a b):=by
 unfold Gq
 split
 ·rfl
 ·exact Tl _
def Bz(a:Ft)(n d:Int):Nat->Int×Int
 | 0=>(0,1)
 |k+1=>((Bz a n d k).1*n+a.getD (a.length-1-k) 0*(Bz a n d k).2,(Bz a n d k).2*d)
def Qql(a:Ft)(n d:Int):Int:=(Bz a n d a.length).1
theorem fZ{a:Ft}{n d:Int}{s t k:Nat}(ha:Bd s a)(hn:Gy n<=t)(hd:Gy d<=t):Gy (Bz a n d k).1<=s+2+k*(t+1)/\Gy (Bz a n d k).2<=1+k*t:=by
 induction k with
 |zero=>exact⟨by simp[Bz,C5],by simp[Bz];decide⟩
 |
  succ k ih =>
  obtain⟨h1,h2⟩:=ih;have h3:=G5 ha (a.length-1-k);have e1:k*(t+1)=k*t+k:=by rw[Jg,Y0]
  rw[Xq,Xq];refine⟨?_,?_⟩
  ·simp only[Bz];refine Qe (KP _ _) ?_;have h4:=Ho (Bz a n d k).1 n;have h5:=Ho (a.getD (a.length-1-k) 0) (Bz a n d k).2;generalize k*t=q at *;rw[e1]at h1 ⊢;omega
  ·simp only[Bz];have h4:=Ho (Bz a n d k).2 d;generalize k*t=q at *;omega
end Orr
namespace Orr
theorem PK{l:Ft}{i:Nat}(h:i<l.length):l[i]? = some (l.getD i 0):=by
 rw[Qc,Qg h];rfl
theorem vW{x y:Int}:Ac x y=0↔x=y:=by
 unfold Ac;constructor
 ·intro h
  split at h
  ·omega
  ·split at h <;> omega
 ·rintro rfl;simp
theorem Rz{p:Ft}(h:Gh p)(h0:0<p.length):p.getD (p.length-1) 0≠0:=by
 induction p with
 |nil=>simp at h0
 |
  cons x l ih =>
  unfold Gh at h;cases hl:trim l with
  |
   nil =>
   simp only[trim,hl]at h
   split at h
   ·cases h
   ·rename_i hx;injection h with h1 h2;subst h2;simpa using hx
  |
   cons y k =>
   simp only[trim,hl]at h;injection h with h1 h2;rw[<-hl]at h2;have ih:=ih h2 (by rw[<-h2,hl];simp);have h3:0<l.length:=by rw[<-h2,hl];simp
   simp only[Zf,Ym];obtain⟨m,hm⟩:∃m,l.length=m+1:=⟨l.length-1,by omega⟩;rw[hm]at ih ⊢;simpa using ih
end Orr
namespace Orr
theorem IZ(p:Ft):(List.range p.length).map (λk=>p.getD k 0)=p:=by
 apply X1;intro i;rw[Zb];rcases Q8 i p.length with h|h
 ·rw[Jn h];simp[Qg h]
 ·rw[Qt (by simpa using h),Qt h];rfl
theorem EC{p q:Ft}(hl:p.length=q.length)(h:∀j,j<p.length->p.getD j 0=q.getD j 0):p=q:=by
 rw[<-IZ p,<-IZ q,<-hl];exact Ud λj hj=>h j (Kn.1 hj)
end Orr
namespace Orr
abbrev rl(q:Rat):Fy:=[sg q.num,mg q.num,sg (q.den:Int),mg (q.den:Int)]
theorem Lo(n d:Int):Tx [n,d]=Int.gcd d n:=by
 unfold Tx;simp only[Z0,List.foldl_nil,Nat.gcd_zero_left];exact W8 _ _
theorem tI{n d:Int}(hd:d≠0):(0:Int)<((Tx [n,d]:Nat):Int):=by
 rw[Lo];have:=Int.gcd_pos_of_ne_zero_left n hd;omega
theorem AY(n d:Int):n % ((Tx [n,d]:Nat):Int)=0:=by
 rw[Lo];exact Ys (Kh ..)
theorem AU(n d:Int):d % ((Tx [n,d]:Nat):Int)=0:=by
 rw[Lo];exact Ys (Uv ..)
theorem Qbx{n g:Int}(h:n % g=0):-n % g=0:=by
 exact Ys (Int.dvd_neg.2 (Vh h))
theorem Qbd{n d:Int}{s:Nat}(hd:d≠0)(h:Gy d<=s):Gy ((Tx [n,d]:Nat):Int)<=s:=by
 rw[Lo];refine Qe (Pi ?_) h;have:=Kz (by omega:0<d.natAbs) (show Int.gcd d n∣d.natAbs from Wv _ _);simpa using this
theorem kS{n d:Int}(hd:0<d):n / ((Tx [n,d]:Nat):Int)=(Rat.divInt n d).num/\d / ((Tx [n,d]:Nat):Int)=((Rat.divInt n d).den:Int):=by
 rw[Lo,Rat.num_divInt,Uh,if_neg (by omega),Ye hd,Vm];refine⟨rfl,?_⟩;rw[Int.natCast_ediv,Int.natAbs_of_nonneg (by omega)]
theorem Qpr{n d:Int}(hd:d<0):-n / ((Tx [n,d]:Nat):Int)=(Rat.divInt n d).num/\-d / ((Tx [n,d]:Nat):Int)=((Rat.divInt n d).den:Int):=by
 rw[Lo,Rat.num_divInt,Uh,if_neg (by omega),Ju hd,Kb,Vm];refine⟨rfl,?_⟩;rw[Int.natCast_ediv,Int.ofNat_natAbs_of_nonpos (by omega)]
theorem VQ(u g:Int):Gy (u / g)<=Gy u:=by
 unfold Gy;exact Pi (Int.natAbs_ediv_le_natAbs u g)
theorem AN{n d:Int}{s:Nat}(h:Gy n<=s):Gy (Rat.divInt n d).num<=s:=by
 rw[Rat.num_divInt];refine Qe (VQ _ _) ?_;unfold Gy;rw[Yd];refine Qe (Pi ?_) h;have:d.sign.natAbs<=1:=by rcases FG d with⟨_,e⟩|⟨_,e⟩|⟨_,e⟩ <;> rw[e] <;> decide
 calc d.sign.natAbs*n.natAbs<=1*n.natAbs:=Qy _ this
  _=n.natAbs:=Uj _
theorem AM{n d:Int}{s:Nat}(h:Gy d<=s)(h1:1<=s):Gy ((Rat.divInt n d).den:Int)<=s:=by
 rw[Uh]
 split
 ·exact h1
 ·refine Qe (Pi ?_) h;exact Yv _ _
def Qs(s:Nat)(q:Rat):Prop:=Gy q.num<=s/\Gy (q.den:Int)<=s
theorem Qs.mono{s t:Nat}{q:Rat}(h:Qs s q)(ht:s<=t):Qs t q:=⟨Qe h.1 ht,Qe h.2 ht⟩
theorem Qs.divInt{s:Nat}{n d:Int}(h:Gy n<=s)(h':Gy d<=s)(h1:1<=s):Qs s (Rat.divInt n d):=⟨AN h,AM h' h1⟩
theorem Dt(q:Rat):(q.den:Int)≠0:=by have:=q.den_nz;omega
theorem den_pos(q:Rat):(0:Int)<(q.den:Int):=by have:=q.den_nz;omega
def Sa(n d:Int):Rat:=Rat.divInt n (if d=0 then 1 else d)
theorem Qcl(q:Rat):Sa q.num q.den=q:=by
 unfold Sa;rw[if_neg (Dt q)];exact Z9 q
def Tn(a b:Rat):Int:=Ac (a.num*(b.den:Int)) (b.num*(a.den:Int))
theorem Es{a b:Rat}:Tn a b<0↔a<b:=by
 rw[Rat.lt_iff];unfold Tn Ac;constructor
 ·intro h;split at h
  ·assumption
  ·split at h <;> omega
 ·intro h;rw[if_pos h];decide
theorem Dk{a b:Rat}:0<Tn a b↔b<a:=by
 rw[Rat.lt_iff];unfold Tn Ac;constructor
 ·intro h;split at h
  ·omega
  ·split at h
   ·assumption
   ·omega
 ·intro h;rw[if_neg (by omega),if_pos h];decide
theorem D6(a:Rat):Tn a a=0:=by unfold Tn Ac;simp
def Bb:Fw->Fw
 | []=>[]
 |
  x::l=>match Bb l with
  | []=>if x=0 then []else [x]
  |y::k=>x::y::k
theorem Oq:∀{l:Fw},(∀x∈l,x=0)->Bb l=[]
 | [],_=>rfl
 |
  x::l,h=>by
  have ih:=Oq (l:=l) (λy hy=>h y (Qi _ hy));simp[Bb,ih,h x (Qw ..)]
theorem OU:∀{l:Fw} {m:Nat} {y:Rat},(∀j x,m<j->l[j]? = some x->x=0)->l[m]? = some y->y≠0->Bb l=l.take (m+1)
 | [],m,y,_,h,_=>by simp at h
 |
  x::l,0,y,h1,h2,h3=>by
  have h0:Bb l=[]:=Oq λz hz=>by
   obtain⟨j,hj⟩:=Zp.1 hz;exact h1 (j+1) z (by omega) (by simpa using hj)
  simp at h2;subst h2;simp[Bb,h0,h3]
 |
  x::l,m+1,y,h1,h2,h3=>by
  have ih:=OU (l:=l) (m:=m) (y:=y) (λj z hj hz=>h1 (j+1) z (by omega) (by simpa using hz)) (by simpa using h2) h3;cases hl:l with
  |nil=>subst hl;simp at h2
  |
   cons u k =>
   subst hl;rw[K7]at ih;simp only[Bb]at ih ⊢;rw[ih];simp
theorem MK{l:Fw}{m:Nat}(hm:m<=l.length)(h1:∀j x,m<=j->l[j]? = some x->x=0)(h2:0<m->∃y,l[m-1]? = some y/\y≠0):Bb l=l.take m:=by
 rcases Qx m with h0|h0
 ·subst h0;rw[Oq λz hz=>?_];rfl;obtain⟨j,hj⟩:=Zp.1 hz;exact h1 j z (by omega) hj
 ·obtain⟨y,hy,hy0⟩:=h2 h0;have:=OU (l:=l) (m:=m-1) (y:=y) (λj x hj hx=>h1 j x (by omega) hx) hy hy0;rwa[show m-1+1=m from by omega]at this
theorem jI:∀(l:Fw),∀z∈Bb l,z∈l
 | [],z,h=>h
 |
  x::l,z,h=>by
  simp only[Bb]at h;have ih:=jI l
  split at h
  ·split at h
   ·cases h
   ·simp at h;simp[h]
  ·rename_i y k e;rw[e]at ih;rcases Qj.1 h with h|h
   ·simp[h]
   ·exact Qi _ (ih z h)
theorem jA:∀(l:Fw),(Bb l).length<=l.length
 | []=>Qn _
 |
  x::l=>by
  have ih:=jA l;simp only[Bb]
  split
  ·split <;> simp
  ·rename_i y k e;rw[e]at ih;simp at ih ⊢;omega
def zp(p:Ft):Fw:=p.map λ(z:Int)=>(z:Rat)
theorem Dn:∀(p:Ft),Bb (zp p)=zp (trim p)
 | []=>rfl
 |
  x::l=>by
  have ih:=Dn l;unfold zp at ih ⊢;simp only[Zx,Bb,trim,ih];cases h:trim l with
  |
   nil =>
   simp only[Jo];by_cases hx:x=0
   ·subst hx;simp
   ·have:(x:Rat)≠0:=λe=>hx (by exact_mod_cast e)
    simp[hx,this]
  |cons y k=>simp
theorem Mc(p:Ft):(zp p).length=p.length:=Q4 _
theorem Qnd{p:Ft}{i:Nat}{z:Int}(h:p[i]? = some z):(zp p)[i]? = some (z:Rat):=by simp[zp,h]
theorem TN(p:Ft)(i:Nat):(zp p).getD i 0=((p.getD i 0:Int):Rat):=by
 simp only[Qc,zp,Zb];cases p[i]? <;> rfl
def Rb(s:Nat)(p:Fw):Prop:=∀q∈p,Qs s q
theorem Rb.mono{s t:Nat}{p:Fw}(h:Rb s p)(ht:s<=t):Rb t p:=λq hq=>(h q hq).mono ht
theorem Rb.get{s:Nat}{p:Fw}(h:Rb s p){i:Nat}{q:Rat}(hq:p[i]? = some q):Qs s q:=h q (Qa hq)
theorem Ag{s:Nat}{z:Int}(h:Gy z<=s)(h1:1<=s):Qs s (z:Rat):=⟨by simpa using h,Qe (show Gy ((1:Nat):Int)<=1 by decide) h1⟩
theorem JA{s:Nat}{p:Ft}(h:Bd s p)(h1:1<=s):Rb s (zp p):=λq hq=>by
 obtain⟨z,hz,rfl⟩:=Zd.1 hq;exact Ag (h z hz) h1
theorem Qqo{s:Nat}(h1:1<=s):Qs s 0:=Ag (z:=0) (by simp[C5]) h1
theorem Rb.getD{s:Nat}{p:Fw}(h:Rb s p)(h1:1<=s)(i:Nat):Qs s (p.getD i 0):=by
 rw[Qc];cases e:p[i]? with
 |none=>exact Qqo h1
 |some q=>exact h.get e
theorem Rb.trim{s:Nat}{p:Fw}(h:Rb s p):Rb s (Bb p):=λq hq=>h q (jI p q hq)
def JW(f:Nat->Rat)(n:Nat):Fw:=(List.range n).map f
theorem TQ(f:Nat->Rat)(n:Nat):(JW f n).length=n:=by simp[JW]
theorem yY(f:Nat->Rat)(n:Nat):JW f (n+1)=JW f n++[f n]:=by simp[JW,W6]
theorem Qrg{s n:Nat}{f:Nat->Rat}(h:∀i,i<n->Qs s (f i)):Rb s (JW f n):=λq hq=>by
 obtain⟨i,hi,rfl⟩:=Zd.1 hq;exact h i (Kn.1 hi)
theorem DY{f:Nat->Rat}{g:Nat->Int}(n:Nat)(h:∀i,i<n->f i=(g i:Rat)):JW f n=zp ((List.range n).map g):=by
 simp only[JW,zp,V0];exact Ud λi hi=>h i (Kn.1 hi)
def mX(p q:Fw):Fw:=Bb (JW (λi=>p.getD i 0+q.getD i 0) (max p.length q.length))
def Bv(p:Fw)(c:Rat):Fw:=Bb (JW (λi=>p.getD i 0*c) p.length)
def OV(p:Fw):Fw:=Bv p (-1)
def RP(p q:Fw):Fw:=mX p (OV q)
theorem Qck(p q:Ft):mX (zp p) (zp q)=zp (Mt p q):=by
 unfold mX Mt B8;rw[DY (g:=λk=>p.getD k 0+q.getD k 0) _ λi _=>by rw[TN,TN,Wd],Dn,Mc,Mc]
theorem jD(p:Ft)(c:Int):Bv (zp p) (c:Rat)=zp (Gs p c):=by
 unfold Bv Gs B8;rw[DY (g:=λk=>p.getD k 0*c) _ λi _=>by rw[TN,Jc],Dn,Mc]
theorem lE(p:Ft):Gs p (-1)=Nn p:=by
 unfold Gs Nn B8;congr 2;funext k;omega
theorem Qco(p:Ft):OV (zp p)=zp (Nn p):=by
 rw[<-lE,<-jD];rfl
theorem YN{p q:Ft}(hp:Gh p)(hq:Gh q)(h:∀k,p.getD k 0=q.getD k 0):p=q:=by
 have key:∀{p q:Ft},Gh q->(∀k,p.getD k 0=q.getD k 0)->q.length<=p.length:=by
  intro p q hq h;rcases Q8 p.length q.length with h1|h1
  ·have h2:=Rz hq (by omega);rw[<-h,Qc,Qt (by omega)]at h2;exact(h2 rfl).elim
  ·exact h1
 exact EC (Vq (key hp λk=>(h k).symm) (key hq h)) λj _=>h j
theorem cO{n m:Nat}{f g:Nat->Int}(hn:n<=m)(h:∀k,k<n->f k=g k)(h0:∀k,n<=k->k<m->g k=0):B8 n f=B8 m g:=by
 refine YN (Gk _ _) (Gk _ _) λk=>?_
 rw[S5,S5];by_cases h1:k<n
 ·rw[if_pos h1,if_pos (by omega),h k h1]
 ·rw[if_neg h1];by_cases h2:k<m
  ·rw[if_pos h2,h0 k (by omega) h2]
  ·rw[if_neg h2]
theorem Qcs(p q:Ft):RP (zp p) (zp q)=zp (Ma p q):=by
 unfold RP;rw[Qco,Qck];congr 1;have hl:=Lr q;unfold Mt Ma;refine cO (by omega) (λk _=>?_) λk h1 h2=>?_
 ·unfold Nn;rw[S5]
  split
  ·omega
  ·rename_i h;have:q.getD k 0=0:=by rw[Qc,Qt (by omega)];rfl
   omega
 ·have h3:p.getD k 0=0:=by rw[Qc,Qt (by omega)];rfl
  have h4:(Nn q).getD k 0=0:=by rw[Qc,Qt (by omega)];rfl
  unfold Nn at h4;rw[S5]at h4
  split at h4
  ·omega
  ·have:q.getD k 0=0:=by rw[Qc,Qt (by omega)];rfl
   omega
def G6(p:Ft):Int:=p.getD (p.length-1) 0
def E7(a b:Ft):Int:=if G6 b<0 then -(G6 a)else G6 a
def Ah(a b:Ft)(i:Nat):Int:=a.getD i 0*((G6 b).natAbs:Int)-(if a.length-b.length<=i then E7 a b*b.getD (i-(a.length-b.length)) 0 else 0)
def Oo(a b:Ft):Ft:=B8 a.length (Ah a b)
inductive RRun (b:List Int):Nat->List Int->List Int->Prop
 |stop {a:List Int}:a.length<b.length->RRun b 0 a a
 |step {k:Nat} {a r:List Int}:b.length<=a.length->a.length<=1000->Bd 9000000 a->Bd 9000000 b->RRun b k (Oo a b) r->RRun b (k+1) a r
def Od(p:Ft):Nat->Nat
 | 0=>0
 |i+1=>Int.gcd (Od p i:Nat) (p.getD i 0)
def cont(p:Ft):Nat:=Od p p.length
theorem SV(p:Ft):∀{i j:Nat},j<i->((Od p i:Nat):Int)∣p.getD j 0
 | 0,_,h=>absurd h (Xe _)
 |
  i+1,j,h=>by
  simp only[Od];rcases Q8 j i with h1|h1
  ·exact V6 (Uv ..) (SV p h1)
  ·rw[show j=i by omega];exact Kh ..
theorem rB(p:Ft)(j:Nat):((cont p:Nat):Int)∣p.getD j 0:=by
 rcases Q8 j p.length with h|h
 ·exact SV p h
 ·rw[Qc,Qt h];exact Int.dvd_zero _
theorem YR{s:Nat}{p:Ft}(h:Bd s p):∀i,Gy ((Od p i:Nat):Int)<=s
 | 0=>by simp[Od,C5]
 |
  i+1=>by
  simp only[Od];by_cases h0:p.getD i 0=0
  ·rw[h0,Int.gcd_zero_right];exact YR h i
  ·have h1:=Kh (Od p i:Nat) (p.getD i 0);have h2:(Int.gcd (Od p i:Nat) (p.getD i 0))<=(p.getD i 0).natAbs:=Kz (by omega) (by simpa using X3.2 h1);have h3:=G5 h i;rw[Pn]at h3 ⊢;simp only[Zw];omega
theorem Qds{p:Ft}{j i:Nat}(hj:j<i)(h:p.getD j 0≠0):0<Od p i:=by
 have:=SV p hj;rcases Qx (Od p i)with h0|h0
 ·rw[h0]at this;exact absurd (Int.zero_dvd.1 this) h
 ·exact h0
theorem rC{p:Ft}(ht:Gh p)(h:0<p.length):0<cont p:=Qds (j:=p.length-1) (by omega) (Rz ht h)
def Ci(p:Ft):Int:=if G6 p<0 then -((cont p:Nat):Int)else((cont p:Nat):Int)
def Tg(p:Ft):Ft:=B8 p.length λi=>p.getD i 0 / Ci p
def S6(p:Ft):Ft:=if G6 p<0 then Nn (Tg p)else Tg p
theorem Qd9(p:Ft)(j:Nat):Ci p∣p.getD j 0:=by
 unfold Ci
 split
 ·exact Fb.2 (rB p j)
 ·exact rB p j
theorem Qiu{p:Ft}(ht:Gh p)(h:0<p.length):Ci p≠0:=by
 have:=rC ht h;unfold Ci
 split <;> omega
theorem zB{s:Nat}{p:Ft}(h:Bd s p):Gy (Ci p)<=s:=by
 unfold Ci
 split
 ·rw[T0];exact YR h _
 ·exact YR h _
theorem eL{p:Ft}{c:Int}(hc:c≠0)(hd:∀j,c∣p.getD j 0):Bv (zp p) (1 / (c:Rat))=zp (B8 p.length λi=>p.getD i 0 / c):=by
 unfold Bv B8;rw[DY (g:=λi=>p.getD i 0 / c) _ λi _=>?_,Dn,Mc];obtain⟨k,hk⟩:=hd i;have hc':(c:Rat)≠0:=λe=>hc (by exact_mod_cast e)
 rw[TN,hk,X8 _ hc,Jc];grind
theorem DL{s:Nat}{p:Ft}(h:Bd s p):Bd s (Tg p):=XF λi _=>Qe (VQ _ _) (G5 h i)
theorem PP(p:Ft):(Tg p).length<=p.length:=Ip _ _
theorem OC(p:Ft):Gh (Tg p):=Gk _ _
theorem qM{s:Nat}{p:Ft}(h:Bd s p):Bd s (S6 p):=by
 unfold S6
 split
 ·exact XG (DL h)
 ·exact DL h
theorem XO(p:Ft):(S6 p).length<=p.length:=by
 unfold S6
 split
 ·exact Qe (Lr _) (PP p)
 ·exact PP p
inductive GRun:Nat->List Int->List Int->List Int->Prop
 |stop (a:List Int):GRun 0 a [] a
 |step {k m:Nat} {a b r g:List Int}:0<b.length->b.length<=1000->Bd 9000000 b->RRun b m a r->r.length<=1000->Bd 9000000 r->Gh r->GRun k b (Tg r) g->GRun (k+1) a b g
theorem GRun.inv{k:Nat}{a b g:Ft}(h:GRun k a b g):(k=0/\b.length=0/\a=g)\/∃j m r,k=j+1/\0<b.length/\b.length<=1000/\Bd 9000000 b/\RRun b m a r/\r.length<=1000/\Bd 9000000 r/\Gh r/\GRun j b (Tg r) g:=by
 cases h with
 |stop=>exact .inl ⟨rfl,rfl,rfl⟩
 |step h1 h2 h3 h4 h5 h6 h7 h8=>exact .inr ⟨_,_,_,rfl,h1,h2,h3,h4,h5,h6,h7,h8⟩
def Po(k:Nat)(p:Ft):Ft:=List.replicate k 0++p
theorem FU(k:Nat)(p:Ft):(Po k p).length=k+p.length:=by simp[Po]
theorem Qc6{s k:Nat}{p:Ft}(h:Bd s p):Bd s (Po k p):=λz hz=>by
 rcases Qr.1 hz with h1|h1
 ·rw[Zz h1,C5];exact Qh _
 ·exact h z h1
inductive DRun (b:List Int):Nat->List Int->List Int->List Int->List Int->Prop
 |stop {a q:List Int}:a.length<b.length->DRun b 0 a q q a
 |step {k:Nat} {a q qf r:List Int}:b.length<=a.length->a.length<=1000->Bd 9000000 a->G6 b≠0->G6 b∣G6 a->a.length-b.length<q.length ->
  DRun b k (Ma a (Po (a.length-b.length) (Gs b (G6 a / G6 b)))) (q.set (a.length-b.length) (G6 a / G6 b)) qf r->DRun b (k+1) a q qf r
theorem DRun.inv{b a q qf r:Ft}{k:Nat}(h:DRun b k a q qf r):(k=0/\q=qf/\a=r/\a.length<b.length)\/∃j,k=j+1/\b.length<=a.length/\a.length<=1000/\Bd 9000000 a/\G6 b≠0/\G6 b∣G6 a/\a.length-b.length<q.length /\
 DRun b j (Ma a (Po (a.length-b.length) (Gs b (G6 a / G6 b)))) (q.set (a.length-b.length) (G6 a / G6 b)) qf r:=by
 cases h with
 |stop h=>exact .inl ⟨rfl,rfl,rfl,h⟩
 |step h1 h2 h3 h4 h5 h6 h7=>exact .inr ⟨_,rfl,h1,h2,h3,h4,h5,h6,h7⟩
def My(l:Fu):Ft:=l.getD (l.length-1) []
inductive LRun:Nat->List (List Int)->List (List Int)->Prop
 |stop {l:List (List Int)}:(My l).length<=1->LRun 0 l l
 |step {k m:Nat} {l f:List (List Int)} {g:List Int}:1<(My l).length->(My l).length<=1000->Gh (My l)->Bd 9000000 (My l)->Bd 9000000 (Hn (My l))->GRun m (Tg (My l)) (Tg (Hn (My l))) g->l.length<=1000->LRun k (l++[g]) f->LRun (k+1) l f
theorem LRun.inv{k:Nat}{l f:Fu}(h:LRun k l f):(k=0/\l=f/\(My l).length<=1)\/∃j m g,k=j+1/\1<(My l).length/\(My l).length<=1000/\Gh (My l)/\Bd 9000000 (My l)/\Bd 9000000 (Hn (My l))/\GRun m (Tg (My l)) (Tg (Hn (My l))) g/\l.length<=1000/\LRun j (l++[g]) f:=by
 cases h with
 |stop h=>exact .inl ⟨rfl,rfl,h⟩
 |step h1 h2 h3 h4 h5 h6 h7 h8=>exact .inr ⟨_,_,_,rfl,h1,h2,h3,h4,h5,h6,h7,h8⟩
def DOk(a b q:Ft):Prop:=0<b.length/\b.length<=1000/\a.length<=1000/\Bd 9000000 b/\∃qf r n,Bd 9000000 qf/\qf.length<=1000/\DRun b n a (List.replicate (a.length+1-b.length) 0) qf r/\q=trim qf
theorem DOk.bd{a b q:Ft}(h:DOk a b q):Bd 9000000 q:=by
 obtain⟨_,_,_,_,qf,r,n,h1,_,_,rfl⟩:=h;exact Md h1
theorem DOk.len{a b q:Ft}(h:DOk a b q):q.length<=1000:=by
 obtain⟨_,_,_,_,qf,r,n,_,h1,_,rfl⟩:=h;exact Qe (Sr _) h1
theorem DOk.trim{a b q:Ft}(h:DOk a b q):Gh q:=by
 obtain⟨_,_,_,_,qf,r,n,_,_,_,rfl⟩:=h;exact Tl _
def Qwq(a b c f:Ft):Prop:=∃x y z,DOk a b x/\DOk b c y/\DOk (Tg x) (Tg y) z/\f=Tg z
structure FRun(a:List Int)(m:Nat)(f:Nat->List Int):Prop where
 run:∃n l,LRun n [Tg a] l/\l.length=m+1/\∀k,k<m->Qwq ((l++[[1]]).getD k []) ((l++[[1]]).getD (k+1) []) ((l++[[1]]).getD (k+2) []) (f k)
 small:m<=1000
def OM(f:Nat->Ft)(n:Nat):Fu:=(List.range n).map f
theorem mA(f:Nat->Ft)(n:Nat):(OM f n).length=n:=by simp[OM]
theorem Qfe(f:Nat->Ft)(n:Nat):OM f (n+1)=OM f n++[f n]:=by simp[OM,W6]
theorem Qmo{f:Nat->Ft}{n i:Nat}(h:i<n):(OM f n)[i]? = some (f i):=by simp[OM,Jn h]
theorem dR{l:Fu}{i:Nat}(h:i<l.length):l[i]? = some (l.getD i []):=by
 rw[Qc,Qg h];rfl
def Na(f:Nat->Ft):Nat->Ft
 | 0=>[1]
 |i+1=>Gq (Na f i) (f i)
def Qnm(m:Nat)(f:Nat->Ft):Prop:=∀i,i<m->Bd 9000000 (Na f i)/\(Na f i).length<=1000/\Bd 9000000 (f i)/\(f i).length<=1000
inductive CRun:Nat->List (List Int)->List Int->List (List Int)->Prop
 |stop {l:List (List Int)} {g:List Int}:g.length=0->CRun 0 l g l
 |step {k m:Nat} {l f:List (List Int)} {g r:List Int}:0<g.length->g.length<=1000->Bd 9000000 g->RRun g m (My l) r->Gh r->Bd 9000000 r->r.length<=1000->0<l.length->l.length<=1000->CRun k (l++[g]) (Nn (S6 r)) f->CRun (k+1) l g f
theorem CRun.inv{k:Nat}{l f:Fu}{g:Ft}(h:CRun k l g f):(k=0/\l=f/\g.length=0)\/∃j m r,k=j+1/\0<g.length/\g.length<=1000/\Bd 9000000 g/\RRun g m (My l) r/\Gh r/\Bd 9000000 r/\r.length<=1000/\0<l.length/\l.length<=1000/\CRun j (l++[g]) (Nn (S6 r)) f:=by
 cases h with
 |stop h=>exact .inl ⟨rfl,rfl,h⟩
 |step h1 h2 h3 h4 h5 h6 h7 h8 h9 h10=>exact .inr ⟨_,_,_,rfl,h1,h2,h3,h4,h5,h6,h7,h8,h9,h10⟩
structure ChRun(a:List Int)(sq:List Int)(c:List (List Int)):Prop where
 fac:∃m f,FRun a m f/\Qnm m f/\sq=Na f m
 chain:∃n,CRun n [sq] (S6 (Hn sq)) c
 bd:Bd 8000000 sq
 len:sq.length<=1000
 small:c.length<=1000
def Qr0(q:Rat)(c:Fu):Prop:=∃sq,ChRun [-q.num,(q.den:Int)] sq c
theorem Iq(f:Nat->Int):B8 1 f=trim [f 0]:=rfl
theorem EB(f:Nat->Int):B8 2 f=trim [f 0,f 1]:=rfl
theorem UW(x:Int):trim [x]=if x=0 then []else [x]:=rfl
theorem yK(x y:Int):trim [x,y]=if y=0 then trim [x]else [x,y]:=by
 simp only[trim];split <;> split <;> simp_all
theorem iF{s:Nat}{x:Int}(h:Gy x<=s):Bd s [x]:=λz hz=>by simp at hz;subst hz;exact h
theorem bd2{s:Nat}{x y:Int}(h:Gy x<=s)(h':Gy y<=s):Bd s [x,y]:=λz hz=>by
 simp only[Qj,Vk,or_false]at hz;rcases hz with rfl|rfl <;> assumption
section
variable{x d:Int}(hd:0<d)(hg:Int.gcd x d=1)(hx:Gy x<=2000000)(hs:Gy d<=2000000)
theorem b1{s:Nat}(h:1<=s):Bd s [1]:=iF (Qe (show Gy 1<=1 by decide) h)
include hd in
theorem RJ(hg:Int.gcd x d=1):Tg [x,d]=[x,d]:=by
 have hc:Ci [x,d]=1:=by
  have h1:cont [x,d]=1:=by
   show Int.gcd (Int.gcd ((0:Nat):Int) x:Nat) d=1;rw[show Int.gcd ((0:Nat):Int) x=x.natAbs by simp,show Int.gcd ((x.natAbs:Nat):Int) d=Int.gcd x d by simp[Int.gcd],hg]
  unfold Ci;rw[if_neg (show ¬G6 [x,d]<0 from by show ¬d<0;omega),h1];rfl
 unfold Tg;rw[hc];show B8 2 _=_;rw[EB,yK];show(if d / 1=0 then _ else [x / 1,d / 1])=_;rw[Ki,if_neg (by omega),Ki]
theorem pL:Tg [1]=[1]:=by decide
include hd in
theorem II:Tg [d]=[1]:=by
 have hc:Ci [d]=d:=by
  have h1:((cont [d]:Nat):Int)=d:=by
   show((Int.gcd ((0:Nat):Int) d:Nat):Int)=d;simp;omega
  unfold Ci;rw[if_neg (show ¬G6 [d]<0 from by show ¬d<0;omega),h1]
 unfold Tg;rw[hc];show B8 1 _=_;rw[Iq,UW];show(if d / d=0 then _ else [d / d])=_;rw[Int.ediv_self (by omega)];rfl
include hd in
theorem vH:Hn [x,d]=[d]:=by
 show B8 1 _=_;rw[Iq,UW];show(if d*1=0 then _ else [d*1])=_;rw[Ui,if_neg (by omega)]
include hd hx hs in
theorem mV:∃m,RRun [1] m [x,d] []:=by
 have h1:Oo [x,d] [1]=trim [x]:=by
  show B8 2 _=_;rw[EB,yK];have e1:Ah [x,d] [1] 1=0:=by
   show d*1-(if 1<=1 then E7 [x,d] [1]*1 else 0)=0;have:E7 [x,d] [1]=d:=by unfold E7;rw[if_neg (by decide)];rfl
   rw[this];simp
  have e0:Ah [x,d] [1] 0=x:=by
   show x*1-(if 1<=0 then _ else 0)=x;simp
  rw[e1,if_pos rfl,e0]
 have hb:Bd 9000000 [x,d]:=bd2 (by omega) (by omega);by_cases h0:x=0
 ·refine⟨1,.step (by show 1<=2;decide) (by show 2<=1000;decide) hb (b1 (by decide)) ?_⟩;rw[h1,h0];exact .stop (by decide)
 ·refine⟨2,.step (by show 1<=2;decide) (by show 2<=1000;decide) hb (b1 (by decide)) ?_⟩;rw[h1,UW,if_neg h0];refine .step (Qn 1) (by show 1<=1000;decide) (iF (by omega)) (b1 (by decide)) ?_;have h2:Oo [x] [1]=[]:=by
   show B8 1 _=_;rw[Iq,UW];have e0:Ah [x] [1] 0=0:=by
    show x*1-(if 0<=0 then E7 [x] [1]*1 else 0)=0;have:E7 [x] [1]=x:=by unfold E7;rw[if_neg (by decide)];rfl
    rw[this];simp
   rw[e0,if_pos rfl]
  rw[h2];exact .stop (by decide)
include hd hx hs in
theorem Qjg:∃m,GRun m [x,d] [1] [1]:=by
 obtain⟨m,h⟩:=mV hd hx hs;exact⟨1,.step (by decide) (by decide) (b1 (by decide)) h (by decide) YV rfl (by rw[show Tg []=[] by decide];exact .stop _)⟩
theorem Qeu(c:Int):Ma [c] [c]=[]:=by
 show B8 1 _=_;rw[Iq,UW];show(if c-c=0 then _ else _)=_;rw[if_pos (by omega)]
include hd hx hs in
theorem Qan:DOk [x,d] [1] [x,d]:=by
 refine⟨by decide,by decide,by show 2<=1000;decide,b1 (by decide),[x,d],[],?_⟩;have Ee:G6 [x,d] / G6 [1]=d:=by show d / 1=d;rw[Ki]
 have hsc:Gs [1] d=[d]:=by
  show B8 1 _=_;rw[Iq,UW];show(if 1*d=0 then _ else [1*d])=_;rw[Vm,if_neg (by omega)]
 have hsub:Ma [x,d] (Po 1 [d])=trim [x]:=by
  show B8 2 _=_;rw[EB,yK];show(if d-d=0 then trim [x-0]else _)=_;rw[if_pos (by omega),Int.sub_zero]
 have hb:Bd 9000000 [x,d]:=bd2 (by omega) (by omega);have ht:trim [x,d]=[x,d]:=by rw[yK,if_neg (by omega)]
 by_cases h0:x=0
 ·refine⟨1,hb,by show 2<=1000;decide,?_,ht.symm⟩;refine .step (by show 1<=2;decide) (by show 2<=1000;decide) hb (by decide) (by show(1:Int)∣d;exact Fc d) (by show 1<2;decide) ?_;rw[Ee,hsc,show [x,d].length-[(1:Int)].length=1 from rfl,hsub,UW,if_pos h0];show DRun [1] 0 [] [0,d] [x,d] [];rw[h0];exact .stop (by decide)
 ·refine⟨2,hb,by show 2<=1000;decide,?_,ht.symm⟩;refine .step (by show 1<=2;decide) (by show 2<=1000;decide) hb (by decide) (by show(1:Int)∣d;exact Fc d) (by show 1<2;decide) ?_;rw[Ee,hsc,show [x,d].length-[(1:Int)].length=1 from rfl,hsub,UW,if_neg h0];refine .step (by show 1<=1;decide) (by show 1<=1000;decide) (iF (by omega)) (by decide) (by show(1:Int)∣x;exact Fc x) (by show 0<2;decide) ?_;have hpl2:G6 [x] / G6 [1]=x:=by show x / 1=x;rw[Ki]
  have hsc2:Gs [1] x=[x]:=by
   show B8 1 _=_;rw[Iq,UW];show(if 1*x=0 then _ else [1*x])=_;rw[Vm,if_neg h0]
  rw[hpl2,hsc2,show [x].length-[(1:Int)].length=0 from rfl,show Po 0 [x]=[x] from rfl,Qeu];exact .stop (by decide)
theorem div_one:DOk [1] [1] [1]:=by
 refine⟨by decide,by decide,by decide,b1 (by decide),[1],[],1,b1 (by decide),by decide,?_,by decide⟩;refine .step (by decide) (by decide) (b1 (by decide)) (by decide) (by decide) (by decide) ?_;exact .stop (by decide)
include hd hg hx hs in
theorem Qix:FRun [x,d] 1 (λ_=>[x,d]):=by
 obtain⟨m,hm⟩:=Qjg (x:=x) hd hx hs;refine⟨⟨1,[[x,d],[1]],?_,rfl,?_⟩,by decide⟩
 ·rw[RJ hd hg];refine .step (by show 1<2;decide) (by show 2<=1000;decide) (by show trim [x,d]=[x,d];rw[yK,if_neg (by omega)]) (by show Bd 9000000 [x,d];exact bd2 (by omega) (by omega)) ?_ ?_ (by show 1<=1000;decide) (m:=m) (g:=[1]) ?_
  ·show Bd 9000000 (Hn [x,d]);rw[vH hd];exact iF (by omega)
  ·show GRun m (Tg [x,d]) (Tg (Hn [x,d])) [1];rw[RJ hd hg,vH hd,II hd];exact hm
  ·exact .stop (by show 1<=1;decide)
 ·intro k hk;have:k=0:=by omega
  subst this;exact⟨[x,d],[1],[x,d],Qan hd hx hs,div_one,by rw[RJ hd hg,pL];exact Qan hd hx hs,(RJ hd hg).symm⟩
theorem xG{p:Ft}(hp:Gh p)(h0:0<p.length):Gq [1] p=p:=by
 refine YN (Hp _ _) hp λk=>?_
 unfold Gq;rw[if_neg (by
  rintro (h|h);· cases h
  ·omega),Lc]
 show(Lt [1] p (List.replicate (1+p.length-1) 0) 1).getD k 0=_;simp only[Lt];rw[PC _ _ _ _ _ _ (by simp),Ty]
 split
 ·show 0+1*p.getD (k-0) 0=_;rw[Ua];omega
 ·rename_i h;rw[Qc,Qt (by omega)];rfl
include hd hg hx hs in
theorem Qdp:ChRun [x,d] [x,d] [[x,d],[1]]:=by
 obtain⟨m,hm⟩:=mV (x:=x) hd hx hs;have ht:Gh [x,d]:=by show trim [x,d]=_;rw[yK,if_neg (by omega)]
 refine⟨⟨1,λ_=>[x,d],Qix hd hg hx hs,?_,?_⟩,⟨1,?_⟩,bd2 (by omega) (by omega),by show 2<=1000;decide,by show 2<=1000;decide⟩
 ·intro i hi;have:i=0:=by omega
  subst this;exact⟨b1 (by decide),by show 1<=1000;decide,bd2 (by omega) (by omega),by show 2<=1000;decide⟩
 ·show [x,d]=Gq [1] [x,d];rw[xG ht (by show 0<2;decide)]
 ·have hz:S6 (Hn [x,d])=[1]:=by
   rw[vH hd];unfold S6;rw[if_neg (show ¬G6 [d]<0 from by show ¬d<0;omega),II hd]
  rw[hz];refine .step (by decide) (by decide) (b1 (by decide)) (m:=m) (r:=[]) hm rfl YV (by decide) (by show 0<1;decide) (by show 1<=1000;decide) ?_;exact .stop (by decide)
end
theorem Qsu{q:Rat}(h:Qs 2000000 q):Qr0 q [[-q.num,(q.den:Int)],[1]]:=by
 refine⟨[-q.num,(q.den:Int)],Qdp (den_pos q) ?_ (by rw[T0];exact h.1) h.2⟩;rw[Int.neg_gcd];have:=q.reduced;unfold Nat.Coprime at this;simpa[Int.gcd]using this
end Orr
namespace Orq
def Gw(x:Rat):Rat:=if x<0 then -x else x
theorem Tz(x:Rat):0<=Gw x:=by unfold Gw;split <;> grind
theorem Mh{x b:Rat}:Gw x<=b↔-b<=x/\x<=b:=by unfold Gw;split <;> constructor <;> grind
theorem wO{x b:Rat}:Gw x<b↔-b<x/\x<b:=by unfold Gw;split <;> constructor <;> grind
theorem Mn(x y:Rat):Gw (x+y)<=Gw x+Gw y:=by unfold Gw;split <;> split <;> split <;> grind
theorem Qci(x y:Rat):Gw (x-y)=Gw (y-x):=by unfold Gw;split <;> split <;> grind
theorem Az(x:Rat):Gw (-x)=Gw x:=by unfold Gw;split <;> split <;> grind
theorem Sy:Gw 0=0:=by decide
theorem L8{x:Rat}(h:x≠0):0<Gw x:=by unfold Gw;split <;> grind
theorem Qqm{x:Rat}(h:Gw x=0):x=0:=by unfold Gw at h;split at h <;> grind
theorem Cu{x y:Rat}(h1:0<=x)(h2:0<=y):0<=x*y:=Jt h1 h2
theorem O8{x y:Rat}(h1:0<x)(h2:0<y):0<x*y:=Xm h1 h2
theorem Ni{a b c d:Rat}(h0:0<=a)(h1:a<=b)(h2:0<=c)(h3:c<=d):a*c<=b*d:=by
 have e1:=Q7 h1 h2;have e2:=Zt h3 (Zi h0 h1);exact Zi e1 e2
theorem Ay(x y:Rat):Gw (x*y)=Gw x*Gw y:=by
 unfold Gw;by_cases h1:x<0 <;> by_cases h2:y<0
 ·have:=O8 (x:=-x) (y:=-y) (by grind) (by grind);simp only[h1,h2,if_true];split <;> grind
 ·have:=Cu (x:=-x) (y:=y) (by grind) (by grind);simp only[h1,h2,if_true,if_false];split <;> grind
 ·have:=Cu (x:=x) (y:=-y) (by grind) (by grind);simp only[h1,h2,if_true,if_false];split <;> grind
 ·have:=Cu (x:=x) (y:=y) (by grind) (by grind);simp only[h1,h2,if_false];split <;> grind
theorem Rq{x y a b:Rat}(h1:Gw x<=a)(h2:Gw y<=b):Gw (x*y)<=a*b:=by
 rw[Ay];exact Ni (Tz x) h1 (Tz y) h2
theorem Em{x y:Rat}(h1:0<x)(h2:0<y):0<x / y:=by rw[Yp];exact O8 h1 (Rat.inv_pos.2 h2)
theorem Hu{x y:Rat}(h2:0<y):x / y*y=x:=Zc (by grind)
theorem Ry{b d:Rat}(hb:0<=b)(hd:0<d):∃e:Rat,0<e/\e<=1/\e*b<d:=by
 have h1:0<d / (b+1):=Em hd (by grind);have h2:d / (b+1)*(b+1)=d:=Hu (by grind);rcases Kr (a:=d / (b+1)) (b:=1)with h|h
 ·exact⟨d / (b+1),h1,h,by
   have:d / (b+1)*(b+1)=d / (b+1)*b+d / (b+1):=by grind
   grind⟩
 ·refine⟨1,by decide,by decide,?_⟩;have:1*(b+1)<=d / (b+1)*(b+1):=Q7 h (by grind);grind
def ev:Fw->Rat->Rat
 | [],_=>0
 |a::p,t=>a+t*ev p t
def dv:Fw->Rat->Rat
 | [],_=>0
 |_::p,t=>ev p t+t*dv p t
def dq:Fw->Rat->Rat->Rat
 | [],_,_=>0
 |_::p,x,y=>ev p x+y*dq p x y
def dd:Fw->Rat->Rat->Rat
 | [],_,_=>0
 |_::p,x,y=>dq p x y+y*dd p x y
theorem zP(x y:Rat):∀p,ev p x-ev p y=(x-y)*dq p x y
 | []=>by simp only[ev,dq];grind
 |a::p=>by have:=zP x y p;simp only[ev,dq];grind
theorem vS(y:Rat):∀p,dq p y y=dv p y
 | []=>rfl
 |a::p=>by simp only[dq,dv,vS y p]
theorem Qsi(x y:Rat):∀p,dq p x y-dv p y=(x-y)*dd p x y
 | []=>by simp only[dv,dq,dd];grind
 |
  a::p=>by
  have h1:=Qsi x y p;have h2:=zP x y p;simp only[dv,dq,dd];grind
theorem Qsl(p:Fw)(x y:Rat):ev p x-ev p y=(x-y)*dv p y+(x-y)*(x-y)*dd p x y:=by
 have h1:=zP x y p;have h2:=Qsi x y p;grind
def vL(R:Rat):Fw->Rat
 | []=>0
 |a::p=>Gw a+R*vL R p
def EH(R:Rat):Fw->Rat
 | []=>0
 |_::p=>vL R p+R*EH R p
def ddB(R:Rat):Fw->Rat
 | []=>0
 |_::p=>EH R p+R*ddB R p
theorem XE{R:Rat}(hR:0<=R):∀p,0<=vL R p
 | []=>by simp only[vL];grind
 |a::p=>by have:=Cu hR (XE hR p);have:=Tz a;simp only[vL];grind
theorem Bm{R:Rat}(hR:0<=R):∀p,0<=EH R p
 | []=>by simp only[EH];grind
 |a::p=>by have:=Cu hR (Bm hR p);have:=XE hR p;simp only[EH];grind
theorem EV{R:Rat}(hR:0<=R):∀p,0<=ddB R p
 | []=>by simp only[ddB];grind
 |a::p=>by have:=Cu hR (EV hR p);have:=Bm hR p;simp only[ddB];grind
theorem MI{R x:Rat}(hx:Gw x<=R):∀p,Gw (ev p x)<=vL R p
 | []=>by simp only[ev,vL,Sy];grind
 |
  a::p=>by
  have h1:=Mn a (x*ev p x);have h2:=Rq hx (MI hx p);simp only[ev,vL];grind
theorem tK{R x y:Rat}(hx:Gw x<=R)(hy:Gw y<=R):∀p,Gw (dq p x y)<=EH R p
 | []=>by simp only[dq,EH,Sy];grind
 |
  a::p=>by
  have h1:=Mn (ev p x) (y*dq p x y);have h2:=Rq hy (tK hx hy p);have h3:=MI hx p;simp only[dq,EH];grind
theorem Qh9{R x y:Rat}(hx:Gw x<=R)(hy:Gw y<=R):∀p,Gw (dd p x y)<=ddB R p
 | []=>by simp only[dd,ddB,Sy];grind
 |
  a::p=>by
  have h1:=Mn (dq p x y) (y*dd p x y);have h2:=Rq hy (Qh9 hx hy p);have h3:=tK hx hy p;simp only[dd,ddB];grind
theorem Qiq{R x y:Rat}(hx:Gw x<=R)(hy:Gw y<=R)(p:Fw):Gw (ev p x-ev p y)<=Gw (x-y)*EH R p:=by
 rw[zP,Ay];exact Ni (Tz _) Ql (Tz _) (tK hx hy p)
def So:Fw->Fw->Fw
 | [],q=>q
 |a::p,[]=>a::p
 |a::p,b::q=>(a+b)::So p q
def Nk(c:Rat)(p:Fw):Fw:=p.map (c * ·)
def H7:Fw->Fw->Fw
 | [],_=>[]
 |a::p,q=>So (Nk a q) (0::H7 p q)
def Cx:Fw->Fw
 | []=>[]
 |_::p=>So p (0::Cx p)
theorem Hm(t:Rat):∀p q,ev (So p q) t=ev p t+ev q t
 | [],q=>by simp only[So,ev];grind
 |a::p,[]=>by simp only[So,ev];grind
 |a::p,b::q=>by have:=Hm t p q;simp only[So,ev];grind
theorem Hd(c t:Rat):∀p,ev (Nk c p) t=c*ev p t
 | []=>by simp only[Nk,Jo,ev];grind
 |a::p=>by have:=Hd c t p;simp only[Nk,Zx,ev]at *;grind
theorem Gj(t:Rat):∀p q,ev (H7 p q) t=ev p t*ev q t
 | [],q=>by simp only[H7,ev];grind
 |a::p,q=>by have:=Gj t p q;simp only[H7,Hm,Hd,ev];grind
theorem Sw(t:Rat):∀p,ev (Cx p) t=dv p t
 | []=>rfl
 |a::p=>by have:=Sw t p;simp only[Cx,Hm,ev,dv];grind
theorem vN(t:Rat):∀p q,dv (So p q) t=dv p t+dv q t
 | [],q=>by simp only[So,dv];grind
 |a::p,[]=>by simp only[So,dv];grind
 |a::p,b::q=>by have:=vN t p q;have:=Hm t p q;simp only[So,dv];grind
theorem SN(c t:Rat):∀p,dv (Nk c p) t=c*dv p t
 | []=>by simp only[Nk,Jo,dv];grind
 |a::p=>by have:=SN c t p;have:=Hd c t p;simp only[Nk,Zx,dv]at *;grind
theorem vB(t:Rat):∀p q,dv (H7 p q) t=dv p t*ev q t+ev p t*dv q t
 | [],q=>by simp only[H7,dv,ev];grind
 |a::p,q=>by have:=vB t p q;have:=Gj t p q;simp only[H7,vN,SN,dv,ev];grind
theorem Qay:∀{p:Fw},(∀x∈p,x=0)->∀t,ev p t=0
 | [],_,t=>rfl
 |
  a::p,h,t=>by
  have h1:=Qay (p:=p) (λx hx=>h x (Qi _ hx)) t;have h2:=h a (Qw ..);simp only[ev,h1,h2];grind
theorem Qas:∀{p:Fw},(∀x∈p,x=0)->∀t,dv p t=0
 | [],_,t=>rfl
 |
  a::p,h,t=>by
  have h0:=λx hx=>h x (Qi _ hx)
  have h1:=Qay (p:=p) h0 t;have h2:=Qas (p:=p) h0 t;simp only[dv,h1,h2];grind
theorem FC:∀{p:Fw},(∀t,0<t->t<1->ev p t=0)->∀x∈p,x=0
 | [],_=>λx hx=>by cases hx
 |
  a::p,h=>by
  have ha:a=0:=by
   rcases Classical.em (a=0)with h0|h0
   ·exact h0
   ·obtain⟨e,e1,e2,e3⟩:=Ry (XE (R:=1) (by decide) p) (L8 h0);obtain⟨f,f1,f2,f3⟩:=Ry (b:=1) (d:=e) (by decide) e1;have h1:=h f f1 (by grind);have h2:=MI (R:=1) (x:=f) (by unfold Gw;split <;> grind) p;have h3:=Ay f (ev p f);have h4:Gw f=f:=by unfold Gw;split <;> grind
    have h5:a=-(f*ev p f):=by simp only[ev]at h1;grind
    have h6:Gw a=f*Gw (ev p f):=by rw[h5,Az,h3,h4]
    have h7:f*Gw (ev p f)<=e*vL 1 p:=Ni (Qm f1) (by grind) (Tz _) h2;grind
  intro x hx;rcases Qj.1 hx with rfl|hx
  ·exact ha
  ·refine FC (p:=p) (λt h1 h2=>?_) x hx;have:=h t h1 h2;simp only[ev,ha]at this;have h3:t*ev p t=0:=by grind
   rcases Xn.1 h3 with h4|h4
   ·grind
   ·exact h4
theorem Qii{p q:Fw}(h:∀t,ev p t=ev q t)(t:Rat):dv p t=dv q t:=by
 have h1:=Qas (p:=So p (Nk (-1) q)) (FC λt _ _=>by rw[Hm,Hd,h t];grind) t;rw[vN,SN]at h1;grind
def Gt(x:Rat):Int:=if x<0 then -1 else if 0<x then 1 else 0
theorem Ha{x:Rat}:Gt x=0↔x=0:=by
 unfold Gt;constructor
 ·intro h;split at h <;> (try split at h) <;> grind
 ·intro h;subst h;rfl
theorem Sp{x:Rat}:Gt x=1↔0<x:=by
 unfold Gt;constructor
 ·intro h;split at h <;> (try split at h) <;> grind
 ·intro h;rw[if_neg (by grind),if_pos h]
theorem M7{x:Rat}:Gt x=-1↔x<0:=by
 unfold Gt;constructor
 ·intro h;split at h <;> (try split at h) <;> grind
 ·intro h;rw[if_pos h]
theorem Hf(x:Rat):Gt x=-1/\x<0\/Gt x=0/\x=0\/Gt x=1/\0<x:=by
 rcases Kr (a:=x) (b:=0)with h|h
 ·rcases Classical.em (x=0)with h0|h0
  ·exact .inr (.inl ⟨Ha.2 h0,h0⟩)
  ·exact .inl ⟨M7.2 (by grind),by grind⟩
 ·rcases Classical.em (x=0)with h0|h0
  ·exact .inr (.inl ⟨Ha.2 h0,h0⟩)
  ·exact .inr (.inr ⟨Sp.2 (by grind),by grind⟩)
theorem Mp(x y:Rat):Gt (x*y)=Gt x*Gt y:=by
 rcases Hf x with⟨e1,h1⟩|⟨e1,h1⟩|⟨e1,h1⟩ <;> rcases Hf y with⟨e2,h2⟩|⟨e2,h2⟩|⟨e2,h2⟩ <;> rw[e1,e2]
 ·have:=O8 (x:=-x) (y:=-y) (by grind) (by grind);exact Sp.2 (by grind)
 ·subst h2;exact Ha.2 (by grind)
 ·have:=O8 (x:=-x) (y:=y) (by grind) (by grind);exact M7.2 (by grind)
 ·subst h1;exact Ha.2 (by grind)
 ·subst h1;exact Ha.2 (by grind)
 ·subst h1;exact Ha.2 (by grind)
 ·have:=O8 (x:=x) (y:=-y) (by grind) (by grind);exact M7.2 (by grind)
 ·subst h2;exact Ha.2 (by grind)
 ·exact Sp.2 (O8 h1 h2)
theorem Ns{a b d:Rat}(h1:d<=Gw a)(h2:Gw (b-a)<d):Gt b=Gt a/\Gt a≠0:=by
 rw[wO]at h2;rcases Hf a with⟨e,h⟩|⟨e,h⟩|⟨e,h⟩
 ·rw[e,M7];unfold Gw at h1;rw[if_pos h]at h1;exact⟨by grind,by decide⟩
 ·subst h;rw[Sy]at h1;grind
 ·rw[e,Sp];unfold Gw at h1;rw[if_neg (by grind)]at h1;exact⟨by grind,by decide⟩
def tc(x:Rat):Int->Fx->Nat
 |_,[]=>0
 |s,p::l=>if Gt (ev p x)=0 then tc x s l else(if s=-(Gt (ev p x))then 1 else 0)+tc x (Gt (ev p x)) l
inductive SCl:List Rat->List Rat->List (List Rat)->Prop
 |base {f g:List Rat} {c:Rat} (hc:c≠0) (hg:∀t,ev g t=c):SCl f g []
 |step {f g h:List Rat} {l:List (List Rat)} {a b:Rat} {q:List Rat} (ha:0<a) (hb:0<b) (he:∀t,a*ev f t=ev q t*ev g t-b*ev h t) (hl:SCl g h l):SCl f g (h::l)
theorem Qmr{x:Rat}{s:Int}{g h:Fw}{l:Fx}(hh:Gt (ev h x)=-s)(hs:s≠0):tc x s (g::h::l)=1+tc x (-s) l:=by
 have h3:Gt (ev h x)≠0:=by omega
 have hv:s=1\/s=-1:=by rcases Hf (ev h x)with⟨e,_⟩|⟨e,_⟩|⟨e,_⟩ <;> omega
 simp only[tc,if_neg h3,hh];rcases Hf (ev g x)with⟨e,_⟩|⟨e,_⟩|⟨e,_⟩ <;> rw[e] <;> rcases hv with rfl|rfl <;> simp
theorem TX{x:Rat}{s:Int}{p:Fw}{l:Fx}(h:Gt (ev p x)≠0):tc x s (p::l)=(if s=-(Gt (ev p x))then 1 else 0)+tc x (Gt (ev p x)) l:=by rw[tc,if_neg h]
theorem Bp{R x y e d:Rat}{p:Fw}(hx:Gw x<=R)(hy:Gw y<=R)(hR:0<=R)(h:Gw (y-x)<=e)(hd:e*EH R p<d):Gw (ev p y-ev p x)<d:=by
 have h1:=Qiq hy hx p;have h2:=Q7 h (Bm hR p);grind
theorem xF{a x y:Rat}(ha:0<a)(h:a*x<a*y):x<y:=by
 rcases Kr (a:=y) (b:=x)with h'|h'
 ·have:=Zt h' (Qm ha);grind
 ·rcases Classical.em (x=y)with e|e
  ·subst e;grind
  ·grind
theorem Qvu{a b d d' B f g h q:Rat}(ha:0<a)(hb:0<b)(dp:0<d)(h7:B*d+a*d<b*d')(hq:Gw q<=B)(hg:Gw g<d)(hh:d'<=Gw h)(he:a*f=q*g-b*h)(hd':0<d'):Gt h=-Gt f/\d<=Gw f:=by
 have h4:=Rq hq (Qm hg);rw[Mh]at h4;have had:=O8 ha dp;have h8:=Zt hh (Qm hb);rcases Hf h with⟨s,p⟩|⟨s,p⟩|⟨s,p⟩
 ·have:Gw h=-h:=by unfold Gw;rw[if_pos p]
  rw[this]at h8;have h10:d<f:=xF ha (by grind);rw[s,Sp.2 (show 0<f by grind)];exact⟨rfl,by unfold Gw;split <;> grind⟩
 ·rw[p,Sy]at hh;grind
 ·have:Gw h=h:=by unfold Gw;rw[if_neg (by grind)]
  rw[this]at h8;have h10:f < -d:=xF ha (by grind);rw[s,M7.2 (show f<0 by grind)];exact⟨rfl,by unfold Gw;split <;> grind⟩
theorem min2{a b:Rat}(ha:0<a)(hb:0<b):∃e:Rat,0<e/\e<=a/\e<=b:=by
 rcases Kr (a:=a) (b:=b)with h|h
 ·exact⟨a,ha,Ql,h⟩
 ·exact⟨b,hb,h,Ql⟩
theorem Hr(a b:Rat):a<=b\/b<a:=by
 rcases Kr (a:=a) (b:=b)with h|h
 ·exact .inl h
 ·rcases Classical.em (a=b)with e|e
  ·exact .inl (by grind)
  ·exact .inr (by grind)
theorem Quz{R:Rat}(hR:0<=R){f g:Fw}{l:Fx}(hc:SCl f g l):∃d e:Rat,0<d/\0<e/\∀x y,Gw x<=R->Gw y<=R->Gw (y-x)<=e ->
 (d<=Gw (ev f x)\/d<=Gw (ev g x))/\(d<=Gw (ev f x)->Gt (ev f y)=Gt (ev f x)/\Gt (ev f x)≠0)/\(d<=Gw (ev g x)->Gt (ev g y)=Gt (ev g x)/\Gt (ev g x)≠0) /\
 (Gt (ev f y)=Gt (ev f x)->Gt (ev f x)≠0->tc x (Gt (ev f x)) (g::l)=tc y (Gt (ev f x)) (g::l)) /\
 (Gt (ev g y)=Gt (ev g x)->Gt (ev g x)≠0->tc x (Gt (ev g x)) l=tc y (Gt (ev g x)) l):=by
 induction hc with
 |
  @base f g c hc hg =>
  have hd:=L8 hc;obtain⟨e,e1,e2,e3⟩:=Ry (Bm hR f) hd;refine⟨Gw c,e,hd,e1,λx y hx hy hxy=>⟨.inr (by rw[hg];exact Ql),λh=>Ns h (Bp hx hy hR hxy e3),λh=>?_,λ_ _=>?_,λ_ _=>rfl⟩⟩
  ·rw[hg,hg];exact⟨rfl,λh=>hc (Ha.1 h)⟩
  ·simp only[tc,hg]
 |
  @step f g h l a b q ha hb he hl ih =>
  obtain⟨d',e',hd',he',ih⟩:=ih;obtain⟨d1,d1p,_,d1b⟩:=Ry (b:=vL R q+a) (d:=b*d') (by have:=XE hR q;grind) (O8 hb hd');obtain⟨d,dp,hd1,hdd⟩:=min2 d1p hd';obtain⟨ef,ef1,_,ef3⟩:=Ry (Bm hR f) dp;obtain⟨eg,eg1,_,eg3⟩:=Ry (Bm hR g) dp;obtain⟨e0,e0p,h1,h2⟩:=min2 ef1 eg1;obtain⟨e,ep,h0,h3⟩:=min2 e0p he';have h1:=Zi h0 h1;have h2:=Zi h0 h2;refine⟨d,e,dp,ep,λx y hx hy hxy=>?_⟩;obtain⟨i1,i2,i3,i4,i5⟩:=ih x y hx hy (Zi hxy h3);have hsm:Gw (ev g x)<d->d'<=Gw (ev h x)/\Gt (ev h x)=-Gt (ev f x)/\d<=Gw (ev f x):=λhg=>by
   have hh:d'<=Gw (ev h x):=by
    rcases i1 with i|i
    ·exact absurd (Zi hdd i) (J1.2 hg)
    ·exact i
   have h6:d*(vL R q+a)<=d1*(vL R q+a):=Q7 hd1 (by have:=XE hR q;clear ih i1 i2 i3 i4 i5 he;grind);have h7:vL R q*d+a*d<b*d':=by clear ih i1 i2 i3 i4 i5 he;grind
   exact⟨hh,Qvu ha hb dp h7 (MI hx q) hg hh (he x) hd'⟩
  have hfs:d<=Gw (ev f x)->Gt (ev f y)=Gt (ev f x)/\Gt (ev f x)≠0:=λh=>Ns h (Bp hx hy hR (Zi hxy h1) ef3)
  have hgs:d<=Gw (ev g x)->Gt (ev g y)=Gt (ev g x)/\Gt (ev g x)≠0:=λh=>Ns h (Bp hx hy hR (Zi hxy h2) eg3)
  refine⟨?_,hfs,hgs,λs1 s2=>?_,i4⟩
  ·rcases Hr d (Gw (ev g x))with h|h
   ·exact .inr h
   ·exact .inl (hsm h).2.2
  ·rcases Hr d (Gw (ev g x))with h|h
   ·obtain⟨g1,g2⟩:=hgs h;rw[TX (x:=x) (p:=g) g2,TX (x:=y) (p:=g) (by rw[g1];exact g2),g1,i4 g1 g2]
   ·obtain⟨h4,h5,_⟩:=hsm h;obtain⟨h6,h7⟩:=i3 h4;have i5:=i5 h6 h7;rw[Qmr h5 s2,Qmr (h6.trans h5) s2,<-h5,i5]
def M9(p:Fw)(x:Rat):Int:=if Gt (ev p x)≠0 then Gt (ev p x)else Gt (dv p x)
def vv(L:Fx)(x:Rat):Nat:=tc x 0 L
def WB(f:Fw)(L:Fx):Prop:=(∃c:Rat,c≠0/\(∀t,ev f t=c)/\L=[f])\/∃g l,∃k:Rat,0<k/\(∀t,ev g t=k*dv f t)/\SCl f g l/\L=f::g::l
structure Sm(w:List Rat)(x y:Rat):Prop where
 s:Gt (ev w y)=M9 w x
 l:M9 w y=M9 w x
 n:M9 w x≠0
theorem Ix{p:Fw}{x:Rat}(h:Gt (ev p x)≠0):M9 p x=Gt (ev p x):=by unfold M9;rw[if_pos h]
theorem dO{p:Fw}{x:Rat}(h:Gt (ev p x)=0):M9 p x=Gt (dv p x):=by unfold M9;rw[if_neg (by simpa using h)]
theorem mS{p:Fw}{x y:Rat}(h:Gt (ev p y)=Gt (ev p x))(h0:Gt (ev p x)≠0):Sm p x y:=by
 have h1:=Ix h0;have h2:=Ix (p:=p) (x:=y) (by rw[h];exact h0);exact⟨by rw[h,h1],by rw[h2,h1,h],by rw[h1];exact h0⟩
theorem Oz{f w u:Fw}(h:∀t,ev f t=ev w t*ev u t)(x:Rat):dv f x=dv w x*ev u x+ev w x*dv u x:=by
 rw[<-vB];exact Qii (λt=>by rw[h,Gj]) x
theorem Qbs{f w u:Fw}{x:Rat}(h:∀t,ev f t=ev w t*ev u t)(hu:Gt (ev u x)≠0):M9 f x=M9 w x*Gt (ev u x):=by
 by_cases hw:Gt (ev w x)=0
 ·have hw0:=Ha.1 hw;have e1:ev f x=0:=by rw[h,hw0];grind
  have e2:dv f x=dv w x*ev u x:=by rw[Oz h,hw0];grind
  rw[dO hw,dO (Ha.2 e1),e2,Mp]
 ·have e1:Gt (ev f x)=Gt (ev w x)*Gt (ev u x):=by rw[h,Mp]
  rw[Ix hw,Ix (by rw[e1];exact X9 hw hu),e1]
theorem Qvv{f w u:Fw}{x y:Rat}(h:∀t,ev f t=ev w t*ev u t)(hu:Gt (ev u y)=Gt (ev u x))(h0:Gt (ev u x)≠0)(hf:Sm f x y):Sm w x y:=by
 have e1:=Qbs h h0;have e2:=Qbs (x:=y) h (by rw[hu];exact h0);have e3:Gt (ev f y)=Gt (ev w y)*Gt (ev u y):=by rw[h,Mp]
 obtain⟨s,l,n⟩:=hf;rw[hu]at e2 e3;refine⟨?_,?_,λh=>n (by rw[e1,h,Yy])⟩
 ·rw[e3,e1]at s;exact Vr h0 s
 ·rw[e2,e1]at l;exact Vr h0 l
theorem tc0{x:Rat}{s:Int}{f g:Fw}{l:Fx}(h:Gt (ev g x)=s)(hs:s≠0):tc x 0 (f::g::l)=(if Gt (ev f x)=-s then 1 else 0)+tc x s l:=by
 have hv:s=1\/s=-1:=by rcases Hf (ev g x)with⟨e,_⟩|⟨e,_⟩|⟨e,_⟩ <;> omega
 have hg:Gt (ev g x)≠0:=by omega
 rw[tc];rcases Hf (ev f x)with⟨e,_⟩|⟨e,_⟩|⟨e,_⟩ <;> rw[e] <;> rcases hv with rfl|rfl <;> simp[TX hg,h]
theorem IY{R x y e d:Rat}{p:Fw}(hx:Gw x<=R)(hy:Gw y<=R)(hR:0<=R)(hxy:x<y)(h:y-x<=e)(hd:d<=Gw (dv p x))(he:e*ddB R p<d):Gt (ev p y-ev p x)=Gt (dv p x):=by
 have h1:=Qsl p y x;have h2:ev p y-ev p x=(y-x)*(dv p x+(y-x)*dd p y x):=by rw[h1];grind
 have h3:=Rq (x:=y-x) (y:=dd p y x) (a:=e) (b:=ddB R p) (by rw[Mh];constructor <;> grind) (Qh9 hy hx p);have h4:=Ns (b:=dv p x+(y-x)*dd p y x) hd (by
  have:dv p x+(y-x)*dd p y x-dv p x=(y-x)*dd p y x:=by grind
  rw[this];exact J1.1 λh=>absurd (Zi h h3) (J1.2 he))
 rw[h2,Mp,Sp.2 (show 0<y-x by grind),h4.1,Vm]
def Qft(f w:Fw)(L:Fx)(x y:Rat):Prop :=
 (vv L x=vv L y/\Sm f x y/\Sm w x y)\/(vv L x=vv L y+1/\M9 f x≠0/\M9 f y=-M9 f x/\Gt (ev f x)=M9 f x/\(Gt (ev f y)=0\/Gt (ev f y)=-M9 f x))
theorem Qso{R d:Rat}(hR:0<=R)(hd:0<d){f w u:Fw}(h:∀t,ev f t=ev w t*ev u t):∃e:Rat,0<e/\∀x y,Gw x<=R->Gw y<=R->Gw (y-x)<=e->d<=Gw (ev f x)->Sm f x y/\Sm w x y:=by
 obtain⟨ef,ef1,_,ef3⟩:=Ry (Bm hR f) hd;obtain⟨d1,d1p,_,d1b⟩:=Ry (XE hR u) hd;obtain⟨ew,ew1,_,ew3⟩:=Ry (Bm hR w) d1p;obtain⟨e,ep,e1,e2⟩:=min2 ef1 ew1;refine⟨e,ep,λx y hx hy hxy hf=>⟨?_,?_⟩⟩
 ·have:=Ns hf (Bp hx hy hR (Zi hxy e1) ef3);exact mS this.1 this.2
 ·have hw:d1<=Gw (ev w x):=by
   rcases Hr d1 (Gw (ev w x))with h'|h'
   ·exact h'
   ·have h5:=Rq (Qm h') (MI hx u);rw[<-h]at h5;exact absurd (Zi hf h5) (J1.2 d1b)
  have:=Ns hw (Bp hx hy hR (Zi hxy e2) ew3);exact mS this.1 this.2
theorem loc{R:Rat}(hR:0<=R){f w u:Fw}{L:Fx}(hc:WB f L)(h:∀t,ev f t=ev w t*ev u t):∃e:Rat,0<e/\∀x y,Gw x<=R->Gw y<=R->x<y->y-x<=e->Qft f w L x y:=by
 rcases hc with⟨c,hc,hf,rfl⟩|⟨g,l,k,hk,hg,hc,rfl⟩
 ·obtain⟨e,ep,h1⟩:=Qso hR (L8 hc) h;refine⟨e,ep,λx y hx hy hxy he=>.inl ⟨?_,h1 x y hx hy (by rw[Mh];constructor <;> grind) (by rw[hf];exact Ql)⟩⟩;simp only[vv,tc,hf]
 ·obtain⟨d,e1,dp,e1p,h1⟩:=Quz hR hc;obtain⟨e2,e2p,h2⟩:=Qso hR dp h;obtain⟨d3,d3p,_,d3b⟩:=Ry (b:=k) (d:=d) (Qm hk) dp;obtain⟨e3,e3p,_,e3b⟩:=Ry (EV hR f) d3p;obtain⟨d4,d4p,_,d4b⟩:=Ry (b:=EH R w+EH R u) (d:=d3) (by have:=Bm hR w;have:=Bm hR u;grind) d3p;obtain⟨e4,e4p,_,e4b⟩:=Ry (Bm hR w) d4p;obtain⟨e5,e5p,_,e5b⟩:=Ry (Bm hR u) d4p;obtain⟨a1,a1p,a11,a12⟩:=min2 e1p e2p;obtain⟨a2,a2p,a21,a22⟩:=min2 e3p e4p;obtain⟨a3,a3p,a31,a32⟩:=min2 a1p a2p;obtain⟨e,ep,b1,b2⟩:=min2 a3p e5p;refine⟨e,ep,λx y hx hy hxy he=>?_⟩;have hab:Gw (y-x)<=e:=by rw[Mh];clear h1 h2;constructor <;> grind
  have hab1:Gw (y-x)<=e1:=by clear h1 h2;grind
  have hab2:Gw (y-x)<=e2:=by clear h1 h2;grind
  obtain⟨i1,i2,i3,i4,i5⟩:=h1 x y hx hy hab1;rcases Hr d (Gw (ev f x))with hf|hf
  ·obtain⟨s1,s2⟩:=h2 x y hx hy hab2 hf;obtain⟨j1,j2⟩:=i2 hf;refine .inl ⟨?_,s1,s2⟩;have:=i4 j1 j2;simp only[vv];rw[TX (x:=x) (p:=f) j2,TX (x:=y) (p:=f) (by rw[j1];exact j2),j1,this]
  ·have hg1:d<=Gw (ev g x):=by
    rcases i1 with i|i
    ·exact absurd i (J1.2 hf)
    ·exact i
   obtain⟨g1,g2⟩:=i3 hg1;have i5:=i5 g1 g2;have hD:d3<=Gw (dv f x):=by
    rcases Hr d3 (Gw (dv f x))with h'|h'
    ·exact h'
    ·have h5:=Rq (x:=k) (a:=k) (by unfold Gw;split <;> clear h1 h2 <;> grind) (Rat.le_of_lt h');rw[<-hg]at h5;have:k*d3=d3*k:=by grind
     exact absurd (Zi hg1 h5) (J1.2 (by rw[this];exact d3b))
   have hm:=IY hx hy hR hxy (by clear h1 h2;grind:y-x<=e3) hD e3b;have s1:Gt (ev g x)=Gt (dv f x):=by rw[hg,Mp,Sp.2 hk,Vm]
   have s2:Gt (ev g y)=Gt (dv f y):=by rw[hg,Mp,Sp.2 hk,Vm]
   obtain⟨s,hs⟩:=nmE (Gt (ev g x));rw[<-hs]at g1 g2 i5 s1;rw[g1]at s2;have v1:=tc0 (f:=f) (l:=l) hs.symm g2;have v2:=tc0 (f:=f) (l:=l) g1 g2;rw[<-i5]at v2;rw[<-s1]at hm;have hw:Sm f x y->Sm w x y:=λhf=>by
    rcases Hr d4 (Gw (ev u x))with hu|hu
    ·have hu:=Ns hu (Bp hx hy hR (Zi hab b2) e5b);exact Qvv h hu.1 hu.2 hf
    ·have hw:d4<=Gw (ev w x):=by
      rcases Hr d4 (Gw (ev w x))with h'|h'
      ·exact h'
      ·have q1:=Rq (x:=dv w x) (y:=ev u x) (a:=EH R w) (by rw[<-vS];exact tK hx hx w) (Qm hu);have q2:=Rq (x:=ev w x) (y:=dv u x) (b:=EH R u) (Qm h') (by rw[<-vS];exact tK hx hx u);have q3:=Mn (dv w x*ev u x) (ev w x*dv u x);rw[<-Oz h]at q3;have:d4*(EH R w+EH R u)=EH R w*d4+d4*EH R u:=by grind
       rw[this]at d4b;exact absurd (Zi hD (Zi q3 (by clear h1 h2;grind:_<=EH R w*d4+d4*EH R u))) (J1.2 d4b)
     have hw:=Ns hw (Bp hx hy hR (Zi hab (by clear h1 h2;grind)) e4b);exact mS hw.1 hw.2
   have lx:M9 f x=if Gt (ev f x)≠0 then Gt (ev f x)else s:=by rw[s1];rfl
   have ly:M9 f y=if Gt (ev f y)≠0 then Gt (ev f y)else s:=by rw[s2];rfl
   clear h1 h2 i1 i2 i3 i4;have hsv:s=1\/s=-1:=by rcases Hf (ev g x)with⟨e,_⟩|⟨e,_⟩|⟨e,_⟩ <;> omega
   unfold Qft;simp only[vv,v1,v2];rcases hsv with rfl|rfl
   ·have hm:=Sp.1 hm;rcases Hf (ev f x)with⟨p1,p2⟩|⟨p1,p2⟩|⟨p1,p2⟩
    ·rcases Hf (ev f y)with⟨q1,q2⟩|⟨q1,q2⟩|⟨q1,q2⟩
     ·rw[p1,q1];have hsm:=mS (p:=f) (x:=x) (y:=y) (by rw[p1,q1]) (by rw[p1];decide);exact .inl ⟨rfl,hsm,hw hsm⟩
     ·rw[lx,ly,p1,q1];refine .inr ⟨by simp;omega,by decide,by decide,by decide,by decide⟩
     ·rw[lx,ly,p1,q1];refine .inr ⟨by simp;omega,by decide,by decide,by decide,by decide⟩
    ·have q1:=Sp.2 (show 0<ev f y by grind);have hsm:Sm f x y:=⟨by rw[lx,q1,p1];rfl,by rw[lx,ly,q1,p1];rfl,by rw[lx,p1];decide⟩;rw[p1,q1];exact .inl ⟨rfl,hsm,hw hsm⟩
    ·have q1:=Sp.2 (show 0<ev f y by grind);have hsm:Sm f x y:=⟨by rw[lx,q1,p1];rfl,by rw[lx,ly,q1,p1],by rw[lx,p1];decide⟩;rw[p1,q1];exact .inl ⟨rfl,hsm,hw hsm⟩
   ·have hm:=M7.1 hm;rcases Hf (ev f x)with⟨p1,p2⟩|⟨p1,p2⟩|⟨p1,p2⟩
    ·have q1:=M7.2 (show ev f y<0 by grind);have hsm:Sm f x y:=⟨by rw[lx,q1,p1];rfl,by rw[lx,ly,q1,p1],by rw[lx,p1];decide⟩;rw[p1,q1];exact .inl ⟨rfl,hsm,hw hsm⟩
    ·have q1:=M7.2 (show ev f y<0 by grind);have hsm:Sm f x y:=⟨by rw[lx,q1,p1];rfl,by rw[lx,ly,q1,p1];rfl,by rw[lx,p1];decide⟩;rw[p1,q1];exact .inl ⟨rfl,hsm,hw hsm⟩
    ·rcases Hf (ev f y)with⟨q1,q2⟩|⟨q1,q2⟩|⟨q1,q2⟩
     ·rw[lx,ly,p1,q1];refine .inr ⟨by simp;omega,by decide,by decide,by decide,by decide⟩
     ·rw[lx,ly,p1,q1];refine .inr ⟨by simp;omega,by decide,by decide,by decide,by decide⟩
     ·rw[p1,q1];have hsm:=mS (p:=f) (x:=x) (y:=y) (by rw[p1,q1]) (by rw[p1];decide);exact .inl ⟨rfl,hsm,hw hsm⟩
end Orq
