/- Ntt L1 L2 L3 L4 L5 M1 P2 M2 PolyL RatL RefPL RefGL RatOkL T1 T2 T3 -/
import Derived.Test.YtdcbpgmmopdelaaGreatPart03
import Derived.Laws.StructEq
import Derived.Test.YtdcbpgmmopdelaaGreatProg
import Derived.Test.YtdcbpgmmopdelaaGreatPart00
set_option linter.all false
namespace Orr
open Go Go.Proofs Tryz
theorem cD(d:Nat)(x y:Int)(w:World):(Op.equalIn (d+1) 3 (.int .i64 x) (.int .i64 y)).run prog w=.ok (decide (x=y)) w:=by
 simp[Op.equalIn,runUnderlying3];rfl
noncomputable def ti3:TI prog:=Ia 3 isAgg3 sizeOf3 underlying3 zeroValue3 typeInfo3 8 rfl
noncomputable def ti4:TI prog:=Ia 4 isAgg4 sizeOf4 underlying4 zeroValue4 typeInfo4 1 rfl
noncomputable def ti5:TI prog:=Ia 5 isAgg5 sizeOf5 underlying5 zeroValue5 typeInfo5 1 rfl
noncomputable def ti9:TI prog:=Ia 9 isAgg9 sizeOf9 underlying9 zeroValue9 typeInfo9 16 rfl
noncomputable def ti22:TI prog:=Ia 22 isAgg22 sizeOf22 underlying22 zeroValue22 typeInfo22 24 rfl
noncomputable def ti23:TI prog:=Ia 23 isAgg23 sizeOf23 underlying23 zeroValue23 typeInfo23 24 rfl
noncomputable def ti24:TI prog:=Ia 24 isAgg24 sizeOf24 underlying24 zeroValue24 typeInfo24 24 rfl
noncomputable def ti28:TI prog:=Ia 28 isAgg28 sizeOf28 underlying28 zeroValue28 typeInfo28 24 rfl
noncomputable def ti29:TI prog:=Ia 29 isAgg29 sizeOf29 underlying29 zeroValue29 typeInfo29 24 rfl
noncomputable def ti30:TI prog:=Ia 30 isAgg30 sizeOf30 underlying30 zeroValue30 typeInfo30 24 rfl
noncomputable def ti32:TI prog:=YX (ks:=[1,1]) (ag:=[false,false]) 32 isAgg32 sizeOf32 underlying32 zeroValue32 typeInfo32 32 rfl ⟨sizeOf30,sizeOf4,trivial⟩ ⟨isAgg30,isAgg4,trivial⟩ rfl
noncomputable def ti34:TI prog:=YX (ks:=[2,2]) (ag:=[true,true]) 34 isAgg34 sizeOf34 underlying34 zeroValue34 typeInfo34 64 rfl ⟨sizeOf32,sizeOf32,trivial⟩ ⟨isAgg32,isAgg32,trivial⟩ rfl
noncomputable def ti36:TI prog:=YX (ks:=[1,1,4,4]) (ag:=[false,false,true,true]) 36 isAgg36 sizeOf36 underlying36 zeroValue36 typeInfo36 176 rfl ⟨sizeOf28,sizeOf29,sizeOf34,sizeOf34,trivial⟩ ⟨isAgg28,isAgg29,isAgg34,isAgg34,trivial⟩ rfl
noncomputable def ti38:TI prog:=Ia 38 isAgg38 sizeOf38 underlying38 zeroValue38 typeInfo38 24 rfl
set_option maxRecDepth 20000 in
theorem Qjv(d:Nat)(x0 x1 x2 x3 y0 y1 y2 y3:Int)(w:World):(Op.equalIn (d+1+1) 42 (.agg #[.int .i64 x0,.int .i64 x1,.int .i64 x2,.int .i64 x3]) (.agg #[.int .i64 y0,.int .i64 y1,.int .i64 y2,.int .i64 y3])).run prog w=.ok (decide ([x0,x1,x2,x3]=[y0,y1,y2,y3])) w:=by
 rw[run_equalIn_array w (d+1) _ _ (n:=4) (e:=3) rfl rfl];rw[show List.range 4=[0,1,2,3] from rfl,show prog.cellsOf 3=1 from rfl];simp[Op.eqItems,Go.part,isAgg3,cD];by_cases h0:x0=y0 <;> by_cases h1:x1=y1 <;> by_cases h2:x2=y2 <;> by_cases h3:x3=y3 <;> simp[h0,h1,h2,h3]
noncomputable def ti42:TI prog:=tiA 42 isAgg42 sizeOf42 underlying42 zeroValue42 typeInfo42 32 rfl sizeOf3
set_option maxRecDepth 20000 in
theorem Qjw(d:Nat)(x x0 x1 x2 x3 y y0 y1 y2 y3:Int)(w:World):(Op.equalIn (d+1+1+1) 44 (.agg #[.int .i64 x,.int .i64 x0,.int .i64 x1,.int .i64 x2,.int .i64 x3]) (.agg #[.int .i64 y,.int .i64 y0,.int .i64 y1,.int .i64 y2,.int .i64 y3])).run prog w=.ok (decide ([x,x0,x1,x2,x3]=[y,y0,y1,y2,y3])) w:=by
 rw[run_equalIn_struct w (d+1+1) 44 _ _ rfl Tryz.stoodInHeld44];have hf:(prog.fieldsOf 44).toList=[{ name := "Kind",type:=3,offset:=0,embedded:=false,tag := "",pkgPath := "",byteOffset:=0 },{ name := "Ids",type:=42,offset:=1,embedded:=false,tag := "",pkgPath := "",byteOffset:=8 }]:=by simp[Program.fieldsOf,underlying44]
 rw[hf];simp[Op.eqFields,Go.part,isAgg3,isAgg42,sizeOf42,sizeOf3,cD,Qjv];by_cases h:x=y <;> by_cases h0:x0=y0 <;> by_cases h1:x1=y1 <;> by_cases h2:x2=y2 <;> by_cases h3:x3=y3 <;> simp[h,h0,h1,h2,h3]
theorem Qo7(a b:Um)(ha:a.length=5)(hb:b.length=5)(w:World):(Op.equal 44 (.agg (a.map (Value.int .i64)).toArray) (.agg (b.map (Value.int .i64)).toArray)).run prog w=.ok (decide (a=b)) w:=by
 match a,ha,b,hb with
 | [x,x0,x1,x2,x3],_,[y,y0,y1,y2,y3],_=>exact Qjw 9997 x x0 x1 x2 x3 y y0 y1 y2 y3 w
noncomputable def ti44:TI prog:={ YX (ks:=[1,4]) (ag:=[false,true]) 44 isAgg44 sizeOf44 underlying44 zeroValue44 typeInfo44 40 rfl ⟨sizeOf3,sizeOf42,trivial⟩ ⟨isAgg3,isAgg42,trivial⟩ rfl with eqn:=some 5,heq:=λk h=>by injection h with h;subst h;exact⟨eqGuardType44,Qo7⟩ }
noncomputable def ti45:TI prog:=Ia 45 isAgg45 sizeOf45 underlying45 zeroValue45 typeInfo45 24 rfl
noncomputable def ti47:TI prog:=YX (ks:=[5,1,1,1,1]) (ag:=[true,false,false,false,false]) 47 isAgg47 sizeOf47 underlying47 zeroValue47 typeInfo47 104 rfl ⟨sizeOf44,sizeOf28,sizeOf3,sizeOf45,sizeOf4,trivial⟩ ⟨isAgg44,isAgg28,isAgg3,isAgg45,isAgg4,trivial⟩ rfl
noncomputable def ti48:TI prog:=Ia 48 isAgg48 sizeOf48 underlying48 zeroValue48 typeInfo48 24 rfl
noncomputable def ti51:TI prog:=Ia 51 isAgg51 sizeOf51 underlying51 zeroValue51 typeInfo51 24 rfl
noncomputable def ti52:TI prog:=Ia 52 isAgg52 sizeOf52 underlying52 zeroValue52 typeInfo52 24 rfl
noncomputable def ti53:TI prog:=Ia 53 isAgg53 sizeOf53 underlying53 zeroValue53 typeInfo53 24 rfl
noncomputable def ti55:TI prog:=YX (ks:=[1,1]) (ag:=[false,false]) 55 isAgg55 sizeOf55 underlying55 zeroValue55 typeInfo55 32 rfl ⟨sizeOf4,sizeOf53,trivial⟩ ⟨isAgg4,isAgg53,trivial⟩ rfl
noncomputable def ti57:TI prog:=YX (ks:=[2,2]) (ag:=[true,true]) 57 isAgg57 sizeOf57 underlying57 zeroValue57 typeInfo57 64 rfl ⟨sizeOf55,sizeOf55,trivial⟩ ⟨isAgg55,isAgg55,trivial⟩ rfl
noncomputable def ti59:TI prog:=YX (ks:=[1,4,4]) (ag:=[false,true,true]) 59 isAgg59 sizeOf59 underlying59 zeroValue59 typeInfo59 152 rfl ⟨sizeOf52,sizeOf57,sizeOf57,trivial⟩ ⟨isAgg52,isAgg57,isAgg57,trivial⟩ rfl
noncomputable def ti63:TI prog:=Ia 63 isAgg63 sizeOf63 underlying63 zeroValue63 typeInfo63 24 rfl
noncomputable def ti65:TI prog:=YX (ks:=[1,1,1,1,1]) (ag:=[false,false,false,false,false]) 65 isAgg65 sizeOf65 underlying65 zeroValue65 typeInfo65 120 rfl ⟨sizeOf23,sizeOf23,sizeOf23,sizeOf23,sizeOf63,trivial⟩ ⟨isAgg23,isAgg23,isAgg23,isAgg23,isAgg63,trivial⟩ rfl
noncomputable def ti74:TI prog:=YX (ks:=[1,1,2]) (ag:=[false,false,true]) 74 isAgg74 sizeOf74 underlying74 zeroValue74 typeInfo74 80 rfl ⟨sizeOf52,sizeOf52,sizeOf55,trivial⟩ ⟨isAgg52,isAgg52,isAgg55,trivial⟩ rfl
noncomputable def ti76:TI prog:=YX (ks:=[4,1]) (ag:=[true,false]) 76 isAgg76 sizeOf76 underlying76 zeroValue76 typeInfo76 88 rfl ⟨sizeOf74,sizeOf3,trivial⟩ ⟨isAgg74,isAgg3,trivial⟩ rfl
set_option maxRecDepth 20000 in
theorem Qjx(d:Nat)(x0 x1 x2 y0 y1 y2:Int)(w:World):(Op.equalIn (d+1+1) 79 (.agg #[.int .i64 x0,.int .i64 x1,.int .i64 x2]) (.agg #[.int .i64 y0,.int .i64 y1,.int .i64 y2])).run prog w=.ok (decide ([x0,x1,x2]=[y0,y1,y2])) w:=by
 rw[run_equalIn_array w (d+1) _ _ (n:=3) (e:=3) rfl rfl];rw[show List.range 3=[0,1,2] from rfl,show prog.cellsOf 3=1 from rfl];simp[Op.eqItems,Go.part,isAgg3,cD];by_cases h0:x0=y0 <;> by_cases h1:x1=y1 <;> by_cases h2:x2=y2 <;> simp[h0,h1,h2]
theorem tU(a b:Um)(ha:a.length=3)(hb:b.length=3)(w:World):(Op.equal 79 (.agg (a.map (Value.int .i64)).toArray) (.agg (b.map (Value.int .i64)).toArray)).run prog w=.ok (decide (a=b)) w:=by
 match a,ha,b,hb with
 | [x0,x1,x2],_,[y0,y1,y2],_=>exact Qjx 9998 x0 x1 x2 y0 y1 y2 w
noncomputable def ti79:TI prog:={ tiA 79 isAgg79 sizeOf79 underlying79 zeroValue79 typeInfo79 24 rfl sizeOf3 with eqn:=some 3,heq:=λk h=>by injection h with h;subst h;exact⟨eqGuardType79,tU⟩ }
noncomputable def ti84:TI prog:=Ia 84 isAgg84 sizeOf84 underlying84 zeroValue84 typeInfo84 24 rfl
noncomputable def ti85:TI prog:=Ia 85 isAgg85 sizeOf85 underlying85 zeroValue85 typeInfo85 8 rfl
noncomputable def ti92:TI prog:=YX (ks:=[1,1,1,5]) (ag:=[false,false,false,true]) 92 isAgg92 sizeOf92 underlying92 zeroValue92 typeInfo92 112 rfl ⟨sizeOf3,sizeOf3,sizeOf3,sizeOf76,trivial⟩ ⟨isAgg3,isAgg3,isAgg3,isAgg76,trivial⟩ rfl
noncomputable def ti94:TI prog:=Ia 94 isAgg94 sizeOf94 underlying94 zeroValue94 typeInfo94 24 rfl
noncomputable def ti95:TI prog:=Ia 95 isAgg95 sizeOf95 underlying95 zeroValue95 typeInfo95 8 rfl
noncomputable def ti101:TI prog:=YX (ks:=[1,1,1,5]) (ag:=[false,false,false,true]) 101 isAgg101 sizeOf101 underlying101 zeroValue101 typeInfo101 112 rfl ⟨sizeOf3,sizeOf3,sizeOf3,sizeOf76,trivial⟩ ⟨isAgg3,isAgg3,isAgg3,isAgg76,trivial⟩ rfl
noncomputable def ti103:TI prog:=Ia 103 isAgg103 sizeOf103 underlying103 zeroValue103 typeInfo103 24 rfl
noncomputable def ti104:TI prog:=Ia 104 isAgg104 sizeOf104 underlying104 zeroValue104 typeInfo104 8 rfl
noncomputable def ti110:TI prog:=YX (ks:=[1,1,1,5]) (ag:=[false,false,false,true]) 110 isAgg110 sizeOf110 underlying110 zeroValue110 typeInfo110 112 rfl ⟨sizeOf3,sizeOf3,sizeOf3,sizeOf76,trivial⟩ ⟨isAgg3,isAgg3,isAgg3,isAgg76,trivial⟩ rfl
noncomputable def ti112:TI prog:=Ia 112 isAgg112 sizeOf112 underlying112 zeroValue112 typeInfo112 24 rfl
noncomputable def ti113:TI prog:=Ia 113 isAgg113 sizeOf113 underlying113 zeroValue113 typeInfo113 8 rfl
noncomputable def ti119:TI prog:=YX (ks:=[1,1,1,5]) (ag:=[false,false,false,true]) 119 isAgg119 sizeOf119 underlying119 zeroValue119 typeInfo119 112 rfl ⟨sizeOf3,sizeOf3,sizeOf3,sizeOf76,trivial⟩ ⟨isAgg3,isAgg3,isAgg3,isAgg76,trivial⟩ rfl
noncomputable def ti121:TI prog:=Ia 121 isAgg121 sizeOf121 underlying121 zeroValue121 typeInfo121 24 rfl
noncomputable def ti122:TI prog:=Ia 122 isAgg122 sizeOf122 underlying122 zeroValue122 typeInfo122 8 rfl
noncomputable def ti128:TI prog:=YX (ks:=[1,1,1,5]) (ag:=[false,false,false,true]) 128 isAgg128 sizeOf128 underlying128 zeroValue128 typeInfo128 112 rfl ⟨sizeOf3,sizeOf3,sizeOf3,sizeOf76,trivial⟩ ⟨isAgg3,isAgg3,isAgg3,isAgg76,trivial⟩ rfl
noncomputable def ti133:TI prog:=YX (ks:=[1,1,4]) (ag:=[false,false,true]) 133 isAgg133 sizeOf133 underlying133 zeroValue133 typeInfo133 128 rfl ⟨sizeOf28,sizeOf28,sizeOf74,trivial⟩ ⟨isAgg28,isAgg28,isAgg74,trivial⟩ rfl
noncomputable def ti135:TI prog:=YX (ks:=[6,1]) (ag:=[true,false]) 135 isAgg135 sizeOf135 underlying135 zeroValue135 typeInfo135 136 rfl ⟨sizeOf133,sizeOf3,trivial⟩ ⟨isAgg133,isAgg3,trivial⟩ rfl
noncomputable def ti144:TI prog:=YX (ks:=[5,1,1]) (ag:=[true,false,false]) 144 isAgg144 sizeOf144 underlying144 zeroValue144 typeInfo144 72 rfl ⟨sizeOf44,sizeOf52,sizeOf3,trivial⟩ ⟨isAgg44,isAgg52,isAgg3,trivial⟩ rfl
noncomputable def ti150:TI prog:=Ia 150 isAgg150 sizeOf150 underlying150 zeroValue150 typeInfo150 24 rfl
noncomputable def ti166:TI prog:=YX (ks:=[10,1,1,1]) (ag:=[true,false,false,false]) 166 isAgg166 sizeOf166 underlying166 zeroValue166 typeInfo166 232 rfl ⟨sizeOf36,sizeOf38,sizeOf3,sizeOf45,trivial⟩ ⟨isAgg36,isAgg38,isAgg3,isAgg45,trivial⟩ rfl
noncomputable def ti168:TI prog:=YX (ks:=[1,4,13]) (ag:=[false,true,true]) 168 isAgg168 sizeOf168 underlying168 zeroValue168 typeInfo168 320 rfl ⟨sizeOf24,sizeOf34,sizeOf166,trivial⟩ ⟨isAgg24,isAgg34,isAgg166,trivial⟩ rfl
noncomputable def ti169:TI prog:=Ia 169 isAgg169 sizeOf169 underlying169 zeroValue169 typeInfo169 8 rfl
noncomputable def ti174:TI prog:=Ia 174 isAgg174 sizeOf174 underlying174 zeroValue174 typeInfo174 24 rfl
noncomputable def ti176:TI prog:=YX (ks:=[1,9,1,1]) (ag:=[false,true,false,false]) 176 isAgg176 sizeOf176 underlying176 zeroValue176 typeInfo176 192 rfl ⟨sizeOf4,sizeOf59,sizeOf174,sizeOf3,trivial⟩ ⟨isAgg4,isAgg59,isAgg174,isAgg3,trivial⟩ rfl
noncomputable def ti178:TI prog:=YX (ks:=[1]) (ag:=[false]) 178 isAgg178 sizeOf178 underlying178 zeroValue178 typeInfo178 24 rfl ⟨sizeOf22,trivial⟩ ⟨isAgg22,trivial⟩ rfl
noncomputable def ti180:TI prog:=YX (ks:=[12,1,1]) (ag:=[true,true,false]) 180 isAgg180 sizeOf180 underlying180 zeroValue180 typeInfo180 240 rfl ⟨sizeOf176,sizeOf178,sizeOf22,trivial⟩ ⟨isAgg176,isAgg178,isAgg22,trivial⟩ rfl
noncomputable def ti191:TI prog:=Ia 191 isAgg191 sizeOf191 underlying191 zeroValue191 typeInfo191 24 rfl
noncomputable def ti206:TI prog:=YX (ks:=[1,4,13]) (ag:=[false,true,true]) 206 isAgg206 sizeOf206 underlying206 zeroValue206 typeInfo206 320 rfl ⟨sizeOf24,sizeOf34,sizeOf166,trivial⟩ ⟨isAgg24,isAgg34,isAgg166,trivial⟩ rfl
noncomputable def ti210:TI prog:=Ia 210 isAgg210 sizeOf210 underlying210 zeroValue210 typeInfo210 24 rfl
noncomputable def ti212:TI prog:=YX (ks:=[12,1,1,1]) (ag:=[true,true,false,false]) 212 isAgg212 sizeOf212 underlying212 zeroValue212 typeInfo212 264 rfl ⟨sizeOf176,sizeOf178,sizeOf22,sizeOf210,trivial⟩ ⟨isAgg176,isAgg178,isAgg22,isAgg210,trivial⟩ rfl
noncomputable def ti215:TI prog:=YX (ks:=[1,4,13]) (ag:=[false,true,true]) 215 isAgg215 sizeOf215 underlying215 zeroValue215 typeInfo215 320 rfl ⟨sizeOf24,sizeOf34,sizeOf166,trivial⟩ ⟨isAgg24,isAgg34,isAgg166,trivial⟩ rfl
noncomputable def ti220:TI prog:=YX (ks:=[12,1,1]) (ag:=[true,true,false]) 220 isAgg220 sizeOf220 underlying220 zeroValue220 typeInfo220 240 rfl ⟨sizeOf176,sizeOf178,sizeOf22,trivial⟩ ⟨isAgg176,isAgg178,isAgg22,trivial⟩ rfl
noncomputable def ti222:TI prog:=Ia 222 isAgg222 sizeOf222 underlying222 zeroValue222 typeInfo222 4 rfl
noncomputable def ti225:TI prog:=YX (ks:=[1,4,13]) (ag:=[false,true,true]) 225 isAgg225 sizeOf225 underlying225 zeroValue225 typeInfo225 320 rfl ⟨sizeOf24,sizeOf34,sizeOf166,trivial⟩ ⟨isAgg24,isAgg34,isAgg166,trivial⟩ rfl
noncomputable def ti230:TI prog:=YX (ks:=[12,1,1]) (ag:=[true,true,false]) 230 isAgg230 sizeOf230 underlying230 zeroValue230 typeInfo230 240 rfl ⟨sizeOf176,sizeOf178,sizeOf63,trivial⟩ ⟨isAgg176,isAgg178,isAgg63,trivial⟩ rfl
noncomputable def ti232:TI prog:=Ia 232 isAgg232 sizeOf232 underlying232 zeroValue232 typeInfo232 24 rfl
noncomputable def ti235:TI prog:=YX (ks:=[1,4,13]) (ag:=[false,true,true]) 235 isAgg235 sizeOf235 underlying235 zeroValue235 typeInfo235 320 rfl ⟨sizeOf24,sizeOf34,sizeOf166,trivial⟩ ⟨isAgg24,isAgg34,isAgg166,trivial⟩ rfl
noncomputable def ti240:TI prog:=YX (ks:=[12,1,1]) (ag:=[true,true,false]) 240 isAgg240 sizeOf240 underlying240 zeroValue240 typeInfo240 240 rfl ⟨sizeOf176,sizeOf178,sizeOf22,trivial⟩ ⟨isAgg176,isAgg178,isAgg22,trivial⟩ rfl
noncomputable def ti262:TI prog:=tiA 262 isAgg262 sizeOf262 underlying262 zeroValue262 typeInfo262 272 rfl sizeOf135
noncomputable def ti288:TI prog:=YX (ks:=[7,1,1,9]) (ag:=[true,false,false,true]) 288 isAgg288 sizeOf288 underlying288 zeroValue288 typeInfo288 232 rfl ⟨sizeOf144,sizeOf4,sizeOf4,sizeOf59,trivial⟩ ⟨isAgg144,isAgg4,isAgg4,isAgg59,trivial⟩ rfl
set_option maxRecDepth 20000 in
theorem Qdv(d:Nat)(x0 x1 y0 y1:Int)(w:World):(Op.equalIn (d+1+1) 305 (.agg #[.int .i64 x0,.int .i64 x1]) (.agg #[.int .i64 y0,.int .i64 y1])).run prog w=.ok (decide ([x0,x1]=[y0,y1])) w:=by
 rw[run_equalIn_array w (d+1) _ _ (n:=2) (e:=3) rfl rfl];rw[show List.range 2=[0,1] from rfl,show prog.cellsOf 3=1 from rfl];simp[Op.eqItems,Go.part,isAgg3,cD];by_cases h0:x0=y0 <;> by_cases h1:x1=y1 <;> simp[h0,h1]
theorem Qju(a b:Um)(ha:a.length=2)(hb:b.length=2)(w:World):(Op.equal 305 (.agg (a.map (Value.int .i64)).toArray) (.agg (b.map (Value.int .i64)).toArray)).run prog w=.ok (decide (a=b)) w:=by
 match a,ha,b,hb with
 | [x0,x1],_,[y0,y1],_=>exact Qdv 9998 x0 x1 y0 y1 w
noncomputable def ti305:TI prog:={ tiA 305 isAgg305 sizeOf305 underlying305 zeroValue305 typeInfo305 16 rfl sizeOf3 with eqn:=some 2,heq:=λk h=>by injection h with h;subst h;exact⟨eqGuardType305,Qju⟩ }
noncomputable def ti311:TI prog:=tiA 311 isAgg311 sizeOf311 underlying311 zeroValue311 typeInfo311 48 rfl sizeOf305
noncomputable def ti330:TI prog:=Ia 330 isAgg330 sizeOf330 underlying330 zeroValue330 typeInfo330 24 rfl
noncomputable def ti331:TI prog:=Ia 331 isAgg331 sizeOf331 underlying331 zeroValue331 typeInfo331 24 rfl
noncomputable def ti335:TI prog:=Ia 335 isAgg335 sizeOf335 underlying335 zeroValue335 typeInfo335 24 rfl
noncomputable def ti371:TI prog:=Ia 371 isAgg371 sizeOf371 underlying371 zeroValue371 typeInfo371 24 rfl
noncomputable def ti374:TI prog:=tiA 374 isAgg374 sizeOf374 underlying374 zeroValue374 typeInfo374 176 rfl sizeOf76
noncomputable def ti398:TI prog:=Ia 398 isAgg398 sizeOf398 underlying398 zeroValue398 typeInfo398 24 rfl
noncomputable def ti403:TI prog:=YX (ks:=[1]) (ag:=[false]) 403 isAgg403 sizeOf403 underlying403 zeroValue403 typeInfo403 24 rfl ⟨sizeOf335,trivial⟩ ⟨isAgg335,trivial⟩ rfl
noncomputable def ti411:TI prog:=Ia 411 isAgg411 sizeOf411 underlying411 zeroValue411 typeInfo411 8 rfl
noncomputable def ti412:TI prog:=Ia 412 isAgg412 sizeOf412 underlying412 zeroValue412 typeInfo412 8 rfl
theorem iQ(em:Bool)(n:Nat)(v:Int)(w:World):(Instr.checkKey em (n+1) 3 (.int .i64 v)).run prog w=.ok () w:=by
 rw[Instr.checkKey];simp[runUnderlying3]
theorem vB(em:Bool)(n:Nat)(a b c:Int)(w:World):(Instr.checkKey em (n+1+1) 79 (.agg #[.int .i64 a,.int .i64 b,.int .i64 c])).run prog w=.ok () w:=by
 rw[Instr.checkKey];simp[runUnderlying79];rw[show List.range' 0 3=[0,1,2] from rfl];simp[Go.part,isAgg3,sizeOf3,iQ]
theorem TQ(em:Bool)(ks:Um)(hk:ks.length=3)(w:World):(Instr.checkKey em 10000 79 (Ek ks)).run prog w=.ok () w:=by
 match ks,hk with
 | [a,b,c],_=>exact vB em 9998 a b c w
theorem Qe4:MapT prog 380 79 3 (.int .i64 0):=⟨runUnderlying380,⟨_,runUnderlying79,λ_ _=>rfl⟩,TQ,λx y hx hy w=>tU x y hx hy w,zeroValue3,rfl⟩
noncomputable def ti380:TI prog:={ Ia 380 isAgg380 sizeOf380 underlying380 zeroValue380 typeInfo380 8 rfl with md:=some (.int .i64 0),hmd:=λd h=>by injection h with h;subst h;exact⟨79,3,Qe4⟩ }
theorem Qe5:MapT prog 381 79 4 (.bool false):=⟨runUnderlying381,⟨_,runUnderlying79,λ_ _=>rfl⟩,TQ,λx y hx hy w=>tU x y hx hy w,zeroValue4,rfl⟩
noncomputable def ti381:TI prog:={ Ia 381 isAgg381 sizeOf381 underlying381 zeroValue381 typeInfo381 8 rfl with md:=some (.bool false),hmd:=λd h=>by injection h with h;subst h;exact⟨79,4,Qe5⟩ }
noncomputable def tt:TT prog:=(.nd (.nd (.nd (.nd (.nd (.nd (.nd .nil ti3 .nil) ti4 .nil) ti5 (.nd (.nd .nil ti9 .nil) ti22 .nil)) ti23 (.nd (.nd (.nd .nil ti24 .nil) ti28 .nil) ti29 (.nd .nil ti30 .nil))) ti32 (.nd (.nd (.nd (.nd .nil ti34 .nil) ti36 .nil) ti38 (.nd .nil ti42 .nil)) ti44 (.nd (.nd (.nd .nil ti45 .nil) ti47 .nil) ti48 (.nd .nil ti51 .nil)))) ti52 (.nd (.nd (.nd (.nd (.nd .nil ti53 .nil) ti55 .nil) ti57 (.nd (.nd .nil ti59 .nil) ti63 .nil)) ti65 (.nd (.nd (.nd .nil ti74 .nil) ti76 .nil) ti79 (.nd .nil ti84 .nil))) ti85 (.nd (.nd (.nd (.nd .nil ti92 .nil) ti94 .nil) ti95 (.nd .nil ti101 .nil)) ti103 (.nd (.nd (.nd .nil ti104 .nil) ti110 .nil) ti112 (.nd .nil ti113 .nil))))) ti119 (.nd (.nd (.nd (.nd (.nd (.nd .nil ti121 .nil) ti122 .nil) ti128 (.nd (.nd .nil ti133 .nil) ti135 .nil)) ti144 (.nd (.nd (.nd .nil ti150 .nil) ti166 .nil) ti168 (.nd .nil ti169 .nil))) ti174 (.nd (.nd (.nd (.nd .nil ti176 .nil) ti178 .nil) ti180 (.nd .nil ti191 .nil)) ti206 (.nd (.nd (.nd .nil ti210 .nil) ti212 .nil) ti215 (.nd .nil ti220 .nil)))) ti222 (.nd (.nd (.nd (.nd (.nd .nil ti225 .nil) ti230 .nil) ti232 (.nd (.nd .nil ti235 .nil) ti240 .nil)) ti262 (.nd (.nd (.nd .nil ti288 .nil) ti305 .nil) ti311 (.nd .nil ti330 .nil))) ti331 (.nd (.nd (.nd (.nd .nil ti335 .nil) ti371 .nil) ti374 (.nd .nil ti380 .nil)) ti381 (.nd (.nd (.nd .nil ti398 .nil) ti403 .nil) ti411 (.nd .nil ti412 .nil))))))
instance:Mo prog:=⟨rfl⟩
theorem Ud{n : Nat}{Q : Exit -> Sg -> List OB -> Prop}{L L' : Sg}{B B' : List OB}{it it' : List It}{as0 : List Qv}{ob : List Prop}(hs : List (H Tryz.prog))(h : (match run tt n 100000 it L B hs [] []with
 |some (it, L, B, q, ob) => (match LN ob with
  |some ob => some (it, L, B, q.map (·.1), q.map (·.2), ob)
  |none => none)
 |none => none) = some (it', L', B', as0, as0, ob)) (k : AK Tryz.prog n Q it' L' B') (ho : Uw ob := by exact trivial) : AK Tryz.prog n Q it L B := go tt hs h ho k
theorem Ue{n : Nat}{Q : Exit -> Sg -> List OB -> Prop}{L L' : Sg}{B B' : List OB}{it it' : List It}{as0 : List Qv}{ob : List Prop}(hs : List (H Tryz.prog))(h : (match run tt n 100000 it L B hs [] []with
 |some (it, L, B, q, ob) => (match LN ob with
  |some ob => some (it, L, B, q.map (·.1), q.map (·.2), ob)
  |none => none)
 |none => none) = some (it', L', B', as0, as0, ob)) (k : AK Tryz.prog n Q it' L' B') (ho : Uw ob := by simp[Uw];omega) : AK Tryz.prog n Q it L B := go tt hs h ho k
theorem Ug {n : Nat} {f : FuncId} {fn : Func} {c : Code} {args res us : List TV} {as0 : List Qv} {ob : List Prop} (hf : Tryz.prog.funcs[f]? = some fn) (hh : (fn.body, fn.ntmps, (fn.name == "runtime.NumGoroutine"), Nat.ble args.length n) = (some c, n, false, true)) (hs : List (H Tryz.prog))
 (h : wE tt n c fn.results.toList args hs = some (us, as0, as0, ob)) (he : us = res := by exact rfl) (ho : Uw ob := by exact trivial) : OA Tryz.prog f args res := w tt hf hh hs h he ho
theorem Uf{n : Nat}{L : Sg}{B : List OB}{fn : Func}{res us : List TV}{it : List It}{as0 : List Qv}{ob : List Prop}(hs : List (H Tryz.prog))(h : enE tt n fn.results.toList it L B hs = some (us, as0, as0, ob))(he : us = res := by exact rfl)(ho : Uw ob := by exact trivial) : AK Tryz.prog n (RQ Tryz.prog fn n 0 λu B => u = res /\ B = []) it L B := en tt hs h he ho
theorem Uh{n : Nat}{L : Sg}{B : List OB}{fn : Func}{k : Nat}{res : List TV}{Bout : List OB}{it : List It}{as0 : List Qv}{ob : List Prop}(ps is : List Nat)(hs : List (H Tryz.prog))(h : edE tt n k fn.results.toList it L B hs res Bout ps is = some (as0, as0, ob))(ho : Uw ob := by exact trivial) : AK Tryz.prog n (RQ Tryz.prog fn n k λu B => u = res /\ B = Bout) it L B := ed tt ps is hs h ho
theorem Ui{n : Nat}{Q : Exit -> Sg -> List OB -> Prop}{L : Sg}{B : List OB}{S : Type}{c : Code}{r : List It}{L1 : Sg}(k : Nat)(st : Sg -> S -> Sg)(bs : S -> List OB)(μ : S -> Nat)(I : S -> Prop)(s0 : S)(h0 : I s0)(hL : prn (yW c []) L = some L1){as0 : List Qv}(hs : two (mS none L B (st L1 s0) (bs s0)) = some (as0, as0))
 (round : ∀s, I s -> AK Tryz.prog n Q (.code c :: .rnd (some k) (λL B => ∃s', μ s' < μ s /\ I s' /\ L = st L1 s' /\ B = bs s') :: r) (st L1 s) (bs s)) (hk : ∀s, I s -> (bs s).length = k := by exact λ_ _ => rfl) : AK Tryz.prog n Q (.code (.loop c) :: r) L B := lp k st bs μ I s0 h0 hL hk hs round
abbrev Uj(f : Nat)(a r : List TV) : Prop := OA Tryz.prog f a r
end Orr
namespace Orr
open Go Go.Proofs Tryz
set_option maxRecDepth 10000
def lm(l:Uo):Us:=l.map λ(x:Nat)=>[.int .u32 (x:Int)]
abbrev lr(l:Uo):TV:=.one (.row (lm l))
theorem U0(l:Uo):(lm l).length=l.length:=by simp[lm]
theorem Gz{l:Uo}{i x:Nat}(h:l[i]? = some x):(lm l)[i]? = some [.int .u32 (x:Int)]:=by simp[lm,h]
def jD:Uo->Uo
 | []=>[]
 |
  x::l=>match jD l with
  | []=>if x=0 then []else [x]
  |r=>x::r
theorem Qmc{l:Uo}:jD l=[]↔∀x∈l,x=0:=by
 induction l with
 |nil=>simp[jD]
 |
  cons x l ih =>
  simp only[jD]
  split
  ·rename_i e;have h1:=ih.1 e;by_cases h:x=0
   ·simp[h];exact h1
   ·simp[h]
  ·rename_i r hne;simp only[reduceCtorEq,Qt,forall_eq_or_imp,false_iff,not_and];exact λ_ h=>hne (ih.2 h)
theorem UN:∀{l:Uo} {n:Nat},n<=l.length->(∀j,n<=j->j<l.length->l[j]? = some 0)->(n=0\/∃x,l[n-1]? = some x/\x≠0)->l.take n=jD l
 | [],n,h,_,_=>by simp at h;subst h;rfl
 |
  x::l,0,h,hz,_=>by
  rw[Vb];refine(Qmc.2 λy hy=>?_).symm;obtain⟨j,hj⟩:=Zi.1 hy;have:=hz j (Qg _) (Qf.1 hj).1;rw[hj]at this;injection this
 |
  x::l,n+1,h,hz,ht=>by
  simp only[Zc,Nat.add_le_add_iff_right]at h;have hz':∀j,n<=j->j<l.length->l[j]? = some 0:=λj h1 h2=>by simpa using hz (j+1) (by omega) (by simpa using h2)
  cases n with
  |
   zero =>
   have e:jD l=[]:=(UN (n:=0) h hz' (.inl rfl)).symm;rcases ht with h|⟨y,h1,h2⟩
   ·omega
   ·simp at h1;subst h1;simp[jD,e,h2]
  |
   succ n =>
   have ih:=UN (n:=n+1) h hz' (.inr (by rcases ht with h|⟨y,h1,h2⟩;(· omega);exact⟨y,by simpa using h1,h2⟩));simp only[Vf,jD];rw[<-ih];cases hl:l with
   |nil=>rw[hl]at h;simp at h
   |cons y l'=>simp[Vf]
theorem Qtb(l:Uo):Uj 372 [lr l] [lr (jD l)]:=by
 refine Hz func372 rfl (ln 0 rfl rfl λhl=>?_);rw[U0]at hl;refine Ud [] rfl ?_;refine Ui (S:=Nat) 0 (λL1 n=>(3,.v (.oi n))::L1) (λ_=>[]) id (λn=>n<=l.length/\∀j,n<=j->j<l.length->l[j]? = some 0) (lm l).length ⟨by rw[U0];exact Qj _,λj h1 h2=>by rw[U0]at h1;omega⟩ rfl rfl λn ⟨h1,h2⟩=>?_
 cases n with
 |zero=>exact Uf [.f (by simp),.f rfl,.i 0] rfl (by rw[<-UN h1 h2 (.inl rfl)];simp[lm]) (by simp[Uw,H5])
 |
  succ n =>
  obtain⟨x,hx⟩:=gxE (l:=l) (i:=n) (by omega);by_cases h0:x=0
  ·refine go tt [.t (by simp),.r 11 (v:=.oi n) (by simp),.x (Gz hx),.t (by simp[h0]),.r 17 (v:=.oi n) (by simp)] rfl (by simp[Uw,H5];omega) ?_;exact rd n (by simp) ⟨by omega,λj h3 h4=>by
    rcases Vl h3 with rfl|h3
    ·rw[hx,h0]
    ·exact h2 j h3 h4⟩ rfl
  ·exact Uf [.t (by simp),.r 11 (v:=.oi n) (by simp),.x (Gz hx),.f (by simp[h0]),.i (n+1)] rfl (by rw[<-UN h1 h2 (.inr ⟨x,hx,h0⟩)];simp[lm]) (by simp[Uw,H5,U0] <;> omega)
def Sm(l:Uo):Prop:=∀x∈l,x<4294967296
theorem jL:∀l:Uo,Cut l (jD l).length/\l.take (jD l).length=jD l
 | []=>⟨⟨Qj _,λj _ h=>by simp at h,λh=>by simp[jD]at h⟩,rfl⟩
 |
  x::l=>by
  obtain⟨⟨h1,h2,h3⟩,h4⟩:=jL l;simp only[jD]
  split
  ·rename_i e;rw[e]at h2 h3;by_cases h:x=0
   ·rw[if_pos h];refine⟨⟨Qg _,λj _ hj=>?_,λh=>by simp at h⟩,rfl⟩;cases j with
    |zero=>simp[h]
    |succ j=>simpa using h2 j (Qg _) (by simpa using hj)
   ·rw[if_neg h];refine⟨⟨by simp,λj h5 hj=>?_,λ_=>⟨x,rfl,h⟩⟩,rfl⟩;cases j with
    |zero=>simp at h5
    |succ j=>simpa using h2 j (Qg _) (by simpa using hj)
  ·rename_i r hne;refine⟨⟨by simp[h1],λj h5 hj=>?_,λ_=>?_⟩,by simp[h4]⟩
   ·cases j with
    |zero=>simp at h5
    |succ j=>simpa using h2 j (by simpa using h5) (by simpa using hj)
   ·have hp:0<(jD l).length:=by
     cases e:jD l with
     |nil=>exact absurd e hne
     |cons=>simp
    obtain⟨y,h5,h6⟩:=h3 hp;refine⟨y,?_,h6⟩;rw[Zc,show(jD l).length+1-1=((jD l).length-1)+1 from by omega];simpa using h5
theorem ON{l:Uo}(h:Sm l):jD l=Gf (val l):=by
 obtain⟨h1,h2⟩:=jL l;refine Qe0 ?_ ?_
 ·rw[<-h2];exact Qji h1 h
 ·rw[<-h2];exact Qjj h1
theorem Dw(x:Nat):Sm (Gf x):=(Lx x).1
theorem T0{x k:Nat}(h:sz x<=k):32*(Gf x).length<=k+31:=by
 have:=Qkt (Lx x);rw[G5]at this;omega
theorem YS{l:Uo}(h:Sm l):Uj 372 [lr l] [lr (Gf (val l))]:=ON h ▸ Qtb l
theorem Qe1(l:Uo):∀c∈lm l,c.length=1:=λc hc=>by
 obtain⟨x,_,rfl⟩:=Zw.1 hc;rfl
theorem FG{l:Uo}(h:Sm l)(hs:sz (val l)<=4294967296):Uj 373 [lr l] [lr (Gf (val l))] :=
 Ug func373 rfl [.k (YS h),.s (Qe1 (Gf (val l)))] rfl rfl (by have:=T0 hs;simp[Uw,H5,U0];omega)
theorem FM{a:Uo}(ha:Sm a):∃p,Uj 372 [lr a] [lr p]/\yB p/\val p=val a/\p.length<=a.length/\p=Gf (val a) :=
 ⟨_,YS ha,Lx _,G5 _,by rw[<-ON ha];exact(jL a).1.1,rfl⟩
theorem Qbk{a b:Uo}(ha:Sm a)(hb:Sm b):Uj 386 [lr a,lr b] [.oi (QS (val a) (val b))]:=by
 refine Hz func386 rfl (ln 0 rfl rfl λhl=>ln 1 rfl rfl λhl'=>?_);rw[U0]at hl hl';obtain⟨p,ca,np,vp,lp',_⟩:=FM ha;obtain⟨q,cb,nq,vq,lq,_⟩:=FM hb;rw[<-vp,<-vq];by_cases h:p.length=q.length
 ·refine go tt [.k ca,.k cb,.f (by simp[U0,h])] rfl (by simp[Uw,H5,U0] <;> omega) ?_;refine Ui (S:=Int) 0 (λL1 i=>(5,.v (.oi i))::L1) (λ_=>[]) (λi=>(i+1).toNat) (λi=>-1<=i/\i<p.length/\p.drop (i+1).toNat=q.drop (i+1).toNat) (((lm p).length:Int)-1) ⟨by omega,by simp[U0];omega,by simp[U0,h]⟩ rfl rfl λi ⟨h1,h2,h3⟩=>?_
  rcases K7 i 0 with hi|hi
  ·obtain rfl:i=-1:=by omega
   exact Uf [.f (by decide)] rfl (by rw[bS];exact congrArg val (by simpa using h3)) trivial
  ·obtain⟨k,rfl⟩:=Yv hi;have e:((k:Int)+1).toNat=k+1:=by omega
   rw[e]at h3;obtain⟨x,hx⟩:=gxE (l:=p) (i:=k) (by omega);obtain⟨y,hy⟩:=gxE (l:=q) (i:=k) (by omega);rcases Vw x y with hxy|rfl|hxy
   ·exact Uf [.t (by simp),.x (Gz hx),.x (Gz hy),.t (by simp;omega)] rfl (by rw[SI (eO np.1 h3 hx hy hxy)]) (by simp[Uw,H5,U0] <;> omega)
   ·refine go tt [.t (by simp),.x (Gz hx),.x (Gz hy),.f (by simp),.x (Gz hx),.x (Gz hy),.f (by simp)] rfl (by simp[Uw,H5,U0] <;> omega) ?_;exact rd ((k:Int)-1) (by omega) ⟨by omega,by omega,by rw[show((k:Int)-1+1).toNat=k from by omega];exact iM h3 hx hy⟩ rfl
   ·exact Uf [.t (by simp),.x (Gz hx),.x (Gz hy),.f (by simp;omega),.x (Gz hx),.x (Gz hy),.t (by simp;omega)] rfl (by rw[SE (eO nq.1 h3.symm hy hx hxy)]) (by simp[Uw,H5,U0] <;> omega)
 ·by_cases h2:p.length<q.length
  ·exact Uf [.k ca,.k cb,.t (by simp[U0];omega),.t (by simp[U0];omega)] rfl (by rw[SI (Dh np nq h2)]) (by simp[Uw,H5])
  ·exact Uf [.k ca,.k cb,.t (by simp[U0];omega),.f (by simp[U0];omega)] rfl (by rw[SE (Dh nq np (by omega))]) (by simp[Uw,H5])
theorem KQ(m:Nat):List.replicate m [LV.int .u32 0]=lm (List.replicate m 0):=by simp[lm]
theorem Ca(l:Uo)(i x:Nat):(lm l).set i [.int .u32 (x:Int)]=lm (l.set i x):=by simp[lm,V0]
theorem Dd{a b:Int}(h:a=b):TV.one (LV.int .u64 a)=.one (.int .u64 b):=h ▸ rfl
theorem Li{a b:Int}(h:a=b):TV.one (LV.int .u32 a)=.one (.int .u32 b):=h ▸ rfl
theorem eI{a b:Int}(h:a=b):TV.one (LV.int .i64 a)=.oi b:=h ▸ rfl
theorem OC(z:Int):IntKind.u32.wrap z=z % 4294967296:=by simp[IntKind.wrap,IntKind.bits,IntKind.signed]
theorem w64(z:Int):IntKind.u64.wrap z=z % 18446744073709551616:=by simp[IntKind.wrap,IntKind.bits,IntKind.signed]
theorem Qm1{a b:Uo}(ha:Sm a)(hb:Sm b)(h1:sz (val a)<=4294967296)(h2:sz (val b)<=4294967296):Uj 388 [lr a,lr b] [lr (Gf (val a+val b))]:=by
 refine Hz func388 rfl ?_;obtain⟨p,ca,np,vp,_,ep⟩:=FM ha;obtain⟨q,cb,nq,vq,_,eq⟩:=FM hb;have lp':=T0 h1;have lq:=T0 h2;rw[<-ep]at lp';rw[<-eq]at lq;rw[<-vp,<-vq];refine Ud [.k ca,.k cb] rfl ?_;refine ct 1 (S:=Uo×Uo) (λs=>[(0,.v (lr s.1)),(1,.v (lr s.2))]) (λ_=>[]) (λs=>yB s.1/\yB s.2/\32*s.1.length<=4294967327/\s.2.length<=s.1.length/\val s.1+val s.2=val p+val q) rfl ?_ ?_
 ·by_cases h:p.length<q.length
  ·exact go tt [.t (by simp[U0];omega)] rfl trivial (rc (q,p) ⟨nq,np,lq,J3 h,J0 _ _⟩ rfl)
  ·exact go tt [.f (by simp[U0];omega)] rfl trivial (rc (p,q) ⟨np,nq,lp',Yj h,rfl⟩ rfl)
 ·intro⟨p',q'⟩ ⟨np,nq,hp,hq,e⟩;dsimp only at np nq hp hq e;rw[<-e];clear ca cb e vp vq ep eq;refine go tt [.i ((lm p').length+1),.i ((lm p').length+1)] rfl (by simp[Uw,H5,U0] <;> omega) ?_;rw[KQ];refine lp (S:=Nat×Uo×Nat) 1 (λL1 s=>(27,.v (.oi (s.1:Int)))::(6,.v (.one (.int .u64 (s.2.2:Int))))::L1) (λs=>[.row false 222 1 (lm s.2.1)]) (λs=>p'.length-s.1)
   (λs=>s.1<=p'.length/\s.2.1.length=p'.length+1/\Sm s.2.1/\s.2.2<=1/\val (s.2.1.take s.1)+s.2.2*4294967296^s.1=val (p'.take s.1)+val (q'.take s.1)) (0,List.replicate ((lm p').length+1) 0,0)
   ⟨Qg _,by simp[U0],λx hx=>by rw[Zv hx];decide,Qg _,by simp[val]⟩ rfl (λ_ _=>rfl) rfl λ⟨i,o,c⟩ ⟨j1,j2,j3,j4,j5⟩=>?_
  dsimp only at j1 j2 j3 j4 j5 ⊢;by_cases hi:i<p'.length
  ·obtain⟨x,hx⟩:=gxE (l:=p') (i:=i) hi;have xb:=np.1 x (Qa hx);have fin:∀y s,(q'[i]? = some y\/q'.length<=i/\y=0)->y<4294967296->s=x+c+y->p'.length-(i+1)<p'.length-i/\i+1<=p'.length/\(o.set i (s % 4294967296)).length=p'.length+1/\Sm (o.set i (s % 4294967296))/\s / 4294967296<=1 /\
    val ((o.set i (s % 4294967296)).take (i+1))+s / 4294967296*4294967296^(i+1)=val (p'.take (i+1))+val (q'.take (i+1)):=λy s hy hyb hs =>
    ⟨by omega,hi,by simp[j2],Nz j3 i _ (by omega),by omega,yC (by omega) hx hy j5 hs⟩
   by_cases hi2:i<q'.length
   ·obtain⟨y,hy⟩:=gxE (l:=q') (i:=i) hi2;have yb:=nq.1 y (Qa hy);refine go tt [.t (by simp[U0];omega),.x (Gz hx),.t (by simp[U0];omega),.x (Gz hy),.w 2,.r 50 (v:=.one (.int .u32 (((x+c+y) % 4294967296:Nat):Int))) (by simp[IntKind.wrap,IntKind.bits,IntKind.signed]),.i 32,.r 52 (v:=.one (.int .u64 (((x+c+y) / 4294967296:Nat):Int))) (by simp),.i i] rfl (by simp[Uw,H5,U0,IntKind.bits] <;> omega) ?_;rw[Ca];exact rd (i+1,o.set i ((x+c+y) % 4294967296),(x+c+y) / 4294967296) (fin y _ (.inl hy) yb rfl).1 (fin y _ (.inl hy) yb rfl).2 rfl
   ·refine go tt [.t (by simp[U0];omega),.x (Gz hx),.f (by simp[U0];omega),.w 0,.r 50 (v:=.one (.int .u32 (((x+c+0) % 4294967296:Nat):Int))) (by simp[IntKind.wrap,IntKind.bits,IntKind.signed]),.i 32,.r 52 (v:=.one (.int .u64 (((x+c+0) / 4294967296:Nat):Int))) (by simp),.i i] rfl (by simp[Uw,H5,U0,IntKind.bits] <;> omega) ?_;rw[Ca];exact rd (i+1,o.set i ((x+c+0) % 4294967296),(x+c+0) / 4294967296) (fin 0 _ (.inr ⟨by omega,rfl⟩) (by decide) rfl).1 (fin 0 _ (.inr ⟨by omega,rfl⟩) (by decide) rfl).2 rfl
  ·obtain rfl:i=p'.length:=by omega
   refine go tt [.f (by simp[U0]),.w 0,.r 59 (v:=.one (.int .u32 (c:Int))) (by simp[IntKind.wrap,IntKind.bits,IntKind.signed];omega),.i (lm p').length] rfl (by simp[Uw,H5,U0,j2]) ?_;rw[U0,Ca];have e:val (o.set p'.length c)=val p'+val q':=by
    have h1:=QX o p'.length c (by omega);rw[Qn (by simp;omega)]at h1;rw[Qn (Qj _),Qn hq]at j5;rw[h1,<-j5,Zg]
   rw[<-e];exact Uf [.k (YS (Nz j3 _ c (by omega)))] rfl
theorem vD{x y:Nat}:QS x y<0↔x<y:=by unfold QS;split <;> (try split) <;> omega
theorem Qm4{a b:Uo}(ha:Sm a)(hb:Sm b)(h1:sz (val a)<=4294967296):Uj 389 [lr a,lr b] (if val b<=val a then [lr (Gf (val a-val b)),.one (.bool true)]else [lr [],.one (.bool false)]):=by
 refine Hz func389 rfl ?_;obtain⟨p,ca,np,vp,_,ep⟩:=FM ha;obtain⟨q,cb,nq,vq,_,_⟩:=FM hb;have hp:=T0 h1;rw[<-ep]at hp;rw[<-vp,<-vq];have cc:=Qbk np.1 nq.1;by_cases hlt:val p<val q
 ·rw[if_neg (by omega)];exact Uf [.k ca,.k cb,.k cc,.t (by simpa using vD.2 hlt)] rfl
 rw[if_pos (by omega)];have hq:q.length<=p.length:=Yj λh=>hlt (Dh np nq h)
 refine go tt [.k ca,.k cb,.k cc,.f (by have:=mt vD.1 hlt;simpa using this),.i (lm p).length,.i (lm p).length] rfl (by simp[Uw,H5,U0] <;> omega) ?_;rw[KQ];refine lp (S:=Nat×Uo×Nat) 1 (λL1 s=>(24,.v (.oi (s.1:Int)))::(7,.v (.one (.int .u64 (s.2.2:Int))))::L1) (λs=>[.row false 222 1 (lm s.2.1)]) (λs=>p.length-s.1)
  (λs=>s.1<=p.length/\s.2.1.length=p.length/\Sm s.2.1/\s.2.2<=1/\val (s.2.1.take s.1)+val (q.take s.1)=val (p.take s.1)+s.2.2*4294967296^s.1) (0,List.replicate (lm p).length 0,0)
  ⟨Qg _,by simp[U0],λx hx=>by rw[Zv hx];decide,Qg _,by simp[val]⟩ rfl (λ_ _=>rfl) rfl λ⟨i,o,c⟩ ⟨j1,j2,j3,j4,j5⟩=>?_
 dsimp only at j1 j2 j3 j4 j5 ⊢;by_cases hi:i<p.length
 ·obtain⟨x,hx⟩:=gxE (l:=p) (i:=i) hi;have xb:=np.1 x (Qa hx);have fin:∀y s,(q[i]? = some y\/q.length<=i/\y=0)->y<4294967296->s=(x+18446744073709551616-c-y) % 18446744073709551616->p.length-(i+1)<p.length-i/\i+1<=p.length/\(o.set i (s % 4294967296)).length=p.length/\Sm (o.set i (s % 4294967296))/\s / 9223372036854775808<=1 /\
   val ((o.set i (s % 4294967296)).take (i+1))+val (q.take (i+1))=val (p.take (i+1))+s / 9223372036854775808*4294967296^(i+1):=λy s hy hyb hs=>by
   obtain⟨h1,h2⟩:=Qhg (o:=o) (by omega) hx hy xb hyb j4 j5 hs;exact⟨by omega,hi,by simp[j2],Nz j3 i _ (by omega),h2,h1⟩
  by_cases hi2:i<q.length
  ·obtain⟨y,hy⟩:=gxE (l:=q) (i:=i) hi2;have yb:=nq.1 y (Qa hy);obtain⟨s,hs⟩:=nmE ((x+18446744073709551616-c-y) % 18446744073709551616);refine go tt [.t (by simp[U0];omega),.x (Gz hx),.w 1,.r 32 (Dd (b:=(((x+18446744073709551616-c) % 18446744073709551616:Nat):Int)) (by rw[w64];omega)),.t (by simp[U0];omega),.x (Gz hy),.w 1,.r 43 (Dd (b:=(s:Int)) (by rw[w64];omega)),.w 0,.r 47 (Li (b:=((s % 4294967296:Nat):Int)) (by rw[OC];omega)),.i 63,.r 49 (Dd (b:=((s / 9223372036854775808:Nat):Int)) (by simp)),.i i] rfl (by simp[Uw,H5,U0,IntKind.bits] <;> omega) ?_;rw[Ca];exact rd (i+1,o.set i (s % 4294967296),s / 9223372036854775808) (fin y _ (.inl hy) yb hs).1 (fin y _ (.inl hy) yb hs).2 rfl
  ·obtain⟨s,hs⟩:=nmE ((x+18446744073709551616-c-0) % 18446744073709551616);have hf:=fin 0 _ (.inr ⟨by omega,rfl⟩) (by decide) hs;refine go tt [.t (by simp[U0];omega),.x (Gz hx),.w 1,.r 32 (Dd (b:=(s:Int)) (by rw[w64];omega)),.f (by simp[U0];omega),.w 0,.r 47 (Li (b:=((s % 4294967296:Nat):Int)) (by rw[OC];omega)),.i 63,.r 49 (Dd (b:=((s / 9223372036854775808:Nat):Int)) (by simp)),.i i] rfl (by simp[Uw,H5,U0,IntKind.bits] <;> omega) ?_;rw[Ca];exact rd (i+1,o.set i (s % 4294967296),s / 9223372036854775808) hf.1 hf.2 rfl
 ·obtain rfl:i=p.length:=by omega
  have e:val o=val p-val q:=by
   rw[Qn (Nat.le_of_eq j2),Qn hq,Qn (Qj _)]at j5;have h1:=D8 o j3;rw[j2]at h1;rcases Nat.le_one_iff_eq_zero_or_eq_one.1 j4 with rfl|rfl <;> omega
  rw[<-e];exact Uf [.f (by simp[U0]),.k (YS j3)] rfl
theorem Qrq{a b:Uo}(ha:Sm a)(hb:Sm b)(h1:sz (val a)<=4294967296)(h2:sz (val b)<=4294967296):Uj 296 [lr a,lr b] [lr (Gf (val a*val b))]:=by
 refine Hz func296 rfl ?_;obtain⟨p,ca,np,vp,_,ep⟩:=FM ha;obtain⟨q,cb,nq,vq,_,eq⟩:=FM hb;have hp:=T0 h1;have hq:=T0 h2;rw[<-ep]at hp;rw[<-eq]at hq;rw[<-vp,<-vq];refine go tt [.k ca,.k cb,.i ((lm p).length+(lm q).length),.i ((lm p).length+(lm q).length)] rfl (by simp[Uw,H5,U0] <;> omega) ?_;rw[KQ];refine lp (S:=Nat×Uo) 1 (λL1 s=>(24,.v (.oi (s.1:Int)))::L1) (λs=>[.row false 222 1 (lm s.2)]) (λs=>p.length-s.1)
  (λs=>s.1<=p.length/\s.2.length=p.length+q.length/\Sm s.2/\(∀j,s.1+q.length<=j->j<s.2.length->s.2[j]? = some 0)/\val s.2=val (p.take s.1)*val q) (0,List.replicate ((lm p).length+(lm q).length) 0)
  ⟨Qg _,by simp[U0],λx hx=>by rw[Zv hx];decide,λj _ hj=>by rw[J9,if_pos (by simpa using hj)],by simp[val,HL]⟩ rfl (λ_ _=>rfl) rfl λ⟨i,o⟩ ⟨j1,j2,j3,j4,j5⟩=>?_
 dsimp only at j1 j2 j3 j4 j5 ⊢;by_cases hi:i<p.length
 ·obtain⟨x,hx⟩:=gxE (l:=p) (i:=i) hi;have xb:=np.1 x (Qa hx);refine Ud [.t (by simp[U0];omega),.x (Gz hx)] rfl ?_;refine lp (S:=Nat×Uo×Nat) 1 (λL1 s=>(31,.v (.oi (s.1:Int)))::(8,.v (.one (.int .u64 (s.2.2:Int))))::L1) (λs=>[.row false 222 1 (lm s.2.1)]) (λs=>q.length-s.1)
   (λs=>s.1<=q.length/\s.2.1.length=p.length+q.length/\Sm s.2.1/\(∀j,i+q.length<=j->j<s.2.1.length->s.2.1[j]? = some 0)/\s.2.2<4294967296/\val s.2.1+s.2.2*4294967296^(i+s.1)=val (p.take i)*val q+4294967296^i*x*val (q.take s.1)) (0,o,0)
   ⟨Qg _,j2,j3,j4,by simp,by simp[val,j5]⟩ rfl (λ_ _=>rfl) rfl λ⟨k,o',c⟩ ⟨k1,k2,k3,k4,k5,k6⟩=>?_
  dsimp only at k1 k2 k3 k4 k5 k6 ⊢;by_cases hk:k<q.length
  ·obtain⟨y,hy⟩:=gxE (l:=q) (i:=k) hk;have yb:=nq.1 y (Qa hy);obtain⟨z,hz⟩:=gxE (l:=o') (i:=i+k) (by omega);have zb:=k3 z (Qa hz);have hm:=XV xb yb;have hm2:(x:Int)*(y:Int)=((x*y:Nat):Int):=by push_cast;rfl
   obtain⟨s,hs⟩:=nmE (x*y+z+c);refine go tt [.t (by simp[U0];omega),.x (Gz hy),.r 40 (Dd (b:=((x*y:Nat):Int)) (by push_cast;rfl)),.i (i+k),.x (Gz hz),.r 50 (Dd (b:=(s:Int)) (by omega)),.w 1,.r 56 (Li (b:=((s % 4294967296:Nat):Int)) (by rw[OC];omega)),.i 32,.r 58 (Dd (b:=((s / 4294967296:Nat):Int)) (by simp)),.i (i+k)] rfl ?_ ?_
   ·simp[Uw,H5,U0,IntKind.bits] <;> omega
   ·rw[Ca];exact rd (k+1,o'.set (i+k) (s % 4294967296),s / 4294967296) (show q.length-(k+1)<q.length-k by omega) ⟨hk,by simp[k2],Nz k3 _ _ (by omega),λj h3 h4=>by
     rw[Yq (by omega)];exact k4 j h3 (by simpa using h4),(show s / 4294967296<4294967296 from by omega),Qfb hz hy k6 hs⟩ rfl
  ·obtain rfl:k=q.length:=by omega
   by_cases hq0:0<q.length
   ·refine go tt [.f (by simp[U0]),.t (by simp[U0];omega),.w 1,.r 70 (Li (b:=((c % 4294967296:Nat):Int)) (by rw[OC];omega)),.i (i+(lm q).length)] rfl (by simp[Uw,H5,U0,IntKind.bits] <;> omega) ?_;rw[Ca];refine rd (i+1,o'.set (i+(lm q).length) (c % 4294967296)) (show p.length-(i+1)<p.length-i by omega) ⟨hi,by simp[k2],Nz k3 _ _ (by omega),λj h3 h4=>?_,?_⟩ rfl
    ·rw[U0,List.getElem?_set_ne (by dsimp only at h3;omega)];exact k4 j (by dsimp only at h3;omega) (by simpa using h4)
    ·rw[U0];exact Qfa (k4 _ (Qj _) (by omega)) hx k5 rfl k6
   ·have q0:q=[]:=Qh (by omega);refine go tt [.f (by simp[U0]),.f (by simp[U0,q0])] rfl (by simp[Uw,H5,U0,IntKind.bits] <;> omega) ?_;refine rd (i+1,o') (show p.length-(i+1)<p.length-i by omega) ⟨hi,k2,k3,λj h3 h4=>k4 j (by dsimp only at h3;omega) h4,?_⟩ rfl;have c0:c*4294967296^(i+q.length)=0/\val o'=0:=by
     subst q0;simp only[val,List.take_nil,Y4]at k6;omega
    rw[c0.2,q0];rfl
 ·obtain rfl:i=p.length:=by omega
  rw[Qn (Qj _)]at j5;rw[<-j5];exact Uf [.f (by simp[U0]),.k (YS j3)] rfl
theorem o64{k q:Nat}(hq:q<4294967296)(hb:4294967296*k+q<18446744073709551616):orI .u64 ((4294967296*k:Nat):Int) (q:Int)=((4294967296*k+q:Nat):Int):=by
 have e1:(BitVec.ofInt 64 ((4294967296*k:Nat):Int)).toNat=4294967296*k:=by rw[BitVec.toNat_ofInt];omega
 have e2:(BitVec.ofInt 64 (q:Int)).toNat=q:=by rw[BitVec.toNat_ofInt];omega
 show IntKind.u64.wrap ((BitVec.ofInt 64 ((4294967296*k:Nat):Int) ||| BitVec.ofInt 64 (q:Int)).toNat:Int)=_;rw[BitVec.toNat_or,e1,e2,Qpy hq,w64];omega
theorem oM{k p:Nat}(hp:p<4294967296)(hb:4294967296*k+p<18446744073709551616):orI .u64 (p:Int) ((4294967296*k:Nat):Int)=((4294967296*k+p:Nat):Int):=by
 have:=o64 hp hb;unfold orI at this ⊢;rw[BitVec.or_comm];exact this
theorem o32{s k p:Nat}(hp:p<2^s)(h1:p<4294967296)(h2:2^s*k<4294967296)(hb:p+2^s*k<4294967296):orI .u32 (p:Int) ((2^s*k:Nat):Int)=((p+2^s*k:Nat):Int):=by
 have e1:(BitVec.ofInt 32 ((2^s*k:Nat):Int)).toNat=2^s*k:=by rw[BitVec.toNat_ofInt];omega
 have e2:(BitVec.ofInt 32 (p:Int)).toNat=p:=by rw[BitVec.toNat_ofInt];omega
 have e3:p ||| 2^s*k=p+2^s*k:=by
  have:=Wq (i:=s) (b:=p) hp k;rw[Nat.or_comm,<-this,J0]
 show IntKind.u32.wrap ((BitVec.ofInt 32 (p:Int) ||| BitVec.ofInt 32 ((2^s*k:Nat):Int)).toNat:Int)=_;rw[BitVec.toNat_or,e1,e2,e3,OC];omega
theorem Qry{l:Uo}{v:Nat}(hl:Sm l)(hn:l.length<274877906944)(h0:0<v)(hv:v<4294967296):Uj 403 [lr l,.one (.int .u32 (v:Int))] [lr (Gf (val l / v)),.one (.int .u32 ((val l % v:Nat):Int))]:=by
 refine Hz func403 rfl ?_;refine go tt [.i (lm l).length,.i (lm l).length] rfl (by simp[Uw,H5,U0] <;> omega) ?_;rw[KQ];refine lp (S:=Int×Uo×Nat) 1 (λL1 s=>(8,.v (.oi s.1))::(7,.v (.one (.int .u64 (s.2.2:Int))))::L1) (λs=>[.row false 222 1 (lm s.2.1)]) (λs=>(s.1+1).toNat)
  (λs=>-1<=s.1/\s.1<l.length/\s.2.1.length=l.length/\Sm s.2.1/\s.2.2<v/\val (l.drop (s.1+1).toNat)=v*val (s.2.1.drop (s.1+1).toNat)+s.2.2) (((lm l).length:Int)-1,List.replicate (lm l).length 0,0)
  ⟨by simp[U0];omega,by simp[U0];omega,by simp[U0],λx hx=>by rw[Zv hx];decide,h0,by simp[U0,val]⟩ rfl (λ_ _=>rfl) rfl λ⟨i,o,r⟩ ⟨j1,j2,j3,j4,j5,j6⟩=>?_
 dsimp only at j1 j2 j3 j4 j5 j6 ⊢;rcases K7 i 0 with hi|hi
 ·obtain rfl:i=-1:=by omega
  simp only[show((-1:Int)+1).toNat=0 from rfl,X9]at j6;have e1:val l / v=val o:=by rw[j6,W5 h0,V3 j5,Xy]
  have e2:val l % v=r:=by rw[j6,W6,X5 j5]
  rw[e1,e2];exact Uf [.f (by decide),.k (YS j4)] rfl rfl (by simp[Uw,H5,U0,IntKind.bits] <;> omega)
 ·obtain⟨k,rfl⟩:=Yv hi;have e:((k:Int)+1).toNat=k+1:=by omega
  rw[e]at j6;obtain⟨x,hx⟩:=gxE (l:=l) (i:=k) (by omega);have xb:=hl x (Qa hx);obtain⟨s,hs⟩:=nmE (r*4294967296+x);obtain⟨k1,k2,k3⟩:=Qfh hx xb (show k<o.length by omega) h0 j5 j6 hs;obtain⟨q,hq⟩:=nmE (s / v);obtain⟨u,hu⟩:=nmE (s % v);have hqi:(s:Int).tdiv v=(q:Int):=by rw[V6 (by omega),hq];rfl
  have hui:(s:Int).tmod v=(u:Int):=by rw[Y7 (by omega),hu];rfl
  rw[<-hq,<-hu]at k3;rw[<-hq]at k1;rw[<-hu]at k2;refine go tt [.t (by simp),.i 32,.r 21 (Dd (b:=((4294967296*r:Nat):Int)) (by omega)),.x (Gz hx),.r 27 (Dd (b:=(s:Int)) (by rw[o64 xb (by omega)];omega)),
   .r 33 (Dd (b:=(q:Int)) hqi),.w 0,.r 34 (Li (b:=((q % 4294967296:Nat):Int)) (by rw[OC];omega)),.r 38 (Dd (b:=(u:Int)) hui),.i k] rfl (by simp[Uw,H5,U0,IntKind.bits,hqi] <;> omega) ?_
  rw[Ca];exact rd ((k:Int)-1,o.set k (q % 4294967296),u) (by dsimp only;omega) ⟨by dsimp only;omega,by dsimp only;omega,by simp[j3],Nz j4 _ _ (by omega),k2,by dsimp only;rw[show((k:Int)-1+1).toNat=k from by omega];exact k3⟩ rfl
theorem KR{i:Nat}{s:ByteArray}(h:∀i,i<256->(s[i]?).map (·.toNat)=some (sz i))(hi:i<256):(s[i]?).map (·.toNat)=some (sz i):=h i hi
set_option maxRecDepth 100000 in
theorem nG{x:Nat}(hx:x<4294967296):Uj 397 [.one (.int .u32 (x:Int))] [.oi (sz x:Int)]:=by
 refine Hz func397 rfl ?_;have h31:sz x<=32:=Bl.2 (by omega);by_cases h1:65536<=x
 ·have e1:sz x=16+sz (x / 2^16):=UR (by omega);obtain⟨y,hy⟩:=nmE (x / 2^16);rw[<-hy]at e1;by_cases h2:256<=y
  ·have e2:sz y=8+sz (y / 2^8):=UR (by omega);obtain⟨z,hz⟩:=nmE (y / 2^8);rw[<-hz]at e2;exact Uf [.t (by simp;omega),.i 16,.r 6 (Li (b:=(y:Int)) (by simp[hy])),.t (by simp;omega),.i 8,.r 10 (Li (b:=(z:Int)) (by simp[hz])),.y (KR (i:=z) (by decide) (by omega))] rfl (by rw[e1,e2];simp;omega) (by simp[Uw,H5,IntKind.bits] <;> omega)
  ·exact Uf [.t (by simp;omega),.i 16,.r 6 (Li (b:=(y:Int)) (by simp[hy])),.f (by simp;omega),.y (KR (i:=y) (by decide) (by omega))] rfl (by rw[e1];simp) (by simp[Uw,H5,IntKind.bits] <;> omega)
 ·by_cases h2:256<=x
  ·have e2:sz x=8+sz (x / 2^8):=UR (by omega);obtain⟨z,hz⟩:=nmE (x / 2^8);rw[<-hz]at e2;exact Uf [.f (by simp;omega),.t (by simp;omega),.i 8,.r 10 (Li (b:=(z:Int)) (by simp[hz])),.y (KR (i:=z) (by decide) (by omega))] rfl (by rw[e2];simp) (by simp[Uw,H5,IntKind.bits] <;> omega)
  ·exact Uf [.f (by simp;omega),.f (by simp;omega),.y (KR (i:=x) (by decide) (by omega))] rfl (by simp) (by simp[Uw,H5,IntKind.bits] <;> omega)
theorem Qog{x:Nat}(hx:x<4294967296):Uj 404 [.one (.int .u32 (x:Int))] [.oi ((32-sz x:Nat):Int)]:=by
 have h31:sz x<=32:=Bl.2 (by omega);exact Ug func404 rfl [.k (nG hx)] rfl (by simp;omega) (by simp[Uw,H5] <;> omega)
theorem rZ{l:Uo}(hl:Sm l)(hs:sz (val l)<=4294967296):Uj 368 [lr l] [.oi (sz (val l):Int)]:=by
 refine Hz func368 rfl ?_;obtain⟨p,ca,np,vp,_,ep⟩:=FM hl;have hp:=T0 hs;rw[<-ep]at hp;rw[<-vp]at hs ⊢;by_cases h0:p=[]
 ·subst h0;exact Uf [.k ca,.t (by simp[lm])] rfl rfl (by simp[Uw,H5])
 ·have De:0<p.length:=Yc.2 h0;obtain⟨x,hx,hx0⟩:=np.2 h0;have xb:=np.1 x (Qa hx);have e:=mP np hx;have h31:sz x<=32:=Bl.2 (by omega);have hn:(lm p).length≠0:=by rw[U0];omega
  refine Uf [.k ca,.f (by simp[U0];omega),.r 15 (eI (b:=((p.length-1:Nat):Int)) (by rw[U0];omega)),.x (Gz hx),.k (nG xb)] rfl (by rw[e,U0];simp;omega) (by simp[Uw,H5,U0] <;> omega)
theorem uM{s:Nat}(h:s<=31):((s:Nat):Int).tdiv 32=((0:Nat):Int):=by
 rw[V6 (by omega)];omega
theorem Qgb{s:Nat}(h:s<=31):((s:Nat):Int).tmod 32=(s:Int):=Int.tmod_eq_of_lt (by omega) (by omega)
theorem Qps{s:Nat}(h:s<=31):max 0 (min (s:Int) 65536)=(s:Int):=by omega
theorem Qru{a:Uo}{s:Nat}(ha:Sm a)(h1:sz (val a)<=4294967400)(hs:s<=31):Uj 413 [lr a,.oi s] [lr (Gf (val a*2^s))]:=by
 refine Hz func413 rfl ?_;obtain⟨p,ca,np,vp,_,ep⟩:=FM ha;have hp:=T0 h1;rw[<-ep]at hp;rw[<-vp];have hq:((s:Nat):Int).tdiv 32=0:=uM hs;by_cases h0:p=[]
 ·subst h0;exact Uf [.k ca,.t (by simp[lm])] rfl (by simp[val,Hn,lm]) (by simp[Uw,H5])
 have De:0<p.length:=Yc.2 h0;refine go tt [.k ca,.r 15 (eI (b:=(s:Int)) (Qps hs)),.f (by simp[U0];omega),.r 20 (eI (b:=((0:Nat):Int)) (uM hs)),.r 22 (eI (b:=(s:Int)) (Qgb hs)),.r 28 (eI (b:=(((lm p).length+1:Nat):Int)) (by omega)),.i ((lm p).length+1),.i ((lm p).length+1)] rfl (by have e:=U0 p;simp only[Uw,H5];omega) ?_;rw[KQ];refine lp (S:=Nat×Uo) 1 (λL1 s=>(32,.v (.oi (s.1:Int)))::L1) (λs=>[.row false 222 1 (lm s.2)]) (λs=>p.length-s.1)
  (λr=>r.1<=p.length/\r.2.length=p.length+1/\Sm r.2/\(∃z,r.2[r.1]? = some z/\z<2^s)/\val (r.2.take (r.1+1))=val (p.take r.1)*2^s) (0,List.replicate ((lm p).length+1) 0)
  ⟨Qg _,by simp[U0],λx hx=>by rw[Zv hx];decide,⟨0,by simp,Zu (by decide)⟩,by simp[val,Jx]⟩ rfl (λ_ _=>rfl) rfl λ⟨i,o⟩ ⟨j1,j2,j3,⟨z,hz,hzs⟩,j5⟩=>?_
 dsimp only at j1 j2 j3 hz hzs j5 ⊢;by_cases hi:i<p.length
 ·obtain⟨x,hx⟩:=gxE (l:=p) (i:=i) hi;have xb:=np.1 x (Qa hx);have zb:=j3 z (Qa hz);obtain⟨k1,k2,k3,k4⟩:=Qg2 hs hx xb hz hzs (by omega) j5;have hxs:=Qqg hs xb;have h31:2^s<=2^31:=Zo (by decide) hs;have ec:(x:Int)*2^s=((x*2^s:Nat):Int):=by push_cast;rfl
  obtain⟨m,hm⟩:=nmE (x*2^s);rw[<-hm]at k1 k2 k3 k4 hxs ec;refine go tt [.t (by simp[U0];omega),.x (Gz hx),.i s,.r 40 (Dd (b:=(m:Int)) ec),.i i,.x (Gz hz),.w 0,.r 52 (Li (b:=((m % 4294967296:Nat):Int)) (by rw[OC];omega)),.r 53 (Li (b:=((z+m % 4294967296:Nat):Int)) (by rw[k4,o32 hzs zb (by omega) (by omega)])),.i i,
   .i 32,.r 61 (Dd (b:=((m / 2^32:Nat):Int)) (by simp)),.w 0,.r 62 (Li (b:=((m / 2^32 % 4294967296:Nat):Int)) (by rw[OC];omega)),.i (i+1)] rfl (by simp[Uw,H5,U0,IntKind.bits,ec] <;> omega) ?_
  rw[Ca,Ca];exact rd (i+1,(o.set i (z+m % 4294967296)).set (i+1) (m / 2^32 % 4294967296)) (show p.length-(i+1)<p.length-i by omega) ⟨hi,by simp[j2],Nz (Nz j3 _ _ (by omega)) _ _ (by omega),⟨_,by rw[Jg (by simp;omega)],by omega⟩,k3⟩ rfl
 ·obtain rfl:i=p.length:=by omega
  rw[Qn (by omega),Qn (Qj _)]at j5;rw[<-j5];exact Uf [.f (by simp[U0]),.k (YS j3)] rfl
theorem Qrv{a:Uo}{s:Nat}(ha:Sm a)(h1:sz (val a)<=4294967400)(hs:s<=31):Uj 407 [lr a,.oi s] [lr (Gf (val a / 2^s))]:=by
 refine Hz func407 rfl ?_;obtain⟨p,ca,np,vp,_,ep⟩:=FM ha;have hp:=T0 h1;rw[<-ep]at hp;rw[<-vp];have hq:((s:Nat):Int).tdiv 32=0:=uM hs;by_cases h0:p=[]
 ·subst h0;exact Uf [.k ca,.r 14 (eI (b:=(s:Int)) (Qps hs)),.r 16 (eI (b:=((0:Nat):Int)) (uM hs)),.r 18 (eI (b:=(s:Int)) (Qgb hs)),.t (by simp[lm])] rfl (by simp[val,Hn,lm]) (by simp only[Uw,H5];omega)
 have De:0<p.length:=Yc.2 h0;refine go tt [.k ca,.r 14 (eI (b:=(s:Int)) (Qps hs)),.r 16 (eI (b:=((0:Nat):Int)) (uM hs)),.r 18 (eI (b:=(s:Int)) (Qgb hs)),.f (by simp[U0];omega),.r 27 (eI (b:=((lm p).length:Int)) (by omega)),.i (lm p).length,.i (lm p).length] rfl (by have e:=U0 p;simp only[Uw,H5];omega) ?_;rw[KQ];refine lp (S:=Nat×Uo) 1 (λL1 s=>(31,.v (.oi (s.1:Int)))::L1) (λs=>[.row false 222 1 (lm s.2)]) (λs=>p.length-s.1)
  (λr=>r.1<=p.length/\r.2.length=p.length/\Sm r.2/\val (r.2.take r.1)=val p / 2^s % 4294967296^r.1) (0,List.replicate (lm p).length 0)
  ⟨Qg _,by simp[U0],λx hx=>by rw[Zv hx];decide,by simp[val];omega⟩ rfl (λ_ _=>rfl) rfl λ⟨i,o⟩ ⟨j1,j2,j3,j5⟩=>?_
 dsimp only at j1 j2 j3 j5 ⊢;by_cases hi:i<p.length
 ·obtain⟨x,hx⟩:=gxE (l:=p) (i:=i) hi;have xb:=np.1 x (Qa hx);have fin:∀y m,(p[i+1]? = some y\/p.length<=i+1/\y=0)->m=(x+y*2^32) / 2^s->p.length-(i+1)<p.length-i/\i+1<=p.length/\(o.set i (m % 4294967296)).length=p.length/\Sm (o.set i (m % 4294967296))/\val ((o.set i (m % 4294967296)).take (i+1))=val p / 2^s % 4294967296^(i+1):=λy m hy hm =>
   ⟨by omega,hi,by simp[j2],Nz j3 _ _ (by omega),by subst hm;exact Qg3 hs hx hy (by omega) np.1 j5⟩
  have hsp:0<2^s:=Zu (by decide);by_cases hy0:i+1<p.length
  ·obtain⟨y,hy⟩:=gxE (l:=p) (i:=i+1) hy0;have yb:=np.1 y (Qa hy);obtain⟨v,hv⟩:=nmE (4294967296*y+x);obtain⟨m,hm⟩:=nmE (v / 2^s);have hml:m<=v:=hm ▸ Ya _ _;have hf:=fin y m (.inl hy) (by rw[hm,hv];congr 1;omega);refine go tt [.t (by simp[U0];omega),.x (Gz hx),.t (by simp[U0];omega),.x (Gz hy),.i 32,.r 57 (Dd (b:=((4294967296*y:Nat):Int)) (by omega)),.r 58 (Dd (b:=(v:Int)) (by rw[oM xb (by omega)];omega)),
    .i s,.r 63 (Dd (b:=(m:Int)) (by rw[hm];push_cast;rfl)),.w 0,.r 64 (Li (b:=((m % 4294967296:Nat):Int)) (by rw[OC];omega)),.i i] rfl (by simp[Uw,H5,U0,IntKind.bits] <;> omega) ?_
   rw[Ca];exact rd (i+1,o.set i (m % 4294967296)) hf.1 hf.2 rfl
  ·obtain⟨m,hm⟩:=nmE (x / 2^s);have hml:m<=x:=hm ▸ Ya _ _;have hf:=fin 0 m (.inr ⟨by omega,rfl⟩) (by rw[hm];simp);refine go tt [.t (by simp[U0];omega),.x (Gz hx),.f (by simp[U0];omega),
    .i s,.r 63 (Dd (b:=(m:Int)) (by rw[hm];push_cast;rfl)),.w 0,.r 64 (Li (b:=((m % 4294967296:Nat):Int)) (by rw[OC];omega)),.i i] rfl (by simp[Uw,H5,U0,IntKind.bits] <;> omega) ?_
   rw[Ca];exact rd (i+1,o.set i (m % 4294967296)) hf.1 hf.2 rfl
 ·obtain rfl:i=p.length:=by omega
  have hvl:=D8 p np.1;rw[Qn (by omega),X5 (Z8 (Ya _ _) hvl)]at j5;rw[<-j5];exact Uf [.f (by simp[U0,j2]),.k (YS j3)] rfl
def kW:Nat->Nat->Uo
 | 0,_=>[]
 |k+1,v=>v % 4294967296::kW k (v / 4294967296)
theorem Qdk:∀{l:Uo},Sm l->l=kW l.length (val l)
 | [],_=>rfl
 |
  x::l,h=>by
  have hx:=h x (.head _);have ih:=Qdk (l:=l) λy hy=>h y (.tail _ hy)
  simp only[Zc,kW,val];rw[show(x+4294967296*val l) % 4294967296=x by omega,show(x+4294967296*val l) / 4294967296=val l by omega,<-ih]
theorem tJ{l:Uo}{k v:Nat}(h:Sm l)(hk:l.length=k)(hv:val l=v):kW k v=l:=by
 rw[<-hk,<-hv];exact(Qdk h).symm
theorem qC:∀{k v:Nat},(kW k v).length=k/\Sm (kW k v)/\(v<4294967296^k->val (kW k v)=v)
 | 0,v=>⟨rfl,λx hx=>by(cases hx),λh=>by simp at h;subst h;rfl⟩
 |
  k+1,v=>by
  obtain⟨h1,h2,h3⟩:=qC (k:=k) (v:=v / 4294967296);refine⟨by simp[kW,h1],λx hx=>?_,λh=>?_⟩
  ·rcases Qt.1 hx with rfl|hx
   ·exact Xe _ (by decide)
   ·exact h2 x hx
  ·simp only[kW,val];rw[h3 (by rw[Zl]at h;exact Jf (by rw[Zg];exact h))];omega
theorem Qc0{a:Uo}{s n:Nat}(ha:Sm a)(h1:sz (val a)<=4294967400)(hs:s<=31)(hn:n<274877906944)(h0:0<n)(hv:val a*2^s<4294967296^n) :
 Ab prog 405 [lr a,.oi s,.oi n] [] [.one (.orow 0 1 none)] [.row false 222 1 (lm (kW n (val a*2^s)))]:=by
 refine Hz func405 rfl ?_;obtain⟨v,hvv⟩:=nmE (val a*2^s);have cs:=Qru ha h1 hs;rw[<-hvv]at cs hv ⊢;have hl:(Gf v).length<=n:=by
  apply Classical.byContradiction;intro hh;have h2:=WB (Lx v) (λe=>by rw[e]at hh;simp at hh);rw[G5]at h2;have h3:4294967296^n<=4294967296^((Gf v).length-1):=Zo (by decide) (by omega);omega
 refine go tt [.i n,.i n,.k cs,.s (Qe1 (Gf v)),.i (Gf v).length] rfl (by simp[Uw,H5,U0] <;> omega) ?_;have e:List.take 0 (List.replicate n [LV.int .u32 0])++(List.take (Gf v).length (lm (Gf v))++List.drop (0+(Gf v).length) (List.replicate n [LV.int .u32 0]))=lm (kW n v):=by
  rw[tJ (l:=Gf v++List.replicate (n-(Gf v).length) 0) (λx hx=>?_) (by simp;omega) (by rw[Bb,HL,G5];simp)]
  ·rw[Vb,Jl,Qn (by rw[U0];exact Qj _)];simp[lm]
  ·rcases Qr.1 hx with hx|hx
   ·exact Dw v x hx
   ·rw[Zv hx];decide
 rw[e];exact Uh [] [0] [] rfl
theorem LO{pre x post:Uo}{i u:Nat}(h:x[i]? = some u):(lm (pre++x++post))[pre.length+i]? = some [.int .u32 (u:Int)]:=Gz (by
 have hi:=(Qf.1 h).1;rw[Zk,Zp (by omega),Jq,Q6 hi];exact h)
theorem Qhw{pre x post:Uo}{i v:Nat}(h:i<x.length):(lm (pre++x++post)).set (pre.length+i) [.int .u32 (v:Int)]=lm (pre++x.set i v++post):=by
 rw[Ca,Zk,List.set_append_right _ _ (by omega),Jq,List.set_append_left _ _ h,<-Zk]
theorem Qiz{pre x post ly:Uo}{top nx xn x1 x2:Nat}(D:Dig x ly ly.length top nx xn x1 x2)(hn:ly.length<274877906944) :
 Ab prog 406 [.one (.orow 0 1 (some (pre.length,x.length))),lr ly] [.row true 222 1 (lm (pre++x++post))] [.one (.int .u32 ((val x / val ly:Nat):Int))] [.row true 222 1 (lm (pre++kW x.length (val x % val ly)++post))]:=by
 refine Hz func406 rfl ?_;have hxl:=D.hx;have hn2:=D.hn;have hb:=D.bnd;obtain⟨head,hh⟩:=nmE (xn*2^32+x1);obtain⟨g0,hg0⟩:=nmE (head / top);obtain⟨r0,hr0⟩:=nmE (head % top);have hst:=D.start;rw[<-hh,<-hg0]at hst;have ht0:=D.top0;have hg0l:g0<=head:=hg0 ▸ Ya _ _;have hr0l:r0<top:=hr0 ▸ Xe _ ht0;have htd:(head:Int).tdiv top=(g0:Int):=by rw[V6 (by omega),hg0];rfl
 have htm:(head:Int).tmod top=(r0:Int):=by rw[Y7 (by omega),hr0];rfl
 refine go tt [.r 23 (eI (b:=(ly.length:Int)) (by rw[U0])),.r 26 (eI (b:=((ly.length-1:Nat):Int)) (by omega)),.x (Gz D.ltop),.r 32 (eI (b:=((ly.length-2:Nat):Int)) (by omega)),.x (Gz D.lnx),
  .i ly.length,.x (LO D.xn),.i 32,.r 41 (Dd (b:=((4294967296*xn:Nat):Int)) (by omega)),.r 44 (eI (b:=((ly.length-1:Nat):Int)) (by omega)),.i (ly.length-1),.x (LO D.x1),.r 48 (Dd (b:=(head:Int)) (by rw[o64 hb.2.2.2.1 (by omega)];omega)),
  .r 51 (Dd (b:=(g0:Int)) htd),.r 54 (Dd (b:=(r0:Int)) htm)] rfl ?_ ?_
 ·simp only[Uw,H5,htd,IntKind.bits];omega
 refine ct 2 (S:=Nat) (λg=>[(0,.v (.one (.orow 0 1 (some (pre.length,x.length))))),(1,.v (lr ly)),(5,.v (.oi (ly.length:Int))),(9,.v (.one (.int .u64 (g:Int))))]) (λ_=>[.row true 222 1 (lm (pre++x++post))]) (λg=>val x / val ly<=g/\(g-1)*val ly<=val x/\g<=4294967296) rfl ?_ ?_
 ·refine lp (S:=Nat×Nat) 1 (λL1 s=>(9,.v (.one (.int .u64 (s.1:Int))))::(10,.v (.one (.int .u64 (s.2:Int))))::L1) (λ_=>[.row true 222 1 (lm (pre++x++post))]) (λs=>4294967296-s.2)
   (λs=>s.1*top+s.2=xn*2^32+x1/\val x / val ly<=s.1/\s.2<4294967296/\s.1<18446744073709551616) (g0,r0)
   ⟨by rw[<-hh,hg0,hr0,Nat.mul_comm];exact Nat.div_add_mod _ _,hst,by dsimp only;omega,by dsimp only;omega⟩ rfl (λ_ _=>rfl) rfl λ⟨g,r⟩ ⟨j1,j2,j3,j4⟩=>?_
  dsimp only at j1 j2 j3 j4 ⊢;by_cases hge:4294967296<=g
  ·have hrd:=D.round j1 j2 (.inl hge);by_cases h2:4294967296<=r+top
   ·exact go tt [.t (by simp;omega),.t rfl,.r 73 (Dd (b:=((g-1:Nat):Int)) (by omega)),.t (by simp;omega)] rfl (by simp[Uw,H5] <;> omega) (rc (g-1) ⟨hrd.2.1,(hrd.2.2.2 h2).1,(hrd.2.2.2 h2).2⟩ rfl)
   ·exact go tt [.t (by simp;omega),.t rfl,.r 73 (Dd (b:=((g-1:Nat):Int)) (by omega)),.f (by simp;omega)] rfl (by simp[Uw,H5] <;> omega) (rd (g-1,r+top) (by dsimp only;omega) ⟨hrd.2.2.1,hrd.2.1,by dsimp only;omega,by dsimp only;omega⟩ rfl)
  ·have hgn:=XV (x:=g) (y:=nx) (by omega) hb.2.1;by_cases hc:r*2^32+x2<g*nx
   ·have hrd:=D.round j1 j2 (.inr hc);have e1:(g:Int)*(nx:Int)=((g*nx:Nat):Int):=by push_cast;rfl
    obtain⟨m,hm⟩:=nmE (g*nx);rw[<-hm]at e1 hgn hc;by_cases h2:4294967296<=r+top
    ·exact go tt [.f (by simp;omega),.r 60 (Dd (b:=(m:Int)) e1),.i 32,.r 62 (Dd (b:=((4294967296*r:Nat):Int)) (by omega)),.r 65 (eI (b:=((ly.length-2:Nat):Int)) (by omega)),.i (ly.length-2),.x (LO D.x2),.r 69 (Dd (b:=((4294967296*r+x2:Nat):Int)) (o64 hb.2.2.2.2 (by omega))),.t (by simp;omega),.r 73 (Dd (b:=((g-1:Nat):Int)) (by omega)),.t (by simp;omega)] rfl (by simp only[Uw,H5,e1,IntKind.bits];omega) (rc (g-1) ⟨hrd.2.1,(hrd.2.2.2 h2).1,(hrd.2.2.2 h2).2⟩ rfl)
    ·exact go tt [.f (by simp;omega),.r 60 (Dd (b:=(m:Int)) e1),.i 32,.r 62 (Dd (b:=((4294967296*r:Nat):Int)) (by omega)),.r 65 (eI (b:=((ly.length-2:Nat):Int)) (by omega)),.i (ly.length-2),.x (LO D.x2),.r 69 (Dd (b:=((4294967296*r+x2:Nat):Int)) (o64 hb.2.2.2.2 (by omega))),.t (by simp;omega),.r 73 (Dd (b:=((g-1:Nat):Int)) (by omega)),.f (by simp;omega)] rfl (by simp only[Uw,H5,e1,IntKind.bits];omega) (rd (g-1,r+top) (by dsimp only;omega) ⟨hrd.2.2.1,hrd.2.1,by dsimp only;omega,by dsimp only;omega⟩ rfl)
   ·have hf:=D.fin j1 (by omega) (by omega);have e1:(g:Int)*(nx:Int)=((g*nx:Nat):Int):=by push_cast;rfl
    obtain⟨m,hm⟩:=nmE (g*nx);rw[<-hm]at e1 hgn hc;exact go tt [.f (by simp;omega),.r 60 (Dd (b:=(m:Int)) e1),.i 32,.r 62 (Dd (b:=((4294967296*r:Nat):Int)) (by omega)),.r 65 (eI (b:=((ly.length-2:Nat):Int)) (by omega)),.i (ly.length-2),.x (LO D.x2),.r 69 (Dd (b:=((4294967296*r+x2:Nat):Int)) (o64 hb.2.2.2.2 (by omega))),.f (by simp;omega)] rfl (by simp only[Uw,H5,e1,IntKind.bits];omega) (rc g ⟨j2,hf,by omega⟩ rfl)
 ·intro g ⟨q1,q2,q3⟩;refine Ud [.r 80 (eI (b:=(ly.length:Int)) (by rw[U0]))] rfl ?_;refine lp (S:=Nat×Uo×Nat×Nat) 1 (λL1 s=>(81,.v (.oi (s.1:Int)))::(11,.v (.one (.int .u64 (s.2.2.1:Int))))::(12,.v (.one (.int .u64 (s.2.2.2:Int))))::L1) (λs=>[.row true 222 1 (lm (pre++s.2.1++post))]) (λs=>ly.length-s.1)
   (λs=>s.1<=ly.length/\s.2.1.length=ly.length+1/\Sm s.2.1/\s.2.2.2<=1/\s.2.2.1<4294967296/\val (s.2.1.take s.1)+g*val (ly.take s.1)=val (x.take s.1)+(s.2.2.1+s.2.2.2)*4294967296^s.1/\s.2.1.drop s.1=x.drop s.1) (0,x,0,0)
   ⟨Qg _,hxl,D.xb,Qg _,by simp,by simp[val],rfl⟩ rfl (λ_ _=>rfl) rfl λ⟨i,o,cy,bw⟩ ⟨j1,j2,j3,j4,j5,j6,j7⟩=>?_
  dsimp only at j1 j2 j3 j4 j5 j6 j7 ⊢;by_cases hi:i<ly.length
  ·obtain⟨w1,hw1⟩:=gxE (l:=ly) (i:=i) hi;obtain⟨u,hu⟩:=gxE (l:=x) (i:=i) (by omega);have wb:=D.lb w1 (Qa hw1);have ub:=D.xb u (Qa hu);have hou:=(WX j7).trans hu;have hgw:g*w1<=18446744069414584320:=by
    have:=Zs q3 (show w1<=4294967295 by omega);omega
   obtain⟨s,hs⟩:=nmE (((u+18446744073709551616-(g*w1+cy) % 4294967296) % 18446744073709551616+18446744073709551616-bw) % 18446744073709551616);have hstep:=xJ (o:=o) (by omega) hu hw1 ub j4 j6 rfl hs;have e1:(g:Int)*(w1:Int)=((g*w1:Nat):Int):=by push_cast;rfl
   obtain⟨m,hm⟩:=nmE (g*w1);rw[<-hm]at e1 hgw hs hstep;obtain⟨p,hp⟩:=nmE (m+cy);rw[<-hp]at hs hstep;refine go tt [.t (by simp;omega),.x (Gz hw1),.r 89 (Dd (b:=(m:Int)) e1),.r 91 (Dd (b:=(p:Int)) (by omega)),.i 32,.r 93 (Dd (b:=((p / 2^32:Nat):Int)) (by simp)),.i i,.x (LO hou),.w 1,.r 100 (Li (b:=((p % 4294967296:Nat):Int)) (by rw[OC];omega)),.w 1,.r 102 (Dd (b:=(((u+18446744073709551616-p % 4294967296) % 18446744073709551616:Nat):Int)) (by rw[w64];omega)),.w 0,.r 104 (Dd (b:=(s:Int)) (by rw[w64];omega)),
    .w 0,.r 108 (Li (b:=((s % 4294967296:Nat):Int)) (by rw[OC];omega)),.i 63,.r 110 (Dd (b:=((s / 2^63:Nat):Int)) (by simp)),.i i] rfl (by simp only[Uw,H5,e1,IntKind.bits,U0,Q3];omega) ?_
   rw[Qhw (by omega)];exact rd (i+1,o.set i (s % 4294967296),p / 2^32,s / 2^63) (by dsimp only;omega) ⟨hi,by simp[j2],Nz j3 _ _ (by omega),hstep.2,by dsimp only;omega,hstep.1,EE j7⟩ rfl
  ·obtain rfl:i=ly.length:=by omega
   have hon:=(WX j7).trans D.xn;rw[Qn (l:=ly) (Qj _)]at j6;obtain⟨s,hs⟩:=nmE (((xn+18446744073709551616-cy) % 18446744073709551616+18446744073709551616-bw) % 18446744073709551616);obtain⟨oa,hoa⟩:=nmE (o.set ly.length (s % 4294967296));have oal:oa.length=ly.length+1:=by rw[hoa,X2];exact j2
   have oab:Sm oa:=hoa ▸ Nz j3 _ _ (by omega);by_cases PK:s / 2^63=0
   ·have hf:=D.fin0 j2 j5 j4 q1 j6 hs PK;refine go tt [.f (by simp),.i ly.length,.x (LO hon),.w 1,.r 119 (Dd (b:=(((xn+18446744073709551616-cy) % 18446744073709551616:Nat):Int)) (by rw[w64];omega)),.w 0,.r 121 (Dd (b:=(s:Int)) (by rw[w64];omega)),.w 0,.r 125 (Li (b:=((s % 4294967296:Nat):Int)) (by rw[OC];omega)),.i ly.length,.i 63,.r 128 (Dd (b:=((s / 2^63:Nat):Int)) (by simp)),.t (by simp;omega),.w 0,.r 131 (Li (b:=((val x / val ly:Nat):Int)) (by rw[OC];omega))] rfl (by simp only[Uw,H5,IntKind.bits,U0,Q3];omega) ?_;rw[Qhw (by omega),<-tJ (l:=o.set ly.length (s % 4294967296)) (k:=x.length) (hoa ▸ oab) (by rw[<-hoa,oal,hxl]) hf.2];exact Uh [] [0] [] rfl
   ·have hf:=D.fin1 j2 j3 j5 j4 q2 j6 hs PK;rw[<-hoa]at hf;obtain⟨v1,hv1⟩:=gxE (l:=oa) (i:=ly.length) (by omega);refine go tt [.f (by simp),.i ly.length,.x (LO hon),.w 1,.r 119 (Dd (b:=(((xn+18446744073709551616-cy) % 18446744073709551616:Nat):Int)) (by rw[w64];omega)),.w 0,.r 121 (Dd (b:=(s:Int)) (by rw[w64];omega)),.w 0,.r 125 (Li (b:=((s % 4294967296:Nat):Int)) (by rw[OC];omega)),.i ly.length,.i 63,.r 128 (Dd (b:=((s / 2^63:Nat):Int)) (by simp)),.f (by simp;omega),.r 133 (eI (b:=(ly.length:Int)) (by rw[U0]))] rfl (by simp only[Uw,H5,IntKind.bits,U0,Q3];omega) ?_;rw[Qhw (by omega),<-hoa];refine lp (S:=Nat×Uo×Nat) 1 (λL1 s=>(134,.v (.oi (s.1:Int)))::(18,.v (.one (.int .u64 (s.2.2:Int))))::L1) (λs=>[.row true 222 1 (lm (pre++s.2.1++post))]) (λs=>ly.length-s.1)
     (λs=>s.1<=ly.length/\s.2.1.length=ly.length+1/\Sm s.2.1/\s.2.2<=1/\val (s.2.1.take s.1)+s.2.2*4294967296^s.1=val (oa.take s.1)+val (ly.take s.1)/\s.2.1.drop s.1=oa.drop s.1) (0,oa,0)
     ⟨Qg _,oal,oab,Qg _,by simp[val],rfl⟩ rfl (λ_ _=>rfl) rfl λ⟨j,o2,bk⟩ ⟨r1,r2,r3,r4,r5,r6⟩=>?_
    dsimp only at r1 r2 r3 r4 r5 r6 ⊢;by_cases hj:j<ly.length
    ·obtain⟨w1,hw1⟩:=gxE (l:=ly) (i:=j) hj;obtain⟨u,hu⟩:=gxE (l:=oa) (i:=j) (by omega);have wb:=D.lb w1 (Qa hw1);have ub:=oab u (Qa hu);have hou:=(WX r6).trans hu;obtain⟨m,hm⟩:=nmE (u+bk+w1);have hstep:=yC (o:=o2) (by omega) hu (.inl hw1) r5 hm;refine go tt [.t (by simp;omega),.x (Gz hw1),.i j,.x (LO hou),.r 148 (Dd (b:=(m:Int)) (by omega)),.w 0,.r 152 (Li (b:=((m % 4294967296:Nat):Int)) (by rw[OC];omega)),.i 32,.r 154 (Dd (b:=((m / 4294967296:Nat):Int)) (by simp)),.i j] rfl (by simp only[Uw,H5,IntKind.bits,U0,Q3];omega) ?_;rw[Qhw (by omega)];exact rd (j+1,o2.set j (m % 4294967296),m / 4294967296) (by dsimp only;omega) ⟨hj,by simp[r2],Nz r3 _ _ (by omega),by dsimp only;omega,hstep,EE r6⟩ rfl
    ·obtain rfl:j=ly.length:=by omega
     have hon2:=(WX r6).trans hv1;have vb:=oab v1 (Qa hv1);rw[Qn (l:=ly) (Qj _)]at r5;have hf2:=D.fin2 oal oab r2 r3 hv1 r4 hf.2 r5;refine go tt [.f (by simp),.i ly.length,.x (LO hon2),.w 1,.r 165 (Li (b:=(((v1+bk) % 4294967296:Nat):Int)) (by rw[OC];omega)),.i ly.length,.w 0,.r 168 (Li (b:=((g % 4294967296:Nat):Int)) (by rw[OC];omega)),.w 0,.r 169 (Li (b:=((val x / val ly:Nat):Int)) (Qta hf.1 D.qlt))] rfl (by simp only[Uw,H5,IntKind.bits,U0,Q3];omega) ?_;rw[Qhw (by omega),<-tJ (l:=o2.set ly.length ((v1+bk) % 4294967296)) (k:=x.length) (Nz r3 _ _ (by omega)) (by rw[X2,r2,hxl]) hf2];exact Uh [] [0] [] rfl
theorem Qb9{o ly:Uo}{lo top nx xn x1 x2:Nat}(hlo:lo+(ly.length+1)<=o.length)(D:Dig (KG o lo ly.length) ly ly.length top nx xn x1 x2)(hn:ly.length<274877906944) :
 Ab prog 406 [.one (.orow 0 1 (some (lo,ly.length+1))),lr ly] [.row true 222 1 (lm o)] [.one (.int .u32 ((val (KG o lo ly.length) / val ly:Nat):Int))] [.row true 222 1 (lm (o.take lo++kW (ly.length+1) (val (KG o lo ly.length) % val ly)++o.drop (lo+ly.length+1)))]:=by
 have:=Qiz (pre:=o.take lo) (post:=o.drop (lo+ly.length+1)) D hn;have e1:(o.take lo).length=lo:=by rw[Qq];omega
 have e2:=UE (o:=o) (i:=lo) (n:=ly.length) (by omega);rw[e1,e2,YW]at this;exact this
theorem yO{a b:Uo}(ha:Sm a)(hb:Sm b)(h1:sz (val a)<=4294967296)(h2:sz (val b)<=4294967296)(hy:0<val b):Uj 382 [lr a,lr b] [lr (Gf (val a / val b)),lr (Gf (val a % val b)),.oi 0]:=by
 refine Hz func382 rfl ?_;obtain⟨p,ca,np,vp,_,ep⟩:=FM ha;obtain⟨q,cb,nq,vq,_,eq⟩:=FM hb;have hp:=T0 h1;have hq:=T0 h2;rw[<-ep]at hp;rw[<-eq]at hq;rw[<-vp,<-vq];rw[<-vp]at h1;rw[<-vq]at h2 hy;have q0:q≠[]:=λe=>by rw[e]at hy;simp[val]at hy
 have qp:0<q.length:=Yc.2 q0;have c1:¬((lm q).length:Int)=0:=by rw[U0];omega
 by_cases hlt:p.length<q.length
 ·have hv:=Dh np nq hlt;rw[V3 hv,X5 hv,Hn];exact Uf [.k ca,.k cb,.f (by simpa using c1),.t (by simp[U0];omega),.k (FG np.1 h1)] rfl rfl (by simp[Uw,H5])
 by_cases hone:q.length=1
 ·obtain⟨y,rfl⟩:∃y,q=[y]:=by
   match q,hone with
   | [y],_=>exact⟨y,rfl⟩
  have yb:=nq.1 y (.head _);have vy:val [y]=y:=by simp[val]
  rw[vy]at hy ⊢;have co:=Qry np.1 (by omega) hy yb;have sm:Sm [val p % y]:=λz hz=>by
   simp at hz;subst hz;exact Nat.lt_trans (Xe _ hy) yb
  have cc:=YS sm;rw[show val [val p % y]=val p % y from by simp[val]]at cc;exact Uf [.k ca,.k cb,.f (by simp[lm]),.f (by simp[U0];omega),.t (by simp[lm]),.x (Gz (l:=[y]) (i:=0) rfl),.k co,.k cc] rfl rfl (by simp[Uw,H5])
 ·have hle:q.length<=p.length:=Yj hlt;obtain⟨y1,hy1,hy10⟩:=nq.2 q0;have y1b:=nq.1 y1 (Qa hy1);have hszy:=mP nq hy1;have hsz1:sz y1<=32:=Bl.2 (by omega);have hsz0:0<sz y1:=Qqp (by omega);obtain⟨s,hs⟩:=nmE (32-sz y1);have hs31:s<=31:=by omega
  have Li:(2:Nat)^32=4294967296:=by decide
  obtain⟨x,hx⟩:=nmE (val p);obtain⟨y,hyv⟩:=nmE (val q);have cl:=Qog y1b;rw[<-hs]at cl;have hvx:val p*2^s<4294967296^(p.length+1):=by
   have h1:=D8 p np.1;rw[Zl];exact Xo (Xz h1 (show 0<2^s from Zu (by decide))) (Zd _ (by rw[<-Li];exact Zo (by decide) (by omega)))
  have hvy:val q*2^s<4294967296^q.length:=by
   have h1:=WP (val q);rw[<-Li,<-Uc];have h2:val q*2^s<2^sz (val q)*2^s:=Xz h1 (Zu (by decide));rw[<-Xc]at h2;rw[show 32*q.length=sz (val q)+s from by omega];exact h2
  have cx:=Qc0 np.1 (show sz (val p)<=4294967400 by omega) hs31 (show p.length+1<274877906944 by omega) (by omega) hvx;have cy:=Qc0 nq.1 (show sz (val q)<=4294967400 by omega) hs31 (show q.length<274877906944 by omega) qp hvy;obtain⟨hXl,hXb,hXv⟩:=qC (k:=p.length+1) (v:=val p*2^s);obtain⟨hYl,hYb,hYv⟩:=qC (k:=q.length) (v:=val q*2^s);have hXv:=hXv hvx;have hYv:=hYv hvy;obtain⟨X,hX⟩:=nmE (kW (p.length+1) (val p*2^s));obtain⟨Y,hY⟩:=nmE (kW q.length (val q*2^s));rw[<-hX]at hXl hXb hXv cx;rw[<-hY]at hYl hYb hYv cy;have hyB:4294967296^(q.length-1)<=val q:=WB nq q0;have hR:=pE hXv hYv hXl hXb hYl hYb (show 2<=q.length by omega) (D8 p np.1) hyB hle;refine go tt [.k ca,.k cb,.f (by simpa using c1),.f (by simp[U0];omega),.f (by simp[U0];omega),.r 49 (eI (b:=((q.length-1:Nat):Int)) (by rw[U0];omega)),.x (Gz hy1),.k cl,.r 57 (eI (b:=((p.length+1:Nat):Int)) (by rw[U0];omega)),.c [0] cx,.r 62 (eI (b:=(q.length:Int)) (by rw[U0])),.c [1] cy,.r 65 (eI (b:=(q.length:Int)) (by rw[U0,hYl])),.r 70 (eI (b:=((p.length-q.length+1:Nat):Int)) (by rw[U0];omega)),.i (p.length-q.length+1),.i (p.length-q.length+1),.r 73 (eI (b:=((p.length-q.length+1:Nat):Int)) (by simp))] rfl ?_ ?_
  ·simp only[Uw,H5,IntKind.bits,U0];omega
  ·rw[KQ];refine pb 1 rfl rfl ?_;refine lp (S:=Int×Uo×Uo) 3 (λL1 s=>(13,.v (.oi s.1))::L1) (λs=>[.row false 222 1 (lm s.2.2),.gone,.row false 222 1 (lm s.2.1)]) (λs=>(s.1+1).toNat)
    (λs=>-1<=s.1/\s.1<p.length-q.length+1/\s.2.1.length=p.length-q.length+1/\Sm s.2.1/\Rest s.2.2 Y p.length q.length (s.1+1).toNat/\val (s.2.1.drop (s.1+1).toNat)*4294967296^(s.1+1).toNat*val Y+val s.2.2=val X) (((p.length-q.length+1:Nat):Int)-1,List.replicate (p.length-q.length+1) 0,X)
    ⟨by dsimp only;omega,by dsimp only;omega,by simp,λx hx=>by rw[List.eq_of_mem_replicate hx];decide,by simpa using hR,by simp[val]⟩ rfl (λ_ _=>rfl) rfl λ⟨i,oq,ox⟩ ⟨j1,j2,j3,j4,j5,j6⟩=>?_
   dsimp only at j1 j2 j3 j4 j5 j6 ⊢;rcases K7 i 0 with hi|hi
   ·obtain rfl:i=-1:=by omega
    simp only[show((-1:Int)+1).toNat=0 from rfl,X9,Ys,Yf]at j5 j6;have hlt':val ox<val q*2^s:=by have:=j5.lt;rw[hYv]at this;simpa using this
    have hfin:=Qgc (x:=val p) (y:=val q) (s:=s) (r:=val ox) (q:=oq) hy (by rw[<-hXv,<-hYv];exact j6) hlt';have hoxl:=j5.ol;have hox:=mN (o:=ox) (n:=q.length) (by omega) (Nat.lt_trans hlt' hvy);have hszm:sz (val (ox.take q.length))<=4294967400:=by
     rw[hox,hfin.2];have h1:=Qhh (val p % val q) (2^s);have h2':=Te (J3 (Xe (val p) hy));have h3:sz (2^s)<=s+1:=Bl.2 (Nat.pow_lt_pow_right (by decide) (by omega));omega
    have cs:=Qrv (a:=ox.take q.length) (λu hu=>j5.ob u (Ql hu)) hszm hs31;rw[hox,hfin.2,Nat.mul_div_cancel _ (Zu (by decide))]at cs;have cq:=YS j4;rw[hfin.1]at cq;exact Uf [.f (by decide),.p 2,.p 0,.k cq,.i q.length,.r 95 (v:=lr (ox.take q.length)) (by simp[lm]),.k cs] rfl rfl (by simp[Uw,H5,U0];omega)
   ·obtain⟨k,rfl⟩:=Yv hi;have e:((k:Int)+1).toNat=k+1:=by omega
    rw[e]at j5 j6;obtain⟨top,nx,xn,x1,x2,D⟩:=j5.dig;have hoxl:=j5.ol;have hm:=j5.hm;have cd:=Qb9 (o:=ox) (lo:=k) (by omega) (hYl.symm ▸ D) (by omega);rw[hYl]at cd;have hwl:=UE (o:=ox) (i:=k) (n:=q.length) (by omega);have hwlt:val (KG ox k q.length) % val Y<4294967296^(q.length+1):=by
     have h3:=D8 (KG ox k q.length) D.xb;rw[hwl]at h3;exact Z8 (Nat.mod_le _ _) h3
    obtain⟨d1,d2,d3⟩:=qC (k:=q.length+1) (v:=val (KG ox k q.length) % val Y);have hnx:=j5.next (w':=kW (q.length+1) (val (KG ox k q.length) % val Y)) (d1.trans hwl.symm) d2 (d3 hwlt) (q:=oq) (by omega) j6;have hdg:=D.qlt;refine go tt [.t (by simp),.i k,.i (k+q.length+1),.r 87 (v:=.one (.orow 0 1 (some (k,q.length+1)))) (by rw[show k+q.length+1-k=q.length+1 by omega]),.c [0] cd,.i k] rfl ?_ ?_
    ·simp only[Uw,U0];omega
    ·rw[Ca];refine rd ((k:Int)-1,oq.set k (val (KG ox k q.length) / val Y),ox.take k++kW (q.length+1) (val (KG ox k q.length) % val Y)++ox.drop (k+q.length+1)) (by dsimp only;omega) ⟨by dsimp only;omega,by dsimp only;omega,by simp[j3],Nz j4 _ _ hdg,?_,?_⟩ rfl
     ·dsimp only;rw[show((k:Int)-1+1).toNat=k from by omega];exact hnx.1
     ·dsimp only;rw[show((k:Int)-1+1).toNat=k from by omega];exact hnx.2
def sg(z:Int):LV:=.bool (decide (z<0))
def mg(z:Int):LV:=.row (lm (Gf z.natAbs))
abbrev H9(z:Int):Ur:=[sg z,mg z]
def S7(x y:LV)(z:Int):Prop:=∃b l,x=.bool b/\y=.row (lm l)/\Sm l/\z=Fb b (val l)
theorem Fa(z:Int):S7 (sg z) (mg z) z:=by
 refine⟨_,_,rfl,rfl,Dw _,?_⟩;rw[G5];unfold Fb;by_cases h:z<0 <;> simp[h] <;> omega
theorem Qpw(b:Bool)(m:Nat):[LV.bool (b && decide (0<m)),LV.row (lm (Gf m))]=H9 (Fb b m):=by
 simp only[H9,sg,mg,CY,Tx]
theorem Df{m:Nat}:0<(Gf m).length↔0<m:=by
 rcases Qy m with h|h
 ·subst h;rw[Hn];simp
 ·rw[Lu (by omega)];simp[h]
theorem Mi(b:Bool)(m:Nat):Uj 295 [lr (Gf m),.one (.bool b)] [.agg (H9 (Fb b m))]:=by
 rw[<-Qpw];have e:=Df (m:=m);cases b with
 |false=>exact Ug func295 rfl [.f rfl] rfl
 |true=>exact Ug func295 rfl [.t rfl] rfl (by simp[U0,e]) trivial
theorem Mw{b:Bool}{m:Nat}{k:Nat}(h:Ff (Fb b m)<=k):sz m<=k:=by
 unfold Ff at h;rwa[Tx]at h
theorem Oh{x y:LV}{z:Int}(hi:S7 x y z)(hs:Ff z<=4294967295):Uj 297 [.agg [x,y]] [.agg (H9 z)]:=by
 obtain⟨b,l,rfl,rfl,hl,rfl⟩:=hi;exact Ug func297 rfl [.k (FG hl (Qc (Mw hs) (by decide))),.k (Mi _ _)] rfl
theorem WY(b:Bool)(m:Nat):Fb (!b) m=-(Fb b m):=by unfold Fb;cases b <;> simp
theorem vQ{x y:LV}{z:Int}(hi:S7 x y z)(hs:Ff z<=4294967295):Uj 306 [.agg [x,y]] [.agg (H9 (-z))]:=by
 obtain⟨b,l,rfl,rfl,hl,rfl⟩:=hi;rw[<-WY];exact Ug func306 rfl [.k (FG hl (Qc (Mw hs) (by decide))),.k (Mi _ _)] rfl
theorem Ea{x y x' y':LV}{z z':Int}(hi:S7 x y z)(hi':S7 x' y' z')(hs:Ff z<=4294967295)(hs':Ff z'<=4294967295):Uj 191 [.agg [x,y],.agg [x',y']] [.agg (H9 (z*z'))]:=by
 obtain⟨b,l,rfl,rfl,hl,rfl⟩:=hi;obtain⟨b',l',rfl,rfl,hl',rfl⟩:=hi';have e:Fb b (val l)*Fb b' (val l')=Fb (b != b') (val l*val l'):=by
  unfold Fb;cases b <;> cases b' <;> simp[Int.neg_mul,Int.mul_neg]
 rw[e];exact Ug func191 rfl [.k (Qrq hl hl' (Qc (Mw hs) (by decide)) (Qc (Mw hs') (by decide))),.k (Mi _ _)] rfl
theorem MR{a b:Uo}(ha:Sm a)(hb:Sm b)(h1:sz (val a)<=4294967296)(h:val b<=val a):Uj 389 [lr a,lr b] [lr (Gf (val a-val b)),.one (.bool true)]:=by
 have:=Qm4 ha hb h1;rwa[if_pos h]at this
theorem Qb1{a b:Uo}(ha:Sm a)(hb:Sm b)(h1:sz (val a)<=4294967296)(h:val a<val b):Uj 389 [lr a,lr b] [lr [],.one (.bool false)]:=by
 have:=Qm4 ha hb h1;rwa[if_neg (by omega)]at this
theorem MS{x y x' y':LV}{z z':Int}(hi:S7 x y z)(hi':S7 x' y' z')(hs:Ff z<=4294967295)(hs':Ff z'<=4294967295):Uj 358 [.agg [x,y],.agg [x',y']] [.agg (H9 (z+z'))]:=by
 obtain⟨b,l,rfl,rfl,hl,rfl⟩:=hi;obtain⟨b',l',rfl,rfl,hl',rfl⟩:=hi';have s1:=Qc (Mw hs) (show 4294967295<=4294967296 by decide);have s2:=Qc (Mw hs') (show 4294967295<=4294967296 by decide);by_cases hb:b=b'
 ·subst hb;have e:Fb b (val l)+Fb b (val l')=Fb b (val l+val l'):=by unfold Fb;cases b <;> simp <;> omega
  rw[e];exact Ug func358 rfl [.t (by simp),.k (Qm1 hl hl' s1 s2),.k (Mi _ _)] rfl
 ·by_cases hle:val l'<=val l
  ·have e:Fb b (val l)+Fb b' (val l')=Fb b (val l-val l'):=by unfold Fb;cases b <;> cases b' <;> simp at hb ⊢ <;> omega
   rw[e];exact Ug func358 rfl [.f (by simpa using hb),.k (MR hl hl' s1 hle),.t rfl,.k (Mi _ _)] rfl
  ·have e:Fb b (val l)+Fb b' (val l')=Fb b' (val l'-val l):=by unfold Fb;cases b <;> cases b' <;> simp at hb ⊢ <;> omega
   rw[e];exact Ug func358 rfl [.f (by simpa using hb),.k (Qb1 hl hl' s1 (by omega)),.f rfl,.k (MR hl' hl s2 (by omega)),.k (Mi _ _)] rfl
theorem Qom{x y x' y':LV}{z z':Int}(hi:S7 x y z)(hi':S7 x' y' z')(hs:Ff z<=4294967295)(hs':Ff z'<=4294967295):Uj 303 [.agg [x,y],.agg [x',y']] [.agg (H9 (z-z'))]:=by
 obtain⟨b',l',rfl,rfl,hl',rfl⟩:=hi';have hn:S7 (.bool (!b')) (.row (lm l')) (-(Fb b' (val l'))):=⟨_,_,rfl,rfl,hl',(WY _ _).symm⟩;rw[Int.sub_eq_add_neg];have hi2:=hi;obtain⟨b,l,rfl,rfl,hl,_⟩:=hi;exact Ug func303 rfl [.k (MS hi2 hn hs (by rw[Hy];exact hs'))] rfl
theorem Qcw{x y:LV}{z:Int}(hi:S7 x y z)(hs:Ff z<=4294967295):Uj 385 [.agg [x,y]] [.oi (Int.sign z)]:=by
 obtain⟨b,l,rfl,rfl,hl,rfl⟩:=hi;have s1:=Qc (Mw hs) (show 4294967295<=4294967296 by decide);have cb:=rZ hl s1;by_cases h0:val l=0
 ·have e:Fb b (val l)=0:=by unfold Fb;rw[h0];cases b <;> simp
  rw[e];exact Ug func385 rfl [.k cb,.t (by simp[DG,h0])] rfl
 ·have PK:sz (val l)≠0:=λh=>h0 (DG.1 h)
  cases b
  ·have e:(Fb false (val l)).sign=1:=Int.sign_eq_one_of_pos (by unfold Fb;simp;omega);rw[e];exact Ug func385 rfl [.k cb,.f (by simp;omega),.f rfl] rfl
  ·have e:(Fb true (val l)).sign=-1:=Int.sign_eq_neg_one_of_neg (by unfold Fb;simp;omega);rw[e];exact Ug func385 rfl [.k cb,.f (by simp;omega),.t rfl] rfl
theorem qW{x y x' y':LV}{z z':Int}(hi:S7 x y z)(hi':S7 x' y' z')(hs:Ff z<=4294967295)(hs':Ff z'<=4294967295):Uj 354 [.agg [x,y],.agg [x',y']] [.oi (Dz z z')]:=by
 have c1:=Qcw hi hs;have c2:=Qcw hi' hs';obtain⟨b,l,rfl,rfl,hl,hz⟩:=hi;obtain⟨b',l',rfl,rfl,hl',hz'⟩:=hi';have k1:=KX z;have k2:=KX z';have zl:z.natAbs=val l:=by rw[hz,Tx]
 have zl':z'.natAbs=val l':=by rw[hz',Tx]
 by_cases h1:z.sign<z'.sign
 ·have e:Dz z z'=-1:=by unfold Dz;rw[if_pos (by omega)]
  rw[e];exact Ug func354 rfl [.k c1,.k c2,.t (by simpa using h1)] rfl
 ·by_cases h2:z'.sign<z.sign
  ·have e:Dz z z'=1:=by unfold Dz;rw[if_neg (by omega),if_pos (by omega)]
   rw[e];exact Ug func354 rfl [.k c1,.k c2,.f (by simpa using h1),.t (by simpa using h2)] rfl
  ·by_cases h3:z.sign<0
   ·have e:QS (val l') (val l)=Dz z z':=by unfold Dz QS;rw[<-zl,<-zl'];split <;> split <;> (try split) <;> (try split) <;> omega
    have cc:=Qbk hl' hl;rw[e]at cc;exact Ug func354 rfl [.k c1,.k c2,.f (by simpa using h1),.f (by simpa using h2),.t (by simpa using h3),.k cc] rfl
   ·have e:QS (val l) (val l')=Dz z z':=by unfold Dz QS;rw[<-zl,<-zl'];split <;> split <;> (try split) <;> (try split) <;> omega
    have cc:=Qbk hl hl';rw[e]at cc;exact Ug func354 rfl [.k c1,.k c2,.f (by simpa using h1),.f (by simpa using h2),.f (by simpa using h3),.k cc] rfl
theorem ZQ{z:Int}:Uj 298 [.agg (H9 z)] [.one (.bool (decide (z=0)))] :=
 Ug func298 rfl [] rfl (by simp only[U0];congr 3;have:=Df (m:=z.natAbs);rw[decide_eq_decide];omega) trivial
theorem rV{z:Int}(h1:-9223372036854775808<=z/\z<=9223372036854775807):Uj 299 [.oi z] [.agg (H9 z)]:=by
 obtain⟨m,hm⟩:=nmE (z.natAbs);have sm:Sm [m % 4294967296,m / 4294967296]:=λx hx=>by
  simp at hx;rcases hx with rfl|rfl <;> omega
 have hv:val [m % 4294967296,m / 4294967296]=m:=by simp only[val];omega
 have cn:=FG sm (by rw[hv];exact Qc (Bl.2 (show m<2^64 by omega)) (show 64<=4294967296 by decide));rw[hv]at cn;by_cases hz:z<0
 ·have e:Fb true m=z:=by unfold Fb;simp;omega
  have cm:=Mi true m;rw[e]at cm;exact Ug func299 rfl [.w 0,.r 5 (Dd (b:=((18446744073709551616-m:Nat):Int)) (by rw[w64];omega)),.t (by simpa using hz),.w 0,.r 9 (Dd (b:=(m:Int)) (by rw[w64];omega)),.w 0,.r 11 (Li (b:=((m % 4294967296:Nat):Int)) (by rw[OC];omega)),.i 32,.r 13 (Dd (b:=((m / 4294967296:Nat):Int)) (by simp)),.k cn,.r 18 (v:=.one (.bool true)) (by simp[hz]),.k cm] rfl rfl (by simp[Uw,IntKind.bits] <;> omega)
 ·have e:Fb false m=z:=by unfold Fb;simp;omega
  have cm:=Mi false m;rw[e]at cm;exact Ug func299 rfl [.w 0,.r 5 (Dd (b:=(m:Int)) (by rw[w64];omega)),.f (by simpa using hz),.w 0,.r 11 (Li (b:=((m % 4294967296:Nat):Int)) (by rw[OC];omega)),.i 32,.r 13 (Dd (b:=((m / 4294967296:Nat):Int)) (by simp)),.k cn,.r 18 (v:=.one (.bool false)) (by simp;omega),.k cm] rfl rfl (by simp[Uw,IntKind.bits] <;> omega)
theorem rJ{m n:Nat}(h1:sz m<=4294967296)(h2:sz n<=4294967296)(hn:0<n):Uj 382 [lr (Gf m),lr (Gf n)] [lr (Gf (m / n)),lr (Gf (m % n)),.oi 0]:=by
 have:=yO (Dw m) (Dw n) (by rw[G5];exact h1) (by rw[G5];exact h2) (by rw[G5];exact hn);rwa[G5,G5]at this
theorem aH{x y x' y':LV}{z z':Int}(hi:S7 x y z)(hi':S7 x' y' z')(hs:Ff z<=4294967295)(hs':Ff z'<=4294967295)(hz:z'≠0):Uj 383 [.agg [x,y],.agg [x',y']] [.agg (H9 (z / z')),.agg (H9 (z % z')),.oi 0]:=by
 obtain⟨b,l,rfl,rfl,hl,hz1⟩:=hi;obtain⟨b',l',rfl,rfl,hl',hz2⟩:=hi';have zl:z.natAbs=val l:=by rw[hz1,Tx]
 have zl':z'.natAbs=val l':=by rw[hz2,Tx]
 have s1:sz (val l)<=4294967296:=Qc (Mw (hz1 ▸ hs)) (by decide);have s2:sz (val l')<=4294967296:=Qc (Mw (hz2 ▸ hs')) (by decide);have hp:0<z'.natAbs:=by omega
 have e1:z=if b=true then -(z.natAbs:Int)else(z.natAbs:Int):=by rw[zl];exact hz1
 have e2:z'=if b'=true then -(z'.natAbs:Int)else(z'.natAbs:Int):=by rw[zl'];exact hz2
 have cd:=yO hl hl' s1 s2 (by omega);rw[<-zl,<-zl']at cd;have s0:sz (z.natAbs % z'.natAbs)<=4294967296:=Qc (Te (J3 (Xe _ hp))) (by rw[zl'];exact s2);cases b with
 |
  false =>
  obtain⟨d1,d2⟩:=NH e2 hp e1;rw[d1,d2];exact Ug func383 rfl [.k cd,.f rfl,.k (Mi _ _),.k (Mi _ _),.f rfl,.f rfl] rfl
 |
  true =>
  by_cases h0:z.natAbs % z'.natAbs=0
  ·obtain⟨d1,d2⟩:=SZ e2 hp e1 h0;rw[d1,d2];exact Ug func383 rfl [.k cd,.f rfl,.k (Mi _ _),.k (Mi _ _),.t rfl,.f (by rw[h0,Hn];rfl)] rfl
  ·obtain⟨d1,d2⟩:=NG e2 hp e1 (by omega);rw[d1,d2];have ca:=Qm1 (a:=Gf (z.natAbs / z'.natAbs)) (b:=[1]) (Dw _) (λx hx=>by simp at hx;subst hx;decide) (by rw[G5];exact Qc (Te (Ya _ _)) (by rw[zl];exact s1)) (by decide);have cs:=MR (a:=l') (b:=Gf (z.natAbs % z'.natAbs)) hl' (Dw _) s2 (by rw[G5,<-zl'];exact J3 (Xe _ hp));rw[G5]at ca cs;rw[<-zl']at cs;have hl0:=Df (m:=z.natAbs % z'.natAbs);exact Ug func383 rfl [.k cd,.f rfl,.k (Mi _ _),.k (Mi _ _),.t rfl,.t (by simp[U0];omega),.k ca,.k cs,.k (Mi _ _),.k (Mi _ _)] rfl
theorem Ad{x y x' y':LV}{z z':Int}(hi:S7 x y z)(hi':S7 x' y' z')(hs:Ff z<=4294967295)(hs':Ff z'<=4294967295)(hz:z'≠0)(hd:z % z'=0):Uj 337 [.agg [x,y],.agg [x',y']] [.agg (H9 (z / z')),.oi 0]:=by
 have cd:=aH hi hi' hs hs' hz;obtain⟨b,l,rfl,rfl,_⟩:=hi;obtain⟨b',l',rfl,rfl,_⟩:=hi';exact Ug func337 rfl [.k cd,.f rfl,.f (by rw[hd];simp[U0,Hn])] rfl
end Orr
namespace Orr
open Go
abbrev Qqu(l:Uo):LV:=.row (lm l)
def Hx(l:Um):Nat:=l.foldl (λg z=>Nat.gcd g z.natAbs) 0
theorem GW{l:Um}{i:Nat}{z:Int}(h:l[i]? = some z):Hx (l.take (i+1))=Nat.gcd (Hx (l.take i)) z.natAbs:=by
 unfold Hx;rw[Xv,h];simp[Ko]
theorem Qj4(g x:Nat):Nat.gcd x (g % x)=Nat.gcd g x:=by
 rw[Wb g x,Nat.gcd_rec x g,Wb]
theorem LR(l:Um):l.foldl (λg z=>Nat.gcd g z.natAbs) 1=1:=by
 induction l with
 |nil=>rfl
 |cons z l ih=>simp[ih]
theorem Qeb{l:Um}{i:Nat}(h:Hx (l.take i)=1):Hx l=1:=by
 have e:l=l.take i++l.drop i:=(Zj i l).symm;unfold Hx at h ⊢;rw[e,Ko,h,LR]
def trim:Um->Um
 | []=>[]
 |
  x::l=>match trim l with
  | []=>if x=0 then []else [x]
  |y::k=>x::y::k
theorem KY:∀{l:Um},(∀x∈l,x=0)->trim l=[]
 | [],_=>rfl
 |
  x::l,h=>by
  have ih:=KY (l:=l) (λy hy=>h y (Qp _ hy));simp[trim,ih,h x (Q0 ..)]
theorem OM:∀{l:Um} {m:Nat} {y:Int},(∀j x,m<j->l[j]? = some x->x=0)->l[m]? = some y->y≠0->trim l=l.take (m+1)
 | [],m,y,_,h,_=>by simp at h
 |
  x::l,0,y,h1,h2,h3=>by
  have h0:trim l=[]:=KY λz hz=>by
   obtain⟨j,hj⟩:=Zi.1 hz;exact h1 (j+1) z (by omega) (by simpa using hj)
  simp at h2;subst h2;simp[trim,h0,h3]
 |
  x::l,m+1,y,h1,h2,h3=>by
  have ih:=OM (l:=l) (m:=m) (y:=y) (λj z hj hz=>h1 (j+1) z (by omega) (by simpa using hz)) (by simpa using h2) h3;cases hl:l with
  |nil=>subst hl;simp at h2
  |
   cons u k =>
   subst hl;rw[Vf]at ih;simp only[trim]at ih ⊢;rw[ih];simp
def Uz(l:Um):Prop:=trim l=l
theorem Hj:∀(l:Um),Uz (trim l)
 | []=>rfl
 |
  x::l=>by
  have ih:=Hj l;unfold Uz at ih ⊢;cases h:trim l with
  |nil=>by_cases hx:x=0 <;> simp[trim,h,hx]
  |
   cons y k =>
   rw[h]at ih;simp only[trim,h]at ih ⊢;rw[ih]
theorem fG{l:Um}{m:Nat}(hm:m<=l.length)(h1:∀j x,m<=j->l[j]? = some x->x=0)(h2:0<m->∃y,l[m-1]? = some y/\y≠0):trim l=l.take m:=by
 rcases Qy m with h0|h0
 ·subst h0;rw[KY λz hz=>?_];rfl;obtain⟨j,hj⟩:=Zi.1 hz;exact h1 j z (by omega) hj
 ·obtain⟨y,hy,hy0⟩:=h2 h0;have:=OM (l:=l) (m:=m-1) (y:=y) (λj x hj hx=>h1 j x (by omega) hx) hy hy0;rwa[show m-1+1=m from by omega]at this
def IsInts:Us->Um->Prop
 | [],[]=>True
 |x::l,z::p=>(∃a b,x=[a,b]/\S7 a b z)/\IsInts l p
 |_,_=>False
theorem IsInts.len:∀{l:Us} {p:Um},IsInts l p->l.length=p.length
 | [],[],_=>rfl
 |x::l,z::p,h=>by simp[h.2.len]
 | [],_::_,h=>h.elim
 |_::_,[],h=>h.elim
theorem IsInts.get:∀{l:Us} {p:Um},IsInts l p->∀{i:Nat} {z:Int},p[i]? = some z->∃a b,l[i]? = some [a,b]/\S7 a b z
 | [],[],_,i,z,h=>by simp at h
 |
  x::l,y::p,h,0,z,hz=>by
  simp at hz;subst hz;obtain⟨a,b,rfl,hi⟩:=h.1;exact⟨a,b,rfl,hi⟩
 |x::l,y::p,h,i+1,z,hz=>by simpa using h.2.get (i:=i) (by simpa using hz)
 | [],_::_,h,_,_,_=>h.elim
 |_::_,[],h,_,_,_=>h.elim
theorem Ta:∀(p:Um),IsInts (p.map H9) p
 | []=>trivial
 |z::p=>⟨⟨_,_,rfl,Fa z⟩,Ta p⟩
theorem IsInts.append:∀{l l':Us} {p p':Um},IsInts l p->IsInts l' p'->IsInts (l++l') (p++p')
 | [],_,[],_,_,h=>h
 |x::l,_,z::p,_,h,h'=>⟨h.1,h.2.append h'⟩
 | [],_,_::_,_,h,_=>h.elim
 |_::_,_,[],_,h,_=>h.elim
def pl(p:Um):LV:=.row (p.map H9)
def ids(l:Um):LV:=.row (l.map λ(x:Int)=>[.int .i64 x])
theorem sY:S7 (.bool false) (.row []) 0:=⟨false,[],rfl,rfl,(λx hx=>by cases hx),rfl⟩
theorem Qlw:sg 0=.bool false:=rfl
theorem He{α β:Type}{f:α->β}{l:List α}{i:Nat}{x:α}(h:l[i]? = some x):(l.map f)[i]? = some (f x):=by rw[Ze,h];rfl
theorem Qsk{α:Type}{f:α->Ur}{sz:Nat}(l:List α)(h:∀x,(f x).length=sz):∀c∈l.map f,c.length=sz:=λc hc=>by
 obtain⟨x,_,rfl⟩:=Zw.1 hc;exact h x
theorem Qkk:mg 0=.row []:=by simp[mg,Hn,lm]
theorem Er:H9 0=[LV.bool false,LV.row []]:=by simp[H9,Qlw,Qkk]
end Orr
namespace Orr
open Go Go.Proofs Tryz
set_option maxRecDepth 10000
theorem PY{p:Um}(hs:∀z∈p,Ff z≤4294967295):sz (Hx p)≤4294967295:=by
 have key:∀(p:Um) (g:Nat),sz g≤4294967295->(∀z∈p,Ff z≤4294967295)->sz (p.foldl (λg z=>Nat.gcd g z.natAbs) g)≤4294967295:=by
  intro p
  induction p with
  |nil=>exact λg h _=>h
  |
   cons z p ih =>
   intro g h hs;refine ih _ ?_ λy hy=>hs y (.tail _ hy)
   rcases Qy g with h0|h0
   ·subst h0;show sz (Nat.gcd 0 z.natAbs)<=_;rw[Nat.gcd_zero_left];exact hs z (.head _)
   ·exact Qc (Te (Nat.gcd_le_left _ h0)) h
 exact key p 0 (by decide) hs
theorem Qbn{l:Us}{p:Um}(hi:IsInts l p)(hs:∀z∈p,Ff z≤4294967295):Uj 336 [.one (.row l)] [.agg (H9 ((Hx p:Nat):Int))]:=by
 refine Hz func336 rfl (ln 0 rfl rfl λhl=>?_);have hlp:=hi.len;refine Ud [.z 3,.r 3 (v:=lr (Gf (Hx (p.take 0)))) (by simp[Hx,Hn,lm])] rfl ?_;refine ct 2 (S:=Unit) (λ_=>[(2,.v (.one (.ow 0 0))),(3,.v (lr (Gf (Hx p))))]) (λ_=>[.blk 55 [.bool false,.nils],.gone]) (λ_=>True) rfl ?_ ?_
 ·refine Ui (S:=Nat) 1 (λL1 i=>(12,.v (.oi i))::(3,.v (lr (Gf (Hx (p.take i)))))::L1) (λ_=>[.blk 55 [.bool false,.nils]]) (λi=>p.length-i) (λi=>i<=p.length) 0 (Qg _) rfl rfl λi hip=>?_
  by_cases h:i<p.length
  ·have hlt:i<l.length:=by omega
   obtain⟨c,hc⟩:=gxE (l:=l) (i:=i) hlt;obtain⟨z,hz⟩:=gxE (l:=p) (i:=i) h;obtain⟨x,y,hc',b,r,rfl,rfl,hr,hzz⟩:=hi.get hz;rw[hc]at hc';injection hc' with hc';subst hc'
   have hsz:=hs z (Qa hz);have hg0:sz (Hx (p.take i))<=4294967295:=PY λy hy=>hs y (Ql hy)
   have ezr:z.natAbs=val r:=by rw[hzz,Tx]
   have cn:=FG hr (by rw[<-ezr];exact Qc hsz (by decide));rw[<-ezr]at cn;refine Ud [.t (by simp;omega),.x hc,.k cn] rfl ?_;refine Ui (S:=Nat×Nat) 2 (λL1 s=>(3,.v (lr (Gf s.1)))::(6,.v (lr (Gf s.2)))::L1) (λ_=>[.blk 55 [.bool false,.nils],.blk 55 [.bool b,.row (lm r)]]) (λs=>s.2) (λs=>Nat.gcd s.1 s.2=Nat.gcd (Hx (p.take i)) z.natAbs/\sz s.1<=4294967295/\sz s.2<=4294967295) (Hx (p.take i),z.natAbs) ⟨rfl,hg0,hsz⟩ rfl rfl λ⟨g,u⟩ ⟨j1,j2,j3⟩=>?_
   dsimp only at j1 j2 j3 ⊢;have hul:=Df (m:=u);by_cases hu:0<u
   ·have cd:=rJ (m:=g) (n:=u) (by omega) (by omega) hu;refine Ud [.t (by simp[U0];omega),.k cd] rfl ?_;exact rd (u,g % u) (Xe _ hu) ⟨(Qj4 g u).trans j1,j3,Qc (Te (J3 (Xe _ hu))) j3⟩ rfl
   ·obtain rfl:u=0:=by omega
    rw[Nat.gcd_zero_right,<-GW hz]at j1;subst j1;by_cases h1:Hx (p.take (i+1))=1
    ·have e1:Gf (Hx (p.take (i+1)))=[1]:=by rw[h1,Lu (by decide)];simp[Hn]
     refine Ud [.f (by simp[Hn,lm]),.t (by rw[e1];rfl),.x (Gz (i:=0) (x:=1) (by rw[e1];rfl)),.t rfl] rfl ?_;exact rc () trivial (by rw[h1,Qeb h1];rfl)
    ·obtain⟨g,hg⟩:=nmE (Hx (p.take (i+1)));rw[<-hg]at h1 j2 ⊢;by_cases h2:(Gf g).length=1
     ·obtain⟨v,hv⟩:∃v,Gf g=[v]:=by
       match hm:Gf g,h2 with
       | [v],_=>exact⟨v,rfl⟩
      have hv1:v≠1:=λe=>h1 (by rw[<-G5 g,hv,e];rfl)
      refine go tt [.f (by simp[Hn,lm]),.t (by simp[U0,h2]),.x (Gz (i:=0) (x:=v) (by rw[hv];rfl)),.f (by simp;omega)] rfl (by simp[Uw] <;> omega) ?_;exact rd (i+1) (by omega) h (by rw[<-hg];rfl)
     ·refine go tt [.f (by simp[Hn,lm]),.f (by simp[U0];omega),.f rfl] rfl (by simp[Uw] <;> omega) ?_;exact rd (i+1) (by omega) h (by rw[<-hg];rfl)
  ·obtain rfl:i=p.length:=by omega
   refine Ud [.f (by simp;omega)] rfl ?_;rw[Q7];exact rc () trivial rfl
 ·intro _ _;have cn:=FG (Dw (Hx p)) (by rw[G5];exact Qc (PY hs) (by decide));rw[G5]at cn;exact Uf [.k cn,.k (Mi false _)] rfl (by simp[Fb]) trivial
end Orr
namespace Orr
def Bd(s:Nat)(p:Um):Prop:=∀z∈p,Ff z≤s
theorem Nf:Ff 0=0:=rfl
theorem Qbf{s:Nat}{p:Um}(h:Bd s p){i:Nat}{z:Int}(hz:p[i]? = some z):Ff z<=s:=h z (Qa hz)
theorem Fh{s:Nat}{p:Um}(h:Bd s p)(k:Nat):Ff (p.getD k 0)<=s:=by
 rw[Qd];cases hk:p[k]? with
 |none=>rw[Kx,Nf];exact Qg _
 |some z=>exact Qbf h hk
theorem Uv{s t:Nat}{p:Um}(h:Bd s p)(ht:s<=t):Bd t p:=λz hz=>Qc (h z hz) ht
theorem QI{s:Nat}:Bd s []:=λz hz=>by cases hz
theorem Qn7{s:Nat}{n:Nat}{g:Nat->Int}(h:∀k,k<n->Ff (g k)<=s):Bd s ((List.range n).map g):=λz hz=>by
 obtain⟨k,hk,rfl⟩:=Zw.1 hz;exact h k (Km.1 hk)
theorem fH:∀(l:Um),∀z∈trim l,z∈l
 | [],z,h=>by cases h
 |
  x::l,z,h=>by
  have ih:=fH l;cases hl:trim l with
  |
   nil =>
   simp only[trim,hl]at h
   split at h
   ·cases h
   ·rw[Qo]at h;rw[h];exact Q0 ..
  |
   cons y k =>
   simp only[trim,hl]at h;rcases Qt.1 h with rfl|h
   ·exact Q0 ..
   ·exact Qp _ (ih z (by rw[hl];exact h))
theorem Ri(l:Um):(trim l).length<=l.length:=by
 induction l with
 |nil=>exact Qj _
 |
  cons x l ih =>
  cases hl:trim l with
  |nil=>simp only[trim,hl];split <;> simp
  |cons y k=>simp only[trim,hl];rw[hl]at ih;simp at ih ⊢;exact ih
theorem Si{s:Nat}{p:Um}(h:Bd s p):Bd s (trim p):=λz hz=>h z (fH p z hz)
theorem Bn:∀(l:Um) (k:Nat),(trim l).getD k 0=l.getD k 0
 | [],k=>rfl
 |
  x::l,k=>by
  have ih:=Bn l;cases hl:trim l with
  |
   nil =>
   rw[hl]at ih;simp only[trim,hl]
   split
   ·rename_i hx;cases k with
    |zero=>simp[hx]
    |succ k=>have:=ih k;simp at this ⊢;exact this
   ·cases k with
    |zero=>simp
    |succ k=>have:=ih k;simp at this ⊢;exact this
  |
   cons y m =>
   rw[hl]at ih;simp only[trim,hl];cases k with
   |zero=>simp
   |succ k=>have:=ih k;simp at this ⊢;exact this
def Mt(n:Nat)(g:Nat->Int):Um:=trim ((List.range n).map g)
theorem U7(n:Nat)(g:Nat->Int):Uz (Mt n g):=Hj _
theorem Ef(n:Nat)(g:Nat->Int):(Mt n g).length<=n:=Qc (Ri _) (by simp)
theorem Tz(n:Nat)(g:Nat->Int)(k:Nat):(Mt n g).getD k 0=if k<n then g k else 0:=by
 unfold Mt;rw[Bn,Qd,Ze]
 split
 ·rename_i h;rw[List.getElem?_range h];rfl
 ·rename_i h;rw[List.getElem?_eq_none (by simpa using h)];rfl
theorem Oc{s n:Nat}{g:Nat->Int}(h:∀k,k<n->Ff (g k)<=s):Bd s (Mt n g):=Si (Qn7 h)
def S6(p q:Um):Um:=Mt (max p.length q.length) λk=>p.getD k 0+q.getD k 0
def Su(p q:Um):Um:=Mt (max p.length q.length) λk=>p.getD k 0-q.getD k 0
def P0(p:Um):Um:=Mt p.length λk=>-(p.getD k 0)
def Fc(p:Um)(c:Int):Um:=Mt p.length λk=>p.getD k 0*c
def Fv(p:Um):Um:=Mt (p.length-1) λk=>p.getD (k+1) 0*((k+1:Nat):Int)
theorem Od{s t:Nat}{p q:Um}(h:Bd s p)(h':Bd t q):Bd (max s t+1) (S6 p q):=Oc λk _=>Qc (JH _ _) (by have:=Fh h k;have:=Fh h' k;omega)
theorem Db{s t:Nat}{p q:Um}(h:Bd s p)(h':Bd t q):Bd (max s t+1) (Su p q):=Oc λk _=>Qc (dR _ _) (by have:=Fh h k;have:=Fh h' k;omega)
theorem Oe{s:Nat}{p:Um}(h:Bd s p):Bd s (P0 p):=Oc λk _=>by rw[Hy];exact Fh h k
theorem Fw{s t:Nat}{p:Um}{c:Int}(h:Bd s p)(hc:Ff c<=t):Bd (s+t) (Fc p c):=Oc λk _=>Qc (Ga _ _) (by have:=Fh h k;omega)
theorem El(p q:Um):(S6 p q).length<=max p.length q.length:=Ef _ _
theorem Px(p q:Um):(Su p q).length<=max p.length q.length:=Ef _ _
theorem B9(p:Um):(P0 p).length<=p.length:=Ef _ _
theorem Ft(p:Um)(c:Int):(Fc p c).length<=p.length:=Ef _ _
theorem Tq(p:Um):(Fv p).length<=p.length-1:=Ef _ _
theorem zP{k t:Nat}(h:k<2^t):Ff (k:Int)<=t:=by rw[Tg];simpa using h
theorem oY{k:Nat}(h:k<274877906944):Ff (k:Int)<=4294967295:=Qc (zP (t:=38) (Kj h (by decide))) (by omega)
theorem SB{s t:Nat}{p:Um}(h:Bd s p)(hl:p.length<=2^t):Bd (s+t) (Fv p):=Oc λk hk=>Qc (Ga _ _) (by
 have:=Fh h (k+1);have:=zP (k:=k+1) (t:=t) (by omega);omega)
def Iu(x:Int)(b:Um)(i:Nat)(o:Um):Nat->Um
 | 0=>o
 |k+1=>(Iu x b i o k).set (i+k) ((Iu x b i o k).getD (i+k) 0+x*b.getD k 0)
def Cc(a b o:Um):Nat->Um
 | 0=>o
 |i+1=>Iu (a.getD i 0) b i (Cc a b o i) b.length
def U9(a b:Um):Um:=if a.length=0\/b.length=0 then []else trim (Cc a b (List.replicate (a.length+b.length-1) 0) a.length)
theorem Iv(x:Int)(b:Um)(i:Nat)(o:Um)(k:Nat):(Iu x b i o k).length=o.length:=by
 induction k with
 |zero=>rfl
 |succ k ih=>simp[Iu,ih]
theorem Cd(a b o:Um)(i:Nat):(Cc a b o i).length=o.length:=by
 induction i with
 |zero=>rfl
 |succ i ih=>simp[Cc,Iv,ih]
theorem Qeh(l:Um)(i m:Nat)(v:Int)(h:i<l.length):(l.set i v).getD m 0=if m=i then v else l.getD m 0:=by
 rw[Qd,Ji,Qd];by_cases e:i=m
 ·subst e;simp[h]
 ·rw[if_neg e,if_neg (λh=>e h.symm)]
theorem GE(x:Int)(b:Um)(i:Nat)(o:Um)(k m:Nat)(h:i+k<=o.length):(Iu x b i o k).getD m 0=if i<=m/\m<i+k then o.getD m 0+x*b.getD (m-i) 0 else o.getD m 0:=by
 induction k with
 |zero=>simp only[Iu];rw[if_neg (by omega)]
 |
  succ k ih =>
  have ih:=ih (by omega);simp only[Iu];rw[Qeh _ _ _ _ (by rw[Iv];omega)];by_cases e:m=i+k
  ·subst e;rw[if_pos rfl,if_pos (by omega),show i+k-i=k from by omega];rw[ih,if_neg (by omega)]
  ·rw[if_neg e,ih];by_cases h1:i<=m/\m<i+k
   ·rw[if_pos h1,if_pos (by omega)]
   ·rw[if_neg h1,if_neg (by omega)]
theorem Ng{x y:Int}{s t:Nat}(hx:Ff x<=s)(hy:Ff y<=t):(x*y).natAbs<=2^(s+t):=by
 have h:=Qc (Ga x y) (show _<=s+t by omega);rw[Tg]at h;omega
theorem xX{x:Int}{b:Um}{i:Nat}{o:Um}{k M:Nat}(h:i+k<=o.length)(ho:∀m,(o.getD m 0).natAbs<=i*M)(hx:∀j,(x*b.getD j 0).natAbs<=M)(m:Nat):((Iu x b i o k).getD m 0).natAbs<=(i+1)*M:=by
 rw[GE x b i o k m h,Xa];have h1:=ho m
 split
 ·have h2:=hx (m-i);generalize i*M=q at *;omega
 ·omega
theorem xZ{a b o:Um}{i M:Nat}(h:∀j,j<i->j+b.length<=o.length)(ho:∀m,o.getD m 0=0)(hx:∀i j,(a.getD i 0*b.getD j 0).natAbs<=M)(m:Nat):((Cc a b o i).getD m 0).natAbs<=i*M:=by
 induction i generalizing m with
 |zero=>simp only[Cc];rw[ho];simp
 |
  succ i ih =>
  simp only[Cc];exact xX (by rw[Cd];exact h i (by omega)) (ih λj hj=>h j (by omega)) (hx i) m
theorem A1{z:Int}{i s t:Nat}(h:z.natAbs<=i*2^s)(hi:i<2^t):Ff z<=s+t:=by
 rw[Tg];have h1:i*2^s<2^t*2^s:=Xz hi (Zu (by decide));rw[<-Xc,J0 t s]at h1;omega
theorem Hu(n m:Nat):(List.replicate n (0:Int)).getD m 0=0:=by
 rw[Qd,J9];split <;> rfl
theorem MU{s:Nat}{p:Um}(h:∀m,Ff (p.getD m 0)<=s):Bd s p:=λz hz=>by
 obtain⟨i,hi⟩:=Zi.1 hz;have:=h i;rw[Qd,hi]at this;exact this
theorem Re(a b:Um):(U9 a b).length<=a.length+b.length-1:=by
 unfold U9
 split
 ·simp
 ·refine Qc (Ri _) ?_;rw[Cd];simp
theorem Tc{s t u:Nat}{a b:Um}(ha:Bd s a)(hb:Bd t b)(hl:a.length<2^u):Bd (s+t+u) (U9 a b):=by
 unfold U9
 split
 ·exact QI
 ·refine Si (MU λm=>?_);exact A1 (xZ (M:=2^(s+t)) (λj hj=>by simp;omega) (Hu _) (λi j=>Ng (Fh ha i) (Fh hb j)) m) hl
theorem Fx(a b:Um):Uz (U9 a b):=by
 unfold U9
 split
 ·rfl
 ·exact Hj _
def Mq(a:Um)(n d:Int):Nat->Int×Int
 | 0=>(0,1)
 |k+1=>((Mq a n d k).1*n+a.getD (a.length-1-k) 0*(Mq a n d k).2,(Mq a n d k).2*d)
def Qlb(a:Um)(n d:Int):Int:=(Mq a n d a.length).1
theorem yX{a:Um}{n d:Int}{s t k:Nat}(ha:Bd s a)(hn:Ff n<=t)(hd:Ff d<=t):Ff (Mq a n d k).1<=s+2+k*(t+1)/\Ff (Mq a n d k).2<=1+k*t:=by
 induction k with
 |zero=>exact⟨by simp[Mq,Nf],by simp[Mq];decide⟩
 |
  succ k ih =>
  obtain⟨h1,h2⟩:=ih;have h3:=Fh ha (a.length-1-k);have e1:k*(t+1)=k*t+k:=by rw[Xw,Yf]
  rw[Xa,Xa];refine⟨?_,?_⟩
  ·simp only[Mq];refine Qc (JH _ _) ?_;have h4:=Ga (Mq a n d k).1 n;have h5:=Ga (a.getD (a.length-1-k) 0) (Mq a n d k).2;generalize k*t=q at *;rw[e1]at h1 ⊢;omega
  ·simp only[Mq];have h4:=Ga (Mq a n d k).2 d;generalize k*t=q at *;omega
end Orr
namespace Orr
theorem GU{l:Um}{i:Nat}(h:i<l.length):l[i]? = some (l.getD i 0):=by
 rw[Qd,Qe h];rfl
theorem qM{x y:Int}:Dz x y=0↔x=y:=by
 unfold Dz;constructor
 ·intro h
  split at h
  ·omega
  ·split at h <;> omega
 ·rintro rfl;simp
theorem Hk{p:Um}(h:Uz p)(h0:0<p.length):p.getD (p.length-1) 0≠0:=by
 induction p with
 |nil=>simp at h0
 |
  cons x l ih =>
  unfold Uz at h;cases hl:trim l with
  |
   nil =>
   simp only[trim,hl]at h
   split at h
   ·cases h
   ·rename_i hx;injection h with h1 h2;subst h2;simpa using hx
  |
   cons y k =>
   simp only[trim,hl]at h;injection h with h1 h2;rw[<-hl]at h2;have ih:=ih h2 (by rw[<-h2,hl];simp);have h3:0<l.length:=by rw[<-h2,hl];simp
   simp only[Zc,J1];obtain⟨m,hm⟩:∃m,l.length=m+1:=⟨l.length-1,by omega⟩;rw[hm]at ih ⊢;simpa using ih
end Orr
namespace Orr
theorem BL(p:Um):(List.range p.length).map (λk=>p.getD k 0)=p:=by
 apply Xu;intro i;rw[Ze];rcases Q9 i p.length with h|h
 ·rw[Jb h];simp[Qe h]
 ·rw[Qx (by simpa using h),Qx h];rfl
theorem NL{p q:Um}(hl:p.length=q.length)(h:∀j,j<p.length->p.getD j 0=q.getD j 0):p=q:=by
 rw[<-BL p,<-BL q,<-hl];exact We λj hj=>h j (Km.1 hj)
end Orr
namespace Orr
abbrev rl(q:Rat):Ur:=[sg q.num,mg q.num,sg (q.den:Int),mg (q.den:Int)]
theorem B6(n d:Int):Hx [n,d]=Int.gcd d n:=by
 unfold Hx;simp only[Xl,List.foldl_nil,Nat.gcd_zero_left];exact Wb _ _
theorem kD{n d:Int}(hd:d≠0):(0:Int)<((Hx [n,d]:Nat):Int):=by
 rw[B6];have:=Int.gcd_pos_of_ne_zero_left n hd;omega
theorem BW(n d:Int):n % ((Hx [n,d]:Nat):Int)=0:=by
 rw[B6];exact J7 (Vv ..)
theorem BU(n d:Int):d % ((Hx [n,d]:Nat):Int)=0:=by
 rw[B6];exact J7 (Wx ..)
theorem lJ{n g:Int}(h:n % g=0):-n % g=0:=by
 exact J7 (Int.dvd_neg.2 (Yu h))
theorem dH{n d:Int}{s:Nat}(hd:d≠0)(h:Ff d<=s):Ff ((Hx [n,d]:Nat):Int)<=s:=by
 rw[B6];refine Qc (Te ?_) h;have:=Ka (by omega:0<d.natAbs) (show Int.gcd d n∣d.natAbs from Kw _ _);simpa using this
theorem zA{n d:Int}(hd:0<d):n / ((Hx [n,d]:Nat):Int)=(Rat.divInt n d).num/\d / ((Hx [n,d]:Nat):Int)=((Rat.divInt n d).den:Int):=by
 rw[B6,Rat.num_divInt,Wl,if_neg (by omega),Ju hd,Yy];refine⟨rfl,?_⟩;rw[Int.natCast_ediv,Int.natAbs_of_nonneg (by omega)]
theorem Qki{n d:Int}(hd:d<0):-n / ((Hx [n,d]:Nat):Int)=(Rat.divInt n d).num/\-d / ((Hx [n,d]:Nat):Int)=((Rat.divInt n d).den:Int):=by
 rw[B6,Rat.num_divInt,Wl,if_neg (by omega),Jd hd,Vo,Yy];refine⟨rfl,?_⟩;rw[Int.natCast_ediv,Int.ofNat_natAbs_of_nonpos (by omega)]
theorem ZL(u g:Int):Ff (u / g)<=Ff u:=by
 unfold Ff;exact Te (Int.natAbs_ediv_le_natAbs u g)
theorem BP{n d:Int}{s:Nat}(h:Ff n<=s):Ff (Rat.divInt n d).num<=s:=by
 rw[Rat.num_divInt];refine Qc (ZL _ _) ?_;unfold Ff;rw[J5];refine Qc (Te ?_) h;have:d.sign.natAbs<=1:=by rcases KX d with⟨_,e⟩|⟨_,e⟩|⟨_,e⟩ <;> rw[e] <;> decide
 calc d.sign.natAbs*n.natAbs<=1*n.natAbs:=Qw _ this
  _=n.natAbs:=Ub _
theorem BS{n d:Int}{s:Nat}(h:Ff d<=s)(h1:1<=s):Ff ((Rat.divInt n d).den:Int)<=s:=by
 rw[Wl]
 split
 ·exact h1
 ·refine Qc (Te ?_) h;exact Ya _ _
def Qs(s:Nat)(q:Rat):Prop:=Ff q.num<=s/\Ff (q.den:Int)<=s
theorem Qs.mono{s t:Nat}{q:Rat}(h:Qs s q)(ht:s<=t):Qs t q:=⟨Qc h.1 ht,Qc h.2 ht⟩
theorem Qs.divInt{s:Nat}{n d:Int}(h:Ff n<=s)(h':Ff d<=s)(h1:1<=s):Qs s (Rat.divInt n d):=⟨BP h,BS h' h1⟩
theorem Nv(q:Rat):(q.den:Int)≠0:=by have:=q.den_nz;omega
theorem den_pos(q:Rat):(0:Int)<(q.den:Int):=by have:=q.den_nz;omega
def H4(n d:Int):Rat:=Rat.divInt n (if d=0 then 1 else d)
theorem eY(q:Rat):H4 q.num q.den=q:=by
 unfold H4;rw[if_neg (Nv q)];exact Zy q
def Hl(a b:Rat):Int:=Dz (a.num*(b.den:Int)) (b.num*(a.den:Int))
theorem Dc{a b:Rat}:Hl a b<0↔a<b:=by
 rw[Rat.lt_iff];unfold Hl Dz;constructor
 ·intro h;split at h
  ·assumption
  ·split at h <;> omega
 ·intro h;rw[if_pos h];decide
theorem Nn{a b:Rat}:0<Hl a b↔b<a:=by
 rw[Rat.lt_iff];unfold Hl Dz;constructor
 ·intro h;split at h
  ·omega
  ·split at h
   ·assumption
   ·omega
 ·intro h;rw[if_neg (by omega),if_pos h];decide
theorem Bh(a:Rat):Hl a a=0:=by unfold Hl Dz;simp
def Cy:Up->Up
 | []=>[]
 |
  x::l=>match Cy l with
  | []=>if x=0 then []else [x]
  |y::k=>x::y::k
theorem XN:∀{l:Up},(∀x∈l,x=0)->Cy l=[]
 | [],_=>rfl
 |
  x::l,h=>by
  have ih:=XN (l:=l) (λy hy=>h y (Qp _ hy));simp[Cy,ih,h x (Q0 ..)]
theorem DJ:∀{l:Up} {m:Nat} {y:Rat},(∀j x,m<j->l[j]? = some x->x=0)->l[m]? = some y->y≠0->Cy l=l.take (m+1)
 | [],m,y,_,h,_=>by simp at h
 |
  x::l,0,y,h1,h2,h3=>by
  have h0:Cy l=[]:=XN λz hz=>by
   obtain⟨j,hj⟩:=Zi.1 hz;exact h1 (j+1) z (by omega) (by simpa using hj)
  simp at h2;subst h2;simp[Cy,h0,h3]
 |
  x::l,m+1,y,h1,h2,h3=>by
  have ih:=DJ (l:=l) (m:=m) (y:=y) (λj z hj hz=>h1 (j+1) z (by omega) (by simpa using hz)) (by simpa using h2) h3;cases hl:l with
  |nil=>subst hl;simp at h2
  |
   cons u k =>
   subst hl;rw[Vf]at ih;simp only[Cy]at ih ⊢;rw[ih];simp
theorem HT{l:Up}{m:Nat}(hm:m<=l.length)(h1:∀j x,m<=j->l[j]? = some x->x=0)(h2:0<m->∃y,l[m-1]? = some y/\y≠0):Cy l=l.take m:=by
 rcases Qy m with h0|h0
 ·subst h0;rw[XN λz hz=>?_];rfl;obtain⟨j,hj⟩:=Zi.1 hz;exact h1 j z (by omega) hj
 ·obtain⟨y,hy,hy0⟩:=h2 h0;have:=DJ (l:=l) (m:=m-1) (y:=y) (λj x hj hx=>h1 j x (by omega) hx) hy hy0;rwa[show m-1+1=m from by omega]at this
theorem OU:∀(l:Up),∀z∈Cy l,z∈l
 | [],z,h=>h
 |
  x::l,z,h=>by
  simp only[Cy]at h;have ih:=OU l
  split at h
  ·split at h
   ·cases h
   ·simp at h;simp[h]
  ·rename_i y k e;rw[e]at ih;rcases Qt.1 h with h|h
   ·simp[h]
   ·exact Qp _ (ih z h)
theorem OW:∀(l:Up),(Cy l).length<=l.length
 | []=>Qj _
 |
  x::l=>by
  have ih:=OW l;simp only[Cy]
  split
  ·split <;> simp
  ·rename_i y k e;rw[e]at ih;simp at ih ⊢;omega
def zp(p:Um):Up:=p.map λ(z:Int)=>(z:Rat)
theorem Ns:∀(p:Um),Cy (zp p)=zp (trim p)
 | []=>rfl
 |
  x::l=>by
  have ih:=Ns l;unfold zp at ih ⊢;simp only[Z0,Cy,trim,ih];cases h:trim l with
  |
   nil =>
   simp only[Ja];by_cases hx:x=0
   ·subst hx;simp
   ·have:(x:Rat)≠0:=λe=>hx (by exact_mod_cast e)
    simp[hx,this]
  |cons y k=>simp
theorem Sf(p:Um):(zp p).length=p.length:=Q8 _
theorem Qh5{p:Um}{i:Nat}{z:Int}(h:p[i]? = some z):(zp p)[i]? = some (z:Rat):=by simp[zp,h]
theorem FQ(p:Um)(i:Nat):(zp p).getD i 0=((p.getD i 0:Int):Rat):=by
 simp only[Qd,zp,Ze];cases p[i]? <;> rfl
def Rb(s:Nat)(p:Up):Prop:=∀q∈p,Qs s q
theorem Rb.mono{s t:Nat}{p:Up}(h:Rb s p)(ht:s<=t):Rb t p:=λq hq=>(h q hq).mono ht
theorem Rb.get{s:Nat}{p:Up}(h:Rb s p){i:Nat}{q:Rat}(hq:p[i]? = some q):Qs s q:=h q (Qa hq)
theorem D6{s:Nat}{z:Int}(h:Ff z<=s)(h1:1<=s):Qs s (z:Rat):=⟨by simpa using h,Qc (show Ff ((1:Nat):Int)<=1 by decide) h1⟩
theorem QR{s:Nat}{p:Um}(h:Bd s p)(h1:1<=s):Rb s (zp p):=λq hq=>by
 obtain⟨z,hz,rfl⟩:=Zw.1 hq;exact D6 (h z hz) h1
theorem Qle{s:Nat}(h1:1<=s):Qs s 0:=D6 (z:=0) (by simp[Nf]) h1
theorem Rb.getD{s:Nat}{p:Up}(h:Rb s p)(h1:1<=s)(i:Nat):Qs s (p.getD i 0):=by
 rw[Qd];cases e:p[i]? with
 |none=>exact Qle h1
 |some q=>exact h.get e
theorem Rb.trim{s:Nat}{p:Up}(h:Rb s p):Rb s (Cy p):=λq hq=>h q (OU p q hq)
def QP(f:Nat->Rat)(n:Nat):Up:=(List.range n).map f
theorem UT(f:Nat->Rat)(n:Nat):(QP f n).length=n:=by simp[QP]
theorem OT(f:Nat->Rat)(n:Nat):QP f (n+1)=QP f n++[f n]:=by simp[QP,K9]
theorem Ql9{s n:Nat}{f:Nat->Rat}(h:∀i,i<n->Qs s (f i)):Rb s (QP f n):=λq hq=>by
 obtain⟨i,hi,rfl⟩:=Zw.1 hq;exact h i (Km.1 hi)
theorem MQ{f:Nat->Rat}{g:Nat->Int}(n:Nat)(h:∀i,i<n->f i=(g i:Rat)):QP f n=zp ((List.range n).map g):=by
 simp only[QP,zp,List.map_map];exact We λi hi=>h i (Km.1 hi)
def Qaa(p q:Up):Up:=Cy (QP (λi=>p.getD i 0+q.getD i 0) (max p.length q.length))
def Nb(p:Up)(c:Rat):Up:=Cy (QP (λi=>p.getD i 0*c) p.length)
def jW(p:Up):Up:=Nb p (-1)
def DX(p q:Up):Up:=Qaa p (jW q)
theorem eJ(p q:Um):Qaa (zp p) (zp q)=zp (S6 p q):=by
 unfold Qaa S6 Mt;rw[MQ (g:=λk=>p.getD k 0+q.getD k 0) _ λi _=>by rw[FQ,FQ,Kg],Ns,Sf,Sf]
theorem OV(p:Um)(c:Int):Nb (zp p) (c:Rat)=zp (Fc p c):=by
 unfold Nb Fc Mt;rw[MQ (g:=λk=>p.getD k 0*c) _ λi _=>by rw[FQ,X3],Ns,Sf]
theorem pW(p:Um):Fc p (-1)=P0 p:=by
 unfold Fc P0 Mt;congr 2;funext k;omega
theorem eK(p:Um):jW (zp p)=zp (P0 p):=by
 rw[<-pW,<-OV];rfl
theorem ZH{p q:Um}(hp:Uz p)(hq:Uz q)(h:∀k,p.getD k 0=q.getD k 0):p=q:=by
 have key:∀{p q:Um},Uz q->(∀k,p.getD k 0=q.getD k 0)->q.length<=p.length:=by
  intro p q hq h;rcases Q9 p.length q.length with h1|h1
  ·have h2:=Hk hq (by omega);rw[<-h,Qd,Qx (by omega)]at h2;exact(h2 rfl).elim
  ·exact h1
 exact NL (Kf (key hp λk=>(h k).symm) (key hq h)) λj _=>h j
theorem tK{n m:Nat}{f g:Nat->Int}(hn:n<=m)(h:∀k,k<n->f k=g k)(h0:∀k,n<=k->k<m->g k=0):Mt n f=Mt m g:=by
 refine ZH (U7 _ _) (U7 _ _) λk=>?_
 rw[Tz,Tz];by_cases h1:k<n
 ·rw[if_pos h1,if_pos (by omega),h k h1]
 ·rw[if_neg h1];by_cases h2:k<m
  ·rw[if_pos h2,h0 k (by omega) h2]
  ·rw[if_neg h2]
theorem eR(p q:Um):DX (zp p) (zp q)=zp (Su p q):=by
 unfold DX;rw[eK,eJ];congr 1;have hl:=B9 q;unfold S6 Su;refine tK (by omega) (λk _=>?_) λk h1 h2=>?_
 ·unfold P0;rw[Tz]
  split
  ·omega
  ·rename_i h;have:q.getD k 0=0:=by rw[Qd,Qx (by omega)];rfl
   omega
 ·have h3:p.getD k 0=0:=by rw[Qd,Qx (by omega)];rfl
  have h4:(P0 q).getD k 0=0:=by rw[Qd,Qx (by omega)];rfl
  unfold P0 at h4;rw[Tz]at h4
  split at h4
  ·omega
  ·have:q.getD k 0=0:=by rw[Qd,Qx (by omega)];rfl
   omega
def Fi(p:Um):Int:=p.getD (p.length-1) 0
def Du(a b:Um):Int:=if Fi b<0 then -(Fi a)else Fi a
def D7(a b:Um)(i:Nat):Int:=a.getD i 0*((Fi b).natAbs:Int)-(if a.length-b.length<=i then Du a b*b.getD (i-(a.length-b.length)) 0 else 0)
def Aq(a b:Um):Um:=Mt a.length (D7 a b)
inductive RRun (b:List Int):Nat->List Int->List Int->Prop
 |stop {a:List Int}:a.length<b.length->RRun b 0 a a
 |step {k:Nat} {a r:List Int}:b.length<=a.length->a.length<=1000->Bd 9000000 a->Bd 9000000 b->RRun b k (Aq a b) r->RRun b (k+1) a r
def Af(p:Um):Nat->Nat
 | 0=>0
 |i+1=>Int.gcd (Af p i:Nat) (p.getD i 0)
def cont(p:Um):Nat:=Af p p.length
theorem FS(p:Um):∀{i j:Nat},j<i->((Af p i:Nat):Int)∣p.getD j 0
 | 0,_,h=>absurd h (Xt _)
 |
  i+1,j,h=>by
  simp only[Af];rcases Q9 j i with h1|h1
  ·exact V5 (Wx ..) (FS p h1)
  ·rw[show j=i by omega];exact Vv ..
theorem vA(p:Um)(j:Nat):((cont p:Nat):Int)∣p.getD j 0:=by
 rcases Q9 j p.length with h|h
 ·exact FS p h
 ·rw[Qd,Qx h];exact Int.dvd_zero _
theorem ZY{s:Nat}{p:Um}(h:Bd s p):∀i,Ff ((Af p i:Nat):Int)<=s
 | 0=>by simp[Af,Nf]
 |
  i+1=>by
  simp only[Af];by_cases h0:p.getD i 0=0
  ·rw[h0,Int.gcd_zero_right];exact ZY h i
  ·have h1:=Vv (Af p i:Nat) (p.getD i 0);have h2:(Int.gcd (Af p i:Nat) (p.getD i 0))<=(p.getD i 0).natAbs:=Ka (by omega) (by simpa using Xn.2 h1);have h3:=Fh h i;rw[Tg]at h3 ⊢;simp only[Zr];omega
theorem iV{p:Um}{j i:Nat}(hj:j<i)(h:p.getD j 0≠0):0<Af p i:=by
 have:=FS p hj;rcases Qy (Af p i)with h0|h0
 ·rw[h0]at this;exact absurd (Int.zero_dvd.1 this) h
 ·exact h0
theorem vI{p:Um}(ht:Uz p)(h:0<p.length):0<cont p:=iV (j:=p.length-1) (by omega) (Hk ht h)
def Mz(p:Um):Int:=if Fi p<0 then -((cont p:Nat):Int)else((cont p:Nat):Int)
def Hg(p:Um):Um:=Mt p.length λi=>p.getD i 0 / Mz p
def Rr(p:Um):Um:=if Fi p<0 then P0 (Hg p)else Hg p
theorem iE(p:Um)(j:Nat):Mz p∣p.getD j 0:=by
 unfold Mz
 split
 ·exact W9.2 (vA p j)
 ·exact vA p j
theorem Qd0{p:Um}(ht:Uz p)(h:0<p.length):Mz p≠0:=by
 have:=vI ht h;unfold Mz
 split <;> omega
theorem AQ{s:Nat}{p:Um}(h:Bd s p):Ff (Mz p)<=s:=by
 unfold Mz
 split
 ·rw[Hy];exact ZY h _
 ·exact ZY h _
theorem mQ{p:Um}{c:Int}(hc:c≠0)(hd:∀j,c∣p.getD j 0):Nb (zp p) (1 / (c:Rat))=zp (Mt p.length λi=>p.getD i 0 / c):=by
 unfold Nb Mt;rw[MQ (g:=λi=>p.getD i 0 / c) _ λi _=>?_,Ns,Sf];obtain⟨k,hk⟩:=hd i;have hc':(c:Rat)≠0:=λe=>hc (by exact_mod_cast e)
 rw[FQ,hk,Xp _ hc,X3];grind
theorem MG{s:Nat}{p:Um}(h:Bd s p):Bd s (Hg p):=Oc λi _=>Qc (ZL _ _) (Fh h i)
theorem GN(p:Um):(Hg p).length<=p.length:=Ef _ _
theorem DD(p:Um):Uz (Hg p):=U7 _ _
theorem EJ{s:Nat}{p:Um}(h:Bd s p):Bd s (Rr p):=by
 unfold Rr
 split
 ·exact Oe (MG h)
 ·exact MG h
theorem O2(p:Um):(Rr p).length<=p.length:=by
 unfold Rr
 split
 ·exact Qc (B9 _) (GN p)
 ·exact GN p
inductive GRun:Nat->List Int->List Int->List Int->Prop
 |stop (a:List Int):GRun 0 a [] a
 |step {k m:Nat} {a b r g:List Int}:0<b.length->b.length<=1000->Bd 9000000 b->RRun b m a r->r.length<=1000->Bd 9000000 r->Uz r->GRun k b (Hg r) g->GRun (k+1) a b g
theorem GRun.inv{k:Nat}{a b g:Um}(h:GRun k a b g):(k=0/\b.length=0/\a=g)\/∃j m r,k=j+1/\0<b.length/\b.length<=1000/\Bd 9000000 b/\RRun b m a r/\r.length<=1000/\Bd 9000000 r/\Uz r/\GRun j b (Hg r) g:=by
 cases h with
 |stop=>exact .inl ⟨rfl,rfl,rfl⟩
 |step h1 h2 h3 h4 h5 h6 h7 h8=>exact .inr ⟨_,_,_,rfl,h1,h2,h3,h4,h5,h6,h7,h8⟩
def Tk(k:Nat)(p:Um):Um:=List.replicate k 0++p
theorem KZ(k:Nat)(p:Um):(Tk k p).length=k+p.length:=by simp[Tk]
theorem aJ{s k:Nat}{p:Um}(h:Bd s p):Bd s (Tk k p):=λz hz=>by
 rcases Qr.1 hz with h1|h1
 ·rw[Zv h1,Nf];exact Qg _
 ·exact h z h1
inductive DRun (b:List Int):Nat->List Int->List Int->List Int->List Int->Prop
 |stop {a q:List Int}:a.length<b.length->DRun b 0 a q q a
 |step {k:Nat} {a q qf r:List Int}:b.length<=a.length->a.length<=1000->Bd 9000000 a->Fi b≠0->Fi b∣Fi a->a.length-b.length<q.length ->
  DRun b k (Su a (Tk (a.length-b.length) (Fc b (Fi a / Fi b)))) (q.set (a.length-b.length) (Fi a / Fi b)) qf r->DRun b (k+1) a q qf r
theorem DRun.inv{b a q qf r:Um}{k:Nat}(h:DRun b k a q qf r):(k=0/\q=qf/\a=r/\a.length<b.length)\/∃j,k=j+1/\b.length<=a.length/\a.length<=1000/\Bd 9000000 a/\Fi b≠0/\Fi b∣Fi a/\a.length-b.length<q.length /\
 DRun b j (Su a (Tk (a.length-b.length) (Fc b (Fi a / Fi b)))) (q.set (a.length-b.length) (Fi a / Fi b)) qf r:=by
 cases h with
 |stop h=>exact .inl ⟨rfl,rfl,rfl,h⟩
 |step h1 h2 h3 h4 h5 h6 h7=>exact .inr ⟨_,rfl,h1,h2,h3,h4,h5,h6,h7⟩
def S8(l:Un):Um:=l.getD (l.length-1) []
inductive LRun:Nat->List (List Int)->List (List Int)->Prop
 |stop {l:List (List Int)}:(S8 l).length<=1->LRun 0 l l
 |step {k m:Nat} {l f:List (List Int)} {g:List Int}:1<(S8 l).length->(S8 l).length<=1000->Uz (S8 l)->Bd 9000000 (S8 l)->Bd 9000000 (Fv (S8 l))->GRun m (Hg (S8 l)) (Hg (Fv (S8 l))) g->l.length<=1000->LRun k (l++[g]) f->LRun (k+1) l f
theorem LRun.inv{k:Nat}{l f:Un}(h:LRun k l f):(k=0/\l=f/\(S8 l).length<=1)\/∃j m g,k=j+1/\1<(S8 l).length/\(S8 l).length<=1000/\Uz (S8 l)/\Bd 9000000 (S8 l)/\Bd 9000000 (Fv (S8 l))/\GRun m (Hg (S8 l)) (Hg (Fv (S8 l))) g/\l.length<=1000/\LRun j (l++[g]) f:=by
 cases h with
 |stop h=>exact .inl ⟨rfl,rfl,h⟩
 |step h1 h2 h3 h4 h5 h6 h7 h8=>exact .inr ⟨_,_,_,rfl,h1,h2,h3,h4,h5,h6,h7,h8⟩
def DOk(a b q:Um):Prop:=0<b.length/\b.length<=1000/\a.length<=1000/\Bd 9000000 b/\∃qf r n,Bd 9000000 qf/\qf.length<=1000/\DRun b n a (List.replicate (a.length+1-b.length) 0) qf r/\q=trim qf
theorem DOk.bd{a b q:Um}(h:DOk a b q):Bd 9000000 q:=by
 obtain⟨_,_,_,_,qf,r,n,h1,_,_,rfl⟩:=h;exact Si h1
theorem DOk.len{a b q:Um}(h:DOk a b q):q.length<=1000:=by
 obtain⟨_,_,_,_,qf,r,n,_,h1,_,rfl⟩:=h;exact Qc (Ri _) h1
theorem DOk.trim{a b q:Um}(h:DOk a b q):Uz q:=by
 obtain⟨_,_,_,_,qf,r,n,_,_,_,rfl⟩:=h;exact Hj _
def Qrh(a b c f:Um):Prop:=∃x y z,DOk a b x/\DOk b c y/\DOk (Hg x) (Hg y) z/\f=Hg z
structure FRun(a:List Int)(m:Nat)(f:Nat->List Int):Prop where
 run:∃n l,LRun n [Hg a] l/\l.length=m+1/\∀k,k<m->Qrh ((l++[[1]]).getD k []) ((l++[[1]]).getD (k+1) []) ((l++[[1]]).getD (k+2) []) (f k)
 small:m<=1000
def DT(f:Nat->Um)(n:Nat):Un:=(List.range n).map f
theorem fF(f:Nat->Um)(n:Nat):(DT f n).length=n:=by simp[DT]
theorem Qap(f:Nat->Um)(n:Nat):DT f (n+1)=DT f n++[f n]:=by simp[DT,K9]
theorem Qhj{f:Nat->Um}{n i:Nat}(h:i<n):(DT f n)[i]? = some (f i):=by simp[DT,Jb h]
theorem sQ{l:Un}{i:Nat}(h:i<l.length):l[i]? = some (l.getD i []):=by
 rw[Qd,Qe h];rfl
def Pi(f:Nat->Um):Nat->Um
 | 0=>[1]
 |i+1=>U9 (Pi f i) (f i)
def Qid(m:Nat)(f:Nat->Um):Prop:=∀i,i<m->Bd 9000000 (Pi f i)/\(Pi f i).length<=1000/\Bd 9000000 (f i)/\(f i).length<=1000
inductive CRun:Nat->List (List Int)->List Int->List (List Int)->Prop
 |stop {l:List (List Int)} {g:List Int}:g.length=0->CRun 0 l g l
 |step {k m:Nat} {l f:List (List Int)} {g r:List Int}:0<g.length->g.length<=1000->Bd 9000000 g->RRun g m (S8 l) r->Uz r->Bd 9000000 r->r.length<=1000->0<l.length->l.length<=1000->CRun k (l++[g]) (P0 (Rr r)) f->CRun (k+1) l g f
theorem CRun.inv{k:Nat}{l f:Un}{g:Um}(h:CRun k l g f):(k=0/\l=f/\g.length=0)\/∃j m r,k=j+1/\0<g.length/\g.length<=1000/\Bd 9000000 g/\RRun g m (S8 l) r/\Uz r/\Bd 9000000 r/\r.length<=1000/\0<l.length/\l.length<=1000/\CRun j (l++[g]) (P0 (Rr r)) f:=by
 cases h with
 |stop h=>exact .inl ⟨rfl,rfl,h⟩
 |step h1 h2 h3 h4 h5 h6 h7 h8 h9 h10=>exact .inr ⟨_,_,_,rfl,h1,h2,h3,h4,h5,h6,h7,h8,h9,h10⟩
structure ChRun(a:List Int)(sq:List Int)(c:List (List Int)):Prop where
 fac:∃m f,FRun a m f/\Qid m f/\sq=Pi f m
 chain:∃n,CRun n [sq] (Rr (Fv sq)) c
 bd:Bd 8000000 sq
 len:sq.length<=1000
 small:c.length<=1000
def Qmt(q:Rat)(c:Un):Prop:=∃sq,ChRun [-q.num,(q.den:Int)] sq c
theorem Eg(f:Nat->Int):Mt 1 f=trim [f 0]:=rfl
theorem ND(f:Nat->Int):Mt 2 f=trim [f 0,f 1]:=rfl
theorem VQ(x:Int):trim [x]=if x=0 then []else [x]:=rfl
theorem OP(x y:Int):trim [x,y]=if y=0 then trim [x]else [x,y]:=by
 simp only[trim];split <;> split <;> simp_all
theorem nV{s:Nat}{x:Int}(h:Ff x<=s):Bd s [x]:=λz hz=>by simp at hz;subst hz;exact h
theorem bd2{s:Nat}{x y:Int}(h:Ff x<=s)(h':Ff y<=s):Bd s [x,y]:=λz hz=>by
 simp only[Qt,Yx,or_false]at hz;rcases hz with rfl|rfl <;> assumption
section
variable{x d:Int}(hd:0<d)(hg:Int.gcd x d=1)(hx:Ff x<=2000000)(hs:Ff d<=2000000)
theorem b1{s:Nat}(h:1<=s):Bd s [1]:=nV (Qc (show Ff 1<=1 by decide) h)
include hd in
theorem WO(hg:Int.gcd x d=1):Hg [x,d]=[x,d]:=by
 have hc:Mz [x,d]=1:=by
  have h1:cont [x,d]=1:=by
   show Int.gcd (Int.gcd ((0:Nat):Int) x:Nat) d=1;rw[show Int.gcd ((0:Nat):Int) x=x.natAbs by simp,show Int.gcd ((x.natAbs:Nat):Int) d=Int.gcd x d by simp[Int.gcd],hg]
  unfold Mz;rw[if_neg (show ¬Fi [x,d]<0 from by show ¬d<0;omega),h1];rfl
 unfold Hg;rw[hc];show Mt 2 _=_;rw[ND,OP];show(if d / 1=0 then _ else [x / 1,d / 1])=_;rw[Vx,if_neg (by omega),Vx]
theorem uU:Hg [1]=[1]:=by decide
include hd in
theorem CN:Hg [d]=[1]:=by
 have hc:Mz [d]=d:=by
  have h1:((cont [d]:Nat):Int)=d:=by
   show((Int.gcd ((0:Nat):Int) d:Nat):Int)=d;simp;omega
  unfold Mz;rw[if_neg (show ¬Fi [d]<0 from by show ¬d<0;omega),h1]
 unfold Hg;rw[hc];show Mt 1 _=_;rw[Eg,VQ];show(if d / d=0 then _ else [d / d])=_;rw[Int.ediv_self (by omega)];rfl
include hd in
theorem qB:Fv [x,d]=[d]:=by
 show Mt 1 _=_;rw[Eg,VQ];show(if d*1=0 then _ else [d*1])=_;rw[Wm,if_neg (by omega)]
include hd hx hs in
theorem uD:∃m,RRun [1] m [x,d] []:=by
 have h1:Aq [x,d] [1]=trim [x]:=by
  show Mt 2 _=_;rw[ND,OP];have e1:D7 [x,d] [1] 1=0:=by
   show d*1-(if 1<=1 then Du [x,d] [1]*1 else 0)=0;have:Du [x,d] [1]=d:=by unfold Du;rw[if_neg (by decide)];rfl
   rw[this];simp
  have e0:D7 [x,d] [1] 0=x:=by
   show x*1-(if 1<=0 then _ else 0)=x;simp
  rw[e1,if_pos rfl,e0]
 have hb:Bd 9000000 [x,d]:=bd2 (by omega) (by omega);by_cases h0:x=0
 ·refine⟨1,.step (by show 1<=2;decide) (by show 2<=1000;decide) hb (b1 (by decide)) ?_⟩;rw[h1,h0];exact .stop (by decide)
 ·refine⟨2,.step (by show 1<=2;decide) (by show 2<=1000;decide) hb (b1 (by decide)) ?_⟩;rw[h1,VQ,if_neg h0];refine .step (Qj 1) (by show 1<=1000;decide) (nV (by omega)) (b1 (by decide)) ?_;have h2:Aq [x] [1]=[]:=by
   show Mt 1 _=_;rw[Eg,VQ];have e0:D7 [x] [1] 0=0:=by
    show x*1-(if 0<=0 then Du [x] [1]*1 else 0)=0;have:Du [x] [1]=x:=by unfold Du;rw[if_neg (by decide)];rfl
    rw[this];simp
   rw[e0,if_pos rfl]
  rw[h2];exact .stop (by decide)
include hd hx hs in
theorem Qel:∃m,GRun m [x,d] [1] [1]:=by
 obtain⟨m,h⟩:=uD hd hx hs;exact⟨1,.step (by decide) (by decide) (b1 (by decide)) h (by decide) QI rfl (by rw[show Hg []=[] by decide];exact .stop _)⟩
theorem oL(c:Int):Su [c] [c]=[]:=by
 show Mt 1 _=_;rw[Eg,VQ];show(if c-c=0 then _ else _)=_;rw[if_pos (by omega)]
include hd hx hs in
theorem cV:DOk [x,d] [1] [x,d]:=by
 refine⟨by decide,by decide,by show 2<=1000;decide,b1 (by decide),[x,d],[],?_⟩;have De:Fi [x,d] / Fi [1]=d:=by show d / 1=d;rw[Vx]
 have hsc:Fc [1] d=[d]:=by
  show Mt 1 _=_;rw[Eg,VQ];show(if 1*d=0 then _ else [1*d])=_;rw[Yy,if_neg (by omega)]
 have hsub:Su [x,d] (Tk 1 [d])=trim [x]:=by
  show Mt 2 _=_;rw[ND,OP];show(if d-d=0 then trim [x-0]else _)=_;rw[if_pos (by omega),Int.sub_zero]
 have hb:Bd 9000000 [x,d]:=bd2 (by omega) (by omega);have ht:trim [x,d]=[x,d]:=by rw[OP,if_neg (by omega)]
 by_cases h0:x=0
 ·refine⟨1,hb,by show 2<=1000;decide,?_,ht.symm⟩;refine .step (by show 1<=2;decide) (by show 2<=1000;decide) hb (by decide) (by show(1:Int)∣d;exact Ua d) (by show 1<2;decide) ?_;rw[De,hsc,show [x,d].length-[(1:Int)].length=1 from rfl,hsub,VQ,if_pos h0];show DRun [1] 0 [] [0,d] [x,d] [];rw[h0];exact .stop (by decide)
 ·refine⟨2,hb,by show 2<=1000;decide,?_,ht.symm⟩;refine .step (by show 1<=2;decide) (by show 2<=1000;decide) hb (by decide) (by show(1:Int)∣d;exact Ua d) (by show 1<2;decide) ?_;rw[De,hsc,show [x,d].length-[(1:Int)].length=1 from rfl,hsub,VQ,if_neg h0];refine .step (by show 1<=1;decide) (by show 1<=1000;decide) (nV (by omega)) (by decide) (by show(1:Int)∣x;exact Ua x) (by show 0<2;decide) ?_;have hpl2:Fi [x] / Fi [1]=x:=by show x / 1=x;rw[Vx]
  have hsc2:Fc [1] x=[x]:=by
   show Mt 1 _=_;rw[Eg,VQ];show(if 1*x=0 then _ else [1*x])=_;rw[Yy,if_neg h0]
  rw[hpl2,hsc2,show [x].length-[(1:Int)].length=0 from rfl,show Tk 0 [x]=[x] from rfl,oL];exact .stop (by decide)
theorem div_one:DOk [1] [1] [1]:=by
 refine⟨by decide,by decide,by decide,b1 (by decide),[1],[],1,b1 (by decide),by decide,?_,by decide⟩;refine .step (by decide) (by decide) (b1 (by decide)) (by decide) (by decide) (by decide) ?_;exact .stop (by decide)
include hd hg hx hs in
theorem Qd4:FRun [x,d] 1 (λ_=>[x,d]):=by
 obtain⟨m,hm⟩:=Qel (x:=x) hd hx hs;refine⟨⟨1,[[x,d],[1]],?_,rfl,?_⟩,by decide⟩
 ·rw[WO hd hg];refine .step (by show 1<2;decide) (by show 2<=1000;decide) (by show trim [x,d]=[x,d];rw[OP,if_neg (by omega)]) (by show Bd 9000000 [x,d];exact bd2 (by omega) (by omega)) ?_ ?_ (by show 1<=1000;decide) (m:=m) (g:=[1]) ?_
  ·show Bd 9000000 (Fv [x,d]);rw[qB hd];exact nV (by omega)
  ·show GRun m (Hg [x,d]) (Hg (Fv [x,d])) [1];rw[WO hd hg,qB hd,CN hd];exact hm
  ·exact .stop (by show 1<=1;decide)
 ·intro k hk;have:k=0:=by omega
  subst this;exact⟨[x,d],[1],[x,d],cV hd hx hs,div_one,by rw[WO hd hg,uU];exact cV hd hx hs,(WO hd hg).symm⟩
theorem IQ{p:Um}(hp:Uz p)(h0:0<p.length):U9 [1] p=p:=by
 refine ZH (Fx _ _) hp λk=>?_
 unfold U9;rw[if_neg (by
  rintro (h|h);· cases h
  ·omega),Bn]
 show(Cc [1] p (List.replicate (1+p.length-1) 0) 1).getD k 0=_;simp only[Cc];rw[GE _ _ _ _ _ _ (by simp),Hu]
 split
 ·show 0+1*p.getD (k-0) 0=_;rw[Wc];omega
 ·rename_i h;rw[Qd,Qx (by omega)];rfl
include hd hg hx hs in
theorem iJ:ChRun [x,d] [x,d] [[x,d],[1]]:=by
 obtain⟨m,hm⟩:=uD (x:=x) hd hx hs;have ht:Uz [x,d]:=by show trim [x,d]=_;rw[OP,if_neg (by omega)]
 refine⟨⟨1,λ_=>[x,d],Qd4 hd hg hx hs,?_,?_⟩,⟨1,?_⟩,bd2 (by omega) (by omega),by show 2<=1000;decide,by show 2<=1000;decide⟩
 ·intro i hi;have:i=0:=by omega
  subst this;exact⟨b1 (by decide),by show 1<=1000;decide,bd2 (by omega) (by omega),by show 2<=1000;decide⟩
 ·show [x,d]=U9 [1] [x,d];rw[IQ ht (by show 0<2;decide)]
 ·have hz:Rr (Fv [x,d])=[1]:=by
   rw[qB hd];unfold Rr;rw[if_neg (show ¬Fi [d]<0 from by show ¬d<0;omega),CN hd]
  rw[hz];refine .step (by decide) (by decide) (b1 (by decide)) (m:=m) (r:=[]) hm rfl QI (by decide) (by show 0<1;decide) (by show 1<=1000;decide) ?_;exact .stop (by decide)
end
theorem Qnp{q:Rat}(h:Qs 2000000 q):Qmt q [[-q.num,(q.den:Int)],[1]]:=by
 refine⟨[-q.num,(q.den:Int)],iJ (den_pos q) ?_ (by rw[Hy];exact h.1) h.2⟩;rw[Int.neg_gcd];have:=q.reduced;unfold Nat.Coprime at this;simpa[Int.gcd]using this
end Orr
namespace Orq
def Fe(x:Rat):Rat:=if x<0 then -x else x
theorem Hw(x:Rat):0<=Fe x:=by unfold Fe;split <;> grind
theorem Sp{x b:Rat}:Fe x<=b↔-b<=x/\x<=b:=by unfold Fe;split <;> constructor <;> grind
theorem jZ{x b:Rat}:Fe x<b↔-b<x/\x<b:=by unfold Fe;split <;> constructor <;> grind
theorem Sv(x y:Rat):Fe (x+y)<=Fe x+Fe y:=by unfold Fe;split <;> split <;> split <;> grind
theorem eQ(x y:Rat):Fe (x-y)=Fe (y-x):=by unfold Fe;split <;> split <;> grind
theorem Ln(x:Rat):Fe (-x)=Fe x:=by unfold Fe;split <;> split <;> grind
theorem Rp:Fe 0=0:=by decide
theorem Cj{x:Rat}(h:x≠0):0<Fe x:=by unfold Fe;split <;> grind
theorem Qlc{x:Rat}(h:Fe x=0):x=0:=by unfold Fe at h;split at h <;> grind
theorem M8{x y:Rat}(h1:0<=x)(h2:0<=y):0<=x*y:=Rat.mul_nonneg h1 h2
theorem A4{x y:Rat}(h1:0<x)(h2:0<y):0<x*y:=Yz h1 h2
theorem Pp{a b c d:Rat}(h0:0<=a)(h1:a<=b)(h2:0<=c)(h3:c<=d):a*c<=b*d:=by
 have e1:=Q4 h1 h2;have e2:=Zq h3 (Zb h0 h1);exact Zb e1 e2
theorem Lm(x y:Rat):Fe (x*y)=Fe x*Fe y:=by
 unfold Fe;by_cases h1:x<0 <;> by_cases h2:y<0
 ·have:=A4 (x:=-x) (y:=-y) (by grind) (by grind);simp only[h1,h2,if_true];split <;> grind
 ·have:=M8 (x:=-x) (y:=y) (by grind) (by grind);simp only[h1,h2,if_true,if_false];split <;> grind
 ·have:=M8 (x:=x) (y:=-y) (by grind) (by grind);simp only[h1,h2,if_true,if_false];split <;> grind
 ·have:=M8 (x:=x) (y:=y) (by grind) (by grind);simp only[h1,h2,if_false];split <;> grind
theorem G8{x y a b:Rat}(h1:Fe x<=a)(h2:Fe y<=b):Fe (x*y)<=a*b:=by
 rw[Lm];exact Pp (Hw x) h1 (Hw y) h2
theorem C4{x y:Rat}(h1:0<x)(h2:0<y):0<x / y:=by rw[Yp];exact A4 h1 (Rat.inv_pos.2 h2)
theorem Gd{x y:Rat}(h2:0<y):x / y*y=x:=Zh (by grind)
theorem Hb{b d:Rat}(hb:0<=b)(hd:0<d):∃e:Rat,0<e/\e<=1/\e*b<d:=by
 have h1:0<d / (b+1):=C4 hd (by grind);have h2:d / (b+1)*(b+1)=d:=Gd (by grind);rcases V2 (a:=d / (b+1)) (b:=1)with h|h
 ·exact⟨d / (b+1),h1,h,by
   have:d / (b+1)*(b+1)=d / (b+1)*b+d / (b+1):=by grind
   grind⟩
 ·refine⟨1,by decide,by decide,?_⟩;have:1*(b+1)<=d / (b+1)*(b+1):=Q4 h (by grind);grind
def ev:Up->Rat->Rat
 | [],_=>0
 |a::p,t=>a+t*ev p t
def dv:Up->Rat->Rat
 | [],_=>0
 |_::p,t=>ev p t+t*dv p t
def dq:Up->Rat->Rat->Rat
 | [],_,_=>0
 |_::p,x,y=>ev p x+y*dq p x y
def dd:Up->Rat->Rat->Rat
 | [],_,_=>0
 |_::p,x,y=>dq p x y+y*dd p x y
theorem EO(x y:Rat):∀p,ev p x-ev p y=(x-y)*dq p x y
 | []=>by simp only[ev,dq];grind
 |a::p=>by have:=EO x y p;simp only[ev,dq];grind
theorem qL(y:Rat):∀p,dq p y y=dv p y
 | []=>rfl
 |a::p=>by simp only[dq,dv,qL y p]
theorem Qne(x y:Rat):∀p,dq p x y-dv p y=(x-y)*dd p x y
 | []=>by simp only[dv,dq,dd];grind
 |
  a::p=>by
  have h1:=Qne x y p;have h2:=EO x y p;simp only[dv,dq,dd];grind
theorem Qnh(p:Up)(x y:Rat):ev p x-ev p y=(x-y)*dv p y+(x-y)*(x-y)*dd p x y:=by
 have h1:=EO x y p;have h2:=Qne x y p;grind
def zX(R:Rat):Up->Rat
 | []=>0
 |a::p=>Fe a+R*zX R p
def NT(R:Rat):Up->Rat
 | []=>0
 |_::p=>zX R p+R*NT R p
def ddB(R:Rat):Up->Rat
 | []=>0
 |_::p=>NT R p+R*ddB R p
theorem Ox{R:Rat}(hR:0<=R):∀p,0<=zX R p
 | []=>by simp only[zX];grind
 |a::p=>by have:=M8 hR (Ox hR p);have:=Hw a;simp only[zX];grind
theorem Mk{R:Rat}(hR:0<=R):∀p,0<=NT R p
 | []=>by simp only[NT];grind
 |a::p=>by have:=M8 hR (Mk hR p);have:=Ox hR p;simp only[NT];grind
theorem NW{R:Rat}(hR:0<=R):∀p,0<=ddB R p
 | []=>by simp only[ddB];grind
 |a::p=>by have:=M8 hR (NW hR p);have:=Mk hR p;simp only[ddB];grind
theorem RP{R x:Rat}(hx:Fe x<=R):∀p,Fe (ev p x)<=zX R p
 | []=>by simp only[ev,zX,Rp];grind
 |
  a::p=>by
  have h1:=Sv a (x*ev p x);have h2:=G8 hx (RP hx p);simp only[ev,zX];grind
theorem kG{R x y:Rat}(hx:Fe x<=R)(hy:Fe y<=R):∀p,Fe (dq p x y)<=NT R p
 | []=>by simp only[dq,NT,Rp];grind
 |
  a::p=>by
  have h1:=Sv (ev p x) (y*dq p x y);have h2:=G8 hy (kG hx hy p);have h3:=RP hx p;simp only[dq,NT];grind
theorem Qdi{R x y:Rat}(hx:Fe x<=R)(hy:Fe y<=R):∀p,Fe (dd p x y)<=ddB R p
 | []=>by simp only[dd,ddB,Rp];grind
 |
  a::p=>by
  have h1:=Sv (dq p x y) (y*dd p x y);have h2:=G8 hy (Qdi hx hy p);have h3:=kG hx hy p;simp only[dd,ddB];grind
theorem Qdx{R x y:Rat}(hx:Fe x<=R)(hy:Fe y<=R)(p:Up):Fe (ev p x-ev p y)<=Fe (x-y)*NT R p:=by
 rw[EO,Lm];exact Pp (Hw _) Qk (Hw _) (kG hx hy p)
def Rf:Up->Up->Up
 | [],q=>q
 |a::p,[]=>a::p
 |a::p,b::q=>(a+b)::Rf p q
def Pv(c:Rat)(p:Up):Up:=p.map (c * ·)
def Gj:Up->Up->Up
 | [],_=>[]
 |a::p,q=>Rf (Pv a q) (0::Gj p q)
def Na:Up->Up
 | []=>[]
 |_::p=>Rf p (0::Na p)
theorem Fu(t:Rat):∀p q,ev (Rf p q) t=ev p t+ev q t
 | [],q=>by simp only[Rf,ev];grind
 |a::p,[]=>by simp only[Rf,ev];grind
 |a::p,b::q=>by have:=Fu t p q;simp only[Rf,ev];grind
theorem Fq(c t:Rat):∀p,ev (Pv c p) t=c*ev p t
 | []=>by simp only[Pv,Ja,ev];grind
 |a::p=>by have:=Fq c t p;simp only[Pv,Z0,ev]at *;grind
theorem U3(t:Rat):∀p q,ev (Gj p q) t=ev p t*ev q t
 | [],q=>by simp only[Gj,ev];grind
 |a::p,q=>by have:=U3 t p q;simp only[Gj,Fu,Fq,ev];grind
theorem Rl(t:Rat):∀p,ev (Na p) t=dv p t
 | []=>rfl
 |a::p=>by have:=Rl t p;simp only[Na,Fu,ev,dv];grind
theorem qA(t:Rat):∀p q,dv (Rf p q) t=dv p t+dv q t
 | [],q=>by simp only[Rf,dv];grind
 |a::p,[]=>by simp only[Rf,dv];grind
 |a::p,b::q=>by have:=qA t p q;have:=Fu t p q;simp only[Rf,dv];grind
theorem FD(c t:Rat):∀p,dv (Pv c p) t=c*dv p t
 | []=>by simp only[Pv,Ja,dv];grind
 |a::p=>by have:=FD c t p;have:=Fq c t p;simp only[Pv,Z0,dv]at *;grind
theorem qI(t:Rat):∀p q,dv (Gj p q) t=dv p t*ev q t+ev p t*dv q t
 | [],q=>by simp only[Gj,dv,ev];grind
 |a::p,q=>by have:=qI t p q;have:=U3 t p q;simp only[Gj,qA,FD,dv,ev];grind
theorem dQ:∀{p:Up},(∀x∈p,x=0)->∀t,ev p t=0
 | [],_,t=>rfl
 |
  a::p,h,t=>by
  have h1:=dQ (p:=p) (λx hx=>h x (Qp _ hx)) t;have h2:=h a (Q0 ..);simp only[ev,h1,h2];grind
theorem cP:∀{p:Up},(∀x∈p,x=0)->∀t,dv p t=0
 | [],_,t=>rfl
 |
  a::p,h,t=>by
  have h0:=λx hx=>h x (Qp _ hx)
  have h1:=dQ (p:=p) h0 t;have h2:=cP (p:=p) h0 t;simp only[dv,h1,h2];grind
theorem KF:∀{p:Up},(∀t,0<t->t<1->ev p t=0)->∀x∈p,x=0
 | [],_=>λx hx=>by cases hx
 |
  a::p,h=>by
  have ha:a=0:=by
   rcases Classical.em (a=0)with h0|h0
   ·exact h0
   ·obtain⟨e,e1,e2,e3⟩:=Hb (Ox (R:=1) (by decide) p) (Cj h0);obtain⟨f,f1,f2,f3⟩:=Hb (b:=1) (d:=e) (by decide) e1;have h1:=h f f1 (by grind);have h2:=RP (R:=1) (x:=f) (by unfold Fe;split <;> grind) p;have h3:=Lm f (ev p f);have h4:Fe f=f:=by unfold Fe;split <;> grind
    have h5:a=-(f*ev p f):=by simp only[ev]at h1;grind
    have h6:Fe a=f*Fe (ev p f):=by rw[h5,Ln,h3,h4]
    have h7:f*Fe (ev p f)<=e*zX 1 p:=Pp (Qm f1) (by grind) (Hw _) h2;grind
  intro x hx;rcases Qt.1 hx with rfl|hx
  ·exact ha
  ·refine KF (p:=p) (λt h1 h2=>?_) x hx;have:=h t h1 h2;simp only[ev,ha]at this;have h3:t*ev p t=0:=by grind
   rcases Jn.1 h3 with h4|h4
   ·grind
   ·exact h4
theorem Qdq{p q:Up}(h:∀t,ev p t=ev q t)(t:Rat):dv p t=dv q t:=by
 have h1:=cP (p:=Rf p (Pv (-1) q)) (KF λt _ _=>by rw[Fu,Fq,h t];grind) t;rw[qA,FD]at h1;grind
def Fj(x:Rat):Int:=if x<0 then -1 else if 0<x then 1 else 0
theorem Gm{x:Rat}:Fj x=0↔x=0:=by
 unfold Fj;constructor
 ·intro h;split at h <;> (try split at h) <;> grind
 ·intro h;subst h;rfl
theorem Rq{x:Rat}:Fj x=1↔0<x:=by
 unfold Fj;constructor
 ·intro h;split at h <;> (try split at h) <;> grind
 ·intro h;rw[if_neg (by grind),if_pos h]
theorem Pf{x:Rat}:Fj x=-1↔x<0:=by
 unfold Fj;constructor
 ·intro h;split at h <;> (try split at h) <;> grind
 ·intro h;rw[if_pos h]
theorem Gv(x:Rat):Fj x=-1/\x<0\/Fj x=0/\x=0\/Fj x=1/\0<x:=by
 rcases V2 (a:=x) (b:=0)with h|h
 ·rcases Classical.em (x=0)with h0|h0
  ·exact .inr (.inl ⟨Gm.2 h0,h0⟩)
  ·exact .inl ⟨Pf.2 (by grind),by grind⟩
 ·rcases Classical.em (x=0)with h0|h0
  ·exact .inr (.inl ⟨Gm.2 h0,h0⟩)
  ·exact .inr (.inr ⟨Rq.2 (by grind),by grind⟩)
theorem Sx(x y:Rat):Fj (x*y)=Fj x*Fj y:=by
 rcases Gv x with⟨e1,h1⟩|⟨e1,h1⟩|⟨e1,h1⟩ <;> rcases Gv y with⟨e2,h2⟩|⟨e2,h2⟩|⟨e2,h2⟩ <;> rw[e1,e2]
 ·have:=A4 (x:=-x) (y:=-y) (by grind) (by grind);exact Rq.2 (by grind)
 ·subst h2;exact Gm.2 (by grind)
 ·have:=A4 (x:=-x) (y:=y) (by grind) (by grind);exact Pf.2 (by grind)
 ·subst h1;exact Gm.2 (by grind)
 ·subst h1;exact Gm.2 (by grind)
 ·subst h1;exact Gm.2 (by grind)
 ·have:=A4 (x:=x) (y:=-y) (by grind) (by grind);exact Pf.2 (by grind)
 ·subst h2;exact Gm.2 (by grind)
 ·exact Rq.2 (A4 h1 h2)
theorem P8{a b d:Rat}(h1:d<=Fe a)(h2:Fe (b-a)<d):Fj b=Fj a/\Fj a≠0:=by
 rw[jZ]at h2;rcases Gv a with⟨e,h⟩|⟨e,h⟩|⟨e,h⟩
 ·rw[e,Pf];unfold Fe at h1;rw[if_pos h]at h1;exact⟨by grind,by decide⟩
 ·subst h;rw[Rp]at h1;grind
 ·rw[e,Rq];unfold Fe at h1;rw[if_neg (by grind)]at h1;exact⟨by grind,by decide⟩
def tc(x:Rat):Int->Uq->Nat
 |_,[]=>0
 |s,p::l=>if Fj (ev p x)=0 then tc x s l else(if s=-(Fj (ev p x))then 1 else 0)+tc x (Fj (ev p x)) l
inductive SCl:List Rat->List Rat->List (List Rat)->Prop
 |base {f g:List Rat} {c:Rat} (hc:c≠0) (hg:∀t,ev g t=c):SCl f g []
 |step {f g h:List Rat} {l:List (List Rat)} {a b:Rat} {q:List Rat} (ha:0<a) (hb:0<b) (he:∀t,a*ev f t=ev q t*ev g t-b*ev h t) (hl:SCl g h l):SCl f g (h::l)
theorem Qhm{x:Rat}{s:Int}{g h:Up}{l:Uq}(hh:Fj (ev h x)=-s)(hs:s≠0):tc x s (g::h::l)=1+tc x (-s) l:=by
 have h3:Fj (ev h x)≠0:=by omega
 have hv:s=1\/s=-1:=by rcases Gv (ev h x)with⟨e,_⟩|⟨e,_⟩|⟨e,_⟩ <;> omega
 simp only[tc,if_neg h3,hh];rcases Gv (ev g x)with⟨e,_⟩|⟨e,_⟩|⟨e,_⟩ <;> rw[e] <;> rcases hv with rfl|rfl <;> simp
theorem UP{x:Rat}{s:Int}{p:Up}{l:Uq}(h:Fj (ev p x)≠0):tc x s (p::l)=(if s=-(Fj (ev p x))then 1 else 0)+tc x (Fj (ev p x)) l:=by rw[tc,if_neg h]
theorem Mm{R x y e d:Rat}{p:Up}(hx:Fe x<=R)(hy:Fe y<=R)(hR:0<=R)(h:Fe (y-x)<=e)(hd:e*NT R p<d):Fe (ev p y-ev p x)<d:=by
 have h1:=Qdx hy hx p;have h2:=Q4 h (Mk hR p);grind
theorem AO{a x y:Rat}(ha:0<a)(h:a*x<a*y):x<y:=by
 rcases V2 (a:=y) (b:=x)with h'|h'
 ·have:=Zq h' (Qm ha);grind
 ·rcases Classical.em (x=y)with e|e
  ·subst e;grind
  ·grind
theorem Qqi{a b d d' B f g h q:Rat}(ha:0<a)(hb:0<b)(dp:0<d)(h7:B*d+a*d<b*d')(hq:Fe q<=B)(hg:Fe g<d)(hh:d'<=Fe h)(he:a*f=q*g-b*h)(hd':0<d'):Fj h=-Fj f/\d<=Fe f:=by
 have h4:=G8 hq (Qm hg);rw[Sp]at h4;have had:=A4 ha dp;have h8:=Zq hh (Qm hb);rcases Gv h with⟨s,p⟩|⟨s,p⟩|⟨s,p⟩
 ·have:Fe h=-h:=by unfold Fe;rw[if_pos p]
  rw[this]at h8;have h10:d<f:=AO ha (by grind);rw[s,Rq.2 (show 0<f by grind)];exact⟨rfl,by unfold Fe;split <;> grind⟩
 ·rw[p,Rp]at hh;grind
 ·have:Fe h=h:=by unfold Fe;rw[if_neg (by grind)]
  rw[this]at h8;have h10:f < -d:=AO ha (by grind);rw[s,Pf.2 (show f<0 by grind)];exact⟨rfl,by unfold Fe;split <;> grind⟩
theorem min2{a b:Rat}(ha:0<a)(hb:0<b):∃e:Rat,0<e/\e<=a/\e<=b:=by
 rcases V2 (a:=a) (b:=b)with h|h
 ·exact⟨a,ha,Qk,h⟩
 ·exact⟨b,hb,h,Qk⟩
theorem Fz(a b:Rat):a<=b\/b<a:=by
 rcases V2 (a:=a) (b:=b)with h|h
 ·exact .inl h
 ·rcases Classical.em (a=b)with e|e
  ·exact .inl (by grind)
  ·exact .inr (by grind)
theorem Qpq{R:Rat}(hR:0<=R){f g:Up}{l:Uq}(hc:SCl f g l):∃d e:Rat,0<d/\0<e/\∀x y,Fe x<=R->Fe y<=R->Fe (y-x)<=e ->
 (d<=Fe (ev f x)\/d<=Fe (ev g x))/\(d<=Fe (ev f x)->Fj (ev f y)=Fj (ev f x)/\Fj (ev f x)≠0)/\(d<=Fe (ev g x)->Fj (ev g y)=Fj (ev g x)/\Fj (ev g x)≠0) /\
 (Fj (ev f y)=Fj (ev f x)->Fj (ev f x)≠0->tc x (Fj (ev f x)) (g::l)=tc y (Fj (ev f x)) (g::l)) /\
 (Fj (ev g y)=Fj (ev g x)->Fj (ev g x)≠0->tc x (Fj (ev g x)) l=tc y (Fj (ev g x)) l):=by
 induction hc with
 |
  @base f g c hc hg =>
  have hd:=Cj hc;obtain⟨e,e1,e2,e3⟩:=Hb (Mk hR f) hd;refine⟨Fe c,e,hd,e1,λx y hx hy hxy=>⟨.inr (by rw[hg];exact Qk),λh=>P8 h (Mm hx hy hR hxy e3),λh=>?_,λ_ _=>?_,λ_ _=>rfl⟩⟩
  ·rw[hg,hg];exact⟨rfl,λh=>hc (Gm.1 h)⟩
  ·simp only[tc,hg]
 |
  @step f g h l a b q ha hb he hl ih =>
  obtain⟨d',e',hd',he',ih⟩:=ih;obtain⟨d1,d1p,_,d1b⟩:=Hb (b:=zX R q+a) (d:=b*d') (by have:=Ox hR q;grind) (A4 hb hd');obtain⟨d,dp,hd1,hdd⟩:=min2 d1p hd';obtain⟨ef,ef1,_,ef3⟩:=Hb (Mk hR f) dp;obtain⟨eg,eg1,_,eg3⟩:=Hb (Mk hR g) dp;obtain⟨e0,e0p,h1,h2⟩:=min2 ef1 eg1;obtain⟨e,ep,h0,h3⟩:=min2 e0p he';have h1:=Zb h0 h1;have h2:=Zb h0 h2;refine⟨d,e,dp,ep,λx y hx hy hxy=>?_⟩;obtain⟨i1,i2,i3,i4,i5⟩:=ih x y hx hy (Zb hxy h3);have hsm:Fe (ev g x)<d->d'<=Fe (ev h x)/\Fj (ev h x)=-Fj (ev f x)/\d<=Fe (ev f x):=λhg=>by
   have hh:d'<=Fe (ev h x):=by
    rcases i1 with i|i
    ·exact absurd (Zb hdd i) (Jz.2 hg)
    ·exact i
   have h6:d*(zX R q+a)<=d1*(zX R q+a):=Q4 hd1 (by have:=Ox hR q;clear ih i1 i2 i3 i4 i5 he;grind);have h7:zX R q*d+a*d<b*d':=by clear ih i1 i2 i3 i4 i5 he;grind
   exact⟨hh,Qqi ha hb dp h7 (RP hx q) hg hh (he x) hd'⟩
  have hfs:d<=Fe (ev f x)->Fj (ev f y)=Fj (ev f x)/\Fj (ev f x)≠0:=λh=>P8 h (Mm hx hy hR (Zb hxy h1) ef3)
  have hgs:d<=Fe (ev g x)->Fj (ev g y)=Fj (ev g x)/\Fj (ev g x)≠0:=λh=>P8 h (Mm hx hy hR (Zb hxy h2) eg3)
  refine⟨?_,hfs,hgs,λs1 s2=>?_,i4⟩
  ·rcases Fz d (Fe (ev g x))with h|h
   ·exact .inr h
   ·exact .inl (hsm h).2.2
  ·rcases Fz d (Fe (ev g x))with h|h
   ·obtain⟨g1,g2⟩:=hgs h;rw[UP (x:=x) (p:=g) g2,UP (x:=y) (p:=g) (by rw[g1];exact g2),g1,i4 g1 g2]
   ·obtain⟨h4,h5,_⟩:=hsm h;obtain⟨h6,h7⟩:=i3 h4;have i5:=i5 h6 h7;rw[Qhm h5 s2,Qhm (h6.trans h5) s2,<-h5,i5]
def Ph(p:Up)(x:Rat):Int:=if Fj (ev p x)≠0 then Fj (ev p x)else Fj (dv p x)
def vv(L:Uq)(x:Rat):Nat:=tc x 0 L
def YH(f:Up)(L:Uq):Prop:=(∃c:Rat,c≠0/\(∀t,ev f t=c)/\L=[f])\/∃g l,∃k:Rat,0<k/\(∀t,ev g t=k*dv f t)/\SCl f g l/\L=f::g::l
structure Sm(w:List Rat)(x y:Rat):Prop where
 s:Fj (ev w y)=Ph w x
 l:Ph w y=Ph w x
 n:Ph w x≠0
theorem Em{p:Up}{x:Rat}(h:Fj (ev p x)≠0):Ph p x=Fj (ev p x):=by unfold Ph;rw[if_pos h]
theorem sT{p:Up}{x:Rat}(h:Fj (ev p x)=0):Ph p x=Fj (dv p x):=by unfold Ph;rw[if_neg (by simpa using h)]
theorem fZ{p:Up}{x y:Rat}(h:Fj (ev p y)=Fj (ev p x))(h0:Fj (ev p x)≠0):Sm p x y:=by
 have h1:=Em h0;have h2:=Em (p:=p) (x:=y) (by rw[h];exact h0);exact⟨by rw[h,h1],by rw[h2,h1,h],by rw[h1];exact h0⟩
theorem Aw{f w u:Up}(h:∀t,ev f t=ev w t*ev u t)(x:Rat):dv f x=dv w x*ev u x+ev w x*dv u x:=by
 rw[<-qI];exact Qdq (λt=>by rw[h,U3]) x
theorem dI{f w u:Up}{x:Rat}(h:∀t,ev f t=ev w t*ev u t)(hu:Fj (ev u x)≠0):Ph f x=Ph w x*Fj (ev u x):=by
 by_cases hw:Fj (ev w x)=0
 ·have hw0:=Gm.1 hw;have e1:ev f x=0:=by rw[h,hw0];grind
  have e2:dv f x=dv w x*ev u x:=by rw[Aw h,hw0];grind
  rw[sT hw,sT (Gm.2 e1),e2,Sx]
 ·have e1:Fj (ev f x)=Fj (ev w x)*Fj (ev u x):=by rw[h,Sx]
  rw[Em hw,Em (by rw[e1];exact Xq hw hu),e1]
theorem Qqj{f w u:Up}{x y:Rat}(h:∀t,ev f t=ev w t*ev u t)(hu:Fj (ev u y)=Fj (ev u x))(h0:Fj (ev u x)≠0)(hf:Sm f x y):Sm w x y:=by
 have e1:=dI h h0;have e2:=dI (x:=y) h (by rw[hu];exact h0);have e3:Fj (ev f y)=Fj (ev w y)*Fj (ev u y):=by rw[h,Sx]
 obtain⟨s,l,n⟩:=hf;rw[hu]at e2 e3;refine⟨?_,?_,λh=>n (by rw[e1,h,Yd])⟩
 ·rw[e3,e1]at s;exact Int.eq_of_mul_eq_mul_right h0 s
 ·rw[e2,e1]at l;exact Int.eq_of_mul_eq_mul_right h0 l
theorem tc0{x:Rat}{s:Int}{f g:Up}{l:Uq}(h:Fj (ev g x)=s)(hs:s≠0):tc x 0 (f::g::l)=(if Fj (ev f x)=-s then 1 else 0)+tc x s l:=by
 have hv:s=1\/s=-1:=by rcases Gv (ev g x)with⟨e,_⟩|⟨e,_⟩|⟨e,_⟩ <;> omega
 have hg:Fj (ev g x)≠0:=by omega
 rw[tc];rcases Gv (ev f x)with⟨e,_⟩|⟨e,_⟩|⟨e,_⟩ <;> rw[e] <;> rcases hv with rfl|rfl <;> simp[UP hg,h]
theorem BO{R x y e d:Rat}{p:Up}(hx:Fe x<=R)(hy:Fe y<=R)(hR:0<=R)(hxy:x<y)(h:y-x<=e)(hd:d<=Fe (dv p x))(he:e*ddB R p<d):Fj (ev p y-ev p x)=Fj (dv p x):=by
 have h1:=Qnh p y x;have h2:ev p y-ev p x=(y-x)*(dv p x+(y-x)*dd p y x):=by rw[h1];grind
 have h3:=G8 (x:=y-x) (y:=dd p y x) (a:=e) (b:=ddB R p) (by rw[Sp];constructor <;> grind) (Qdi hy hx p);have h4:=P8 (b:=dv p x+(y-x)*dd p y x) hd (by
  have:dv p x+(y-x)*dd p y x-dv p x=(y-x)*dd p y x:=by grind
  rw[this];exact Jz.1 λh=>absurd (Zb h h3) (Jz.2 he))
 rw[h2,Sx,Rq.2 (show 0<y-x by grind),h4.1,Yy]
def Qa3(f w:Up)(L:Uq)(x y:Rat):Prop :=
 (vv L x=vv L y/\Sm f x y/\Sm w x y)\/(vv L x=vv L y+1/\Ph f x≠0/\Ph f y=-Ph f x/\Fj (ev f x)=Ph f x/\(Fj (ev f y)=0\/Fj (ev f y)=-Ph f x))
theorem Qnk{R d:Rat}(hR:0<=R)(hd:0<d){f w u:Up}(h:∀t,ev f t=ev w t*ev u t):∃e:Rat,0<e/\∀x y,Fe x<=R->Fe y<=R->Fe (y-x)<=e->d<=Fe (ev f x)->Sm f x y/\Sm w x y:=by
 obtain⟨ef,ef1,_,ef3⟩:=Hb (Mk hR f) hd;obtain⟨d1,d1p,_,d1b⟩:=Hb (Ox hR u) hd;obtain⟨ew,ew1,_,ew3⟩:=Hb (Mk hR w) d1p;obtain⟨e,ep,e1,e2⟩:=min2 ef1 ew1;refine⟨e,ep,λx y hx hy hxy hf=>⟨?_,?_⟩⟩
 ·have:=P8 hf (Mm hx hy hR (Zb hxy e1) ef3);exact fZ this.1 this.2
 ·have hw:d1<=Fe (ev w x):=by
   rcases Fz d1 (Fe (ev w x))with h'|h'
   ·exact h'
   ·have h5:=G8 (Qm h') (RP hx u);rw[<-h]at h5;exact absurd (Zb hf h5) (Jz.2 d1b)
  have:=P8 hw (Mm hx hy hR (Zb hxy e2) ew3);exact fZ this.1 this.2
theorem loc{R:Rat}(hR:0<=R){f w u:Up}{L:Uq}(hc:YH f L)(h:∀t,ev f t=ev w t*ev u t):∃e:Rat,0<e/\∀x y,Fe x<=R->Fe y<=R->x<y->y-x<=e->Qa3 f w L x y:=by
 rcases hc with⟨c,hc,hf,rfl⟩|⟨g,l,k,hk,hg,hc,rfl⟩
 ·obtain⟨e,ep,h1⟩:=Qnk hR (Cj hc) h;refine⟨e,ep,λx y hx hy hxy he=>.inl ⟨?_,h1 x y hx hy (by rw[Sp];constructor <;> grind) (by rw[hf];exact Qk)⟩⟩;simp only[vv,tc,hf]
 ·obtain⟨d,e1,dp,e1p,h1⟩:=Qpq hR hc;obtain⟨e2,e2p,h2⟩:=Qnk hR dp h;obtain⟨d3,d3p,_,d3b⟩:=Hb (b:=k) (d:=d) (Qm hk) dp;obtain⟨e3,e3p,_,e3b⟩:=Hb (NW hR f) d3p;obtain⟨d4,d4p,_,d4b⟩:=Hb (b:=NT R w+NT R u) (d:=d3) (by have:=Mk hR w;have:=Mk hR u;grind) d3p;obtain⟨e4,e4p,_,e4b⟩:=Hb (Mk hR w) d4p;obtain⟨e5,e5p,_,e5b⟩:=Hb (Mk hR u) d4p;obtain⟨a1,a1p,a11,a12⟩:=min2 e1p e2p;obtain⟨a2,a2p,a21,a22⟩:=min2 e3p e4p;obtain⟨a3,a3p,a31,a32⟩:=min2 a1p a2p;obtain⟨e,ep,b1,b2⟩:=min2 a3p e5p;refine⟨e,ep,λx y hx hy hxy he=>?_⟩;have hab:Fe (y-x)<=e:=by rw[Sp];clear h1 h2;constructor <;> grind
  have hab1:Fe (y-x)<=e1:=by clear h1 h2;grind
  have hab2:Fe (y-x)<=e2:=by clear h1 h2;grind
  obtain⟨i1,i2,i3,i4,i5⟩:=h1 x y hx hy hab1;rcases Fz d (Fe (ev f x))with hf|hf
  ·obtain⟨s1,s2⟩:=h2 x y hx hy hab2 hf;obtain⟨j1,j2⟩:=i2 hf;refine .inl ⟨?_,s1,s2⟩;have:=i4 j1 j2;simp only[vv];rw[UP (x:=x) (p:=f) j2,UP (x:=y) (p:=f) (by rw[j1];exact j2),j1,this]
  ·have hg1:d<=Fe (ev g x):=by
    rcases i1 with i|i
    ·exact absurd i (Jz.2 hf)
    ·exact i
   obtain⟨g1,g2⟩:=i3 hg1;have i5:=i5 g1 g2;have hD:d3<=Fe (dv f x):=by
    rcases Fz d3 (Fe (dv f x))with h'|h'
    ·exact h'
    ·have h5:=G8 (x:=k) (a:=k) (by unfold Fe;split <;> clear h1 h2 <;> grind) (Rat.le_of_lt h');rw[<-hg]at h5;have:k*d3=d3*k:=by grind
     exact absurd (Zb hg1 h5) (Jz.2 (by rw[this];exact d3b))
   have hm:=BO hx hy hR hxy (by clear h1 h2;grind:y-x<=e3) hD e3b;have s1:Fj (ev g x)=Fj (dv f x):=by rw[hg,Sx,Rq.2 hk,Yy]
   have s2:Fj (ev g y)=Fj (dv f y):=by rw[hg,Sx,Rq.2 hk,Yy]
   obtain⟨s,hs⟩:=nmE (Fj (ev g x));rw[<-hs]at g1 g2 i5 s1;rw[g1]at s2;have v1:=tc0 (f:=f) (l:=l) hs.symm g2;have v2:=tc0 (f:=f) (l:=l) g1 g2;rw[<-i5]at v2;rw[<-s1]at hm;have hw:Sm f x y->Sm w x y:=λhf=>by
    rcases Fz d4 (Fe (ev u x))with hu|hu
    ·have hu:=P8 hu (Mm hx hy hR (Zb hab b2) e5b);exact Qqj h hu.1 hu.2 hf
    ·have hw:d4<=Fe (ev w x):=by
      rcases Fz d4 (Fe (ev w x))with h'|h'
      ·exact h'
      ·have q1:=G8 (x:=dv w x) (y:=ev u x) (a:=NT R w) (by rw[<-qL];exact kG hx hx w) (Qm hu);have q2:=G8 (x:=ev w x) (y:=dv u x) (b:=NT R u) (Qm h') (by rw[<-qL];exact kG hx hx u);have q3:=Sv (dv w x*ev u x) (ev w x*dv u x);rw[<-Aw h]at q3;have:d4*(NT R w+NT R u)=NT R w*d4+d4*NT R u:=by grind
       rw[this]at d4b;exact absurd (Zb hD (Zb q3 (by clear h1 h2;grind:_<=NT R w*d4+d4*NT R u))) (Jz.2 d4b)
     have hw:=P8 hw (Mm hx hy hR (Zb hab (by clear h1 h2;grind)) e4b);exact fZ hw.1 hw.2
   have lx:Ph f x=if Fj (ev f x)≠0 then Fj (ev f x)else s:=by rw[s1];rfl
   have ly:Ph f y=if Fj (ev f y)≠0 then Fj (ev f y)else s:=by rw[s2];rfl
   clear h1 h2 i1 i2 i3 i4;have hsv:s=1\/s=-1:=by rcases Gv (ev g x)with⟨e,_⟩|⟨e,_⟩|⟨e,_⟩ <;> omega
   unfold Qa3;simp only[vv,v1,v2];rcases hsv with rfl|rfl
   ·have hm:=Rq.1 hm;rcases Gv (ev f x)with⟨p1,p2⟩|⟨p1,p2⟩|⟨p1,p2⟩
    ·rcases Gv (ev f y)with⟨q1,q2⟩|⟨q1,q2⟩|⟨q1,q2⟩
     ·rw[p1,q1];have hsm:=fZ (p:=f) (x:=x) (y:=y) (by rw[p1,q1]) (by rw[p1];decide);exact .inl ⟨rfl,hsm,hw hsm⟩
     ·rw[lx,ly,p1,q1];refine .inr ⟨by simp;omega,by decide,by decide,by decide,by decide⟩
     ·rw[lx,ly,p1,q1];refine .inr ⟨by simp;omega,by decide,by decide,by decide,by decide⟩
    ·have q1:=Rq.2 (show 0<ev f y by grind);have hsm:Sm f x y:=⟨by rw[lx,q1,p1];rfl,by rw[lx,ly,q1,p1];rfl,by rw[lx,p1];decide⟩;rw[p1,q1];exact .inl ⟨rfl,hsm,hw hsm⟩
    ·have q1:=Rq.2 (show 0<ev f y by grind);have hsm:Sm f x y:=⟨by rw[lx,q1,p1];rfl,by rw[lx,ly,q1,p1],by rw[lx,p1];decide⟩;rw[p1,q1];exact .inl ⟨rfl,hsm,hw hsm⟩
   ·have hm:=Pf.1 hm;rcases Gv (ev f x)with⟨p1,p2⟩|⟨p1,p2⟩|⟨p1,p2⟩
    ·have q1:=Pf.2 (show ev f y<0 by grind);have hsm:Sm f x y:=⟨by rw[lx,q1,p1];rfl,by rw[lx,ly,q1,p1],by rw[lx,p1];decide⟩;rw[p1,q1];exact .inl ⟨rfl,hsm,hw hsm⟩
    ·have q1:=Pf.2 (show ev f y<0 by grind);have hsm:Sm f x y:=⟨by rw[lx,q1,p1];rfl,by rw[lx,ly,q1,p1];rfl,by rw[lx,p1];decide⟩;rw[p1,q1];exact .inl ⟨rfl,hsm,hw hsm⟩
    ·rcases Gv (ev f y)with⟨q1,q2⟩|⟨q1,q2⟩|⟨q1,q2⟩
     ·rw[lx,ly,p1,q1];refine .inr ⟨by simp;omega,by decide,by decide,by decide,by decide⟩
     ·rw[lx,ly,p1,q1];refine .inr ⟨by simp;omega,by decide,by decide,by decide,by decide⟩
     ·rw[p1,q1];have hsm:=fZ (p:=f) (x:=x) (y:=y) (by rw[p1,q1]) (by rw[p1];decide);exact .inl ⟨rfl,hsm,hw hsm⟩
end Orq
