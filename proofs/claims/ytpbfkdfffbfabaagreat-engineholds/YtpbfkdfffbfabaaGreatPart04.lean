import Derived.Test.YtpbfkdfffbfabaaGreatPart03
import Derived.Laws.StructEq
import Derived.Test.YtpbfkdfffbfabaaGreatProg
import Derived.Test.YtpbfkdfffbfabaaGreatPart00
set_option linter.all false
namespace Orr
open Go Go.Proofs Tryz
theorem Qmi(d:Nat)(x y:Int)(w:World):(Op.equalIn (d+1) 3 (.int .i64 x) (.int .i64 y)).run prog w=.ok (decide (x=y)) w:=by
 simp[Op.equalIn,runUnderlying3];rfl
noncomputable def ti3:TI prog:=JY 3 isAgg3 sizeOf3 underlying3 zeroValue3 typeInfo3 8 rfl
noncomputable def ti4:TI prog:=JY 4 isAgg4 sizeOf4 underlying4 zeroValue4 typeInfo4 1 rfl
noncomputable def ti5:TI prog:=JY 5 isAgg5 sizeOf5 underlying5 zeroValue5 typeInfo5 1 rfl
noncomputable def ti9:TI prog:=JY 9 isAgg9 sizeOf9 underlying9 zeroValue9 typeInfo9 16 rfl
noncomputable def ti22:TI prog:=JY 22 isAgg22 sizeOf22 underlying22 zeroValue22 typeInfo22 24 rfl
noncomputable def ti23:TI prog:=JY 23 isAgg23 sizeOf23 underlying23 zeroValue23 typeInfo23 8 rfl
noncomputable def ti26:TI prog:=PW (ks:=[1,1,1]) (ag:=[false,false,false]) 26 isAgg26 sizeOf26 underlying26 zeroValue26 typeInfo26 24 rfl ⟨sizeOf23,sizeOf24,sizeOf3,trivial⟩ ⟨isAgg23,isAgg24,isAgg3,trivial⟩ rfl
noncomputable def ti29:TI prog:=JY 29 isAgg29 sizeOf29 underlying29 zeroValue29 typeInfo29 8 rfl
noncomputable def ti31:TI prog:=JY 31 isAgg31 sizeOf31 underlying31 zeroValue31 typeInfo31 24 rfl
noncomputable def ti32:TI prog:=JY 32 isAgg32 sizeOf32 underlying32 zeroValue32 typeInfo32 24 rfl
noncomputable def ti33:TI prog:=JY 33 isAgg33 sizeOf33 underlying33 zeroValue33 typeInfo33 24 rfl
noncomputable def ti35:TI prog:=PW (ks:=[1,1]) (ag:=[false,false]) 35 isAgg35 sizeOf35 underlying35 zeroValue35 typeInfo35 32 rfl ⟨sizeOf4,sizeOf33,trivial⟩ ⟨isAgg4,isAgg33,trivial⟩ rfl
noncomputable def ti37:TI prog:=PW (ks:=[1,1,2]) (ag:=[false,false,true]) 37 isAgg37 sizeOf37 underlying37 zeroValue37 typeInfo37 80 rfl ⟨sizeOf32,sizeOf32,sizeOf35,trivial⟩ ⟨isAgg32,isAgg32,isAgg35,trivial⟩ rfl
noncomputable def ti39:TI prog:=PW (ks:=[4,1]) (ag:=[true,false]) 39 isAgg39 sizeOf39 underlying39 zeroValue39 typeInfo39 88 rfl ⟨sizeOf37,sizeOf3,trivial⟩ ⟨isAgg37,isAgg3,trivial⟩ rfl
noncomputable def ti41:TI prog:=PW (ks:=[2,2]) (ag:=[true,true]) 41 isAgg41 sizeOf41 underlying41 zeroValue41 typeInfo41 64 rfl ⟨sizeOf35,sizeOf35,trivial⟩ ⟨isAgg35,isAgg35,trivial⟩ rfl
noncomputable def ti43:TI prog:=PW (ks:=[1,1,1,5,4]) (ag:=[false,false,false,true,true]) 43 isAgg43 sizeOf43 underlying43 zeroValue43 typeInfo43 176 rfl ⟨sizeOf3,sizeOf3,sizeOf3,sizeOf39,sizeOf41,trivial⟩ ⟨isAgg3,isAgg3,isAgg3,isAgg39,isAgg41,trivial⟩ rfl
noncomputable def ti45:TI prog:=JY 45 isAgg45 sizeOf45 underlying45 zeroValue45 typeInfo45 24 rfl
noncomputable def ti46:TI prog:=JY 46 isAgg46 sizeOf46 underlying46 zeroValue46 typeInfo46 24 rfl
noncomputable def ti47:TI prog:=JY 47 isAgg47 sizeOf47 underlying47 zeroValue47 typeInfo47 24 rfl
noncomputable def ti48:TI prog:=JY 48 isAgg48 sizeOf48 underlying48 zeroValue48 typeInfo48 24 rfl
noncomputable def ti50:TI prog:=PW (ks:=[1,1]) (ag:=[false,false]) 50 isAgg50 sizeOf50 underlying50 zeroValue50 typeInfo50 32 rfl ⟨sizeOf48,sizeOf4,trivial⟩ ⟨isAgg48,isAgg4,trivial⟩ rfl
noncomputable def ti52:TI prog:=PW (ks:=[2,2]) (ag:=[true,true]) 52 isAgg52 sizeOf52 underlying52 zeroValue52 typeInfo52 64 rfl ⟨sizeOf50,sizeOf50,trivial⟩ ⟨isAgg50,isAgg50,trivial⟩ rfl
noncomputable def ti54:TI prog:=PW (ks:=[1,1,4,4]) (ag:=[false,false,true,true]) 54 isAgg54 sizeOf54 underlying54 zeroValue54 typeInfo54 176 rfl ⟨sizeOf45,sizeOf46,sizeOf52,sizeOf52,trivial⟩ ⟨isAgg45,isAgg46,isAgg52,isAgg52,trivial⟩ rfl
noncomputable def ti58:TI prog:=JY 58 isAgg58 sizeOf58 underlying58 zeroValue58 typeInfo58 24 rfl
noncomputable def ti60:TI prog:=JY 60 isAgg60 sizeOf60 underlying60 zeroValue60 typeInfo60 24 rfl
set_option maxRecDepth 20000 in
theorem Qtx(d:Nat)(c x1 x2 a b g f h:Int)(w:World):(Op.equalIn (d+1+1) 62 (.agg #[.int .i64 c,.int .i64 x1,.int .i64 x2,.int .i64 a]) (.agg #[.int .i64 b,.int .i64 g,.int .i64 f,.int .i64 h])).run prog w=.ok (decide ([c,x1,x2,a]=[b,g,f,h])) w:=by
 rw[run_equalIn_array w (d+1) _ _ (n:=4) (e:=3) rfl rfl];rw[show List.range 4=[0,1,2,3] from rfl,show prog.cellsOf 3=1 from rfl];simp[Op.eqItems,Go.part,isAgg3,Qmi];by_cases h0:c=b <;> by_cases h1:x1=g <;> by_cases h2:x2=f <;> by_cases h3:a=h <;> simp[h0,h1,h2,h3]
noncomputable def ti62:TI prog:=tiA 62 isAgg62 sizeOf62 underlying62 zeroValue62 typeInfo62 32 rfl sizeOf3
set_option maxRecDepth 20000 in
theorem Qty(d:Nat)(x c x1 x2 a y b f e g:Int)(w:World):(Op.equalIn (d+1+1+1) 64 (.agg #[.int .i64 x,.int .i64 c,.int .i64 x1,.int .i64 x2,.int .i64 a]) (.agg #[.int .i64 y,.int .i64 b,.int .i64 f,.int .i64 e,.int .i64 g])).run prog w=.ok (decide ([x,c,x1,x2,a]=[y,b,f,e,g])) w:=by
 rw[run_equalIn_struct w (d+1+1) 64 _ _ rfl Tryz.stoodInHeld64];have i:(prog.fieldsOf 64).toList=[{ name := "Kind",type:=3,offset:=0,embedded:=false,tag := "",pkgPath := "",byteOffset:=0 },{ name := "Ids",type:=62,offset:=1,embedded:=false,tag := "",pkgPath := "",byteOffset:=8 }]:=by simp[Program.fieldsOf,underlying64]
 rw[i];simp[Op.eqFields,Go.part,isAgg3,isAgg62,sizeOf62,sizeOf3,Qmi,Qtx];by_cases h:x=y <;> by_cases h0:c=b <;> by_cases h1:x1=f <;> by_cases h2:x2=e <;> by_cases h3:a=g <;> simp[h,h0,h1,h2,h3]
theorem Q0b(a b:U8)(ha:a.length=5)(hb:b.length=5)(w:World):(Op.equal 64 (.agg (a.map (Value.int .i64)).toArray) (.agg (b.map (Value.int .i64)).toArray)).run prog w=.ok (decide (a=b)) w:=by
 match a,ha,b,hb with
 | [x,x0,x1,x2,x3],_,[y,y0,y1,y2,y3],_=>exact Qty 9997 x x0 x1 x2 x3 y y0 y1 y2 y3 w
noncomputable def ti64:TI prog:={ PW (ks:=[1,4]) (ag:=[false,true]) 64 isAgg64 sizeOf64 underlying64 zeroValue64 typeInfo64 40 rfl ⟨sizeOf3,sizeOf62,trivial⟩ ⟨isAgg3,isAgg62,trivial⟩ rfl with eqn:=some 5,heq:=λk h=>by injection h with h;subst h;exact⟨eqGuardType64,Q0b⟩ }
noncomputable def ti66:TI prog:=PW (ks:=[5,1,1]) (ag:=[true,false,false]) 66 isAgg66 sizeOf66 underlying66 zeroValue66 typeInfo66 72 rfl ⟨sizeOf64,sizeOf32,sizeOf3,trivial⟩ ⟨isAgg64,isAgg32,isAgg3,trivial⟩ rfl
noncomputable def ti72:TI prog:=PW (ks:=[1,4,4]) (ag:=[false,true,true]) 72 isAgg72 sizeOf72 underlying72 zeroValue72 typeInfo72 152 rfl ⟨sizeOf32,sizeOf41,sizeOf41,trivial⟩ ⟨isAgg32,isAgg41,isAgg41,trivial⟩ rfl
noncomputable def ti76:TI prog:=JY 76 isAgg76 sizeOf76 underlying76 zeroValue76 typeInfo76 24 rfl
noncomputable def ti92:TI prog:=JY 92 isAgg92 sizeOf92 underlying92 zeroValue92 typeInfo92 24 rfl
noncomputable def ti94:TI prog:=PW (ks:=[1,1,1,1,1]) (ag:=[false,false,false,false,false]) 94 isAgg94 sizeOf94 underlying94 zeroValue94 typeInfo94 120 rfl ⟨sizeOf47,sizeOf47,sizeOf47,sizeOf47,sizeOf92,trivial⟩ ⟨isAgg47,isAgg47,isAgg47,isAgg47,isAgg92,trivial⟩ rfl
noncomputable def ti104:TI prog:=JY 104 isAgg104 sizeOf104 underlying104 zeroValue104 typeInfo104 8 rfl
abbrev gY:List (Nat×Nat×String):=[(346,0,"Advance"),(113,0,"Begin"),(347,0,"Certs"),(142,0,"Clone"),(348,0,"Drop"),(349,0,"Events"),(354,0,"Go"),(104,0,"Ids"),(350,0,"Next"),(358,0,"Now"),(351,0,"Put"),(352,0,"Turn")]
theorem Quk:∀x∈gY,∀b o w,(method (prog.types.size+Made.depth) 105 (.pointer (some ⟨b,o,none⟩)) x.2.2).run prog w=.ok (x.1,.pointer (some ⟨b,o+x.2.1,none⟩)) w:=λx hx=>by
 simp only[gY,Qm,Jg,or_false]at hx;rcases hx with rfl|rfl|rfl|rfl|rfl|rfl|rfl|rfl|rfl|rfl|rfl|rfl <;> first|exact O7 (E:=200) typeInfo105 rfl underlying105|exact Aq (S:=200) (i:=0) typeInfo105 rfl underlying200 rfl underlying198 (λ_ h=>by cases h) sizeOf198 Fp
noncomputable def ti105:TI prog:={ JY 105 isAgg105 sizeOf105 underlying105 zeroValue105 typeInfo105 8 rfl with ms:=gY,hms:=Quk }
abbrev gV:List (Nat×Nat×String):=[(375,0,"Advance"),(113,0,"Begin"),(347,0,"Certs"),(143,0,"Clone"),(376,0,"Drop"),(349,0,"Events"),(354,0,"Go"),(350,0,"Next"),(358,0,"Now"),(377,0,"Put"),(378,0,"Turn"),(107,0,"Winner")]
theorem Qul:∀x∈gV,∀b o w,(method (prog.types.size+Made.depth) 106 (.pointer (some ⟨b,o,none⟩)) x.2.2).run prog w=.ok (x.1,.pointer (some ⟨b,o+x.2.1,none⟩)) w:=λx hx=>by
 simp only[gV,Qm,Jg,or_false]at hx;rcases hx with rfl|rfl|rfl|rfl|rfl|rfl|rfl|rfl|rfl|rfl|rfl|rfl <;> first|exact O7 (E:=206) typeInfo106 rfl underlying106|exact Aq (S:=206) (i:=0) typeInfo106 rfl underlying206 rfl underlying198 (λ_ h=>by cases h) sizeOf198 Fp
noncomputable def ti106:TI prog:={ JY 106 isAgg106 sizeOf106 underlying106 zeroValue106 typeInfo106 8 rfl with ms:=gV,hms:=Qul }
abbrev gK:List (Nat×Nat×String):=[(380,0,"Advance"),(113,0,"Begin"),(347,0,"Certs"),(144,0,"Clone"),(381,0,"Drop"),(349,0,"Events"),(354,0,"Go"),(105,0,"Ids"),(350,0,"Next"),(358,0,"Now"),(382,0,"Put"),(383,0,"Turn")]
theorem Qum:∀x∈gK,∀b o w,(method (prog.types.size+Made.depth) 107 (.pointer (some ⟨b,o,none⟩)) x.2.2).run prog w=.ok (x.1,.pointer (some ⟨b,o+x.2.1,none⟩)) w:=λx hx=>by
 simp only[gK,Qm,Jg,or_false]at hx;rcases hx with rfl|rfl|rfl|rfl|rfl|rfl|rfl|rfl|rfl|rfl|rfl|rfl <;> first|exact O7 (E:=208) typeInfo107 rfl underlying107|exact Aq (S:=208) (i:=0) typeInfo107 rfl underlying208 rfl underlying198 (λ_ h=>by cases h) sizeOf198 Fp
noncomputable def ti107:TI prog:={ JY 107 isAgg107 sizeOf107 underlying107 zeroValue107 typeInfo107 8 rfl with ms:=gK,hms:=Qum }
abbrev gW:List (Nat×Nat×String):=[(385,0,"Advance"),(113,0,"Begin"),(347,0,"Certs"),(145,0,"Clone"),(386,0,"Drop"),(349,0,"Events"),(354,0,"Go"),(108,0,"Ids"),(350,0,"Next"),(358,0,"Now"),(387,0,"Put"),(388,0,"Turn")]
theorem Qun:∀x∈gW,∀b o w,(method (prog.types.size+Made.depth) 108 (.pointer (some ⟨b,o,none⟩)) x.2.2).run prog w=.ok (x.1,.pointer (some ⟨b,o+x.2.1,none⟩)) w:=λx hx=>by
 simp only[gW,Qm,Jg,or_false]at hx;rcases hx with rfl|rfl|rfl|rfl|rfl|rfl|rfl|rfl|rfl|rfl|rfl|rfl <;> first|exact O7 (E:=210) typeInfo108 rfl underlying108|exact Aq (S:=210) (i:=0) typeInfo108 rfl underlying210 rfl underlying198 (λ_ h=>by cases h) sizeOf198 Fp
noncomputable def ti108:TI prog:={ JY 108 isAgg108 sizeOf108 underlying108 zeroValue108 typeInfo108 8 rfl with ms:=gW,hms:=Qun }
abbrev gU:List (Nat×Nat×String):=[(390,0,"Advance"),(113,0,"Begin"),(347,0,"Certs"),(146,0,"Clone"),(391,0,"Drop"),(349,0,"Events"),(354,0,"Go"),(350,0,"Next"),(358,0,"Now"),(392,0,"Put"),(106,0,"Triples"),(393,0,"Turn")]
theorem Quo:∀x∈gU,∀b o w,(method (prog.types.size+Made.depth) 109 (.pointer (some ⟨b,o,none⟩)) x.2.2).run prog w=.ok (x.1,.pointer (some ⟨b,o+x.2.1,none⟩)) w:=λx hx=>by
 simp only[gU,Qm,Jg,or_false]at hx;rcases hx with rfl|rfl|rfl|rfl|rfl|rfl|rfl|rfl|rfl|rfl|rfl|rfl <;> first|exact O7 (E:=212) typeInfo109 rfl underlying109|exact Aq (S:=212) (i:=0) typeInfo109 rfl underlying212 rfl underlying198 (λ_ h=>by cases h) sizeOf198 Fp
noncomputable def ti109:TI prog:={ JY 109 isAgg109 sizeOf109 underlying109 zeroValue109 typeInfo109 8 rfl with ms:=gU,hms:=Quo }
noncomputable def ti111:TI prog:=PW (ks:=[1,4,1,1,1,1,1]) (ag:=[false,true,false,false,false,false,false]) 111 isAgg111 sizeOf111 underlying111 zeroValue111 typeInfo111 112 rfl ⟨sizeOf104,sizeOf41,sizeOf105,sizeOf106,sizeOf107,sizeOf108,sizeOf109,trivial⟩ ⟨isAgg104,isAgg41,isAgg105,isAgg106,isAgg107,isAgg108,isAgg109,trivial⟩ rfl
noncomputable def ti113:TI prog:=JY 113 isAgg113 sizeOf113 underlying113 zeroValue113 typeInfo113 16 rfl
noncomputable def ti114:TI prog:=tiA 114 isAgg114 sizeOf114 underlying114 zeroValue114 typeInfo114 80 rfl sizeOf113
noncomputable def ti127:TI prog:=JY 127 isAgg127 sizeOf127 underlying127 zeroValue127 typeInfo127 4 rfl
noncomputable def ti131:TI prog:=tiA 131 isAgg131 sizeOf131 underlying131 zeroValue131 typeInfo131 40 rfl sizeOf3
noncomputable def ti146:TI prog:=JY 146 isAgg146 sizeOf146 underlying146 zeroValue146 typeInfo146 24 rfl
noncomputable def ti147:TI prog:=JY 147 isAgg147 sizeOf147 underlying147 zeroValue147 typeInfo147 24 rfl
noncomputable def ti149:TI prog:=PW (ks:=[10,1,1,1]) (ag:=[true,false,false,false]) 149 isAgg149 sizeOf149 underlying149 zeroValue149 typeInfo149 232 rfl ⟨sizeOf54,sizeOf147,sizeOf3,sizeOf60,trivial⟩ ⟨isAgg54,isAgg147,isAgg3,isAgg60,trivial⟩ rfl
noncomputable def ti150:TI prog:=tiA 150 isAgg150 sizeOf150 underlying150 zeroValue150 typeInfo150 1160 rfl sizeOf149
noncomputable def ti152:TI prog:=PW (ks:=[1,1,1,4,65]) (ag:=[false,false,false,true,true]) 152 isAgg152 sizeOf152 underlying152 zeroValue152 typeInfo152 1264 rfl ⟨sizeOf3,sizeOf3,sizeOf146,sizeOf52,sizeOf150,trivial⟩ ⟨isAgg3,isAgg3,isAgg146,isAgg52,isAgg150,trivial⟩ rfl
noncomputable def ti172:TI prog:=JY 172 isAgg172 sizeOf172 underlying172 zeroValue172 typeInfo172 24 rfl
noncomputable def ti187:TI prog:=JY 187 isAgg187 sizeOf187 underlying187 zeroValue187 typeInfo187 24 rfl
noncomputable def ti189:TI prog:=PW (ks:=[1,1,1]) (ag:=[false,false,false]) 189 isAgg189 sizeOf189 underlying189 zeroValue189 typeInfo189 40 rfl ⟨sizeOf3,sizeOf3,sizeOf187,trivial⟩ ⟨isAgg3,isAgg3,isAgg187,trivial⟩ rfl
noncomputable def ti193:TI prog:=PW (ks:=[1]) (ag:=[false]) 193 isAgg193 sizeOf193 underlying193 zeroValue193 typeInfo193 24 rfl ⟨sizeOf187,trivial⟩ ⟨isAgg187,trivial⟩ rfl
noncomputable def ti196:TI prog:=JY 196 isAgg196 sizeOf196 underlying196 zeroValue196 typeInfo196 24 rfl
noncomputable def ti198:TI prog:=PW (ks:=[1,9,1,1]) (ag:=[false,true,false,false]) 198 isAgg198 sizeOf198 underlying198 zeroValue198 typeInfo198 192 rfl ⟨sizeOf4,sizeOf72,sizeOf196,sizeOf3,trivial⟩ ⟨isAgg4,isAgg72,isAgg196,isAgg3,trivial⟩ rfl
noncomputable def ti200:TI prog:=PW (ks:=[12,1,1]) (ag:=[true,true,false]) 200 isAgg200 sizeOf200 underlying200 zeroValue200 typeInfo200 240 rfl ⟨sizeOf198,sizeOf193,sizeOf187,trivial⟩ ⟨isAgg198,isAgg193,isAgg187,trivial⟩ rfl
noncomputable def ti204:TI prog:=JY 204 isAgg204 sizeOf204 underlying204 zeroValue204 typeInfo204 24 rfl
noncomputable def ti206:TI prog:=PW (ks:=[12,1,1,1]) (ag:=[true,true,false,false]) 206 isAgg206 sizeOf206 underlying206 zeroValue206 typeInfo206 264 rfl ⟨sizeOf198,sizeOf193,sizeOf187,sizeOf204,trivial⟩ ⟨isAgg198,isAgg193,isAgg187,isAgg204,trivial⟩ rfl
noncomputable def ti208:TI prog:=PW (ks:=[12,1,1]) (ag:=[true,true,false]) 208 isAgg208 sizeOf208 underlying208 zeroValue208 typeInfo208 240 rfl ⟨sizeOf198,sizeOf193,sizeOf187,trivial⟩ ⟨isAgg198,isAgg193,isAgg187,trivial⟩ rfl
noncomputable def ti210:TI prog:=PW (ks:=[12,1,1]) (ag:=[true,true,false]) 210 isAgg210 sizeOf210 underlying210 zeroValue210 typeInfo210 240 rfl ⟨sizeOf198,sizeOf193,sizeOf187,trivial⟩ ⟨isAgg198,isAgg193,isAgg187,trivial⟩ rfl
noncomputable def ti212:TI prog:=PW (ks:=[12,1,1]) (ag:=[true,true,false]) 212 isAgg212 sizeOf212 underlying212 zeroValue212 typeInfo212 240 rfl ⟨sizeOf198,sizeOf193,sizeOf92,trivial⟩ ⟨isAgg198,isAgg193,isAgg92,trivial⟩ rfl
noncomputable def ti263:TI prog:=JY 263 isAgg263 sizeOf263 underlying263 zeroValue263 typeInfo263 8 rfl
noncomputable def ti264:TI prog:=JY 264 isAgg264 sizeOf264 underlying264 zeroValue264 typeInfo264 8 rfl
noncomputable def ti272:TI prog:=tiA 272 isAgg272 sizeOf272 underlying272 zeroValue272 typeInfo272 176 rfl sizeOf39
theorem Qgv(em:Bool)(n:Nat)(v:Int)(w:World):(Instr.checkKey em (n+1) 3 (.int .i64 v)).run prog w=.ok () w:=by
 rw[Instr.checkKey];simp[runUnderlying3]
theorem uP(em:Bool)(n:Nat)(a b c:Int)(w:World):(Instr.checkKey em (n+1+1) 281 (.agg #[.int .i64 a,.int .i64 b,.int .i64 c])).run prog w=.ok () w:=by
 rw[Instr.checkKey];simp[runUnderlying281];rw[show List.range' 0 3=[0,1,2] from rfl];simp[Go.part,isAgg3,sizeOf3,Qgv]
theorem TB(em:Bool)(ks:U8)(d:ks.length=3)(w:World):(Instr.checkKey em 10000 281 (Oz ks)).run prog w=.ok () w:=by
 match ks,d with
 | [a,b,c],_=>exact uP em 9998 a b c w
set_option maxRecDepth 20000 in
theorem Qmh(d:Nat)(b x1 x2 a f c:Int)(w:World):(Op.equalIn (d+1+1) 281 (.agg #[.int .i64 b,.int .i64 x1,.int .i64 x2]) (.agg #[.int .i64 a,.int .i64 f,.int .i64 c])).run prog w=.ok (decide ([b,x1,x2]=[a,f,c])) w:=by
 rw[run_equalIn_array w (d+1) _ _ (n:=3) (e:=3) rfl rfl];rw[show List.range 3=[0,1,2] from rfl,show prog.cellsOf 3=1 from rfl];simp[Op.eqItems,Go.part,isAgg3,Qmi];by_cases h0:b=a <;> by_cases h1:x1=f <;> by_cases h2:x2=c <;> simp[h0,h1,h2]
theorem Qde(a b:U8)(ha:a.length=3)(hb:b.length=3)(w:World):(Op.equal 281 (.agg (a.map (Value.int .i64)).toArray) (.agg (b.map (Value.int .i64)).toArray)).run prog w=.ok (decide (a=b)) w:=by
 match a,ha,b,hb with
 | [x0,x1,x2],_,[y0,y1,y2],_=>exact Qmh 9998 x0 x1 x2 y0 y1 y2 w
theorem Qn0:MapT prog 279 281 3 (.int .i64 0):=⟨runUnderlying279,⟨_,runUnderlying281,λ_ _=>rfl⟩,TB,λx y hx a w=>Qde x y hx a w,zeroValue3,rfl⟩
noncomputable def ti279:TI prog:={ JY 279 isAgg279 sizeOf279 underlying279 zeroValue279 typeInfo279 8 rfl with md:=some (.int .i64 0),hmd:=λd h=>by injection h with h;subst h;exact⟨281,3,Qn0⟩ }
noncomputable def ti281:TI prog:=tiA 281 isAgg281 sizeOf281 underlying281 zeroValue281 typeInfo281 24 rfl sizeOf3
theorem Qn1:MapT prog 282 281 4 (.bool false):=⟨runUnderlying282,⟨_,runUnderlying281,λ_ _=>rfl⟩,TB,λx y hx a w=>Qde x y hx a w,zeroValue4,rfl⟩
noncomputable def ti282:TI prog:={ JY 282 isAgg282 sizeOf282 underlying282 zeroValue282 typeInfo282 8 rfl with md:=some (.bool false),hmd:=λd h=>by injection h with h;subst h;exact⟨281,4,Qn1⟩ }
noncomputable def ti285:TI prog:=PW (ks:=[5,1,1,1,1]) (ag:=[true,false,false,false,false]) 285 isAgg285 sizeOf285 underlying285 zeroValue285 typeInfo285 104 rfl ⟨sizeOf64,sizeOf45,sizeOf3,sizeOf60,sizeOf4,trivial⟩ ⟨isAgg64,isAgg45,isAgg3,isAgg60,isAgg4,trivial⟩ rfl
noncomputable def ti301:TI prog:=JY 301 isAgg301 sizeOf301 underlying301 zeroValue301 typeInfo301 24 rfl
noncomputable def ti309:TI prog:=PW (ks:=[7,1,1,9]) (ag:=[true,false,false,true]) 309 isAgg309 sizeOf309 underlying309 zeroValue309 typeInfo309 232 rfl ⟨sizeOf66,sizeOf4,sizeOf4,sizeOf72,trivial⟩ ⟨isAgg66,isAgg4,isAgg4,isAgg72,trivial⟩ rfl
noncomputable def ti319:TI prog:=tiA 319 isAgg319 sizeOf319 underlying319 zeroValue319 typeInfo319 72 rfl sizeOf31
noncomputable def ti345:TI prog:=PW (ks:=[1,1,4]) (ag:=[false,false,true]) 345 isAgg345 sizeOf345 underlying345 zeroValue345 typeInfo345 128 rfl ⟨sizeOf45,sizeOf45,sizeOf37,trivial⟩ ⟨isAgg45,isAgg45,isAgg37,trivial⟩ rfl
noncomputable def ti347:TI prog:=PW (ks:=[6,1]) (ag:=[true,false]) 347 isAgg347 sizeOf347 underlying347 zeroValue347 typeInfo347 136 rfl ⟨sizeOf345,sizeOf3,trivial⟩ ⟨isAgg345,isAgg3,trivial⟩ rfl
noncomputable def ti349:TI prog:=JY 349 isAgg349 sizeOf349 underlying349 zeroValue349 typeInfo349 24 rfl
noncomputable def ti353:TI prog:=tiA 353 isAgg353 sizeOf353 underlying353 zeroValue353 typeInfo353 272 rfl sizeOf347
noncomputable def ti362:TI prog:=JY 362 isAgg362 sizeOf362 underlying362 zeroValue362 typeInfo362 24 rfl
noncomputable def ti366:TI prog:=PW (ks:=[1]) (ag:=[false]) 366 isAgg366 sizeOf366 underlying366 zeroValue366 typeInfo366 24 rfl ⟨sizeOf301,trivial⟩ ⟨isAgg301,trivial⟩ rfl
noncomputable def ti380:TI prog:=JY 380 isAgg380 sizeOf380 underlying380 zeroValue380 typeInfo380 24 rfl
noncomputable def ti381:TI prog:=JY 381 isAgg381 sizeOf381 underlying381 zeroValue381 typeInfo381 24 rfl
noncomputable def tt:TT prog:=(.nd (.nd (.nd (.nd (.nd (.nd (.nd .nil ti3 .nil) ti4 .nil) ti5 (.nd .nil ti9 .nil)) ti22 (.nd (.nd (.nd .nil ti23 .nil) ti26 .nil) ti29 (.nd .nil ti31 .nil))) ti32 (.nd (.nd (.nd (.nd .nil ti33 .nil) ti35 .nil) ti37 (.nd .nil ti39 .nil)) ti41 (.nd (.nd (.nd .nil ti43 .nil) ti45 .nil) ti46 (.nd .nil ti47 .nil)))) ti48 (.nd (.nd (.nd (.nd (.nd .nil ti50 .nil) ti52 .nil) ti54 (.nd .nil ti58 .nil)) ti60 (.nd (.nd (.nd .nil ti62 .nil) ti64 .nil) ti66 (.nd .nil ti72 .nil))) ti76 (.nd (.nd (.nd (.nd .nil ti92 .nil) ti94 .nil) ti104 (.nd .nil ti105 .nil)) ti106 (.nd (.nd (.nd .nil ti107 .nil) ti108 .nil) ti109 (.nd .nil ti111 .nil))))) ti113 (.nd (.nd (.nd (.nd (.nd (.nd .nil ti114 .nil) ti127 .nil) ti131 (.nd .nil ti146 .nil)) ti147 (.nd (.nd (.nd .nil ti149 .nil) ti150 .nil) ti152 (.nd .nil ti172 .nil))) ti187 (.nd (.nd (.nd (.nd .nil ti189 .nil) ti193 .nil) ti196 (.nd .nil ti198 .nil)) ti200 (.nd (.nd (.nd .nil ti204 .nil) ti206 .nil) ti208 (.nd .nil ti210 .nil)))) ti212 (.nd (.nd (.nd (.nd (.nd .nil ti263 .nil) ti264 .nil) ti272 (.nd .nil ti279 .nil)) ti281 (.nd (.nd (.nd .nil ti282 .nil) ti285 .nil) ti301 (.nd .nil ti309 .nil))) ti319 (.nd (.nd (.nd (.nd .nil ti345 .nil) ti347 .nil) ti349 (.nd .nil ti353 .nil)) ti362 (.nd (.nd .nil ti366 .nil) ti380 (.nd .nil ti381 .nil))))))
instance:Mo prog:=⟨rfl⟩
theorem Ux{n : Nat}{Q : Exit -> Sg -> List OB -> Prop}{L c : Sg}{B d : List OB}{it a : List It}{b : List Qv}{ob : List Prop}(hs : List (H Tryz.prog))(h : (match run tt n 100000 it L B hs [] []with
 |some (it, L, B, q, ob) => (match jZ ob with
  |some ob => some (it, L, B, q.map (·.1), q.map (·.2), ob)
  |none => none)
 |none => none) = some (a, c, d, b, b, ob)) (k : AK Tryz.prog n Q a c d) (e : Gi ob := by exact trivial) : AK Tryz.prog n Q it L B := go tt hs h e k
theorem Uy{n : Nat}{Q : Exit -> Sg -> List OB -> Prop}{L c : Sg}{B d : List OB}{it a : List It}{b : List Qv}{ob : List Prop}(hs : List (H Tryz.prog))(h : (match run tt n 100000 it L B hs [] []with
 |some (it, L, B, q, ob) => (match jZ ob with
  |some ob => some (it, L, B, q.map (·.1), q.map (·.2), ob)
  |none => none)
 |none => none) = some (a, c, d, b, b, ob)) (k : AK Tryz.prog n Q a c d) (e : Gi ob := by simp[Gi];omega) : AK Tryz.prog n Q it L B := go tt hs h e k
variable{n:Nat}{fn:Func}{c:Code}{res:List TV}{a:List Qv}
theorem U0{f : FuncId}{args us: List TV}{ob : List Prop}(e : Tryz.prog.funcs[f]? = some fn)(b : (fn.body, fn.ntmps, (fn.name == "runtime.NumGoroutine"), Nat.ble args.length n) = (some c, n, false, true))(hs : List (H Tryz.prog))
 (h : wE tt n c fn.results.toList args hs = some (us, a, a, ob)) (he : us = res := by exact rfl) (d : Gi ob := by exact trivial) : xR Tryz.prog f args res := w tt e b hs h he d
variable{L:Sg}{B:List OB}{it:List It}
theorem Uz{us: List TV}{ob : List Prop}(hs : List (H Tryz.prog))(h : enE tt n fn.results.toList it L B hs = some (us, a, a, ob))(he : us = res := by exact rfl)(b : Gi ob := by exact trivial): AK Tryz.prog n (RQ Tryz.prog fn n 0 λu B => u = res /\ B = []) it L B := en tt hs h he b
theorem U3{k : Nat}{Bout : List OB}{ob : List Prop}(ps is : List Nat)(hs : List (H Tryz.prog))(h : edE tt n k fn.results.toList it L B hs res Bout ps is = some (a, a, ob))(b : Gi ob := by exact trivial): AK Tryz.prog n (RQ Tryz.prog fn n k λu B => u = res /\ B = Bout) it L B := ed tt ps is hs h b
theorem U4{Q : Exit -> Sg -> List OB -> Prop}{S : Type}{r : List It}{L1 : Sg}(k : Nat)(st : Sg -> S -> Sg)(a : S -> List OB)(μ : S -> Nat)(I : S -> Prop)(s0 : S)(h0 : I s0)(f : prn (sZ c []) L = some L1){b : List Qv}(hs : two (Qbc none L B (st L1 s0) (a s0)) = some (b, b))
 (round : ∀s, I s -> AK Tryz.prog n Q (.code c :: .rnd (some k) (λL B => ∃d, μ d < μ s /\ I d /\ L = st L1 d /\ B = a d) :: r) (st L1 s) (a s)) (e : ∀s, I s -> (a s).length = k := by exact λ_ _ => rfl) : AK Tryz.prog n Q (.code (.loop c) :: r) L B := lp k st a μ I s0 h0 f e hs round
abbrev U5(f : Nat)(a r : List TV) : Prop := xR Tryz.prog f a r
variable{p:Prop}
theorem Fw(h : p := by simp[Gi];omega): p := h
theorem Fx(h : p := by simp[Gi] <;> omega): p := h
theorem Fy(h : p := by simp[Gi]): p := h
end Orr
namespace Orr
open Go Go.Proofs Tryz
set_option maxRecDepth 10000
def lm(l:Fa):Ff:=l.map λ(x:Nat)=>[.int .u32 (x:Int)]
abbrev lr(l:Fa):TV:=.one (.row (lm l))
theorem Gh(l:Fa):(lm l).length=l.length:=by simp[lm]
variable{l:Fa}
theorem Rk{i x:Nat}(h:l[i]? = some x):(lm l)[i]? = some [.int .u32 (x:Int)]:=by simp[lm,h]
def tR:Fa->Fa
 | []=>[]
 |
  x::l=>match tR l with
  | []=>if x=0 then []else [x]
  |r=>x::r
theorem Qwf:tR l=[]↔∀x∈l,x=0:=by
 induction l with
 |nil=>simp[tR]
 |
  cons x l ih =>
  simp only[tR]
  split
  .rename_i e;have h1:=ih.1 e;by_cases h:x=0
   .simp[h];exact h1
   .simp[h]
  .rename_i r a;simp only[reduceCtorEq,Qm,forall_eq_or_imp,false_iff,not_and];exact λ_ h=>a (ih.2 h)
theorem PG:∀{l:Fa} {n:Nat},n<=l.length->(∀j,n<=j->j<l.length->l[j]? = some 0)->(n=0\/∃x,l[n-1]? = some x/\x≠0)->l.take n=tR l
 | [],n,h,_,_=>by simp at h;subst h;rfl
 |
  x::l,0,h,hz,_=>by
  rw[Ke];refine(Qwf.2 λy c=>?_).symm;obtain⟨j,b⟩:=Zm.1 c;have:=hz j (Qj _) (Qh.1 b).1;rw[b]at this;injection this
 |
  x::l,n+1,h,hz,ht=>by
  simp only[Q5,Nat.add_le_add_iff_right]at h;have a:∀j,n<=j->j<l.length->l[j]? = some 0:=λj h1 h2=>by simpa using hz (j+1) Fo (by simpa using h2)
  cases n with
  |
   zero =>
   have e:tR l=[]:=(PG (n:=0) h a (.inl rfl)).symm;rcases ht with h|⟨y,h1,h2⟩
   .omega
   .simp at h1;subst h1;simp[tR,e,h2]
  |
   succ n =>
   have d:=PG (n:=n+1) h a (.inr (by rcases ht with h|⟨y,h1,h2⟩;(· omega);exact⟨y,by simpa using h1,h2⟩));simp only[Vr,tR];rw[<-d];cases hl:l with
   |nil=>rw[hl]at h;simp at h
   |cons y l'=>simp[Vr]
theorem Q4s(l:Fa):U5 216 [lr l] [lr (tR l)]:=by
 refine G7 func216 rfl (ln 0 rfl rfl λhl=>?_);rw[Gh]at hl;refine Ux [] rfl ?_;refine U4 (S:=Nat) 0 (λL1 n=>(3,.v (.oi n))::L1) (λ_=>[]) id (λn=>n<=l.length/\∀j,n<=j->j<l.length->l[j]? = some 0) (lm l).length ⟨by rw[Gh];exact Ql _,λj h1 h2=>by rw[Gh]at h1;omega⟩ rfl rfl λn ⟨h1,h2⟩=>?_
 cases n with
 |zero=>exact Uz [.f Ft,.f rfl,.i 0] rfl (by rw[<-PG h1 h2 (.inl rfl)];simp[lm]) (by simp[Gi,Ts])
 |
  succ n =>
  obtain⟨x,hx⟩:=gxE (l:=l) (i:=n) Fo;by_cases h0:x=0
  .refine go tt [.t Ft,.r 11 (v:=.oi n) Ft,.x (Rk hx),.t (by simp[h0]),.r 17 (v:=.oi n) Ft] rfl (by simp[Gi,Ts];omega) ?_;exact rd n Ft ⟨Fo,λj h3 h4=>by
    rcases Vy h3 with rfl|h3
    .rw[hx,h0]
    .exact h2 j h3 h4⟩ rfl
  .exact Uz [.t Ft,.r 11 (v:=.oi n) Ft,.x (Rk hx),.f (by simp[h0]),.i (n+1)] rfl (by rw[<-PG h1 h2 (.inr ⟨x,hx,h0⟩)];simp[lm]) (by simp[Gi,Ts,Gh] <;> omega)
def Sm(l:Fa):Prop:=∀x∈l,x<4294967296
theorem tP:∀l:Fa,Cut l (tR l).length/\l.take (tR l).length=tR l
 | []=>⟨⟨Ql _,λj _ h=>by simp at h,λh=>by simp[tR]at h⟩,rfl⟩
 |
  x::l=>by
  obtain⟨⟨h1,h2,h3⟩,h4⟩:=tP l;simp only[tR]
  split
  .rename_i e;rw[e]at h2 h3;by_cases h:x=0
   .rw[if_pos h];refine⟨⟨Qj _,λj _ a=>?_,λh=>by simp at h⟩,rfl⟩;cases j with
    |zero=>simp[h]
    |succ j=>simpa using h2 j (Qj _) (by simpa using a)
   .rw[if_neg h];refine⟨⟨Ft,λj h5 a=>?_,λ_=>⟨x,rfl,h⟩⟩,rfl⟩;cases j with
    |zero=>simp at h5
    |succ j=>simpa using h2 j (Qj _) (by simpa using a)
  .rename_i r b;refine⟨⟨by simp[h1],λj h5 a=>?_,λ_=>?_⟩,by simp[h4]⟩
   .cases j with
    |zero=>simp at h5
    |succ j=>simpa using h2 j (by simpa using h5) (by simpa using a)
   .have hp:0<(tR l).length:=by
     cases e:tR l with
     |nil=>exact absurd e b
     |cons=>simp
    obtain⟨y,h5,c⟩:=h3 hp;refine⟨y,?_,c⟩;rw[Q5,show(tR l).length+1-1=((tR l).length-1)+1 from Fo];simpa using h5
theorem wT(h:Sm l):tR l=He (val l):=by
 obtain⟨h1,h2⟩:=tP l;refine Qnr ?_ ?_
 .rw[<-h2];exact Qto h1 h
 .rw[<-h2];exact Qtp h1
theorem A4(x:Nat):Sm (He x):=(Lb x).1
theorem Sp{x k:Nat}(h:sz x<=k):32*(He x).length<=k+31:=by
 have:=Qut (Lb x);rw[Re]at this;omega
theorem FR(h:Sm l):U5 216 [lr l] [lr (He (val l))]:=wT h ▸ Q4s l
theorem Qnt(l:Fa):∀c∈lm l,c.length=1:=λc hc=>by
 obtain⟨x,_,rfl⟩:=Q8.1 hc;rfl
theorem GX(h:Sm l)(hs:sz (val l)<=4294967296):U5 175 [lr l] [lr (He (val l))] :=
 U0 func175 rfl [.k (FR h),.s (Qnt (He (val l)))] rfl rfl (by have:=Sp hs;simp[Gi,Ts,Gh];omega)
theorem MU{a:Fa}(ha:Sm a):∃p,U5 216 [lr a] [lr p]/\sH p/\val p=val a/\p.length<=a.length/\p=He (val a) :=
 ⟨_,FR ha,Lb _,Re _,by rw[<-wT ha];exact(tP a).1.1,rfl⟩
theorem Qjg{a b:Fa}(ha:Sm a)(hb:Sm b):U5 204 [lr a,lr b] [.oi (YE (val a) (val b))]:=by
 refine G7 func204 rfl (ln 0 rfl rfl λhl=>ln 1 rfl rfl λj=>?_);rw[Gh]at hl j;obtain⟨p,g,np,o,n,_⟩:=MU ha;obtain⟨q,cb,d,m,r,_⟩:=MU hb;rw[<-o,<-m];by_cases h:p.length=q.length
 .refine go tt [.k g,.k cb,.f (by simp[Gh,h])] rfl (by simp[Gi,Ts,Gh] <;> omega) ?_;refine U4 (S:=Int) 0 (λL1 i=>(5,.v (.oi i))::L1) (λ_=>[]) (λi=>(i+1).toNat) (λi=>-1<=i/\i<p.length/\p.drop (i+1).toNat=q.drop (i+1).toNat) (((lm p).length:Int)-1) ⟨Fo,by simp[Gh];omega,by simp[Gh,h]⟩ rfl rfl λi ⟨h1,h2,h3⟩=>?_
  rcases Kv i 0 with hi|hi
  .obtain rfl:i=-1:=Fo;exact Uz [.f Fp] rfl (by rw[Qcx];exact congrArg val (by simpa using h3)) trivial
  .obtain⟨k,rfl⟩:=K8 hi;have e:((k:Int)+1).toNat=k+1:=Fo;rw[e]at h3;obtain⟨x,hx⟩:=gxE (l:=p) (i:=k) Fo;obtain⟨y,c⟩:=gxE (l:=q) (i:=k) Fo;rcases V9 x y with hxy|rfl|hxy
   .exact Uz [.t Ft,.x (Rk hx),.x (Rk c),.t Fq] rfl (by rw[LP (Qfn np.1 h3 hx c hxy)]) (by simp[Gi,Ts,Gh] <;> omega)
   .refine go tt [.t Ft,.x (Rk hx),.x (Rk c),.f Ft,.x (Rk hx),.x (Rk c),.f Ft] rfl (by simp[Gi,Ts,Gh] <;> omega) ?_;exact rd ((k:Int)-1) Fo ⟨Fo,Fo,by rw[show((k:Int)-1+1).toNat=k from Fo];exact Qg6 h3 hx c⟩ rfl
   .exact Uz [.t Ft,.x (Rk hx),.x (Rk c),.f Fq,.x (Rk hx),.x (Rk c),.t Fq] rfl (by rw[LR (Qfn d.1 h3.symm c hx hxy)]) (by simp[Gi,Ts,Gh] <;> omega)
 .by_cases h2:p.length<q.length
  .exact Uz [.k g,.k cb,.t (by simp[Gh];omega),.t (by simp[Gh];omega)] rfl (by rw[LP (Ah np d h2)]) (by simp[Gi,Ts])
  .exact Uz [.k g,.k cb,.t (by simp[Gh];omega),.f (by simp[Gh];omega)] rfl (by rw[LR (Ah d np Fo)]) (by simp[Gi,Ts])
theorem HW(m:Nat):List.replicate m [LV.int .u32 0]=lm (List.replicate m 0):=by simp[lm]
theorem Lt(l:Fa)(i x:Nat):(lm l).set i [.int .u32 (x:Int)]=lm (l.set i x):=by simp[lm,Kd]
theorem Ad{a b:Int}(h:a=b):TV.one (LV.int .u64 a)=.one (.int .u64 b):=h ▸ rfl
theorem Iw{a b:Int}(h:a=b):TV.one (LV.int .u32 a)=.one (.int .u32 b):=h ▸ rfl
theorem eI{a b:Int}(h:a=b):TV.one (LV.int .i64 a)=.oi b:=h ▸ rfl
theorem wP(z:Int):IntKind.u32.wrap z=z % 4294967296:=by simp[IntKind.wrap,IntKind.bits,IntKind.signed]
theorem w64(z:Int):IntKind.u64.wrap z=z % 18446744073709551616:=by simp[IntKind.wrap,IntKind.bits,IntKind.signed]
theorem Qw4{a b:Fa}(ha:Sm a)(hb:Sm b)(h1:sz (val a)<=4294967296)(h2:sz (val b)<=4294967296):U5 261 [lr a,lr b] [lr (He (val a+val b))]:=by
 refine G7 func261 rfl ?_;obtain⟨p,D,np,C,_,ep⟩:=MU ha;obtain⟨q,cb,j,u,_,A⟩:=MU hb;have m:=Sp h1;have B:=Sp h2;rw[<-ep]at m;rw[<-A]at B;rw[<-C,<-u];refine Ux [.k D,.k cb] rfl ?_;refine ct 1 (S:=Fa×Fa) (λs=>[(0,.v (lr s.1)),(1,.v (lr s.2))]) (λ_=>[]) (λs=>sH s.1/\sH s.2/\32*s.1.length<=4294967327/\s.2.length<=s.1.length/\val s.1+val s.2=val p+val q) rfl ?_ ?_
 .by_cases h:p.length<q.length
  .exact go tt [.t (by simp[Gh];omega)] rfl trivial (rc (q,p) ⟨j,np,B,Ys h,Yb _ _⟩ rfl)
  .exact go tt [.f (by simp[Gh];omega)] rfl trivial (rc (p,q) ⟨np,j,m,Yc h,rfl⟩ rfl)
 .intro⟨d,q'⟩ ⟨np,j,hp,hq,e⟩;dsimp only at np j hp hq e;rw[<-e];clear D cb e C u ep A;refine go tt [.i ((lm d).length+1),.i ((lm d).length+1)] rfl (by simp[Gi,Ts,Gh] <;> omega) ?_;rw[HW];refine lp (S:=Nat×Fa×Nat) 1 (λL1 s=>(27,.v (.oi (s.1:Int)))::(6,.v (.one (.int .u64 (s.2.2:Int))))::L1) (λs=>[.row false 127 1 (lm s.2.1)]) (λs=>d.length-s.1)
   (λs=>s.1<=d.length/\s.2.1.length=d.length+1/\Sm s.2.1/\s.2.2<=1/\val (s.2.1.take s.1)+s.2.2*4294967296^s.1=val (d.take s.1)+val (q'.take s.1)) (0,List.replicate ((lm d).length+1) 0,0)
   ⟨Qj _,by simp[Gh],λx hx=>by rw[Z0 hx];decide,Qj _,by simp[val]⟩ rfl (λ_ _=>rfl) rfl λ⟨i,o,c⟩ ⟨j1,j2,j3,j4,j5⟩=>?_
  dsimp only at j1 j2 j3 j4 j5 ⊢;by_cases hi:i<d.length
  .obtain⟨x,hx⟩:=gxE (l:=d) (i:=i) hi;have xb:=np.1 x (Qc hx);have fin:∀y s,(q'[i]? = some y\/q'.length<=i/\y=0)->y<4294967296->s=x+c+y->d.length-(i+1)<d.length-i/\i+1<=d.length/\(o.set i (s % 4294967296)).length=d.length+1/\Sm (o.set i (s % 4294967296))/\s / 4294967296<=1 /\
    val ((o.set i (s % 4294967296)).take (i+1))+s / 4294967296*4294967296^(i+1)=val (d.take (i+1))+val (q'.take (i+1)):=λy s g E hs =>
    ⟨Fo,hi,by simp[j2],D4 j3 i _ Fo,Fo,sT Fo hx g j5 hs⟩
   by_cases n:i<q'.length
   .obtain⟨y,g⟩:=gxE (l:=q') (i:=i) n;have z:=j.1 y (Qc g);refine go tt [.t (by simp[Gh];omega),.x (Rk hx),.t (by simp[Gh];omega),.x (Rk g),.w 2,.r 50 (v:=.one (.int .u32 (((x+c+y) % 4294967296:Nat):Int))) (by simp[IntKind.wrap,IntKind.bits,IntKind.signed]),.i 32,.r 52 (v:=.one (.int .u64 (((x+c+y) / 4294967296:Nat):Int))) Ft,.i i] rfl (by simp[Gi,Ts,Gh,IntKind.bits] <;> omega) ?_;rw[Lt];exact rd (i+1,o.set i ((x+c+y) % 4294967296),(x+c+y) / 4294967296) (fin y _ (.inl g) z rfl).1 (fin y _ (.inl g) z rfl).2 rfl
   .refine go tt [.t (by simp[Gh];omega),.x (Rk hx),.f (by simp[Gh];omega),.w 0,.r 50 (v:=.one (.int .u32 (((x+c+0) % 4294967296:Nat):Int))) (by simp[IntKind.wrap,IntKind.bits,IntKind.signed]),.i 32,.r 52 (v:=.one (.int .u64 (((x+c+0) / 4294967296:Nat):Int))) Ft,.i i] rfl (by simp[Gi,Ts,Gh,IntKind.bits] <;> omega) ?_;rw[Lt];exact rd (i+1,o.set i ((x+c+0) % 4294967296),(x+c+0) / 4294967296) (fin 0 _ (.inr ⟨Fo,rfl⟩) Fp rfl).1 (fin 0 _ (.inr ⟨Fo,rfl⟩) Fp rfl).2 rfl
  .obtain rfl:i=d.length:=Fo;refine go tt [.f (by simp[Gh]),.w 0,.r 59 (v:=.one (.int .u32 (c:Int))) (by simp[IntKind.wrap,IntKind.bits,IntKind.signed];omega),.i (lm d).length] rfl (by simp[Gi,Ts,Gh,j2]) ?_;rw[Gh,Lt];have e:val (o.set d.length c)=val d+val q':=by
    have h1:=YS o d.length c Fo;rw[Qo Fq]at h1;rw[Qo (Ql _),Qo hq]at j5;rw[h1,<-j5,Zt]
   rw[<-e];exact Uz [.k (FR (D4 j3 _ c Fo))] rfl
theorem pL{x y:Nat}:YE x y<0↔x<y:=by unfold YE;split <;> (try split) <;> omega
theorem Qw9{a b:Fa}(ha:Sm a)(hb:Sm b)(h1:sz (val a)<=4294967296):U5 262 [lr a,lr b] (if val b<=val a then [lr (He (val a-val b)),.one (.bool true)]else [lr [],.one (.bool false)]):=by
 refine G7 func262 rfl ?_;obtain⟨p,B,np,E,_,ep⟩:=MU ha;obtain⟨q,cb,n,D,_,_⟩:=MU hb;have hp:=Sp h1;rw[<-ep]at hp;rw[<-E,<-D];have z:=Qjg np.1 n.1;by_cases d:val p<val q
 .rw[if_neg Fo];exact Uz [.k B,.k cb,.k z,.t (by simpa using pL.2 d)] rfl
 rw[if_pos Fo];have C:q.length<=p.length:=Yc λh=>d (Ah np n h)
 refine go tt [.k B,.k cb,.k z,.f (by have:=mt pL.1 d;simpa using this),.i (lm p).length,.i (lm p).length] rfl (by simp[Gi,Ts,Gh] <;> omega) ?_;rw[HW];refine lp (S:=Nat×Fa×Nat) 1 (λL1 s=>(24,.v (.oi (s.1:Int)))::(7,.v (.one (.int .u64 (s.2.2:Int))))::L1) (λs=>[.row false 127 1 (lm s.2.1)]) (λs=>p.length-s.1)
  (λs=>s.1<=p.length/\s.2.1.length=p.length/\Sm s.2.1/\s.2.2<=1/\val (s.2.1.take s.1)+val (q.take s.1)=val (p.take s.1)+s.2.2*4294967296^s.1) (0,List.replicate (lm p).length 0,0)
  ⟨Qj _,by simp[Gh],λx hx=>by rw[Z0 hx];decide,Qj _,by simp[val]⟩ rfl (λ_ _=>rfl) rfl λ⟨i,o,c⟩ ⟨j1,j2,j3,j4,j5⟩=>?_
 dsimp only at j1 j2 j3 j4 j5 ⊢;by_cases hi:i<p.length
 .obtain⟨x,hx⟩:=gxE (l:=p) (i:=i) hi;have xb:=np.1 x (Qc hx);have fin:∀y s,(q[i]? = some y\/q.length<=i/\y=0)->y<4294967296->s=(x+18446744073709551616-c-y) % 18446744073709551616->p.length-(i+1)<p.length-i/\i+1<=p.length/\(o.set i (s % 4294967296)).length=p.length/\Sm (o.set i (s % 4294967296))/\s / 9223372036854775808<=1 /\
   val ((o.set i (s % 4294967296)).take (i+1))+val (q.take (i+1))=val (p.take (i+1))+s / 9223372036854775808*4294967296^(i+1):=λy s g m hs=>by
   obtain⟨h1,h2⟩:=Qqg (o:=o) Fo hx g xb m j4 j5 hs;exact⟨Fo,hi,by simp[j2],D4 j3 i _ Fo,h2,h1⟩
  by_cases j:i<q.length
  .obtain⟨y,g⟩:=gxE (l:=q) (i:=i) j;have u:=n.1 y (Qc g);obtain⟨s,hs⟩:=nmE ((x+18446744073709551616-c-y) % 18446744073709551616);refine go tt [.t (by simp[Gh];omega),.x (Rk hx),.w 1,.r 32 (Ad (b:=(((x+18446744073709551616-c) % 18446744073709551616:Nat):Int)) (by rw[w64];omega)),.t (by simp[Gh];omega),.x (Rk g),.w 1,.r 43 (Ad (b:=(s:Int)) (by rw[w64];omega)),.w 0,.r 47 (Iw (b:=((s % 4294967296:Nat):Int)) (by rw[wP];omega)),.i 63,.r 49 (Ad (b:=((s / 9223372036854775808:Nat):Int)) Ft),.i i] rfl (by simp[Gi,Ts,Gh,IntKind.bits] <;> omega) ?_;rw[Lt];exact rd (i+1,o.set i (s % 4294967296),s / 9223372036854775808) (fin y _ (.inl g) u hs).1 (fin y _ (.inl g) u hs).2 rfl
  .obtain⟨s,hs⟩:=nmE ((x+18446744073709551616-c-0) % 18446744073709551616);have A:=fin 0 _ (.inr ⟨Fo,rfl⟩) Fp hs;refine go tt [.t (by simp[Gh];omega),.x (Rk hx),.w 1,.r 32 (Ad (b:=(s:Int)) (by rw[w64];omega)),.f (by simp[Gh];omega),.w 0,.r 47 (Iw (b:=((s % 4294967296:Nat):Int)) (by rw[wP];omega)),.i 63,.r 49 (Ad (b:=((s / 9223372036854775808:Nat):Int)) Ft),.i i] rfl (by simp[Gi,Ts,Gh,IntKind.bits] <;> omega) ?_;rw[Lt];exact rd (i+1,o.set i (s % 4294967296),s / 9223372036854775808) A.1 A.2 rfl
 .obtain rfl:i=p.length:=Fo;have e:val o=val p-val q:=by
   rw[Qo (Nat.le_of_eq j2),Qo C,Qo (Ql _)]at j5;have h1:=D7 o j3;rw[j2]at h1;rcases Nat.le_one_iff_eq_zero_or_eq_one.1 j4 with rfl|rfl <;> omega
  rw[<-e];exact Uz [.f (by simp[Gh]),.k (FR j3)] rfl
theorem Q28{a b:Fa}(ha:Sm a)(hb:Sm b)(h1:sz (val a)<=4294967296)(h2:sz (val b)<=4294967296):U5 246 [lr a,lr b] [lr (He (val a*val b))]:=by
 refine G7 func246 rfl ?_;obtain⟨p,E,np,B,_,ep⟩:=MU ha;obtain⟨q,cb,C,n,_,A⟩:=MU hb;have hp:=Sp h1;have m:=Sp h2;rw[<-ep]at hp;rw[<-A]at m;rw[<-B,<-n];refine go tt [.k E,.k cb,.i ((lm p).length+(lm q).length),.i ((lm p).length+(lm q).length)] rfl (by simp[Gi,Ts,Gh] <;> omega) ?_;rw[HW];refine lp (S:=Nat×Fa) 1 (λL1 s=>(24,.v (.oi (s.1:Int)))::L1) (λs=>[.row false 127 1 (lm s.2)]) (λs=>p.length-s.1)
  (λs=>s.1<=p.length/\s.2.length=p.length+q.length/\Sm s.2/\(∀j,s.1+q.length<=j->j<s.2.length->s.2[j]? = some 0)/\val s.2=val (p.take s.1)*val q) (0,List.replicate ((lm p).length+(lm q).length) 0)
  ⟨Qj _,by simp[Gh],λx hx=>by rw[Z0 hx];decide,λj _ hj=>by rw[Yj,if_pos (by simpa using hj)],by simp[val,BV]⟩ rfl (λ_ _=>rfl) rfl λ⟨i,o⟩ ⟨j1,j2,j3,j4,j5⟩=>?_
 dsimp only at j1 j2 j3 j4 j5 ⊢;by_cases hi:i<p.length
 .obtain⟨x,hx⟩:=gxE (l:=p) (i:=i) hi;have xb:=np.1 x (Qc hx);refine Ux [.t (by simp[Gh];omega),.x (Rk hx)] rfl ?_;refine lp (S:=Nat×Fa×Nat) 1 (λL1 s=>(31,.v (.oi (s.1:Int)))::(8,.v (.one (.int .u64 (s.2.2:Int))))::L1) (λs=>[.row false 127 1 (lm s.2.1)]) (λs=>q.length-s.1)
   (λs=>s.1<=q.length/\s.2.1.length=p.length+q.length/\Sm s.2.1/\(∀j,i+q.length<=j->j<s.2.1.length->s.2.1[j]? = some 0)/\s.2.2<4294967296/\val s.2.1+s.2.2*4294967296^(i+s.1)=val (p.take i)*val q+4294967296^i*x*val (q.take s.1)) (0,o,0)
   ⟨Qj _,j2,j3,j4,Ft,by simp[val,j5]⟩ rfl (λ_ _=>rfl) rfl λ⟨k,d,c⟩ ⟨k1,k2,k3,k4,k5,k6⟩=>?_
  dsimp only at k1 k2 k3 k4 k5 k6 ⊢;by_cases h:k<q.length
  .obtain⟨y,e⟩:=gxE (l:=q) (i:=k) h;have u:=C.1 y (Qc e);obtain⟨z,hz⟩:=gxE (l:=d) (i:=i+k) Fo;have G:=k3 z (Qc hz);have hm:=KB xb u;have F:(x:Int)*(y:Int)=((x*y:Nat):Int):=by push_cast;rfl
   obtain⟨s,hs⟩:=nmE (x*y+z+c);refine go tt [.t (by simp[Gh];omega),.x (Rk e),.r 40 (Ad (b:=((x*y:Nat):Int)) (by push_cast;rfl)),.i (i+k),.x (Rk hz),.r 50 (Ad (b:=(s:Int)) Fo),.w 1,.r 56 (Iw (b:=((s % 4294967296:Nat):Int)) (by rw[wP];omega)),.i 32,.r 58 (Ad (b:=((s / 4294967296:Nat):Int)) Ft),.i (i+k)] rfl ?_ ?_
   .simp[Gi,Ts,Gh,IntKind.bits] <;> omega
   .rw[Lt];exact rd (k+1,d.set (i+k) (s % 4294967296),s / 4294967296) (show q.length-(k+1)<q.length-k by omega) ⟨h,by simp[k2],D4 k3 _ _ Fo,λj h3 h4=>by
     rw[Y5 Fo];exact k4 j h3 (by simpa using h4),(show s / 4294967296<4294967296 from Fo),Qn9 hz e k6 hs⟩ rfl
  .obtain rfl:k=q.length:=Fo;by_cases D:0<q.length
   .refine go tt [.f (by simp[Gh]),.t (by simp[Gh];omega),.w 1,.r 70 (Iw (b:=((c % 4294967296:Nat):Int)) (by rw[wP];omega)),.i (i+(lm q).length)] rfl (by simp[Gi,Ts,Gh,IntKind.bits] <;> omega) ?_;rw[Lt];refine rd (i+1,d.set (i+(lm q).length) (c % 4294967296)) (show p.length-(i+1)<p.length-i by omega) ⟨hi,by simp[k2],D4 k3 _ _ Fo,λj h3 h4=>?_,?_⟩ rfl
    .rw[Gh,List.getElem?_set_ne (by dsimp only at h3;omega)];exact k4 j (by dsimp only at h3;omega) (by simpa using h4)
    .rw[Gh];exact Qn8 (k4 _ (Ql _) Fo) hx k5 rfl k6
   .have g:q=[]:=Qg Fo;refine go tt [.f (by simp[Gh]),.f (by simp[Gh,g])] rfl (by simp[Gi,Ts,Gh,IntKind.bits] <;> omega) ?_;refine rd (i+1,d) (show p.length-(i+1)<p.length-i by omega) ⟨hi,k2,k3,λj h3 h4=>k4 j (by dsimp only at h3;omega) h4,?_⟩ rfl;have c0:c*4294967296^(i+q.length)=0/\val d=0:=by
     subst g;simp only[val,List.take_nil,Vg]at k6;omega
    rw[c0.2,g];rfl
 .obtain rfl:i=p.length:=Fo;rw[Qo (Ql _)]at j5;rw[<-j5];exact Uz [.f (by simp[Gh]),.k (FR j3)] rfl
theorem o64{k q:Nat}(b:q<4294967296)(hb:4294967296*k+q<18446744073709551616):orI .u64 ((4294967296*k:Nat):Int) (q:Int)=((4294967296*k+q:Nat):Int):=by
 have c:(BitVec.ofInt 64 ((4294967296*k:Nat):Int)).toNat=4294967296*k:=by rw[BitVec.toNat_ofInt];omega
 have a:(BitVec.ofInt 64 (q:Int)).toNat=q:=by rw[BitVec.toNat_ofInt];omega
 show IntKind.u64.wrap ((BitVec.ofInt 64 ((4294967296*k:Nat):Int) ||| BitVec.ofInt 64 (q:Int)).toNat:Int)=_;rw[BitVec.toNat_or,c,a,Q06 b,w64];omega
theorem oM{k p:Nat}(hp:p<4294967296)(hb:4294967296*k+p<18446744073709551616):orI .u64 (p:Int) ((4294967296*k:Nat):Int)=((4294967296*k+p:Nat):Int):=by
 have:=o64 hp hb;unfold orI at this ⊢;rw[BitVec.or_comm];exact this
variable{s:Nat}
theorem o32{k p:Nat}(hp:p<2^s)(h1:p<4294967296)(h2:2^s*k<4294967296)(hb:p+2^s*k<4294967296):orI .u32 (p:Int) ((2^s*k:Nat):Int)=((p+2^s*k:Nat):Int):=by
 have d:(BitVec.ofInt 32 ((2^s*k:Nat):Int)).toNat=2^s*k:=by rw[BitVec.toNat_ofInt];omega
 have a:(BitVec.ofInt 32 (p:Int)).toNat=p:=by rw[BitVec.toNat_ofInt];omega
 have c:p ||| 2^s*k=p+2^s*k:=by
  have:=Ub (i:=s) (b:=p) hp k;rw[Nat.or_comm,<-this,Yb]
 show IntKind.u32.wrap ((BitVec.ofInt 32 (p:Int) ||| BitVec.ofInt 32 ((2^s*k:Nat):Int)).toNat:Int)=_;rw[BitVec.toNat_or,d,a,c,wP];omega
theorem Q3h{l:Fa}{v:Nat}(hl:Sm l)(hn:l.length<274877906944)(h0:0<v)(hv:v<4294967296):U5 256 [lr l,.one (.int .u32 (v:Int))] [lr (He (val l / v)),.one (.int .u32 ((val l % v:Nat):Int))]:=by
 refine G7 func256 rfl ?_;refine go tt [.i (lm l).length,.i (lm l).length] rfl (by simp[Gi,Ts,Gh] <;> omega) ?_;rw[HW];refine lp (S:=Int×Fa×Nat) 1 (λL1 s=>(8,.v (.oi s.1))::(7,.v (.one (.int .u64 (s.2.2:Int))))::L1) (λs=>[.row false 127 1 (lm s.2.1)]) (λs=>(s.1+1).toNat)
  (λs=>-1<=s.1/\s.1<l.length/\s.2.1.length=l.length/\Sm s.2.1/\s.2.2<v/\val (l.drop (s.1+1).toNat)=v*val (s.2.1.drop (s.1+1).toNat)+s.2.2) (((lm l).length:Int)-1,List.replicate (lm l).length 0,0)
  ⟨by simp[Gh];omega,by simp[Gh];omega,by simp[Gh],λx hx=>by rw[Z0 hx];decide,h0,by simp[Gh,val]⟩ rfl (λ_ _=>rfl) rfl λ⟨i,o,r⟩ ⟨j1,j2,j3,j4,j5,j6⟩=>?_
 dsimp only at j1 j2 j3 j4 j5 j6 ⊢;rcases Kv i 0 with hi|hi
 .obtain rfl:i=-1:=Fo;simp only[show((-1:Int)+1).toNat=0 from rfl,Jd]at j6;have j:val l / v=val o:=by rw[j6,Ur h0,Kk j5,X1]
  have n:val l % v=r:=by rw[j6,Us,X7 j5]
  rw[j,n];exact Uz [.f Fp,.k (FR j4)] rfl rfl (by simp[Gi,Ts,Gh,IntKind.bits] <;> omega)
 .obtain⟨k,rfl⟩:=K8 hi;have e:((k:Int)+1).toNat=k+1:=Fo;rw[e]at j6;obtain⟨x,hx⟩:=gxE (l:=l) (i:=k) Fo;have xb:=hl x (Qc hx);obtain⟨s,hs⟩:=nmE (r*4294967296+x);obtain⟨m,g,h⟩:=Qok hx xb (show k<o.length by omega) h0 j5 j6 hs;obtain⟨q,c⟩:=nmE (s / v);obtain⟨u,hu⟩:=nmE (s % v);have a:(s:Int).tdiv v=(q:Int):=by rw[Ko Fo,c];rfl
  have d:(s:Int).tmod v=(u:Int):=by rw[Vj Fo,hu];rfl
  rw[<-c,<-hu]at h;rw[<-c]at m;rw[<-hu]at g;refine go tt [.t Ft,.i 32,.r 21 (Ad (b:=((4294967296*r:Nat):Int)) Fo),.x (Rk hx),.r 27 (Ad (b:=(s:Int)) (by rw[o64 xb Fo];omega)),
   .r 33 (Ad (b:=(q:Int)) a),.w 0,.r 34 (Iw (b:=((q % 4294967296:Nat):Int)) (by rw[wP];omega)),.r 38 (Ad (b:=(u:Int)) d),.i k] rfl (by simp[Gi,Ts,Gh,IntKind.bits,a] <;> omega) ?_
  rw[Lt];exact rd ((k:Int)-1,o.set k (q % 4294967296),u) Fv ⟨Fv,Fv,by simp[j3],D4 j4 _ _ Fo,g,by dsimp only;rw[show((k:Int)-1+1).toNat=k from Fo];exact h⟩ rfl
theorem RY{i:Nat}{s:ByteArray}(h:∀i,i<256->(s[i]?).map (·.toNat)=some (sz i))(hi:i<256):(s[i]?).map (·.toNat)=some (sz i):=h i hi
variable{x:Nat}
set_option maxRecDepth 100000 in
theorem Qb3(hx:x<4294967296):U5 282 [.one (.int .u32 (x:Int))] [.oi (sz x:Int)]:=by
 refine G7 func282 rfl ?_;have e:sz x<=32:=Db.2 Fo;by_cases h1:65536<=x
 .have c:sz x=16+sz (x / 2^16):=PZ Fo;obtain⟨y,d⟩:=nmE (x / 2^16);rw[<-d]at c;by_cases h2:256<=y
  .have a:sz y=8+sz (y / 2^8):=PZ Fo;obtain⟨z,hz⟩:=nmE (y / 2^8);rw[<-hz]at a;exact Uz [.t Fq,.i 16,.r 6 (Iw (b:=(y:Int)) (by simp[d])),.t Fq,.i 8,.r 10 (Iw (b:=(z:Int)) (by simp[hz])),.y (RY (i:=z) Fp Fo)] rfl (by rw[c,a];simp;omega) (by simp[Gi,Ts,IntKind.bits] <;> omega)
  .exact Uz [.t Fq,.i 16,.r 6 (Iw (b:=(y:Int)) (by simp[d])),.f Fq,.y (RY (i:=y) Fp Fo)] rfl (by rw[c];simp) (by simp[Gi,Ts,IntKind.bits] <;> omega)
 .by_cases h2:256<=x
  .have a:sz x=8+sz (x / 2^8):=PZ Fo;obtain⟨z,hz⟩:=nmE (x / 2^8);rw[<-hz]at a;exact Uz [.f Fq,.t Fq,.i 8,.r 10 (Iw (b:=(z:Int)) (by simp[hz])),.y (RY (i:=z) Fp Fo)] rfl (by rw[a];simp) (by simp[Gi,Ts,IntKind.bits] <;> omega)
  .exact Uz [.f Fq,.f Fq,.y (RY (i:=x) Fp Fo)] rfl Ft (by simp[Gi,Ts,IntKind.bits] <;> omega)
theorem Qy5(hx:x<4294967296):U5 257 [.one (.int .u32 (x:Int))] [.oi ((32-sz x:Nat):Int)]:=by
 have a:sz x<=32:=Db.2 Fo;exact U0 func257 rfl [.k (Qb3 hx)] rfl Fq (by simp[Gi,Ts] <;> omega)
theorem eL{l:Fa}(hl:Sm l)(hs:sz (val l)<=4294967296):U5 247 [lr l] [.oi (sz (val l):Int)]:=by
 refine G7 func247 rfl ?_;obtain⟨p,a,np,g,_,ep⟩:=MU hl;have hp:=Sp hs;rw[<-ep]at hp;rw[<-g]at hs ⊢;by_cases h0:p=[]
 .subst h0;exact Uz [.k a,.t (by simp[lm])] rfl rfl (by simp[Gi,Ts])
 .have d:0<p.length:=Yp.2 h0;obtain⟨x,hx,c⟩:=np.2 h0;have xb:=np.1 x (Qc hx);have e:=Qbd np hx;have h:sz x<=32:=Db.2 Fo;have hn:(lm p).length≠0:=by rw[Gh];omega
  refine Uz [.k a,.f (by simp[Gh];omega),.r 15 (eI (b:=((p.length-1:Nat):Int)) (by rw[Gh];omega)),.x (Rk hx),.k (Qb3 xb)] rfl (by rw[e,Gh];simp;omega) (by simp[Gi,Ts,Gh] <;> omega)
theorem cD(h:s<=31):((s:Nat):Int).tdiv 32=((0:Nat):Int):=by
 rw[Ko Fo];omega
theorem Qpe(h:s<=31):((s:Nat):Int).tmod 32=(s:Int):=Int.tmod_eq_of_lt Fo Fo
theorem Q00(h:s<=31):max 0 (min (s:Int) 65536)=(s:Int):=Fo
theorem Q3c{a:Fa}(ha:Sm a)(h1:sz (val a)<=4294967400)(hs:s<=31):U5 290 [lr a,.oi s] [lr (He (val a*2^s))]:=by
 refine G7 func290 rfl ?_;obtain⟨p,y,np,B,_,ep⟩:=MU ha;have hp:=Sp h1;rw[<-ep]at hp;rw[<-B];have G:((s:Nat):Int).tdiv 32=0:=cD hs;by_cases h0:p=[]
 .subst h0;exact Uz [.k y,.t (by simp[lm])] rfl (by simp[val,Ru,lm]) (by simp[Gi,Ts])
 have F:0<p.length:=Yp.2 h0;refine go tt [.k y,.r 15 (eI (b:=(s:Int)) (Q00 hs)),.f (by simp[Gh];omega),.r 20 (eI (b:=((0:Nat):Int)) (cD hs)),.r 22 (eI (b:=(s:Int)) (Qpe hs)),.r 28 (eI (b:=(((lm p).length+1:Nat):Int)) Fo),.i ((lm p).length+1),.i ((lm p).length+1)] rfl (by have e:=Gh p;simp only[Gi,Ts];omega) ?_;rw[HW];refine lp (S:=Nat×Fa) 1 (λL1 s=>(32,.v (.oi (s.1:Int)))::L1) (λs=>[.row false 127 1 (lm s.2)]) (λs=>p.length-s.1)
  (λr=>r.1<=p.length/\r.2.length=p.length+1/\Sm r.2/\(∃z,r.2[r.1]? = some z/\z<2^s)/\val (r.2.take (r.1+1))=val (p.take r.1)*2^s) (0,List.replicate ((lm p).length+1) 0)
  ⟨Qj _,by simp[Gh],λx hx=>by rw[Z0 hx];decide,⟨0,Ft,Zz Fp⟩,by simp[val,J4]⟩ rfl (λ_ _=>rfl) rfl λ⟨i,o⟩ ⟨j1,n,d,⟨z,hz,c⟩,g⟩=>?_
 dsimp only at j1 n d hz c g ⊢;by_cases hi:i<p.length
 .obtain⟨x,hx⟩:=gxE (l:=p) (i:=i) hi;have xb:=np.1 x (Qc hx);have C:=d z (Qc hz);obtain⟨E,A,u,q⟩:=Qp1 hs hx xb hz c Fo g;have j:=Q1p hs xb;have D:2^s<=2^31:=Zp Fp hs;have h:(x:Int)*2^s=((x*2^s:Nat):Int):=by push_cast;rfl
  obtain⟨m,hm⟩:=nmE (x*2^s);rw[<-hm]at E A u q j h;refine go tt [.t (by simp[Gh];omega),.x (Rk hx),.i s,.r 40 (Ad (b:=(m:Int)) h),.i i,.x (Rk hz),.w 0,.r 52 (Iw (b:=((m % 4294967296:Nat):Int)) (by rw[wP];omega)),.r 53 (Iw (b:=((z+m % 4294967296:Nat):Int)) (by rw[q,o32 c C Fo Fo])),.i i,
   .i 32,.r 61 (Ad (b:=((m / 2^32:Nat):Int)) Ft),.w 0,.r 62 (Iw (b:=((m / 2^32 % 4294967296:Nat):Int)) (by rw[wP];omega)),.i (i+1)] rfl (by simp[Gi,Ts,Gh,IntKind.bits,h] <;> omega) ?_
  rw[Lt,Lt];exact rd (i+1,(o.set i (z+m % 4294967296)).set (i+1) (m / 2^32 % 4294967296)) (show p.length-(i+1)<p.length-i by omega) ⟨hi,by simp[n],D4 (D4 d _ _ Fo) _ _ Fo,⟨_,by rw[Jr Fq],Fo⟩,u⟩ rfl
 .obtain rfl:i=p.length:=Fo;rw[Qo Fo,Qo (Ql _)]at g;rw[<-g];exact Uz [.f (by simp[Gh]),.k (FR d)] rfl
theorem Q3d{a:Fa}(ha:Sm a)(h1:sz (val a)<=4294967400)(hs:s<=31):U5 260 [lr a,.oi s] [lr (He (val a / 2^s))]:=by
 refine G7 func260 rfl ?_;obtain⟨p,n,np,q,_,ep⟩:=MU ha;have hp:=Sp h1;rw[<-ep]at hp;rw[<-q];have A:((s:Nat):Int).tdiv 32=0:=cD hs;by_cases h0:p=[]
 .subst h0;exact Uz [.k n,.r 14 (eI (b:=(s:Int)) (Q00 hs)),.r 16 (eI (b:=((0:Nat):Int)) (cD hs)),.r 18 (eI (b:=(s:Int)) (Qpe hs)),.t (by simp[lm])] rfl (by simp[val,Ru,lm]) (by simp only[Gi,Ts];omega)
 have u:0<p.length:=Yp.2 h0;refine go tt [.k n,.r 14 (eI (b:=(s:Int)) (Q00 hs)),.r 16 (eI (b:=((0:Nat):Int)) (cD hs)),.r 18 (eI (b:=(s:Int)) (Qpe hs)),.f (by simp[Gh];omega),.r 27 (eI (b:=((lm p).length:Int)) Fo),.i (lm p).length,.i (lm p).length] rfl (by have e:=Gh p;simp only[Gi,Ts];omega) ?_;rw[HW];refine lp (S:=Nat×Fa) 1 (λL1 s=>(31,.v (.oi (s.1:Int)))::L1) (λs=>[.row false 127 1 (lm s.2)]) (λs=>p.length-s.1)
  (λr=>r.1<=p.length/\r.2.length=p.length/\Sm r.2/\val (r.2.take r.1)=val p / 2^s % 4294967296^r.1) (0,List.replicate (lm p).length 0)
  ⟨Qj _,by simp[Gh],λx hx=>by rw[Z0 hx];decide,by simp[val];omega⟩ rfl (λ_ _=>rfl) rfl λ⟨i,o⟩ ⟨j1,j2,j3,j5⟩=>?_
 dsimp only at j1 j2 j3 j5 ⊢;by_cases hi:i<p.length
 .obtain⟨x,hx⟩:=gxE (l:=p) (i:=i) hi;have xb:=np.1 x (Qc hx);have fin:∀y m,(p[i+1]? = some y\/p.length<=i+1/\y=0)->m=(x+y*2^32) / 2^s->p.length-(i+1)<p.length-i/\i+1<=p.length/\(o.set i (m % 4294967296)).length=p.length/\Sm (o.set i (m % 4294967296))/\val ((o.set i (m % 4294967296)).take (i+1))=val p / 2^s % 4294967296^(i+1):=λy m c hm =>
   ⟨Fo,hi,by simp[j2],D4 j3 _ _ Fo,by subst hm;exact Qp2 hs hx c Fo np.1 j5⟩
  have z:0<2^s:=Zz Fp;by_cases h:i+1<p.length
  .obtain⟨y,c⟩:=gxE (l:=p) (i:=i+1) h;have B:=np.1 y (Qc c);obtain⟨v,hv⟩:=nmE (4294967296*y+x);obtain⟨m,hm⟩:=nmE (v / 2^s);have j:m<=v:=hm ▸ J8 _ _;have d:=fin y m (.inl c) (by rw[hm,hv];congr 1;omega);refine go tt [.t (by simp[Gh];omega),.x (Rk hx),.t (by simp[Gh];omega),.x (Rk c),.i 32,.r 57 (Ad (b:=((4294967296*y:Nat):Int)) Fo),.r 58 (Ad (b:=(v:Int)) (by rw[oM xb Fo];omega)),
    .i s,.r 63 (Ad (b:=(m:Int)) (by rw[hm];push_cast;rfl)),.w 0,.r 64 (Iw (b:=((m % 4294967296:Nat):Int)) (by rw[wP];omega)),.i i] rfl (by simp[Gi,Ts,Gh,IntKind.bits] <;> omega) ?_
   rw[Lt];exact rd (i+1,o.set i (m % 4294967296)) d.1 d.2 rfl
  .obtain⟨m,hm⟩:=nmE (x / 2^s);have j:m<=x:=hm ▸ J8 _ _;have d:=fin 0 m (.inr ⟨Fo,rfl⟩) (by rw[hm];simp);refine go tt [.t (by simp[Gh];omega),.x (Rk hx),.f (by simp[Gh];omega),
    .i s,.r 63 (Ad (b:=(m:Int)) (by rw[hm];push_cast;rfl)),.w 0,.r 64 (Iw (b:=((m % 4294967296:Nat):Int)) (by rw[wP];omega)),.i i] rfl (by simp[Gi,Ts,Gh,IntKind.bits] <;> omega) ?_
   rw[Lt];exact rd (i+1,o.set i (m % 4294967296)) d.1 d.2 rfl
 .obtain rfl:i=p.length:=Fo;have g:=D7 p np.1;rw[Qo Fo,X7 (Xe (J8 _ _) g)]at j5;rw[<-j5];exact Uz [.f (by simp[Gh,j2]),.k (FR j3)] rfl
def mW:Nat->Nat->Fa
 | 0,_=>[]
 |k+1,v=>v % 4294967296::mW k (v / 4294967296)
theorem Ql0:∀{l:Fa},Sm l->l=mW l.length (val l)
 | [],_=>rfl
 |
  x::l,h=>by
  have hx:=h x (.head _);have b:=Ql0 (l:=l) λy a=>h y (.tail _ a)
  simp only[Q5,mW,val];rw[show(x+4294967296*val l) % 4294967296=x by omega,show(x+4294967296*val l) / 4294967296=val l by omega,<-b]
theorem aE{l:Fa}{k v:Nat}(h:Sm l)(a:l.length=k)(hv:val l=v):mW k v=l:=by
 rw[<-a,<-hv];exact(Ql0 h).symm
theorem uL:∀{k v:Nat},(mW k v).length=k/\Sm (mW k v)/\(v<4294967296^k->val (mW k v)=v)
 | 0,v=>⟨rfl,λx hx=>by(cases hx),λh=>by simp at h;subst h;rfl⟩
 |
  k+1,v=>by
  obtain⟨h1,h2,h3⟩:=uL (k:=k) (v:=v / 4294967296);refine⟨by simp[mW,h1],λx hx=>?_,λh=>?_⟩
  .rcases Qm.1 hx with rfl|hx
   .exact Xf _ Fp
   .exact h2 x hx
  .simp only[mW,val];rw[h3 (by rw[Zq]at h;exact Jo (by rw[Zt];exact h))];omega
theorem Qlj{a:Fa}{s n:Nat}(ha:Sm a)(h1:sz (val a)<=4294967400)(hs:s<=31)(hn:n<274877906944)(h0:0<n)(hv:val a*2^s<4294967296^n) :
 Ge prog 258 [lr a,.oi s,.oi n] [] [.one (.orow 0 1 none)] [.row false 127 1 (lm (mW n (val a*2^s)))]:=by
 refine G7 func258 rfl ?_;obtain⟨v,b⟩:=nmE (val a*2^s);have cs:=Q3c ha h1 hs;rw[<-b]at cs hv ⊢;have hl:(He v).length<=n:=by
  apply Classical.byContradiction;intro c;have h2:=SX (Lb v) (λe=>by rw[e]at c;simp at c);rw[Re]at h2;have h3:4294967296^n<=4294967296^((He v).length-1):=Zp Fp Fo;omega
 refine go tt [.i n,.i n,.k cs,.s (Qnt (He v)),.i (He v).length] rfl (by simp[Gi,Ts,Gh] <;> omega) ?_;have e:List.take 0 (List.replicate n [LV.int .u32 0])++(List.take (He v).length (lm (He v))++List.drop (0+(He v).length) (List.replicate n [LV.int .u32 0]))=lm (mW n v):=by
  rw[aE (l:=He v++List.replicate (n-(He v).length) 0) (λx hx=>?_) Fq (by rw[D6,BV,Re];simp)]
  .rw[Ke,Jn,Qo (by rw[Gh];exact Ql _)];simp[lm]
  .rcases Qr.1 hx with hx|hx
   .exact A4 v x hx
   .rw[Z0 hx];decide
 rw[e];exact U3 [] [0] [] rfl
theorem jV{pre x post:Fa}{i u:Nat}(h:x[i]? = some u):(lm (pre++x++post))[pre.length+i]? = some [.int .u32 (u:Int)]:=Rk (by
 have hi:=(Qh.1 h).1;rw[Zh,Zy Fo,J1,Zc hi];exact h)
theorem Qqu{pre x post:Fa}{i v:Nat}(h:i<x.length):(lm (pre++x++post)).set (pre.length+i) [.int .u32 (v:Int)]=lm (pre++x.set i v++post):=by
 rw[Lt,Zh,List.set_append_right _ _ Fo,J1,List.set_append_left _ _ h,<-Zh]
theorem Qsv{pre x post ly:Fa}{top nx xn x1 x2:Nat}(D:Dig x ly ly.length top nx xn x1 x2)(hn:ly.length<274877906944) :
 Ge prog 259 [.one (.orow 0 1 (some (pre.length,x.length))),lr ly] [.row true 127 1 (lm (pre++x++post))] [.one (.int .u32 ((val x / val ly:Nat):Int))] [.row true 127 1 (lm (pre++mW x.length (val x % val ly)++post))]:=by
 refine G7 func259 rfl ?_;have C:=D.hx;have hn2:=D.hn;have hb:=D.bnd;obtain⟨head,hh⟩:=nmE (xn*2^32+x1);obtain⟨R,z⟩:=nmE (head / top);obtain⟨r0,B⟩:=nmE (head % top);have M:=D.start;rw[<-hh,<-z]at M;have V:=D.top0;have hg0l:R<=head:=z ▸ J8 _ _;have hr0l:r0<top:=B ▸ Xf _ V;have J:(head:Int).tdiv top=(R:Int):=by rw[Ko Fo,z];rfl
 have X:(head:Int).tmod top=(r0:Int):=by rw[Vj Fo,B];rfl
 refine go tt [.r 23 (eI (b:=(ly.length:Int)) (by rw[Gh])),.r 26 (eI (b:=((ly.length-1:Nat):Int)) Fo),.x (Rk D.ltop),.r 32 (eI (b:=((ly.length-2:Nat):Int)) Fo),.x (Rk D.lnx),
  .i ly.length,.x (jV D.xn),.i 32,.r 41 (Ad (b:=((4294967296*xn:Nat):Int)) Fo),.r 44 (eI (b:=((ly.length-1:Nat):Int)) Fo),.i (ly.length-1),.x (jV D.x1),.r 48 (Ad (b:=(head:Int)) (by rw[o64 hb.2.2.2.1 Fo];omega)),
  .r 51 (Ad (b:=(R:Int)) J),.r 54 (Ad (b:=(r0:Int)) X)] rfl ?_ ?_
 .simp only[Gi,Ts,J,IntKind.bits];omega
 refine ct 2 (S:=Nat) (λg=>[(0,.v (.one (.orow 0 1 (some (pre.length,x.length))))),(1,.v (lr ly)),(5,.v (.oi (ly.length:Int))),(9,.v (.one (.int .u64 (g:Int))))]) (λ_=>[.row true 127 1 (lm (pre++x++post))]) (λg=>val x / val ly<=g/\(g-1)*val ly<=val x/\g<=4294967296) rfl ?_ ?_
 .refine lp (S:=Nat×Nat) 1 (λL1 s=>(9,.v (.one (.int .u64 (s.1:Int))))::(10,.v (.one (.int .u64 (s.2:Int))))::L1) (λ_=>[.row true 127 1 (lm (pre++x++post))]) (λs=>4294967296-s.2)
   (λs=>s.1*top+s.2=xn*2^32+x1/\val x / val ly<=s.1/\s.2<4294967296/\s.1<18446744073709551616) (R,r0)
   ⟨by rw[<-hh,z,B,Nat.mul_comm];exact Nat.div_add_mod _ _,M,Fv,Fv⟩ rfl (λ_ _=>rfl) rfl λ⟨g,r⟩ ⟨j1,q,H,j4⟩=>?_
  dsimp only at j1 q H j4 ⊢;by_cases T:4294967296<=g
  .have c:=D.round j1 q (.inl T);by_cases h2:4294967296<=r+top
   .exact go tt [.t Fq,.t rfl,.r 73 (Ad (b:=((g-1:Nat):Int)) Fo),.t Fq] rfl (by simp[Gi,Ts] <;> omega) (rc (g-1) ⟨c.2.1,(c.2.2.2 h2).1,(c.2.2.2 h2).2⟩ rfl)
   .exact go tt [.t Fq,.t rfl,.r 73 (Ad (b:=((g-1:Nat):Int)) Fo),.f Fq] rfl (by simp[Gi,Ts] <;> omega) (rd (g-1,r+top) Fv ⟨c.2.2.1,c.2.1,Fv,Fv⟩ rfl)
  .have L:=KB (x:=g) (y:=nx) Fo hb.2.1;by_cases hc:r*2^32+x2<g*nx
   .have c:=D.round j1 q (.inr hc);have h:(g:Int)*(nx:Int)=((g*nx:Nat):Int):=by push_cast;rfl
    obtain⟨m,hm⟩:=nmE (g*nx);rw[<-hm]at h L hc;by_cases h2:4294967296<=r+top
    .exact go tt [.f Fq,.r 60 (Ad (b:=(m:Int)) h),.i 32,.r 62 (Ad (b:=((4294967296*r:Nat):Int)) Fo),.r 65 (eI (b:=((ly.length-2:Nat):Int)) Fo),.i (ly.length-2),.x (jV D.x2),.r 69 (Ad (b:=((4294967296*r+x2:Nat):Int)) (o64 hb.2.2.2.2 Fo)),.t Fq,.r 73 (Ad (b:=((g-1:Nat):Int)) Fo),.t Fq] rfl (by simp only[Gi,Ts,h,IntKind.bits];omega) (rc (g-1) ⟨c.2.1,(c.2.2.2 h2).1,(c.2.2.2 h2).2⟩ rfl)
    .exact go tt [.f Fq,.r 60 (Ad (b:=(m:Int)) h),.i 32,.r 62 (Ad (b:=((4294967296*r:Nat):Int)) Fo),.r 65 (eI (b:=((ly.length-2:Nat):Int)) Fo),.i (ly.length-2),.x (jV D.x2),.r 69 (Ad (b:=((4294967296*r+x2:Nat):Int)) (o64 hb.2.2.2.2 Fo)),.t Fq,.r 73 (Ad (b:=((g-1:Nat):Int)) Fo),.f Fq] rfl (by simp only[Gi,Ts,h,IntKind.bits];omega) (rd (g-1,r+top) Fv ⟨c.2.2.1,c.2.1,Fv,Fv⟩ rfl)
   .have A:=D.fin j1 Fo Fo;have h:(g:Int)*(nx:Int)=((g*nx:Nat):Int):=by push_cast;rfl
    obtain⟨m,hm⟩:=nmE (g*nx);rw[<-hm]at h L hc;exact go tt [.f Fq,.r 60 (Ad (b:=(m:Int)) h),.i 32,.r 62 (Ad (b:=((4294967296*r:Nat):Int)) Fo),.r 65 (eI (b:=((ly.length-2:Nat):Int)) Fo),.i (ly.length-2),.x (jV D.x2),.r 69 (Ad (b:=((4294967296*r+x2:Nat):Int)) (o64 hb.2.2.2.2 Fo)),.f Fq] rfl (by simp only[Gi,Ts,h,IntKind.bits];omega) (rc g ⟨q,A,Fo⟩ rfl)
 .intro g ⟨q1,q2,q3⟩;refine Ux [.r 80 (eI (b:=(ly.length:Int)) (by rw[Gh]))] rfl ?_;refine lp (S:=Nat×Fa×Nat×Nat) 1 (λL1 s=>(81,.v (.oi (s.1:Int)))::(11,.v (.one (.int .u64 (s.2.2.1:Int))))::(12,.v (.one (.int .u64 (s.2.2.2:Int))))::L1) (λs=>[.row true 127 1 (lm (pre++s.2.1++post))]) (λs=>ly.length-s.1)
   (λs=>s.1<=ly.length/\s.2.1.length=ly.length+1/\Sm s.2.1/\s.2.2.2<=1/\s.2.2.1<4294967296/\val (s.2.1.take s.1)+g*val (ly.take s.1)=val (x.take s.1)+(s.2.2.1+s.2.2.2)*4294967296^s.1/\s.2.1.drop s.1=x.drop s.1) (0,x,0,0)
   ⟨Qj _,C,D.xb,Qj _,Ft,by simp[val],rfl⟩ rfl (λ_ _=>rfl) rfl λ⟨i,o,K,bw⟩ ⟨j1,q,H,j4,j5,j6,Q⟩=>?_
  dsimp only at j1 q H j4 j5 j6 Q ⊢;by_cases hi:i<ly.length
  .obtain⟨w1,d⟩:=gxE (l:=ly) (i:=i) hi;obtain⟨u,hu⟩:=gxE (l:=x) (i:=i) Fo;have wb:=D.lb w1 (Qc d);have ub:=D.xb u (Qc hu);have G:=(TQ Q).trans hu;have hgw:g*w1<=18446744069414584320:=by
    have:=Zf q3 (show w1<=4294967295 by omega);omega
   obtain⟨s,hs⟩:=nmE (((u+18446744073709551616-(g*w1+K) % 4294967296) % 18446744073709551616+18446744073709551616-bw) % 18446744073709551616);have a:=gC (o:=o) Fo hu d ub j4 j6 rfl hs;have h:(g:Int)*(w1:Int)=((g*w1:Nat):Int):=by push_cast;rfl
   obtain⟨m,hm⟩:=nmE (g*w1);rw[<-hm]at h hgw hs a;obtain⟨p,hp⟩:=nmE (m+K);rw[<-hp]at hs a;refine go tt [.t Fq,.x (Rk d),.r 89 (Ad (b:=(m:Int)) h),.r 91 (Ad (b:=(p:Int)) Fo),.i 32,.r 93 (Ad (b:=((p / 2^32:Nat):Int)) Ft),.i i,.x (jV G),.w 1,.r 100 (Iw (b:=((p % 4294967296:Nat):Int)) (by rw[wP];omega)),.w 1,.r 102 (Ad (b:=(((u+18446744073709551616-p % 4294967296) % 18446744073709551616:Nat):Int)) (by rw[w64];omega)),.w 0,.r 104 (Ad (b:=(s:Int)) (by rw[w64];omega)),
    .w 0,.r 108 (Iw (b:=((s % 4294967296:Nat):Int)) (by rw[wP];omega)),.i 63,.r 110 (Ad (b:=((s / 2^63:Nat):Int)) Ft),.i i] rfl (by simp only[Gi,Ts,h,IntKind.bits,Gh,Qw];omega) ?_
   rw[Qqu Fo];exact rd (i+1,o.set i (s % 4294967296),p / 2^32,s / 2^63) Fv ⟨hi,by simp[q],D4 H _ _ Fo,a.2,Fv,a.1,yV Q⟩ rfl
  .obtain rfl:i=ly.length:=Fo;have N:=(TQ Q).trans D.xn;rw[Qo (l:=ly) (Ql _)]at j6;obtain⟨s,hs⟩:=nmE (((xn+18446744073709551616-K) % 18446744073709551616+18446744073709551616-bw) % 18446744073709551616);obtain⟨oa,e⟩:=nmE (o.set ly.length (s % 4294967296));have F:oa.length=ly.length+1:=by rw[e,Xd];exact q
   have n:Sm oa:=e ▸ D4 H _ _ Fo;by_cases xH:s / 2^63=0
   .have A:=D.fin0 q j5 j4 q1 j6 hs xH;refine go tt [.f Ft,.i ly.length,.x (jV N),.w 1,.r 119 (Ad (b:=(((xn+18446744073709551616-K) % 18446744073709551616:Nat):Int)) (by rw[w64];omega)),.w 0,.r 121 (Ad (b:=(s:Int)) (by rw[w64];omega)),.w 0,.r 125 (Iw (b:=((s % 4294967296:Nat):Int)) (by rw[wP];omega)),.i ly.length,.i 63,.r 128 (Ad (b:=((s / 2^63:Nat):Int)) Ft),.t Fq,.w 0,.r 131 (Iw (b:=((val x / val ly:Nat):Int)) (by rw[wP];omega))] rfl (by simp only[Gi,Ts,IntKind.bits,Gh,Qw];omega) ?_;rw[Qqu Fo,<-aE (l:=o.set ly.length (s % 4294967296)) (k:=x.length) (e ▸ n) (by rw[<-e,F,C]) A.2];exact U3 [] [0] [] rfl
   .have A:=D.fin1 q H j5 j4 q2 j6 hs xH;rw[<-e]at A;obtain⟨W,E⟩:=gxE (l:=oa) (i:=ly.length) Fo;refine go tt [.f Ft,.i ly.length,.x (jV N),.w 1,.r 119 (Ad (b:=(((xn+18446744073709551616-K) % 18446744073709551616:Nat):Int)) (by rw[w64];omega)),.w 0,.r 121 (Ad (b:=(s:Int)) (by rw[w64];omega)),.w 0,.r 125 (Iw (b:=((s % 4294967296:Nat):Int)) (by rw[wP];omega)),.i ly.length,.i 63,.r 128 (Ad (b:=((s / 2^63:Nat):Int)) Ft),.f Fq,.r 133 (eI (b:=(ly.length:Int)) (by rw[Gh]))] rfl (by simp only[Gi,Ts,IntKind.bits,Gh,Qw];omega) ?_;rw[Qqu Fo,<-e];refine lp (S:=Nat×Fa×Nat) 1 (λL1 s=>(134,.v (.oi (s.1:Int)))::(18,.v (.one (.int .u64 (s.2.2:Int))))::L1) (λs=>[.row true 127 1 (lm (pre++s.2.1++post))]) (λs=>ly.length-s.1)
     (λs=>s.1<=ly.length/\s.2.1.length=ly.length+1/\Sm s.2.1/\s.2.2<=1/\val (s.2.1.take s.1)+s.2.2*4294967296^s.1=val (oa.take s.1)+val (ly.take s.1)/\s.2.1.drop s.1=oa.drop s.1) (0,oa,0)
     ⟨Qj _,F,n,Qj _,by simp[val],rfl⟩ rfl (λ_ _=>rfl) rfl λ⟨j,Z,Y⟩ ⟨r1,r2,P,r4,r5,O⟩=>?_
    dsimp only at r1 r2 P r4 r5 O ⊢;by_cases hj:j<ly.length
    .obtain⟨w1,d⟩:=gxE (l:=ly) (i:=j) hj;obtain⟨u,hu⟩:=gxE (l:=oa) (i:=j) Fo;have wb:=D.lb w1 (Qc d);have ub:=n u (Qc hu);have G:=(TQ O).trans hu;obtain⟨m,hm⟩:=nmE (u+Y+w1);have a:=sT (o:=Z) Fo hu (.inl d) r5 hm;refine go tt [.t Fq,.x (Rk d),.i j,.x (jV G),.r 148 (Ad (b:=(m:Int)) Fo),.w 0,.r 152 (Iw (b:=((m % 4294967296:Nat):Int)) (by rw[wP];omega)),.i 32,.r 154 (Ad (b:=((m / 4294967296:Nat):Int)) Ft),.i j] rfl (by simp only[Gi,Ts,IntKind.bits,Gh,Qw];omega) ?_;rw[Qqu Fo];exact rd (j+1,Z.set j (m % 4294967296),m / 4294967296) Fv ⟨hj,by simp[r2],D4 P _ _ Fo,Fv,a,yV O⟩ rfl
    .obtain rfl:j=ly.length:=Fo;have I:=(TQ O).trans E;have vb:=n W (Qc E);rw[Qo (l:=ly) (Ql _)]at r5;have U:=D.fin2 F n r2 P E r4 A.2 r5;refine go tt [.f Ft,.i ly.length,.x (jV I),.w 1,.r 165 (Iw (b:=(((W+Y) % 4294967296:Nat):Int)) (by rw[wP];omega)),.i ly.length,.w 0,.r 168 (Iw (b:=((g % 4294967296:Nat):Int)) (by rw[wP];omega)),.w 0,.r 169 (Iw (b:=((val x / val ly:Nat):Int)) (Q4r A.1 D.qlt))] rfl (by simp only[Gi,Ts,IntKind.bits,Gh,Qw];omega) ?_;rw[Qqu Fo,<-aE (l:=Z.set ly.length ((W+Y) % 4294967296)) (k:=x.length) (D4 P _ _ Fo) (by rw[Xd,r2,C]) U];exact U3 [] [0] [] rfl
theorem Qks{o ly:Fa}{lo top nx xn x1 x2:Nat}(c:lo+(ly.length+1)<=o.length)(D:Dig (HO o lo ly.length) ly ly.length top nx xn x1 x2)(hn:ly.length<274877906944) :
 Ge prog 259 [.one (.orow 0 1 (some (lo,ly.length+1))),lr ly] [.row true 127 1 (lm o)] [.one (.int .u32 ((val (HO o lo ly.length) / val ly:Nat):Int))] [.row true 127 1 (lm (o.take lo++mW (ly.length+1) (val (HO o lo ly.length) % val ly)++o.drop (lo+ly.length+1)))]:=by
 have:=Qsv (pre:=o.take lo) (post:=o.drop (lo+ly.length+1)) D hn;have a:(o.take lo).length=lo:=by rw[Qt];omega
 have b:=PT (o:=o) (i:=lo) (n:=ly.length) Fo;rw[a,b,FQ]at this;exact this
theorem pZ{a b:Fa}(ha:Sm a)(hb:Sm b)(h1:sz (val a)<=4294967296)(h2:sz (val b)<=4294967296)(A:0<val b):U5 214 [lr a,lr b] [lr (He (val a / val b)),lr (He (val a % val b)),.oi 0]:=by
 refine G7 func214 rfl ?_;obtain⟨p,ca,np,vp,_,ep⟩:=MU ha;obtain⟨q,cb,C,vq,_,eq⟩:=MU hb;have hp:=Sp h1;have hq:=Sp h2;rw[<-ep]at hp;rw[<-eq]at hq;rw[<-vp,<-vq];rw[<-vp]at h1;rw[<-vq]at h2 A;have q0:q≠[]:=λe=>by rw[e]at A;simp[val]at A
 have qp:0<q.length:=Yp.2 q0;have c1:¬((lm q).length:Int)=0:=by rw[Gh];omega
 by_cases G:p.length<q.length
 .have hv:=Ah np C G;rw[Kk hv,X7 hv,Ru];exact Uz [.k ca,.k cb,.f (by simpa using c1),.t (by simp[Gh];omega),.k (GX np.1 h1)] rfl rfl (by simp[Gi,Ts])
 by_cases P:q.length=1
 .obtain⟨y,rfl⟩:∃y,q=[y]:=by
   match q,P with
   | [y],_=>exact⟨y,rfl⟩
  have yb:=C.1 y (.head _);have vy:val [y]=y:=by simp[val]
  rw[vy]at A ⊢;have co:=Q3h np.1 Fo A yb;have sm:Sm [val p % y]:=λz hz=>by
   simp at hz;subst hz;exact Nat.lt_trans (Xf _ A) yb
  have cc:=FR sm;rw[show val [val p % y]=val p % y from by simp[val]]at cc;exact Uz [.k ca,.k cb,.f (by simp[lm]),.f (by simp[Gh];omega),.t (by simp[lm]),.x (Rk (l:=[y]) (i:=0) rfl),.k co,.k cc] rfl rfl (by simp[Gi,Ts])
 .have W:q.length<=p.length:=Yc G;obtain⟨y1,E,hy10⟩:=C.2 q0;have T:=C.1 y1 (Qc E);have hszy:=Qbd C E;have hsz1:sz y1<=32:=Db.2 Fo;have hsz0:0<sz y1:=Q1y Fo;obtain⟨s,hs⟩:=nmE (32-sz y1);have w:s<=31:=Fo;have Iw:(2:Nat)^32=4294967296:=Fp;obtain⟨x,hx⟩:=nmE (val p);obtain⟨y,hyv⟩:=nmE (val q);have cl:=Qy5 T;rw[<-hs]at cl;have N:val p*2^s<4294967296^(p.length+1):=by
   have h1:=D7 p np.1;rw[Zq];exact Xk (X2 h1 (show 0<2^s from Zz Fp)) (Zl _ (by rw[<-Iw];exact Zp Fp Fo))
  have F:val q*2^s<4294967296^q.length:=by
   have h1:=TE (val q);rw[<-Iw,<-Wb];have h2:val q*2^s<2^sz (val q)*2^s:=X2 h1 (Zz Fp);rw[<-Xj]at h2;rw[show 32*q.length=sz (val q)+s from Fo];exact h2
  have cx:=Qlj np.1 (show sz (val p)<=4294967400 by omega) w (show p.length+1<274877906944 by omega) Fo N;have cy:=Qlj C.1 (show sz (val q)<=4294967400 by omega) w (show q.length<274877906944 by omega) qp F;obtain⟨R,K,h⟩:=uL (k:=p.length+1) (v:=val p*2^s);obtain⟨m,H,g⟩:=uL (k:=q.length) (v:=val q*2^s);have h:=h N;have g:=g F;obtain⟨X,hX⟩:=nmE (mW (p.length+1) (val p*2^s));obtain⟨Y,hY⟩:=nmE (mW q.length (val q*2^s));rw[<-hX]at R K h cx;rw[<-hY]at m H g cy;have V:4294967296^(q.length-1)<=val q:=SX C q0;have hR:=Qam h g R K m H (show 2<=q.length by omega) (D7 p np.1) V W;refine go tt [.k ca,.k cb,.f (by simpa using c1),.f (by simp[Gh];omega),.f (by simp[Gh];omega),.r 49 (eI (b:=((q.length-1:Nat):Int)) (by rw[Gh];omega)),.x (Rk E),.k cl,.r 57 (eI (b:=((p.length+1:Nat):Int)) (by rw[Gh];omega)),.c [0] cx,.r 62 (eI (b:=(q.length:Int)) (by rw[Gh])),.c [1] cy,.r 65 (eI (b:=(q.length:Int)) (by rw[Gh,m])),.r 70 (eI (b:=((p.length-q.length+1:Nat):Int)) (by rw[Gh];omega)),.i (p.length-q.length+1),.i (p.length-q.length+1),.r 73 (eI (b:=((p.length-q.length+1:Nat):Int)) Ft)] rfl ?_ ?_
  .simp only[Gi,Ts,IntKind.bits,Gh];omega
  .rw[HW];refine pb 1 rfl rfl ?_;refine lp (S:=Int×Fa×Fa) 3 (λL1 s=>(13,.v (.oi s.1))::L1) (λs=>[.row false 127 1 (lm s.2.2),.gone,.row false 127 1 (lm s.2.1)]) (λs=>(s.1+1).toNat)
    (λs=>-1<=s.1/\s.1<p.length-q.length+1/\s.2.1.length=p.length-q.length+1/\Sm s.2.1/\Rest s.2.2 Y p.length q.length (s.1+1).toNat/\val (s.2.1.drop (s.1+1).toNat)*4294967296^(s.1+1).toNat*val Y+val s.2.2=val X) (((p.length-q.length+1:Nat):Int)-1,List.replicate (p.length-q.length+1) 0,X)
    ⟨Fv,Fv,Ft,λx hx=>by rw[List.eq_of_mem_replicate hx];decide,by simpa using hR,by simp[val]⟩ rfl (λ_ _=>rfl) rfl λ⟨i,oq,d⟩ ⟨j1,j2,j3,Z,j5,j6⟩=>?_
   dsimp only at j1 j2 j3 Z j5 j6 ⊢;rcases Kv i 0 with hi|hi
   .obtain rfl:i=-1:=Fo;simp only[show((-1:Int)+1).toNat=0 from rfl,Jd,Yu,Ye]at j5 j6;have B:val d<val q*2^s:=by have:=j5.lt;rw[g]at this;simpa using this
    have j:=Qpf (x:=val p) (y:=val q) (s:=s) (r:=val d) (q:=oq) A (by rw[<-h,<-g];exact j6) B;have Q:=j5.ol;have L:=Qbf (o:=d) (n:=q.length) Fo (Nat.lt_trans B F);have M:sz (val (d.take q.length))<=4294967400:=by
     rw[L,j.2];have h1:=Qqh (val p % val q) (2^s);have h2':=Sk (Ys (Xf (val p) A));have h3:sz (2^s)<=s+1:=Db.2 (Nat.pow_lt_pow_right Fp Fo);omega
    have cs:=Q3d (a:=d.take q.length) (λu hu=>j5.ob u (Qn hu)) M w;rw[L,j.2,Nat.mul_div_cancel _ (Zz Fp)]at cs;have cq:=FR Z;rw[j.1]at cq;exact Uz [.f Fp,.p 2,.p 0,.k cq,.i q.length,.r 95 (v:=lr (d.take q.length)) (by simp[lm]),.k cs] rfl rfl (by simp[Gi,Ts,Gh];omega)
   .obtain⟨k,rfl⟩:=K8 hi;have e:((k:Int)+1).toNat=k+1:=Fo;rw[e]at j5 j6;obtain⟨top,nx,xn,x1,x2,D⟩:=j5.dig;have Q:=j5.ol;have hm:=j5.hm;have cd:=Qks (o:=d) (lo:=k) Fo (m.symm ▸ D) Fo;rw[m]at cd;have J:=PT (o:=d) (i:=k) (n:=q.length) Fo;have I:val (HO d k q.length) % val Y<4294967296^(q.length+1):=by
     have h3:=D7 (HO d k q.length) D.xb;rw[J]at h3;exact Xe (Nat.mod_le _ _) h3
    obtain⟨d1,d2,d3⟩:=uL (k:=q.length+1) (v:=val (HO d k q.length) % val Y);have O:=j5.next (w':=mW (q.length+1) (val (HO d k q.length) % val Y)) (d1.trans J.symm) d2 (d3 I) (q:=oq) Fo j6;have U:=D.qlt;refine go tt [.t Ft,.i k,.i (k+q.length+1),.r 87 (v:=.one (.orow 0 1 (some (k,q.length+1)))) (by rw[show k+q.length+1-k=q.length+1 by omega]),.c [0] cd,.i k] rfl ?_ ?_
    .simp only[Gi,Gh];omega
    .rw[Lt];refine rd ((k:Int)-1,oq.set k (val (HO d k q.length) / val Y),d.take k++mW (q.length+1) (val (HO d k q.length) % val Y)++d.drop (k+q.length+1)) Fv ⟨Fv,Fv,by simp[j3],D4 Z _ _ U,?_,?_⟩ rfl
     .dsimp only;rw[show((k:Int)-1+1).toNat=k from Fo];exact O.1
     .dsimp only;rw[show((k:Int)-1+1).toNat=k from Fo];exact O.2
def sg(z:Int):LV:=.bool (decide (z<0))
def mg(z:Int):LV:=.row (lm (He z.natAbs))
abbrev Rr(z:Int):Fe:=[sg z,mg z]
def Hi(x y:LV)(z:Int):Prop:=∃b l,x=.bool b/\y=.row (lm l)/\Sm l/\z=Gn b (val l)
theorem Gb(z:Int):Hi (sg z) (mg z) z:=by
 refine⟨_,_,rfl,rfl,A4 _,?_⟩;rw[Re];unfold Gn;by_cases h:z<0 <;> simp[h] <;> omega
theorem Q04(b:Bool)(m:Nat):[LV.bool (b && decide (0<m)),LV.row (lm (He m))]=Rr (Gn b m):=by
 simp only[Rr,sg,mg,qN,Sy]
variable{m:Nat}
theorem Ae:0<(He m).length↔0<m:=by
 rcases Q0 m with h|h
 .subst h;rw[Ru];simp
 .rw[Oa Fo];simp[h]
theorem Ny(b:Bool)(m:Nat):U5 174 [lr (He m),.one (.bool b)] [.agg (Rr (Gn b m))]:=by
 rw[<-Q04];have e:=Ae (m:=m);cases b with
 |false=>exact U0 func174 rfl [.f rfl] rfl
 |true=>exact U0 func174 rfl [.t rfl] rfl (by simp[Gh,e]) trivial
theorem Nu{b:Bool}{k:Nat}(h:Gm (Gn b m)<=k):sz m<=k:=by
 unfold Gm at h;rwa[Sy]at h
variable{x y:LV}{z:Int}
theorem Bz(hi:Hi x y z)(hs:Gm z<=4294967295):U5 109 [.agg [x,y]] [.agg (Rr z)]:=by
 obtain⟨b,l,rfl,rfl,hl,rfl⟩:=hi;exact U0 func109 rfl [.k (GX hl (Qa (Nu hs) Fp)),.k (Ny _ _)] rfl
theorem TU(b:Bool)(m:Nat):Gn (!b) m=-(Gn b m):=by unfold Gn;cases b <;> simp
theorem AB(hi:Hi x y z)(hs:Gm z<=4294967295):U5 170 [.agg [x,y]] [.agg (Rr (-z))]:=by
 obtain⟨b,l,rfl,rfl,hl,rfl⟩:=hi;rw[<-TU];exact U0 func170 rfl [.k (GX hl (Qa (Nu hs) Fp)),.k (Ny _ _)] rfl
theorem Nx{g f:LV}{a:Int}(hi:Hi x y z)(hi':Hi g f a)(hs:Gm z<=4294967295)(c:Gm a<=4294967295):U5 200 [.agg [x,y],.agg [g,f]] [.agg (Rr (z*a))]:=by
 obtain⟨b,l,rfl,rfl,hl,rfl⟩:=hi;obtain⟨b',l',rfl,rfl,d,rfl⟩:=hi';have e:Gn b (val l)*Gn b' (val l')=Gn (b != b') (val l*val l'):=by
  unfold Gn;cases b <;> cases b' <;> simp[Int.neg_mul,Int.mul_neg]
 rw[e];exact U0 func200 rfl [.k (Q28 hl d (Qa (Nu hs) Fp) (Qa (Nu c) Fp)),.k (Ny _ _)] rfl
theorem AO{a b:Fa}(ha:Sm a)(hb:Sm b)(h1:sz (val a)<=4294967296)(h:val b<=val a):U5 262 [lr a,lr b] [lr (He (val a-val b)),.one (.bool true)]:=by
 have:=Qw9 ha hb h1;rwa[if_pos h]at this
theorem Qkh{a b:Fa}(ha:Sm a)(hb:Sm b)(h1:sz (val a)<=4294967296)(h:val a<val b):U5 262 [lr a,lr b] [lr [],.one (.bool false)]:=by
 have:=Qw9 ha hb h1;rwa[if_neg Fo]at this
theorem GV{j i:LV}{d:Int}(hi:Hi x y z)(hi':Hi j i d)(hs:Gm z<=4294967295)(g:Gm d<=4294967295):U5 244 [.agg [x,y],.agg [j,i]] [.agg (Rr (z+d))]:=by
 obtain⟨b,l,rfl,rfl,hl,rfl⟩:=hi;obtain⟨b',l',rfl,rfl,a,rfl⟩:=hi';have c:=Qa (Nu hs) (show 4294967295<=4294967296 by decide);have m:=Qa (Nu g) (show 4294967295<=4294967296 by decide);by_cases hb:b=b'
 .subst hb;have e:Gn b (val l)+Gn b (val l')=Gn b (val l+val l'):=by unfold Gn;cases b <;> simp <;> omega
  rw[e];exact U0 func244 rfl [.t Ft,.k (Qw4 hl a c m),.k (Ny _ _)] rfl
 .by_cases h:val l'<=val l
  .have e:Gn b (val l)+Gn b' (val l')=Gn b (val l-val l'):=by unfold Gn;cases b <;> cases b' <;> simp at hb ⊢ <;> omega
   rw[e];exact U0 func244 rfl [.f (by simpa using hb),.k (AO hl a c h),.t rfl,.k (Ny _ _)] rfl
  .have e:Gn b (val l)+Gn b' (val l')=Gn b' (val l'-val l):=by unfold Gn;cases b <;> cases b' <;> simp at hb ⊢ <;> omega
   rw[e];exact U0 func244 rfl [.f (by simpa using hb),.k (Qkh hl a c Fo),.f rfl,.k (AO a hl m Fo),.k (Ny _ _)] rfl
theorem Qkp{g f:LV}{c:Int}(hi:Hi x y z)(hi':Hi g f c)(hs:Gm z<=4294967295)(d:Gm c<=4294967295):U5 254 [.agg [x,y],.agg [g,f]] [.agg (Rr (z-c))]:=by
 obtain⟨b',l',rfl,rfl,e,rfl⟩:=hi';have hn:Hi (.bool (!b')) (.row (lm l')) (-(Gn b' (val l'))):=⟨_,_,rfl,rfl,e,(TU _ _).symm⟩;rw[Int.sub_eq_add_neg];have a:=hi;obtain⟨b,l,rfl,rfl,hl,_⟩:=hi;exact U0 func254 rfl [.k (GV a hn hs (by rw[Rq];exact d))] rfl
theorem Qlc(hi:Hi x y z)(hs:Gm z<=4294967295):U5 203 [.agg [x,y]] [.oi (Int.sign z)]:=by
 obtain⟨b,l,rfl,rfl,hl,rfl⟩:=hi;have a:=Qa (Nu hs) (show 4294967295<=4294967296 by decide);have cb:=eL hl a;by_cases h0:val l=0
 .have e:Gn b (val l)=0:=by unfold Gn;rw[h0];cases b <;> simp
  rw[e];exact U0 func203 rfl [.k cb,.t (by simp[zA,h0])] rfl
 .have xH:sz (val l)≠0:=λh=>h0 (zA.1 h)
  cases b
  .have e:(Gn false (val l)).sign=1:=Int.sign_eq_one_of_pos (by unfold Gn;simp;omega);rw[e];exact U0 func203 rfl [.k cb,.f Fq,.f rfl] rfl
  .have e:(Gn true (val l)).sign=-1:=Int.sign_eq_neg_one_of_neg (by unfold Gn;simp;omega);rw[e];exact U0 func203 rfl [.k cb,.f Fq,.t rfl] rfl
theorem MX{n m:LV}{z':Int}(hi:Hi x y z)(hi':Hi n m z')(hs:Gm z<=4294967295)(j:Gm z'<=4294967295):U5 140 [.agg [x,y],.agg [n,m]] [.oi (Dv z z')]:=by
 have g:=Qlc hi hs;have h:=Qlc hi' j;obtain⟨b,l,rfl,rfl,hl,hz⟩:=hi;obtain⟨b',l',rfl,rfl,a,i⟩:=hi';have p:=QV z;have o:=QV z';have zl:z.natAbs=val l:=by rw[hz,Sy]
 have c:z'.natAbs=val l':=by rw[i,Sy]
 by_cases h1:z.sign<z'.sign
 .have e:Dv z z'=-1:=by unfold Dv;rw[if_pos Fo]
  rw[e];exact U0 func140 rfl [.k g,.k h,.t (by simpa using h1)] rfl
 .by_cases h2:z'.sign<z.sign
  .have e:Dv z z'=1:=by unfold Dv;rw[if_neg Fo,if_pos Fo]
   rw[e];exact U0 func140 rfl [.k g,.k h,.f (by simpa using h1),.t (by simpa using h2)] rfl
  .by_cases h3:z.sign<0
   .have e:YE (val l') (val l)=Dv z z':=by unfold Dv YE;rw[<-zl,<-c];split <;> split <;> (try split) <;> (try split) <;> omega
    have d:=Qjg a hl;rw[e]at d;exact U0 func140 rfl [.k g,.k h,.f (by simpa using h1),.f (by simpa using h2),.t (by simpa using h3),.k d] rfl
   .have e:YE (val l) (val l')=Dv z z':=by unfold Dv YE;rw[<-zl,<-c];split <;> split <;> (try split) <;> (try split) <;> omega
    have d:=Qjg hl a;rw[e]at d;exact U0 func140 rfl [.k g,.k h,.f (by simpa using h1),.f (by simpa using h2),.f (by simpa using h3),.k d] rfl
theorem Ep:U5 154 [.agg (Rr z)] [.one (.bool (decide (z=0)))] :=
 U0 func154 rfl [] rfl (by simp only[Gh];congr 3;have:=Ae (m:=z.natAbs);rw[decide_eq_decide];omega) trivial
theorem AD(h1:-9223372036854775808<=z/\z<=9223372036854775807):U5 110 [.oi z] [.agg (Rr z)]:=by
 obtain⟨m,hm⟩:=nmE (z.natAbs);have sm:Sm [m % 4294967296,m / 4294967296]:=λx hx=>by
  simp at hx;rcases hx with rfl|rfl <;> omega
 have hv:val [m % 4294967296,m / 4294967296]=m:=by simp only[val];omega
 have c:=GX sm (by rw[hv];exact Qa (Db.2 (show m<2^64 by omega)) (show 64<=4294967296 by decide));rw[hv]at c;by_cases hz:z<0
 .have e:Gn true m=z:=by unfold Gn;simp;omega
  have a:=Ny true m;rw[e]at a;exact U0 func110 rfl [.w 0,.r 5 (Ad (b:=((18446744073709551616-m:Nat):Int)) (by rw[w64];omega)),.t (by simpa using hz),.w 0,.r 9 (Ad (b:=(m:Int)) (by rw[w64];omega)),.w 0,.r 11 (Iw (b:=((m % 4294967296:Nat):Int)) (by rw[wP];omega)),.i 32,.r 13 (Ad (b:=((m / 4294967296:Nat):Int)) Ft),.k c,.r 18 (v:=.one (.bool true)) (by simp[hz]),.k a] rfl rfl (by simp[Gi,IntKind.bits] <;> omega)
 .have e:Gn false m=z:=by unfold Gn;simp;omega
  have a:=Ny false m;rw[e]at a;exact U0 func110 rfl [.w 0,.r 5 (Ad (b:=(m:Int)) (by rw[w64];omega)),.f (by simpa using hz),.w 0,.r 11 (Iw (b:=((m % 4294967296:Nat):Int)) (by rw[wP];omega)),.i 32,.r 13 (Ad (b:=((m / 4294967296:Nat):Int)) Ft),.k c,.r 18 (v:=.one (.bool false)) Fq,.k a] rfl rfl (by simp[Gi,IntKind.bits] <;> omega)
theorem aQ{n:Nat}(h1:sz m<=4294967296)(h2:sz n<=4294967296)(hn:0<n):U5 214 [lr (He m),lr (He n)] [lr (He (m / n)),lr (He (m % n)),.oi 0]:=by
 have:=pZ (A4 m) (A4 n) (by rw[Re];exact h1) (by rw[Re];exact h2) (by rw[Re];exact hn);rwa[Re,Re]at this
theorem Qgi{u r:LV}{c:Int}(hi:Hi x y z)(hi':Hi u r c)(hs:Gm z<=4294967295)(q:Gm c<=4294967295)(hz:c≠0):U5 215 [.agg [x,y],.agg [u,r]] [.agg (Rr (z / c)),.agg (Rr (z % c)),.oi 0]:=by
 obtain⟨b,l,rfl,rfl,hl,g⟩:=hi;obtain⟨b',l',rfl,rfl,h,e⟩:=hi';have zl:z.natAbs=val l:=by rw[g,Sy]
 have d:c.natAbs=val l':=by rw[e,Sy]
 have s:sz (val l)<=4294967296:=Qa (Nu (g ▸ hs)) Fp;have o:sz (val l')<=4294967296:=Qa (Nu (e ▸ q)) Fp;have hp:0<c.natAbs:=Fo;have n:z=if b=true then -(z.natAbs:Int)else(z.natAbs:Int):=by rw[zl];exact g
 have p:c=if b'=true then -(c.natAbs:Int)else(c.natAbs:Int):=by rw[d];exact e
 have cd:=pZ hl h s o Fo;rw[<-zl,<-d]at cd;have s0:sz (z.natAbs % c.natAbs)<=4294967296:=Qa (Sk (Ys (Xf _ hp))) (by rw[d];exact o);cases b with
 |
  false =>
  obtain⟨i,j⟩:=OZ p hp n;rw[i,j];exact U0 func215 rfl [.k cd,.f rfl,.k (Ny _ _),.k (Ny _ _),.f rfl,.f rfl] rfl
 |
  true =>
  by_cases h0:z.natAbs % c.natAbs=0
  .obtain⟨i,j⟩:=DW p hp n h0;rw[i,j];exact U0 func215 rfl [.k cd,.f rfl,.k (Ny _ _),.k (Ny _ _),.t rfl,.f (by rw[h0,Ru];rfl)] rfl
  .obtain⟨i,j⟩:=OQ p hp n Fo;rw[i,j];have v:=Qw4 (a:=He (z.natAbs / c.natAbs)) (b:=[1]) (A4 _) (λx hx=>by simp at hx;subst hx;decide) (by rw[Re];exact Qa (Sk (J8 _ _)) (by rw[zl];exact s)) Fp;have cs:=AO (a:=l') (b:=He (z.natAbs % c.natAbs)) h (A4 _) o (by rw[Re,<-d];exact Ys (Xf _ hp));rw[Re]at v cs;rw[<-d]at cs;have w:=Ae (m:=z.natAbs % c.natAbs);exact U0 func215 rfl [.k cd,.f rfl,.k (Ny _ _),.k (Ny _ _),.t rfl,.t (by simp[Gh];omega),.k v,.k cs,.k (Ny _ _),.k (Ny _ _)] rfl
theorem QG{e d:LV}{a:Int}(hi:Hi x y z)(hi':Hi e d a)(hs:Gm z<=4294967295)(c:Gm a<=4294967295)(hz:a≠0)(hd:z % a=0):U5 171 [.agg [x,y],.agg [e,d]] [.agg (Rr (z / a)),.oi 0]:=by
 have cd:=Qgi hi hi' hs c hz;obtain⟨b,l,rfl,rfl,_⟩:=hi;obtain⟨b',l',rfl,rfl,_⟩:=hi';exact U0 func171 rfl [.k cd,.f rfl,.f (by rw[hd];simp[Gh,Ru])] rfl
end Orr
namespace Orr
open Go
abbrev Q6l(l:Fa):LV:=.row (lm l)
def S8(l:U8):Nat:=l.foldl (λg z=>Nat.gcd g z.natAbs) 0
variable{l:U8}{i:Nat}{z:Int}
theorem yI(h:l[i]? = some z):S8 (l.take (i+1))=Nat.gcd (S8 (l.take i)) z.natAbs:=by
 unfold S8;rw[Vb,h];simp[V8]
theorem Qt5(g x:Nat):Nat.gcd x (g % x)=Nat.gcd g x:=by
 rw[Nat.gcd_comm g x,Nat.gcd_rec x g,Nat.gcd_comm]
theorem xA(l:U8):l.foldl (λg z=>Nat.gcd g z.natAbs) 1=1:=by
 induction l with
 |nil=>rfl
 |cons z l a=>simp[a]
theorem Qmx(h:S8 (l.take i)=1):S8 l=1:=by
 have e:l=l.take i++l.drop i:=(Zi i l).symm;unfold S8 at h ⊢;rw[e,V8,h,xA]
def trim:U8->U8
 | []=>[]
 |
  x::l=>match trim l with
  | []=>if x=0 then []else [x]
  |y::k=>x::y::k
theorem HH:∀{l:U8},(∀x∈l,x=0)->trim l=[]
 | [],_=>rfl
 |
  x::l,h=>by
  have b:=HH (l:=l) (λy a=>h y (Qi _ a));simp[trim,b,h x (Qy ..)]
theorem wR:∀{l:U8} {m:Nat} {y:Int},(∀j x,m<j->l[j]? = some x->x=0)->l[m]? = some y->y≠0->trim l=l.take (m+1)
 | [],m,y,_,h,_=>by simp at h
 |
  x::l,0,y,h1,h2,h3=>by
  have h0:trim l=[]:=HH λz hz=>by
   obtain⟨j,b⟩:=Zm.1 hz;exact h1 (j+1) z Fo (by simpa using b)
  simp at h2;subst h2;simp[trim,h0,h3]
 |
  x::l,m+1,y,h1,h2,h3=>by
  have a:=wR (l:=l) (m:=m) (y:=y) (λj z b hz=>h1 (j+1) z Fo (by simpa using hz)) (by simpa using h2) h3;cases hl:l with
  |nil=>subst hl;simp at h2
  |
   cons u k =>
   subst hl;rw[Vr]at a;simp only[trim]at a ⊢;rw[a];simp
def Gg(l:U8):Prop:=trim l=l
theorem Tp:∀(l:U8),Gg (trim l)
 | []=>rfl
 |
  x::l=>by
  have a:=Tp l;unfold Gg at a ⊢;cases h:trim l with
  |nil=>by_cases hx:x=0 <;> simp[trim,h,hx]
  |
   cons y k =>
   rw[h]at a;simp only[trim,h]at a ⊢;rw[a]
theorem dA{m:Nat}(hm:m<=l.length)(h1:∀j x,m<=j->l[j]? = some x->x=0)(h2:0<m->∃y,l[m-1]? = some y/\y≠0):trim l=l.take m:=by
 rcases Q0 m with h0|h0
 .subst h0;rw[HH λz hz=>?_];rfl;obtain⟨j,b⟩:=Zm.1 hz;exact h1 j z Fo b
 .obtain⟨y,c,a⟩:=h2 h0;have:=wR (l:=l) (m:=m-1) (y:=y) (λj x b hx=>h1 j x Fo hx) c a;rwa[show m-1+1=m from Fo]at this
def IsInts:Ff->U8->Prop
 | [],[]=>True
 |x::l,z::p=>(∃a b,x=[a,b]/\Hi a b z)/\IsInts l p
 |_,_=>False
theorem IsInts.len:∀{l:Ff} {p:U8},IsInts l p->l.length=p.length
 | [],[],_=>rfl
 |x::l,z::p,h=>by simp[h.2.len]
 | [],_::_,h=>h.elim
 |_::_,[],h=>h.elim
theorem IsInts.get:∀{l:Ff} {p:U8},IsInts l p->∀{i:Nat} {z:Int},p[i]? = some z->∃a b,l[i]? = some [a,b]/\Hi a b z
 | [],[],_,i,z,h=>by simp at h
 |
  x::l,y::p,h,0,z,hz=>by
  simp at hz;subst hz;obtain⟨a,b,rfl,hi⟩:=h.1;exact⟨a,b,rfl,hi⟩
 |x::l,y::p,h,i+1,z,hz=>by simpa using h.2.get (i:=i) (by simpa using hz)
 | [],_::_,h,_,_,_=>h.elim
 |_::_,[],h,_,_,_=>h.elim
theorem H5:∀(p:U8),IsInts (p.map Rr) p
 | []=>trivial
 |z::p=>⟨⟨_,_,rfl,Gb z⟩,H5 p⟩
theorem IsInts.append:∀{l l':Ff} {p a:U8},IsInts l p->IsInts l' a->IsInts (l++l') (p++a)
 | [],_,[],_,_,h=>h
 |x::l,_,z::p,_,h,h'=>⟨h.1,h.2.append h'⟩
 | [],_,_::_,_,h,_=>h.elim
 |_::_,_,[],_,h,_=>h.elim
def pl(p:U8):LV:=.row (p.map Rr)
def ids(l:U8):LV:=.row (l.map λ(x:Int)=>[.int .i64 x])
theorem YQ:Hi (.bool false) (.row []) 0:=⟨false,[],rfl,rfl,(λx hx=>by cases hx),rfl⟩
theorem Qv0:sg 0=.bool false:=rfl
theorem Qhn:(He z.natAbs).length=0↔z=0:=by
 constructor
 .intro h;have h0:=Qg h;have:=(SJ (Lb z.natAbs)).2 h0;rw[Re]at this;omega
 .rintro rfl;rw[show(0:Int).natAbs=0 from rfl,Ru];rfl
theorem Ra{α β:Type}{f:α->β}{l:List α}{x:α}(h:l[i]? = some x):(l.map f)[i]? = some (f x):=by rw[Q9,h];rfl
theorem Qxx{α:Type}{f:α->Fe}{sz:Nat}(l:List α)(h:∀x,(f x).length=sz):∀c∈l.map f,c.length=sz:=λc hc=>by
 obtain⟨x,_,rfl⟩:=Q8.1 hc;exact h x
theorem Quh:mg 0=.row []:=by simp[mg,Ru,lm]
theorem Av:Rr 0=[LV.bool false,LV.row []]:=by simp[Rr,Qv0,Quh]
end Orr
namespace Orr
open Go Go.Proofs Tryz
set_option maxRecDepth 10000
theorem LL{p:U8}(hs:∀z∈p,Gm z≤4294967295):sz (S8 p)≤4294967295:=by
 have a:∀(p:U8) (g:Nat),sz g≤4294967295->(∀z∈p,Gm z≤4294967295)->sz (p.foldl (λg z=>Nat.gcd g z.natAbs) g)≤4294967295:=by
  intro p
  induction p with
  |nil=>exact λg h _=>h
  |
   cons z p ih =>
   intro g h hs;refine ih _ ?_ λy b=>hs y (.tail _ b)
   rcases Q0 g with h0|h0
   .subst h0;show sz (Nat.gcd 0 z.natAbs)<=_;rw[Nat.gcd_zero_left];exact hs z (.head _)
   .exact Qa (Sk (Nat.gcd_le_left _ h0)) h
 exact a p 0 Fp hs
theorem Qjp{l:Ff}{p:U8}(hi:IsInts l p)(hs:∀z∈p,Gm z≤4294967295):U5 169 [.one (.row l)] [.agg (Rr ((S8 p:Nat):Int))]:=by
 refine G7 func169 rfl (ln 0 rfl rfl λhl=>?_);have H:=hi.len;refine Ux [.z 3,.r 3 (v:=lr (He (S8 (p.take 0)))) (by simp[S8,Ru,lm])] rfl ?_;refine ct 2 (S:=Unit) (λ_=>[(2,.v (.one (.ow 0 0))),(3,.v (lr (He (S8 p))))]) (λ_=>[.blk 35 [.bool false,.nils],.gone]) (λ_=>True) rfl ?_ ?_
 .refine U4 (S:=Nat) 1 (λL1 i=>(12,.v (.oi i))::(3,.v (lr (He (S8 (p.take i)))))::L1) (λ_=>[.blk 35 [.bool false,.nils]]) (λi=>p.length-i) (λi=>i<=p.length) 0 (Qj _) rfl rfl λi D=>?_
  by_cases h:i<p.length
  .have w:i<l.length:=Fo;obtain⟨c,hc⟩:=gxE (l:=l) (i:=i) w;obtain⟨z,hz⟩:=gxE (l:=p) (i:=i) h;obtain⟨x,y,a,b,r,rfl,rfl,hr,B⟩:=hi.get hz;rw[hc]at a;injection a with a;subst a
   have hsz:=hs z (Qc hz);have q:sz (S8 (p.take i))<=4294967295:=LL λy G=>hs y (Qn G)
   have j:z.natAbs=val r:=by rw[B,Sy]
   have d:=GX hr (by rw[<-j];exact Qa hsz Fp);rw[<-j]at d;refine Ux [.t Fq,.x hc,.k d] rfl ?_;refine U4 (S:=Nat×Nat) 2 (λL1 s=>(3,.v (lr (He s.1)))::(6,.v (lr (He s.2)))::L1) (λ_=>[.blk 35 [.bool false,.nils],.blk 35 [.bool b,.row (lm r)]]) (λs=>s.2) (λs=>Nat.gcd s.1 s.2=Nat.gcd (S8 (p.take i)) z.natAbs/\sz s.1<=4294967295/\sz s.2<=4294967295) (S8 (p.take i),z.natAbs) ⟨rfl,q,hsz⟩ rfl rfl λ⟨g,u⟩ ⟨o,j2,A⟩=>?_
   dsimp only at o j2 A ⊢;have F:=Ae (m:=u);by_cases hu:0<u
   .have cd:=aQ (m:=g) (n:=u) Fo Fo hu;refine Ux [.t (by simp[Gh];omega),.k cd] rfl ?_;exact rd (u,g % u) (Xf _ hu) ⟨(Qt5 g u).trans o,A,Qa (Sk (Ys (Xf _ hu))) A⟩ rfl
   .obtain rfl:u=0:=Fo;rw[Nat.gcd_zero_right,<-yI hz]at o;subst o;by_cases h1:S8 (p.take (i+1))=1
    .have C:He (S8 (p.take (i+1)))=[1]:=by rw[h1,Oa Fp];simp[Ru]
     refine Ux [.f (by simp[Ru,lm]),.t (by rw[C];rfl),.x (Rk (i:=0) (x:=1) (by rw[C];rfl)),.t rfl] rfl ?_;exact rc () trivial (by rw[h1,Qmx h1];rfl)
    .obtain⟨g,hg⟩:=nmE (S8 (p.take (i+1)));rw[<-hg]at h1 j2 ⊢;by_cases h2:(He g).length=1
     .obtain⟨v,hv⟩:∃v,He g=[v]:=by
       match hm:He g,h2 with
       | [v],_=>exact⟨v,rfl⟩
      have E:v≠1:=λe=>h1 (by rw[<-Re g,hv,e];rfl)
      refine go tt [.f (by simp[Ru,lm]),.t (by simp[Gh,h2]),.x (Rk (i:=0) (x:=v) (by rw[hv];rfl)),.f Fq] rfl Fx ?_;exact rd (i+1) Fo h (by rw[<-hg];rfl)
     .refine go tt [.f (by simp[Ru,lm]),.f (by simp[Gh];omega),.f rfl] rfl Fx ?_;exact rd (i+1) Fo h (by rw[<-hg];rfl)
  .obtain rfl:i=p.length:=Fo;refine Ux [.f Fq] rfl ?_;rw[Q6];exact rc () trivial rfl
 .intro _ _;have d:=GX (A4 (S8 p)) (by rw[Re];exact Qa (LL hs) Fp);rw[Re]at d;exact Uz [.k d,.k (Ny false _)] rfl (by simp[Gn]) trivial
end Orr
namespace Orr
def Bd(s:Nat)(p:U8):Prop:=∀z∈p,Gm z≤s
theorem C0:Gm 0=0:=rfl
variable{s i:Nat}{p:U8}{z:Int}
theorem Qjc(h:Bd s p)(hz:p[i]? = some z):Gm z<=s:=h z (Qc hz)
theorem Gz(h:Bd s p)(k:Nat):Gm (p.getD k 0)<=s:=by
 rw[Qe];cases a:p[k]? with
 |none=>rw[Wh,C0];exact Qj _
 |some z=>exact Qjc h a
variable{t:Nat}
theorem Fz(h:Bd s p)(ht:s<=t):Bd t p:=λz hz=>Qa (h z hz) ht
theorem Om:Bd s []:=λz hz=>by cases hz
variable{g:Nat->Int}
theorem Qyq{n:Nat}(h:∀k,k<n->Gm (g k)<=s):Bd s ((List.range n).map g):=λz hz=>by
 obtain⟨k,a,rfl⟩:=Q8.1 hz;exact h k (K7.1 a)
theorem dO:∀(l:U8),∀z∈trim l,z∈l
 | [],z,h=>by cases h
 |
  x::l,z,h=>by
  have a:=dO l;cases hl:trim l with
  |
   nil =>
   simp only[trim,hl]at h
   split at h
   .cases h
   .rw[Qk]at h;rw[h];exact Qy ..
  |
   cons y k =>
   simp only[trim,hl]at h;rcases Qm.1 h with rfl|h
   .exact Qy ..
   .exact Qi _ (a z (by rw[hl];exact h))
theorem Tu(l:U8):(trim l).length<=l.length:=by
 induction l with
 |nil=>exact Ql _
 |
  cons x l ih =>
  cases hl:trim l with
  |nil=>simp only[trim,hl];split <;> simp
  |cons y k=>simp only[trim,hl];rw[hl]at ih;simp at ih ⊢;exact ih
theorem Pv(h:Bd s p):Bd s (trim p):=λz hz=>h z (dO p z hz)
theorem E7:∀(l:U8) (k:Nat),(trim l).getD k 0=l.getD k 0
 | [],k=>rfl
 |
  x::l,k=>by
  have a:=E7 l;cases hl:trim l with
  |
   nil =>
   rw[hl]at a;simp only[trim,hl]
   split
   .rename_i hx;cases k with
    |zero=>simp[hx]
    |succ k=>have:=a k;simp at this ⊢;exact this
   .cases k with
    |zero=>simp
    |succ k=>have:=a k;simp at this ⊢;exact this
  |
   cons y m =>
   rw[hl]at a;simp only[trim,hl];cases k with
   |zero=>simp
   |succ k=>have:=a k;simp at this ⊢;exact this
def B7(n:Nat)(g:Nat->Int):U8:=trim ((List.range n).map g)
theorem Gs(n:Nat)(g:Nat->Int):Gg (B7 n g):=Tp _
theorem Oq(n:Nat)(g:Nat->Int):(B7 n g).length<=n:=Qa (Tu _) Ft
theorem Pe(n:Nat)(g:Nat->Int)(k:Nat):(B7 n g).getD k 0=if k<n then g k else 0:=by
 unfold B7;rw[E7,Qe,Q9]
 split
 .rename_i h;rw[List.getElem?_range h];rfl
 .rename_i h;rw[List.getElem?_eq_none (by simpa using h)];rfl
theorem JF{n:Nat}(h:∀k,k<n->Gm (g k)<=s):Bd s (B7 n g):=Pv (Qyq h)
def QW(p q:U8):U8:=B7 (max p.length q.length) λk=>p.getD k 0+q.getD k 0
def Mh(p q:U8):U8:=B7 (max p.length q.length) λk=>p.getD k 0-q.getD k 0
def Bt(p:U8):U8:=B7 p.length λk=>-(p.getD k 0)
def G5(p:U8)(c:Int):U8:=B7 p.length λk=>p.getD k 0*c
def Hh(p:U8):U8:=B7 (p.length-1) λk=>p.getD (k+1) 0*((k+1:Nat):Int)
theorem WC{q:U8}(h:Bd s p)(a:Bd t q):Bd (max s t+1) (QW p q):=JF λk _=>Qa (YZ _ _) (by have:=Gz h k;have:=Gz a k;omega)
theorem E9{q:U8}(h:Bd s p)(a:Bd t q):Bd (max s t+1) (Mh p q):=JF λk _=>Qa (LI _ _) (by have:=Gz h k;have:=Gz a k;omega)
theorem RJ(h:Bd s p):Bd s (Bt p):=JF λk _=>by rw[Rq];exact Gz h k
theorem Hj{c:Int}(h:Bd s p)(hc:Gm c<=t):Bd (s+t) (G5 p c):=JF λk _=>Qa (G9 _ _) (by have:=Gz h k;omega)
theorem XG(p q:U8):(QW p q).length<=max p.length q.length:=Oq _ _
theorem No(p q:U8):(Mh p q).length<=max p.length q.length:=Oq _ _
theorem O2(p:U8):(Bt p).length<=p.length:=Oq _ _
theorem Ha(p:U8)(c:Int):(G5 p c).length<=p.length:=Oq _ _
theorem P7(p:U8):(Hh p).length<=p.length-1:=Oq _ _
theorem fS{k:Nat}(h:k<2^t):Gm (k:Int)<=t:=by rw[Pi];simpa using h
theorem Qhl{k:Nat}(h:k<274877906944):Gm (k:Int)<=4294967295:=Qa (fS (t:=38) (Kz h Fp)) Fo
theorem LX(h:Bd s p)(hl:p.length<=2^t):Bd (s+t) (Hh p):=JF λk a=>Qa (G9 _ _) (by
 have:=Gz h (k+1);have:=fS (k:=k+1) (t:=t) Fo;omega)
def XT(x:Int)(b:U8)(i:Nat)(o:U8):Nat->U8
 | 0=>o
 |k+1=>(XT x b i o k).set (i+k) ((XT x b i o k).getD (i+k) 0+x*b.getD k 0)
def Ic(a b o:U8):Nat->U8
 | 0=>o
 |i+1=>XT (a.getD i 0) b i (Ic a b o i) b.length
def Hb(a b:U8):U8:=if a.length=0\/b.length=0 then []else trim (Ic a b (List.replicate (a.length+b.length-1) 0) a.length)
theorem XS(x:Int)(b:U8)(i:Nat)(o:U8)(k:Nat):(XT x b i o k).length=o.length:=by
 induction k with
 |zero=>rfl
 |succ k a=>simp[XT,a]
theorem As(a b o:U8)(i:Nat):(Ic a b o i).length=o.length:=by
 induction i with
 |zero=>rfl
 |succ i c=>simp[Ic,XS,c]
theorem Qm3(l:U8)(i m:Nat)(v:Int)(h:i<l.length):(l.set i v).getD m 0=if m=i then v else l.getD m 0:=by
 rw[Qe,Ju,Qe];by_cases e:i=m
 .subst e;simp[h]
 .rw[if_neg e,if_neg (λh=>e h.symm)]
theorem vT(x:Int)(b:U8)(i:Nat)(o:U8)(k m:Nat)(h:i+k<=o.length):(XT x b i o k).getD m 0=if i<=m/\m<i+k then o.getD m 0+x*b.getD (m-i) 0 else o.getD m 0:=by
 induction k with
 |zero=>simp only[XT];rw[if_neg Fo]
 |
  succ k a =>
  have a:=a Fo;simp only[XT];rw[Qm3 _ _ _ _ (by rw[XS];omega)];by_cases e:m=i+k
  .subst e;rw[if_pos rfl,if_pos Fo,show i+k-i=k from Fo];rw[a,if_neg Fo]
  .rw[if_neg e,a];by_cases h1:i<=m/\m<i+k
   .rw[if_pos h1,if_pos Fo]
   .rw[if_neg h1,if_neg Fo]
theorem C5{x y:Int}(hx:Gm x<=s)(a:Gm y<=t):(x*y).natAbs<=2^(s+t):=by
 have h:=Qa (G9 x y) (show _<=s+t by omega);rw[Pi]at h;omega
theorem gR{x:Int}{b:U8}{o:U8}{k M:Nat}(h:i+k<=o.length)(a:∀m,(o.getD m 0).natAbs<=i*M)(hx:∀j,(x*b.getD j 0).natAbs<=M)(m:Nat):((XT x b i o k).getD m 0).natAbs<=(i+1)*M:=by
 rw[vT x b i o k m h,Xh];have h1:=a m
 split
 .have h2:=hx (m-i);generalize i*M=q at *;omega
 .omega
theorem gG{a b o:U8}{M:Nat}(h:∀j,j<i->j+b.length<=o.length)(c:∀m,o.getD m 0=0)(hx:∀i j,(a.getD i 0*b.getD j 0).natAbs<=M)(m:Nat):((Ic a b o i).getD m 0).natAbs<=i*M:=by
 induction i generalizing m with
 |zero=>simp only[Ic];rw[c];simp
 |
  succ i ih =>
  simp only[Ic];exact gR (by rw[As];exact h i Fo) (ih λj d=>h j Fo) (hx i) m
theorem ZR(h:z.natAbs<=i*2^s)(hi:i<2^t):Gm z<=s+t:=by
 rw[Pi];have h1:i*2^s<2^t*2^s:=X2 hi (Zz Fp);rw[<-Xj,Yb t s]at h1;omega
theorem Tw(n m:Nat):(List.replicate n (0:Int)).getD m 0=0:=by
 rw[Qe,Yj];split <;> rfl
theorem AQ(h:∀m,Gm (p.getD m 0)<=s):Bd s p:=λz hz=>by
 obtain⟨i,hi⟩:=Zm.1 hz;have:=h i;rw[Qe,hi]at this;exact this
theorem P8(a b:U8):(Hb a b).length<=a.length+b.length-1:=by
 unfold Hb
 split
 .simp
 .refine Qa (Tu _) ?_;rw[As];simp
theorem Mv{u:Nat}{a b:U8}(ha:Bd s a)(hb:Bd t b)(hl:a.length<2^u):Bd (s+t+u) (Hb a b):=by
 unfold Hb
 split
 .exact Om
 .refine Pv (AQ λm=>?_);exact ZR (gG (M:=2^(s+t)) (λj c=>Fq) (Tw _) (λi j=>C5 (Gz ha i) (Gz hb j)) m) hl
theorem Hf(a b:U8):Gg (Hb a b):=by
 unfold Hb
 split
 .rfl
 .exact Tp _
def Ce(a:U8)(n d:Int):Nat->Int×Int
 | 0=>(0,1)
 |k+1=>((Ce a n d k).1*n+a.getD (a.length-1-k) 0*(Ce a n d k).2,(Ce a n d k).2*d)
def Qvf(a:U8)(n d:Int):Int:=(Ce a n d a.length).1
theorem tI{a:U8}{n d:Int}{k:Nat}(ha:Bd s a)(hn:Gm n<=t)(hd:Gm d<=t):Gm (Ce a n d k).1<=s+2+k*(t+1)/\Gm (Ce a n d k).2<=1+k*t:=by
 induction k with
 |zero=>exact⟨by simp[Ce,C0],by simp[Ce];decide⟩
 |
  succ k ih =>
  obtain⟨h1,h2⟩:=ih;have h3:=Gz ha (a.length-1-k);have b:k*(t+1)=k*t+k:=by rw[Xw,Ye]
  rw[Xh,Xh];refine⟨?_,?_⟩
  .simp only[Ce];refine Qa (YZ _ _) ?_;have h4:=G9 (Ce a n d k).1 n;have h5:=G9 (a.getD (a.length-1-k) 0) (Ce a n d k).2;generalize k*t=q at *;rw[b]at h1 ⊢;omega
  .simp only[Ce];have h4:=G9 (Ce a n d k).2 d;generalize k*t=q at *;omega
end Orr
namespace Orr
theorem uN{x y:Int}:Dv x y=0↔x=y:=by
 unfold Dv;constructor
 .intro h
  split at h
  .omega
  .split at h <;> omega
 .rintro rfl;simp
theorem Tg{p:U8}(h:Gg p)(h0:0<p.length):p.getD (p.length-1) 0≠0:=by
 induction p with
 |nil=>simp at h0
 |
  cons x l a =>
  unfold Gg at h;cases hl:trim l with
  |
   nil =>
   simp only[trim,hl]at h
   split at h
   .cases h
   .rename_i hx;injection h with h1 h2;subst h2;simpa using hx
  |
   cons y k =>
   simp only[trim,hl]at h;injection h with h1 h2;rw[<-hl]at h2;have a:=a h2 (by rw[<-h2,hl];simp);have h3:0<l.length:=by rw[<-h2,hl];simp
   simp only[Q5,Yy];obtain⟨m,hm⟩:∃m,l.length=m+1:=⟨l.length-1,Fo⟩;rw[hm]at a ⊢;simpa using a
end Orr
namespace Orr
theorem nN(p:U8):(List.range p.length).map (λk=>p.getD k 0)=p:=by
 apply Xu;intro i;rw[Q9];rcases Q7 i p.length with h|h
 .rw[Jh h];simp[Qf h]
 .rw[Qu (by simpa using h),Qu h];rfl
theorem OH{p q:U8}(hl:p.length=q.length)(h:∀j,j<p.length->p.getD j 0=q.getD j 0):p=q:=by
 rw[<-nN p,<-nN q,<-hl];exact X5 λj a=>h j (K7.1 a)
end Orr
namespace Orr
abbrev rl(q:Rat):Fe:=[sg q.num,mg q.num,sg (q.den:Int),mg (q.den:Int)]
theorem Ao(n d:Int):S8 [n,d]=Int.gcd d n:=by
 unfold S8;simp only[Xn,List.foldl_nil,Nat.gcd_zero_left];exact Nat.gcd_comm _ _
variable{n d:Int}
theorem nZ(hd:d≠0):(0:Int)<((S8 [n,d]:Nat):Int):=by
 rw[Ao];have:=Int.gcd_pos_of_ne_zero_left n hd;omega
theorem OA(n d:Int):n % ((S8 [n,d]:Nat):Int)=0:=by
 rw[Ao];exact Yh (Ue ..)
theorem OI(n d:Int):d % ((S8 [n,d]:Nat):Int)=0:=by
 rw[Ao];exact Yh (Int.gcd_dvd_left ..)
theorem Qed{g:Int}(h:n % g=0):-n % g=0:=by
 exact Yh (Uu.2 (Vs h))
variable{s:Nat}
theorem Qdu(hd:d≠0)(h:Gm d<=s):Gm ((S8 [n,d]:Nat):Int)<=s:=by
 rw[Ao];refine Qa (Sk ?_) h;have:=We (by omega:0<d.natAbs) (show Int.gcd d n∣d.natAbs from Uk _ _);simpa using this
theorem Qd7(hd:0<d):n / ((S8 [n,d]:Nat):Int)=(Rat.divInt n d).num/\d / ((S8 [n,d]:Nat):Int)=((Rat.divInt n d).den:Int):=by
 rw[Ao,Rat.num_divInt,W5,if_neg Fo,Jq hd,Vn];refine⟨rfl,?_⟩;rw[Int.natCast_ediv,Int.natAbs_of_nonneg Fo]
theorem Qug(hd:d<0):-n / ((S8 [n,d]:Nat):Int)=(Rat.divInt n d).num/\-d / ((S8 [n,d]:Nat):Int)=((Rat.divInt n d).den:Int):=by
 rw[Ao,Rat.num_divInt,W5,if_neg Fo,X6 hd,Kq,Vn];refine⟨rfl,?_⟩;rw[Int.natCast_ediv,Int.ofNat_natAbs_of_nonpos Fo]
theorem KJ(u g:Int):Gm (u / g)<=Gm u:=by
 unfold Gm;exact Sk (Int.natAbs_ediv_le_natAbs u g)
theorem Mz(h:Gm n<=s):Gm (Rat.divInt n d).num<=s:=by
 rw[Rat.num_divInt];refine Qa (KJ _ _) ?_;unfold Gm;rw[Yf];refine Qa (Sk ?_) h;have:d.sign.natAbs<=1:=by rcases QV d with⟨_,e⟩|⟨_,e⟩|⟨_,e⟩ <;> rw[e] <;> decide
 calc d.sign.natAbs*n.natAbs<=1*n.natAbs:=Qz _ this
  _=n.natAbs:=W8 _
theorem My(h:Gm d<=s)(h1:1<=s):Gm ((Rat.divInt n d).den:Int)<=s:=by
 rw[W5]
 split
 .exact h1
 .refine Qa (Sk ?_) h;exact J8 _ _
def Qs(s:Nat)(q:Rat):Prop:=Gm q.num<=s/\Gm (q.den:Int)<=s
theorem Qs.mono{t:Nat}{q:Rat}(h:Qs s q)(ht:s<=t):Qs t q:=⟨Qa h.1 ht,Qa h.2 ht⟩
theorem Qs.divInt(h:Gm n<=s)(a:Gm d<=s)(h1:1<=s):Qs s (Rat.divInt n d):=⟨Mz h,My a h1⟩
theorem Eu(q:Rat):(q.den:Int)≠0:=by have:=q.den_nz;omega
theorem den_pos(q:Rat):(0:Int)<(q.den:Int):=by have:=q.den_nz;omega
def Hn(n d:Int):Rat:=Rat.divInt n (if d=0 then 1 else d)
theorem Mk(q:Rat):Hn q.num q.den=q:=by
 unfold Hn;rw[if_neg (Eu q)];exact Z9 q
def Hu(a b:Rat):Int:=Dv (a.num*(b.den:Int)) (b.num*(a.den:Int))
theorem Dn{a b:Rat}:Hu a b<0↔a<b:=by
 rw[Rat.lt_iff];unfold Hu Dv;constructor
 .intro h;split at h
  .assumption
  .split at h <;> omega
 .intro h;rw[if_pos h];decide
theorem Dl{a b:Rat}:0<Hu a b↔b<a:=by
 rw[Rat.lt_iff];unfold Hu Dv;constructor
 .intro h;split at h
  .omega
  .split at h
   .assumption
   .omega
 .intro h;rw[if_neg Fo,if_pos h];decide
theorem Et(a:Rat):Hu a a=0:=by unfold Hu Dv;simp
structure Crv where
 x:List Int
 y:List Int
 d:Int
abbrev cl(k:Crv):Fe:=[pl k.x,pl k.y,sg k.d,mg k.d]
def Crv.d'(k:Crv):Int:=if k.d=0 then 1 else k.d
def Crv.g(k:Crv):Int:=if k.d'<0 then -((S8 (k.d'::(trim k.x++trim k.y)):Nat):Int)else(S8 (k.d'::(trim k.x++trim k.y)):Nat)
def Crv.norm(k:Crv):Crv:=⟨trim ((trim k.x).map (· / k.g)),trim ((trim k.y).map (· / k.g)),k.d' / k.g⟩
variable{l:U8}
theorem VA:∀z∈l,((S8 l:Nat):Int)∣z:=by
 have a:∀(l:U8) (g:Nat),(l.foldl (λg z=>Nat.gcd g z.natAbs) g∣g)/\∀z∈l,l.foldl (λg z=>Nat.gcd g z.natAbs) g∣z.natAbs:=by
  intro l
  induction l with
  |nil=>intro g;exact⟨Nat.dvd_refl _,Ft⟩
  |
   cons u l ih =>
   intro g;obtain⟨h1,h2⟩:=ih (Nat.gcd g u.natAbs);refine⟨Nat.dvd_trans h1 (Uk _ _),λz hz=>?_⟩;rcases Qm.1 hz with rfl|hz
   .exact Nat.dvd_trans h1 (Nat.gcd_dvd_right _ _)
   .exact h2 z hz
 intro z hz;have:=(a l 0).2 z hz;exact Ua.2 this
theorem Crv.d'_ne(k:Crv):k.d'≠0:=by unfold Crv.d';split <;> omega
theorem Crv.gcd_ne(k:Crv):S8 (k.d'::(trim k.x++trim k.y))≠0:=by
 intro e;have h:=VA (l:=k.d'::(trim k.x++trim k.y)) k.d' (Qy ..);rw[e]at h;exact k.d'_ne (by simpa using h)
theorem Crv.g_ne(k:Crv):k.g≠0:=by
 have h0:=k.gcd_ne;unfold Crv.g
 split <;> omega
theorem Crv.g_dvd(k:Crv):∀z∈k.d'::(trim k.x++trim k.y),z % k.g=0:=by
 intro z hz;have h:=VA z hz;refine Yh ?_;unfold Crv.g
 split
 .exact Uv.2 h
 .exact h
variable{s:Nat}
theorem Crv.isz_g(k:Crv)(h:Gm k.d'<=s):Gm k.g<=s:=by
 have hd:=VA (l:=k.d'::(trim k.x++trim k.y)) k.d' (Qy ..);have a:S8 (k.d'::(trim k.x++trim k.y))<=k.d'.natAbs:=We (by have:=k.d'_ne;omega) (Ua.1 hd);refine Qa (Sk ?_) h;unfold Crv.g
 split <;> simp <;> exact a
structure Cs(s n:Nat)(k:Crv):Prop where
 x:Bd s k.x
 y:Bd s k.y
 d:Gm k.d<=s
 lx:k.x.length<=n
 ly:k.y.length<=n
variable{k:Crv}
theorem Qnl(h:Gm k.d<=s)(h1:1<=s):Gm k.d'<=s:=by unfold Crv.d';split <;> first|exact h1|exact h
theorem PI{p:U8}(h:Bd s p)(g:Int):Bd s (p.map (· / g)):=λz hz=>by
 obtain⟨u,hu,rfl⟩:=Q8.1 hz;exact Qa (KJ u g) (h u hu)
theorem Cs.norm{n:Nat}(h:Cs s n k)(h1:1<=s):Cs s n k.norm:=by
 refine⟨Pv (PI (Pv h.x) _),Pv (PI (Pv h.y) _),Qa (KJ _ _) (Qnl h.d h1),?_,?_⟩
 .refine Qa (Tu _) ?_;rw[Ze];exact Qa (Tu _) h.lx
 .refine Qa (Tu _) ?_;rw[Ze];exact Qa (Tu _) h.ly
theorem Cs.mono{n t m:Nat}(h:Cs s n k)(hs:s<=t)(hn:n<=m):Cs t m k:=⟨Fz h.x hs,Fz h.y hs,Qa h.d hs,Qa h.lx hn,Qa h.ly hn⟩
def WN(k:Crv):Prop:=Gg k.x/\Gg k.y/\0<k.d/\S8 (k.d::(k.x++k.y))=1
theorem Crv.norm_of(h:WN k):k.norm=k:=by
 obtain⟨h1,h2,h3,h4⟩:=h;have hd:k.d'=k.d:=by unfold Crv.d';rw[if_neg Fo]
 have hx:trim k.x=k.x:=h1;have a:trim k.y=k.y:=h2;have hg:k.g=1:=by unfold Crv.g;rw[hd,hx,a,h4,if_neg Fo];rfl
 unfold Crv.norm;rw[hg,hd,hx,a];simp[hx,a]
theorem fW{g:Int}(hg:g≠0)(b:g.natAbs=S8 l):S8 (l.map (· / g))=1:=by
 have c:∀(l:U8) (a:Nat),(∀z∈l,g∣z)->l.foldl (λa z=>Nat.gcd a z.natAbs) (a*g.natAbs)=((l.map (· / g)).foldl (λa z=>Nat.gcd a z.natAbs) a)*g.natAbs:=by
  intro l
  induction l with
  |nil=>intro a _;rfl
  |
   cons z l ih =>
   intro a h;simp only[Xa,Xn];have hz:z.natAbs=(z / g).natAbs*g.natAbs:=by
    obtain⟨q,rfl⟩:=h z (Qy ..);rw[Jf _ hg,Yf,Zt]
   rw[hz,Nat.gcd_mul_right];exact ih _ λu hu=>h u (Qi _ hu)
 have h:=c l 0 λz hz=>Xv.1 (by rw[b];exact Xv.2 (VA z hz))
 rw[Yv]at h;have d:S8 l=S8 (l.map (· / g))*g.natAbs:=h;rw[<-b]at d;have hp:0<g.natAbs:=Fo;exact Nat.eq_of_mul_eq_mul_right hp (by rw[W8];exact d.symm)
theorem WT{g:Int}(ht:Gg l)(hg:g≠0)(hd:∀z∈l,g∣z):Gg (l.map (· / g)):=by
 induction l with
 |nil=>rfl
 |
  cons x l b =>
  have d:∀z∈x::l,z≠0->z / g≠0:=λz hz h0 h1=>by
   obtain⟨q,rfl⟩:=hd z hz;rw[Jf _ hg]at h1;rw[h1]at h0;simp at h0
  unfold Gg at ht b ⊢;cases hl:trim l with
  |
   nil =>
   simp only[trim,hl]at ht
   split at ht
   .cases ht
   .rename_i hx;injection ht with _ h2;subst h2;simp[trim,d x (Qy ..) hx]
  |
   cons y k =>
   simp only[trim,hl]at ht;injection ht with _ h2;have a:trim l=l:=by rw[hl];exact h2
   have b:=b a λz hz=>hd z (Qi _ hz)
   rw[Xa];have c:l.map (· / g)≠[]:=by rw[<-a,hl];simp
   cases hm:l.map (· / g)with
   |nil=>exact absurd hm c
   |
    cons u w =>
    rw[hm]at b;have e:trim (x / g::u::w)=match trim (u::w)with| []=>if x / g=0 then []else [x / g]|y::k=>x / g::y::k:=rfl
    rw[e,b]
theorem Crv.nml(k:Crv):WN k.norm:=by
 have hg:=k.g_ne;have c:∀z∈k.d'::(trim k.x++trim k.y),k.g∣z:=λz hz=>Vs (k.g_dvd z hz)
 have hx:=WT (g:=k.g) (Tp k.x) hg λz hz=>c z (by simp[hz])
 have m:=WT (g:=k.g) (Tp k.y) hg λz hz=>c z (by simp[hz])
 refine⟨Tp _,Tp _,?_,?_⟩
 .show 0<k.d' / k.g;obtain⟨q,i⟩:=c k.d' (Qy ..);have h0:=k.d'_ne;have l:=k.gcd_ne;have e:k.d' / k.g=q:=by rw[i,Jf _ hg]
  rw[e];unfold Crv.g at i hg;have d:q≠0:=λe=>by rw[e,Kx]at i;exact h0 i
  split at i
  .rename_i j;rcases W9 d with h|h
   .have:=Ks (a:=-((S8 (k.d'::(trim k.x++trim k.y)):Nat):Int)) (b:=q) Fo h;omega
   .exact h
  .rename_i j;rcases W9 d with h|h
   .have:=Vl (a:=((S8 (k.d'::(trim k.x++trim k.y)):Nat):Int)) (b:=q) Fo h;omega
   .exact h
 .show S8 (k.d' / k.g::(trim ((trim k.x).map (· / k.g))++trim ((trim k.y).map (· / k.g))))=1;rw[show trim ((trim k.x).map (· / k.g))=(trim k.x).map (· / k.g) from hx,show trim ((trim k.y).map (· / k.g))=(trim k.y).map (· / k.g) from m,<-Jx,<-Xa (f:=(· / k.g))];refine fW hg ?_;unfold Crv.g
  split <;> omega
structure Pt where
 c:Crv
 id:Int
def Gq(p:Pt):Fe:=[pl p.c.x,pl p.c.y,sg p.c.d,mg p.c.d,.int .i64 p.id]
def pts(l:List Pt):LV:=.row (l.map Gq)
def S6:List Pt->Int->Nat
 | [],_=>0
 |p::l,id=>if p.id<id then S6 l id+1 else 0
def has(l:List Pt)(id:Int):Bool:=match l[S6 l id]? with
 |some p=>decide (p.id=id)
 |none=>false
theorem rT(l:List Pt)(id:Int):S6 l id<=l.length:=by
 induction l with
 |nil=>exact Ql _
 |cons p l a=>simp only[S6];split <;> simp <;> omega
theorem zV:∀{l:List Pt} {id:Int} {k:Nat},(∀j p,j<k->l[j]? = some p->p.id<id)->(k=l.length\/∃p,l[k]? = some p/\¬p.id<id)->S6 l id=k
 |
  [],id,k,_,h=>by
  rcases h with h|⟨p,h,_⟩
  .subst h;rfl
  .simp at h
 |
  q::l,id,0,_,h=>by
  rcases h with h|⟨p,h,h2⟩
  .simp at h
  .simp at h;subst h;simp[S6,h2]
 |
  q::l,id,k+1,h1,h=>by
  have a:=h1 0 q Fo rfl;simp only[S6,a,if_true];rw[zV (k:=k) (λj p b hp=>h1 (j+1) p Fo (by simpa using hp))];rcases h with h|⟨p,h,h2⟩
  .left;simpa using h
  .right;exact⟨p,by simpa using h,h2⟩
def put(l:List Pt)(q:Pt):List Pt:=l.take (S6 l q.id)++q::l.drop (S6 l q.id)
def HY(l:List Pt)(q:Pt):Int:=if has l q.id=true then 6 else if 6<=l.length then 9 else 0
def Q2r(s n:Nat)(p:Pt):Prop:=WN p.c/\Cs s n p.c
theorem Qe1(l:List Pt)(q:Pt):(put l q).length=l.length+1:=by
 have:=rT l q.id;simp[put];omega
variable{l:List Pt}
theorem EK{q p:Pt}(h:p∈put l q):p=q\/p∈l:=by
 unfold put at h;rcases Qr.1 h with h|h
 .exact .inr (Qn h)
 .rcases Qm.1 h with h|h
  .exact .inl h
  .exact .inr (Q3 h)
def QB(a b:Crv):Bool:=decide (a.x=b.x/\a.y=b.y/\a.d=b.d)
def Lh(out:List Pt)(p:Pt):List Pt:=if out.any (λq=>QB p.c q.c)=true then out else out++[p]
def Pq(l:List Pt):List Pt:=l.foldl Lh []
theorem Qio{out:List Pt}{p q:Pt}(h:q∈Lh out p):q∈out\/q=p:=by
 unfold Lh at h
 split at h
 .exact .inl h
 .rcases Qr.1 h with h|h
  .exact .inl h
  .exact .inr (by simpa using h)
theorem Qin(out:List Pt)(p:Pt):(Lh out p).length<=out.length+1:=by
 unfold Lh;split <;> simp
theorem Ph{α β:Type}(f:β->α->β)(b:β)(l:List α){i:Nat}{x:α}(h:l[i]? = some x):(l.take (i+1)).foldl f b=f ((l.take i).foldl f b) x:=by
 rw[Vb,h];simp[V8]
theorem GQ(l:List Pt)(i:Nat):∀q∈(l.take i).foldl Lh [],q∈l:=by
 induction i with
 |zero=>simp
 |
  succ i ih =>
  intro q a;cases hi:l[i]? with
  |
   none =>
   rw[Qo (by have:=J6.1 hi;omega)]at a;rw[Qo (J6.1 hi)]at ih;exact ih q a
  |
   some x =>
   rw[Ph _ _ _ hi]at a;rcases Qio a with h|h
   .exact ih q h
   .subst h;exact Qc hi
theorem FO(l:List Pt)(i:Nat):((l.take i).foldl Lh []).length<=i:=by
 induction i with
 |zero=>simp
 |
  succ i ih =>
  cases hi:l[i]? with
  |
   none =>
   rw[Qo (by have:=J6.1 hi;omega)];rw[Qo (J6.1 hi)]at ih;omega
  |
   some x =>
   rw[Ph _ _ _ hi];have:=Qin ((l.take i).foldl Lh []) x;omega
theorem Dh{q:Pt}(h:q∈Pq l):q∈l:=by
 have:=GQ l l.length q;rw[Q6]at this;exact this h
theorem JK(l:List Pt):(Pq l).length<=l.length:=by
 have:=FO l l.length;rwa[Q6]at this
def Hp(p:U8)(q:Rat):Int:=Dv (Qvf p q.num q.den) 0
abbrev qa(q:Rat):Fe:=pl [-q.num,(q.den:Int)]::(rl q++rl q)
def Px(sgn:U8->Int):Nat->U8->Int
 | 0,_=>0
 |k+1,p=>if p.length=0 then 0 else if sgn p=0 then Px sgn k (Hh p)else sgn p
theorem KQ(sgn:U8->Int):∀(k:Nat) (p:U8),p.length<=k->Px sgn k p=Px sgn p.length p
 |
  0,p,h=>by
  have:p.length=0:=Fo;rw[this]
 |
  k+1,p,h=>by
  cases hp:p.length with
  |zero=>simp[Px,hp]
  |
   succ m =>
   simp only[Px];have h1:=P7 p;rw[KQ sgn k (Hh p) Fo,KQ sgn m (Hh p) Fo]
variable{p:U8}
theorem BI(sgn:U8->Int)(h:p.length=0):Px sgn p.length p=0:=by rw[h];rfl
theorem BE(sgn:U8->Int)(h:0<p.length)(hs:sgn p≠0):Px sgn p.length p=sgn p:=by
 obtain⟨m,hm⟩:∃m,p.length=m+1:=⟨p.length-1,Fo⟩;rw[hm];simp only[Px];rw[if_neg Fo,if_neg hs]
theorem BA(sgn:U8->Int)(h:0<p.length)(hs:sgn p=0):Px sgn p.length p=Px sgn (Hh p).length (Hh p):=by
 obtain⟨m,hm⟩:∃m,p.length=m+1:=⟨p.length-1,Fo⟩;rw[hm];simp only[Px];rw[if_neg Fo,if_pos hs];exact KQ sgn m _ (by have:=P7 p;omega)
structure Tm where
 p:List Int
 lo:Rat
 hi:Rat
abbrev ta(t:Tm):Fe:=pl t.p::(rl t.lo++rl t.hi)
abbrev tq(q:Rat):Tm:=⟨[-q.num,(q.den:Int)],q,q⟩
def Rp(sg:U8->Int)(p:U8):Int:=Px sg p.length p
def iT(p:U8)(q:Rat):Int:=Rp (λp=>Hp p q) p
structure Pb(p:List Int):Prop where
 t:Gg p
 l:p.length<=64
 b:Bd 16777216 p
abbrev Qb(q:Rat):Prop:=Qs 16777216 q
abbrev Cb(k:Crv):Prop:=Cs 1048576 16 k
def Ht(a b:Crv):U8:=Mh (G5 b.x a.d) (G5 a.x b.d)
def Hr(a b:Crv):U8:=Mh (G5 b.y a.d) (G5 a.y b.d)
theorem bN{a b:Crv}(ha:Cb a)(hb:Cb b):Pb (Ht a b)/\(Ht a b).length<=16/\Bd 2097153 (Ht a b):=by
 have h1:Bd 2097153 (Ht a b):=Fz (E9 (Hj hb.x ha.d) (Hj ha.x hb.d)) Fo;have h2:(Ht a b).length<=16:=by
  refine Qa (No _ _) ?_;have:=Ha b.x a.d;have:=Ha a.x b.d;have:=ha.lx;have:=hb.lx;omega
 exact⟨⟨Gs _ _,Fo,Fz h1 Fo⟩,h2,h1⟩
theorem bR{a b:Crv}(ha:Cb a)(hb:Cb b):Pb (Hr a b)/\(Hr a b).length<=16/\Bd 2097153 (Hr a b):=by
 have h1:Bd 2097153 (Hr a b):=Fz (E9 (Hj hb.y ha.d) (Hj ha.y hb.d)) Fo;have h2:(Hr a b).length<=16:=by
  refine Qa (No _ _) ?_;have:=Ha b.y a.d;have:=Ha a.y b.d;have:=ha.ly;have:=hb.ly;omega
 exact⟨⟨Gs _ _,Fo,Fz h1 Fo⟩,h2,h1⟩
def Ie(sg:U8->Int)(a b:Pt):U9->Bool
 | []=>decide (a.id<b.id)
 |p::l=>if 0<p.length then decide (0<Rp sg p)else Ie sg a b l
def Ln(sg:U8->Int)(a b:Pt):Bool:=Ie sg a b [Hr b.c a.c,Ht b.c a.c]
def P0(sg:U8->Int)(a b:Pt):Bool:=Ie sg a b [Ht a.c b.c,Hr a.c b.c]
end Orr
namespace Orr
open Go
structure Ct where
 kind:Int
 i0:Int
 i1:Int
 i2:Int
 i3:Int
 p:List Int
 want:Int
abbrev Ey(c:Ct):Fe:=[.int .i64 c.kind,.int .i64 c.i0,.int .i64 c.i1,.int .i64 c.i2,.int .i64 c.i3,pl c.p,.int .i64 c.want]
def A8(p q:U8):U8:=if 0<p.length then p else q
def Eh:U8->U8->Bool
 |x::l,y::m=>if x=y then Eh l m else decide (x<y)
 |_,_=>false
def nR(a b:Ct):Bool:=Eh [a.kind,a.i0,a.i1,a.i2,a.i3] [b.kind,b.i0,b.i1,b.i2,b.i3]
def WZ(out:List Ct)(c:Ct):Nat->Nat
 | 0=>0
 |
  k+1=>match out[k]? with
  |some x=>if nR c x=true then WZ out c k else k+1
  |none=>k+1
theorem Qer(out:List Ct)(c:Ct):∀k,WZ out c k<=k
 | 0=>Ql _
 |
  k+1=>by
  simp only[WZ]
  split
  .split
   .exact Nat.le_succ_of_le (Qer out c k)
   .exact Ql _
  .exact Ql _
variable{out:List Ct}{k:Nat}
theorem Qu6{c x:Ct}(hx:out[k]? = some x)(h:nR c x=true):WZ out c (k+1)=WZ out c k:=by
 simp only[WZ,hx,h,if_true]
theorem Qo0{c x:Ct}(hx:out[k]? = some x)(h:nR c x=false):WZ out c (k+1)=k+1:=by
 simp[WZ,hx,h]
def GM(out:List Ct)(c:Ct):List Ct:=out.take (WZ out c out.length)++c::out.drop (WZ out c out.length)
theorem Qne(out:List Ct)(c:Ct):(GM out c).length=out.length+1:=by
 have:=Qer out c out.length;simp[GM];omega
theorem Qnf{c x:Ct}(h:x∈GM out c):x=c\/x∈out:=by
 simp only[GM,Qr,Qm]at h;rcases h with h|h|h
 .exact .inr (Qn h)
 .exact .inl h
 .exact .inr (Q3 h)
def Gv(l:List Ct):List Ct:=l.foldl GM []
theorem Qa3(l:List Ct)(c:Ct):Gv (l++[c])=GM (Gv l) c:=by simp[Gv,V8]
variable{l:List Ct}
theorem Qa4{i:Nat}{c:Ct}(h:l[i]? = some c):Gv (l.take (i+1))=GM (Gv (l.take i)) c:=by
 rw[Zv,h];exact Qa3 _ _
theorem yB:∀(l a:List Ct),(l.foldl GM a).length=a.length+l.length
 | [],a=>Ft
 |c::l,a=>by simp only[Xn];rw[yB l (GM a c),Qne];simp;omega
theorem Cc(l:List Ct):(Gv l).length=l.length:=by unfold Gv;rw[yB];simp
theorem yC:∀(l a:List Ct) {x:Ct},x∈l.foldl GM a->x∈l\/x∈a
 | [],a,x,h=>.inr h
 |
  c::l,a,x,h=>by
  simp only[Xn]at h;rcases yC l _ h with h|h
  .exact .inl (Qi _ h)
  .rcases Qnf h with rfl|h
   .exact .inl (Qy ..)
   .exact .inr h
theorem Tc{x:Ct}(h:x∈Gv l):x∈l:=by
 rcases yC l [] h with h|h
 .exact h
 .cases h
theorem nU{α:Type}(l:List α)(z x:α){m':Nat}(a:k<=l.length)(hm:m'=l.length-k):
 ((l++[z]).take (k+1)++((l++[z]).drop k).take m'++(l++[z]).drop (k+1+m')).set k x=l.take k++x::l.drop k:=by
 subst hm;have d:((l++[z]).drop k).take (l.length-k)=l.drop k:=by
  rw[Wx a,V6 Ft,Qo Ft]
 have b:(l++[z]).drop (k+1+(l.length-k))=[]:=Yq Fq;rw[d,b,Zx];have c:(l++[z]).take (k+1)=(l++[z]).take k++[(l++[z])[k]' Fq]:=by rw[List.take_succ_eq_append_getElem]
 rw[c,V6 a,Zh,List.set_append,if_neg Fq];simp[Z8 a]
def O8(a b:Pt):U8:=A8 (Ht a.c b.c) (Hr a.c b.c)
def O6(a b:Pt):U8:=A8 (Hr b.c a.c) (Ht b.c a.c)
def YK(sg:U8->Int)(a b:Pt):Ct:={ kind:=1,i0:=a.id,i1:=b.id,i2:=0,i3:=0,p:=O8 a b,want:=Rp sg (O8 a b) }
def Ag(sg:U8->Int)(a b:Pt):Ct:={ kind:=2,i0:=a.id,i1:=b.id,i2:=0,i3:=0,p:=O6 a b,want:=Rp sg (O6 a b) }
end Orr
namespace Orr
open Go Go.Proofs Tryz
set_option maxRecDepth 10000
abbrev pr(p:U8):TV:=.one (pl p)
variable{p:U8}{i:Nat}{z:Int}
theorem Ni(h:p[i]? = some z):(p.map Rr)[i]? = some (Rr z):=Ra h
theorem IY(p:U8):U5 173 [pr p] [pr (trim p)]:=by
 refine G7 func173 rfl (ln 0 rfl rfl λhl=>?_);rw[Ze]at hl;refine Ux [] rfl ?_;refine lp (S:=Nat) 0 (λL1 n=>(3,.v (.oi n))::L1) (λ_=>[]) id (λn=>n<=p.length/\∀j x,n<=j->p[j]? = some x->x=0) (p.map Rr).length ⟨Ft,λj x h1 h2=>by
  have:=(Qh.1 h2).1;simp at h1;omega⟩ rfl (λ_ _=>rfl) rfl λn ⟨h1,h2⟩=>?_
 cases n with
 |zero=>exact Uz [.f Ft,.f rfl,.i 0] rfl (by rw[dA h1 h2 (λh=>Fo)];simp[pl]) Fy
 |
  succ n =>
  obtain⟨x,hx⟩:=gxE (l:=p) (i:=n) Fo;by_cases h0:x=0
  .refine Uy [.t Ft,.r 11 (v:=.oi n) Ft,.x (Ni hx),.k Ep,.t (by simp[h0]),.r 17 (v:=.oi n) Ft] rfl ?_;exact rd n Ft ⟨Fo,λj y h3 h4=>by
    rcases Vy h3 with rfl|h3
    .rw[hx]at h4;injection h4 with h4;rw[<-h4,h0]
    .exact h2 j y h3 h4⟩ rfl
  .exact Uz [.t Ft,.r 11 (v:=.oi n) Ft,.x (Ni hx),.k Ep,.f (by simp[h0]),.i (n+1)] rfl (by rw[dA h1 h2 (λ_=>⟨x,hx,h0⟩)];simp[pl,Yd]) Fx
theorem Qcj(p:U8)(k:Nat):U5 245 [pr p,.oi k] [.agg (Rr (p.getD k 0))]:=by
 by_cases h:k<p.length
 .have hx:=Qf h;have e:p.getD k 0=p[k]:=by simp[List.getD,hx]
  rw[e];exact U0 func245 rfl [.t Fq,.x (Ni hx)] rfl
 .have e:p.getD k 0=0:=by simp[List.getD,Qu (Yc h)]
  rw[e,Av];exact U0 func245 rfl [.f Fq] rfl
def xG(f:Nat->Fe)(z:Fe)(n k:Nat):Ff:=(List.range n).map λi=>if i<k then f i else z
theorem QA(f:Nat->Fe)(z:Fe)(n k:Nat):(xG f z n k).length=n:=by simp[xG]
theorem Ow(f:Nat->Fe)(z:Fe)(n:Nat):List.replicate n z=xG f z n 0:=by
 refine Xu λi=>?_
 simp only[xG,Yj,Q9];by_cases h:i<n
 .simp[h]
 .simp[h]
theorem JI(f:Nat->Fe)(z:Fe)(n:Nat):xG f z n n=(List.range n).map f:=by
 refine X5 λi hi=>?_
 rw[if_pos (K7.1 hi)]
variable{k:Nat}
theorem JO(f:Nat->Fe)(z:Fe){n:Nat}(h:k<n):(xG f z n k).set k (f k)=xG f z n (k+1):=by
 refine Xu λi=>?_
 rw[Ju];simp only[xG,Q9,Ze,List.length_range,h,if_true];by_cases e:k=i
 .subst e;simp[h]
 .simp only[e,if_false];by_cases hi:i<n
  .simp only[Jh hi,Y8];congr 1;by_cases h2:i<k
   .rw[if_pos h2,if_pos Fo]
   .rw[if_neg h2,if_neg Fo]
  .simp[Qu,hi]
variable{g:Nat->Int}
theorem uU{n fid:Nat}{l1 l2:Fe}(hn:n<274877906944)(h:∀k,k<n->xR prog fid [.oi k,.one (.sh l1),.one (.sh l2)] [.agg (Rr (g k))]):U5 201 [.oi n,.one (.fn fid [] [.sh l1,.sh l2])] [pr (B7 n g)]:=by
 refine G7 func201 rfl ?_;refine Uy [.i n,.i n,.r 10 (eI (b:=(n:Int)) Ft)] rfl ?_;rw[Ow λk=>Rr (g k)];refine U4 (S:=Nat) 1 (λL1 k=>(11,.v (.oi k))::L1) (λk=>[.row false 35 2 (xG (λk=>Rr (g k)) [.bool false,.nils] n k)]) (λk=>n-k) (λk=>k<=n) 0 (Qj _) rfl rfl λk c=>?_
 by_cases a:k<n
 .refine go tt [.t Fq,.k (h k a),.i k] rfl (by simp[Gi,QA];omega) ?_;have e:=JO (λk=>Rr (g k)) [.bool false,.nils] a;rw[e];exact rd (k+1) Fo a rfl
 .obtain rfl:k=n:=Fo;have e:xG (λk=>Rr (g k)) [.bool false,.nils] k k=((List.range k).map g).map Rr:=by rw[JI];simp
  rw[e];exact Uz [.f Ft,.k (IY _)] rfl
theorem Qcg{n fid:Nat}{l1:Fe}(hn:n<274877906944)(h:∀k,k<n->xR prog fid [.oi k,.one (.sh l1)] [.agg (Rr (g k))]):U5 201 [.oi n,.one (.fn fid [] [.sh l1])] [pr (B7 n g)]:=by
 refine G7 func201 rfl ?_;refine Uy [.i n,.i n,.r 10 (eI (b:=(n:Int)) Ft)] rfl ?_;rw[Ow λk=>Rr (g k)];refine U4 (S:=Nat) 1 (λL1 k=>(11,.v (.oi k))::L1) (λk=>[.row false 35 2 (xG (λk=>Rr (g k)) [.bool false,.nils] n k)]) (λk=>n-k) (λk=>k<=n) 0 (Qj _) rfl rfl λk c=>?_
 by_cases a:k<n
 .refine go tt [.t Fq,.k (h k a),.i k] rfl (by simp[Gi,QA];omega) ?_;have e:=JO (λk=>Rr (g k)) [.bool false,.nils] a;rw[e];exact rd (k+1) Fo a rfl
 .obtain rfl:k=n:=Fo;have e:xG (λk=>Rr (g k)) [.bool false,.nils] k k=((List.range k).map g).map Rr:=by rw[JI];simp
  rw[e];exact Uz [.f Ft,.k (IY _)] rfl
theorem Qyv{q:U8}(k:Nat)(hp:Bd 4294967295 p)(a:Bd 4294967295 q):U5 243 [.oi k,.one (.sh [pl p]),.one (.sh [pl q])] [.agg (Rr (p.getD k 0+q.getD k 0))] :=
 U0 func243 rfl [.k (Qcj p k),.k (Qcj q k),.k (GV (Gb _) (Gb _) (Gz hp k) (Gz a k))] rfl
theorem Qze{q:U8}(k:Nat)(hp:Bd 4294967295 p)(a:Bd 4294967295 q):U5 272 [.oi k,.one (.sh [pl p]),.one (.sh [pl q])] [.agg (Rr (p.getD k 0-q.getD k 0))] :=
 U0 func272 rfl [.k (Qcj p k),.k (Qcj q k),.k (Qkp (Gb _) (Gb _) (Gz hp k) (Gz a k))] rfl
theorem S9(h:k<p.length):p[k]? = some (p.getD k 0):=by simp[List.getD,Qf h]
variable{c:Int}
theorem Qkg(a:k<p.length)(hp:Bd 4294967295 p)(hc:Gm c<=4294967295):U5 202 [.oi k,.one (.sh [pl p]),.one (.sh (Rr c))] [.agg (Rr (p.getD k 0*c))] :=
 U0 func202 rfl [.x (Ni (S9 a)),.k (Nx (Gb _) (Gb _) (Gz hp k) hc)] rfl
theorem Qy8(a:k<p.length)(hp:Bd 4294967295 p):U5 302 [.oi k,.one (.sh [pl p])] [.agg (Rr (-(p.getD k 0)))] :=
 U0 func302 rfl [.x (Ni (S9 a)),.k (AB (Gb _) (Gz hp k))] rfl
theorem Qf4(a:k+1<p.length)(hl:p.length<274877906944)(hp:Bd 4294967295 p):U5 283 [.oi k,.one (.sh [pl p])] [.agg (Rr (p.getD (k+1) 0*((k+1:Nat):Int)))] :=
 U0 func283 rfl [.x (Ni (S9 a)),.r 10 (eI (b:=((k+1:Nat):Int)) Fo),.k (AD Fo),.k (Nx (Gb _) (Gb _) (Gz hp _) (Qhl (show k+1<274877906944 by omega)))] rfl rfl Fx
theorem AL{q:U8}(c:p.length<274877906944)(d:q.length<274877906944)(hp:Bd 4294967295 p)(a:Bd 4294967295 q):U5 198 [pr p,pr q] [pr (QW p q)] :=
 U0 func198 rfl [.r 9 (eI (b:=((max p.length q.length:Nat):Int)) Fq),.k (uU Fo λk _=>Qyv k hp a)] rfl
theorem MQ{q:U8}(c:p.length<274877906944)(d:q.length<274877906944)(hp:Bd 4294967295 p)(a:Bd 4294967295 q):U5 235 [pr p,pr q] [pr (Mh p q)] :=
 U0 func235 rfl [.r 9 (eI (b:=((max p.length q.length:Nat):Int)) Fq),.k (uU Fo λk _=>Qze k hp a)] rfl
theorem Qj2(a:p.length<274877906944)(hp:Bd 4294967295 p):U5 287 [pr p] [pr (Bt p)] :=
 U0 func287 rfl [.r 4 (eI (b:=(p.length:Int)) Ft),.k (Qcg a λk c=>Qy8 c hp)] rfl
theorem Nl(a:p.length<274877906944)(hp:Bd 4294967295 p)(hc:Gm c<=4294967295):U5 137 [pr p,.agg (Rr c)] [pr (G5 p c)] :=
 U0 func137 rfl [.r 6 (eI (b:=(p.length:Int)) Ft),.k (uU a λk d=>Qkg d hp hc)] rfl
theorem ZI(a:p.length<274877906944)(hp:Bd 4294967295 p):U5 250 [pr p] [pr (Hh p)] :=
 U0 func250 rfl [.r 6 (eI (b:=((p.length-1:Nat):Int)) Fq),.k (Qcg Fo λk c=>Qf4 Fo a hp)] rfl rfl Fw
theorem Lo{ls:Ff}(hi:IsInts ls p)(hl:p.length<274877906944)(hs:Bd 4294967295 p):U5 133 [.one (.row ls)] [pr (trim p)]:=by
 refine G7 func133 rfl ?_;have d:=hi.len;refine Uy [.i ls.length,.i ls.length] rfl ?_;rw[Ow λk=>Rr (p.getD k 0)];refine U4 (S:=Nat) 1 (λL1 k=>(11,.v (.oi k))::L1) (λk=>[.row false 35 2 (xG (λk=>Rr (p.getD k 0)) [.bool false,.nils] ls.length k)]) (λk=>ls.length-k) (λk=>k<=ls.length) 0 (Qj _) rfl rfl λk h=>?_
 by_cases a:k<ls.length
 .obtain⟨x,y,hx,c⟩:=hi.get (S9 (p:=p) (k:=k) Fo);have g:=Bz c (Gz hs k);obtain⟨b,l,rfl,rfl,_⟩:=c;refine go tt [.t Fq,.x hx,.k g,.i k] rfl (by simp[Gi,QA];omega) ?_;have e:=JO (λk=>Rr (p.getD k 0)) [.bool false,.nils] a;rw[e];exact rd (k+1) Fo a rfl
 .obtain rfl:k=ls.length:=Fo;have e:xG (λk=>Rr (p.getD k 0)) [.bool false,.nils] ls.length ls.length=p.map Rr:=by
   rw[JI,d];refine Xu λi=>?_
   by_cases hi:i<p.length
   .simp[Jh hi,List.getD,Qf hi]
   .simp[Qu,hi]
  rw[e];exact Uz [.f Ft,.k (IY _)] rfl
theorem Tq(ht:Gg p)(hl:p.length<274877906944)(hs:Bd 4294967295 p):U5 133 [pr p] [pr p]:=by
 have:=Lo (H5 p) hl hs;rw[ht]at this;exact this
theorem Qt6(h:p[i]? = some z):(p.map λ(x:Int)=>[LV.int .i64 x])[i]? = some [.int .i64 z]:=Ra h
theorem Qb6(hl:p.length<274877906944)(hr:∀z∈p,-9223372036854775808≤z/\z≤9223372036854775807):U5 103 [.one (ids p)] [pr (trim p)]:=by
 refine G7 func103 rfl ?_;refine Uy [.r 7 (eI (b:=(p.length:Int)) Ft),.i p.length,.i p.length,.r 10 (eI (b:=(p.length:Int)) Ft)] rfl ?_;rw[Ow λk=>Rr (p.getD k 0)];refine U4 (S:=Nat) 1 (λL1 k=>(11,.v (.oi k))::L1) (λk=>[.row false 35 2 (xG (λk=>Rr (p.getD k 0)) [.bool false,.nils] p.length k)]) (λk=>p.length-k) (λk=>k<=p.length) 0 (Qj _) rfl rfl λk c=>?_
 by_cases a:k<p.length
 .have hg:=S9 a;refine go tt [.t Fq,.x (Qt6 hg),.k (AD (hr _ (Qc hg))),.i k] rfl (by simp[Gi,QA];omega) ?_;have e:=JO (λk=>Rr (p.getD k 0)) [.bool false,.nils] a;rw[e];exact rd (k+1) Fo a rfl
 .obtain rfl:k=p.length:=Fo;have e:xG (λk=>Rr (p.getD k 0)) [.bool false,.nils] p.length p.length=p.map Rr:=by
   rw[JI];refine Xu λi=>?_
   by_cases hi:i<p.length
   .simp[Jh hi,List.getD,Qf hi]
   .simp[Qu,hi]
  rw[e];exact Uz [.f Ft,.k (IY _)] rfl
theorem oI(l:U8)(i:Nat)(z:Int):(l.map Rr).set i (Rr z)=(l.set i z).map Rr:=by rw[Kd]
theorem EU(m:Nat):((List.replicate m [LV.bool false,LV.nils]).map λc=>c.map SQ)=(List.replicate m (0:Int)).map Rr:=by
 simp[Av,SQ]
theorem uX{p0 q:U8}{s t:Nat}(tq:Gg q)(a:p0.length<137438953472)(y:q.length<137438953472)(hp:Bd s p0)(c:Bd t q)(A:s+t<=4294967000):U5 199 [pr p0,pr q] [pr (Hb (trim p0) q)]:=by
 have cp:=Lo (H5 p0) Fo (Fz hp (show s<=4294967295 by omega));have hp:=Pv hp;have a:=Xe (Tu p0) a;obtain⟨p,ep⟩:=nmE (trim p0);rw[<-ep]at cp hp a ⊢;have cq:=Tq tq Fo (Fz c (show t<=4294967295 by omega));by_cases h0:p.length=0
 .have e:Hb p q=[]:=by unfold Hb;rw[if_pos (.inl h0)]
  rw[e];exact U0 func199 rfl [.k cp,.k cq,.t (by simp;exact Qg h0),.t rfl] rfl
 by_cases h1:q.length=0
 .have e:Hb p q=[]:=by unfold Hb;rw[if_pos (.inr h1)]
  rw[e];exact U0 func199 rfl [.k cp,.k cq,.f (by simp;intro h;subst h;simp at h0),.t (by simp;exact Qg h1)] rfl
 refine G7 func199 rfl ?_;have e:Hb p q=trim (Ic p q (List.replicate (p.length+q.length-1) 0) p.length):=by unfold Hb;rw[if_neg Fo]
 rw[e];obtain⟨N,z⟩:=nmE (p.length+q.length-1);rw[<-z];obtain⟨o,l⟩:=nmE (List.replicate N (0:Int));rw[<-l];have B:o.length=N:=by rw[l];simp
 have n:∀m,o.getD m 0=0:=λm=>by rw[l];exact Tw N m
 refine Uy [.k cp,.k cq,.f (by simp;intro h;subst h;simp at h0),.f (by simp;intro h;subst h;simp at h1),.r 27 (eI (b:=(N:Int)) Fq),.i N,.i N] rfl ?_;refine nl 0 rfl rfl rfl ?_;rw[EU,<-l];refine U4 (S:=Nat) 1 (λL1 i=>(31,.v (.oi i))::L1) (λi=>[.row false 35 2 ((Ic p q o i).map Rr)]) (λi=>p.length-i) (λi=>i<=p.length) 0 (Qj _) rfl rfl λi hi=>?_
 by_cases d:i<p.length
 .refine Ux [.t Fq,.x (Ni (S9 d))] rfl ?_;refine U4 (S:=Nat) 2 (λL1 k=>(38,.v (.oi k))::L1) (λk=>[.row false 35 2 ((XT (p.getD i 0) q i (Ic p q o i) k).map Rr),.blk 35 (Rr (p.getD i 0))]) (λk=>q.length-k) (λk=>k<=q.length) 0 (Qj _) rfl rfl λk C=>?_
  by_cases g:k<q.length
  .have u:Gm ((XT (p.getD i 0) q i (Ic p q o i) k).getD (i+k) 0)<=4294967295:=Qa (ZR (t:=39) (gR (by rw[As];omega) (gG (λj D=>Fo) n (λi j=>C5 (Gz hp i) (Gz c j))) (λj=>C5 (Gz hp i) (Gz c j)) (i+k)) (Kz (show i+1<549755813888 by omega) Fp)) Fo;have w:Gm (p.getD i 0*q.getD k 0)<=4294967295:=Qa (G9 _ _) (by have:=Gz hp i;have:=Gz c k;omega);have hg:(XT (p.getD i 0) q i (Ic p q o i) k)[i+k]? = some ((XT (p.getD i 0) q i (Ic p q o i) k).getD (i+k) 0):=S9 (by rw[XS,As];omega);refine go tt [.t Fq,.x (Ni (S9 g)),.i (i+k),.x (Ni hg),.k (Nx (Gb _) (Gb _) (Qa (Gz hp i) Fo) (Qa (Gz c k) Fo)),.k (GV (Gb _) (Gb _) u w),.i (i+k)] rfl (by simp[Gi,XS,As] <;> omega) ?_;rw[oI];exact rd (k+1) Fo g rfl
  .obtain rfl:k=q.length:=Fo;exact go tt [.f Ft] rfl Fw (rd (i+1) Fo d rfl)
 .obtain rfl:i=p.length:=Fo;exact Uz [.f Ft,.k (IY _)] rfl
variable{p:U8}
theorem GY{q:U8}{s t:Nat}(e:Gg p)(tq:Gg q)(b:p.length<137438953472)(c:q.length<137438953472)(hp:Bd s p)(d:Bd t q)(a:s+t<=4294967000):U5 199 [pr p,pr q] [pr (Hb p q)]:=by
 have h:=uX tq b c hp d a;rw[show trim p=p from e]at h;exact h
theorem LJ{q:U8}(g:p.length<274877906944)(e:q.length<274877906944)(hp:Bd 4294967295 p)(l:Bd 4294967295 q):U5 264 [pr p,pr q] [.one (.bool (decide (trim p=trim q)))]:=by
 refine G7 func264 rfl ?_;have cp:=Lo (H5 p) g hp;have cq:=Lo (H5 q) e l;have n:=Pv hp;have bq:=Pv l;have l1:=Tu p;have l2:=Tu q;obtain⟨a,ha⟩:=nmE (trim p);obtain⟨b,hb⟩:=nmE (trim q);rw[<-ha]at cp n l1 ⊢;rw[<-hb]at cq bq l2 ⊢;by_cases hl:a.length=b.length
 .refine Ux [.k cp,.k cq,.f Fq] rfl ?_;refine U4 (S:=Nat) 0 (λL1 i=>(18,.v (.oi i))::L1) (λ_=>[]) (λi=>a.length-i) (λi=>i<=a.length/\a.take i=b.take i) 0 ⟨Qj _,rfl⟩ rfl rfl λi ⟨hi,he⟩=>?_
  by_cases c:i<a.length
  .have d:=S9 c;have j:=S9 (p:=b) (k:=i) Fo;have m:=MX (Gb (a.getD i 0)) (Gb (b.getD i 0)) (Gz n i) (Gz bq i);by_cases hz:a.getD i 0=b.getD i 0
   .refine Uy [.t Fq,.x (Ni d),.x (Ni j),.k m,.f (by simpa using uN.2 hz)] rfl ?_;exact rd (i+1) Fo ⟨c,by rw[Vb,Vb,he,d,j,hz]⟩ rfl
   .exact Uz [.t Fq,.x (Ni d),.x (Ni j),.k m,.t (by have:=mt uN.1 hz;simpa using this)] rfl (by rw[decide_eq_false];intro h;exact hz (by rw[h])) trivial
  .obtain rfl:i=a.length:=Fo;rw[Q6,hl,Q6]at he;exact Uz [.f Ft] rfl (by rw[decide_eq_true he]) trivial
 .exact Uz [.k cp,.k cq,.t Fq] rfl (by rw[decide_eq_false];intro h;exact hl (by rw[h])) trivial
theorem Qj7{n d:Int}{s t:Nat}(hl:p.length<274877906944)(hp:Bd s p)(hn:Gm n<=t)(hd:Gm d<=t)(h:s+p.length*(t+1)+2*t+10<=4294967295):U5 249 [pr p,.agg (Rr n),.agg (Rr d)] [.agg (Rr (Qvf p n d))]:=by
 refine G7 func249 rfl ?_;refine Uy [.k (AD (z:=1) Fp),.r 13 (eI (b:=(p.length:Int)-1-((0:Nat):Int)) Ft)] rfl ?_;refine nlb 3 rfl rfl rfl ?_;have i:[LV.bool false,LV.nils].map SQ=Rr (Ce p n d 0).1:=by simp[SQ,Ce,Av]
 rw[i];refine U4 (S:=Nat) 5 (λL1 j=>(9,.v (.oi ((p.length:Int)-1-(j:Int))))::L1) (λj=>[.blk 35 (Rr n),.blk 35 (Rr d),.blk 35 [.bool false,.nils],.blk 35 (Rr (Ce p n d j).1),.blk 35 (Rr (Ce p n d j).2)]) (λj=>p.length-j) (λj=>j<=p.length) 0 (Qj _) rfl rfl λj m=>?_
 have hv:=tI (k:=j) hp hn hd;have l:j*(t+1)<=p.length*(t+1):=Qz _ Fo;have g:j*t<=j*(t+1):=Zl _ Fo;by_cases a:j<p.length
 .have hc:=Gz hp (p.length-1-j);have c:Gm ((Ce p n d j).1*n)<=4294967295:=Qa (G9 _ _) Fo;have e:Gm (p.getD (p.length-1-j) 0*(Ce p n d j).2)<=4294967295:=Qa (G9 _ _) Fo;refine go tt [.t Fq,.k (Nx (Gb _) (Gb _) Fo Fo),.r 22 (eI (b:=((p.length-1-j:Nat):Int)) Fo),.x (Ni (S9 (p:=p) (k:=p.length-1-j) Fo)),.k (Nx (Gb _) (Gb _) Fo Fo),.k (GV (Gb _) (Gb _) c e),.k (Nx (Gb _) (Gb _) Fo Fo),.r 17 (eI (b:=(p.length:Int)-1-((j+1:Nat):Int)) Fo)] rfl Fx ?_;exact rd (j+1) Fo a rfl
 .obtain rfl:j=p.length:=Fo;exact Uz [.f Fq] rfl
theorem Aa(d:Gg p)(hl:p.length<274877906944)(hp:Bd 4294967295 p):U5 286 [pr p] [.agg (Rr (p.getD (p.length-1) 0))]:=by
 have a:=Tq d hl hp;by_cases h0:p=[]
 .subst h0;exact U0 func286 rfl [.k a,.t Ft] rfl (by simp[Av]) trivial
 .have c:0<p.length:=Yp.2 h0;exact U0 func286 rfl [.k a,.f (by simpa using h0),.r 12 (eI (b:=((p.length-1:Nat):Int)) Fq),.x (Ni (S9 Fo))] rfl rfl Fw
variable{q:Rat}
theorem Qx3{a b:Int}(h1:a=q.num)(h2:b=(q.den:Int)):[sg a,mg a,sg b,mg b]=rl q:=by rw[h1,h2]
theorem VF{n d:Int}(h0:d≠0)(hn:Gm n<=4294967295)(hd:Gm d<=4294967295):U5 155 [.agg (Rr n),.agg (Rr d)] [.agg (rl (Rat.divInt n d))]:=by
 have i:=Qjp (H5 [n,d]) (λz hz=>by simp at hz;rcases hz with rfl|rfl <;> assumption);have l:=nZ (n:=n) h0;have e:=Qdu (n:=n) h0 hd;have h:=OA n d;have j:=OI n d;obtain⟨g,hg⟩:=nmE (((S8 [n,d]:Nat):Int));rw[<-hg]at i l e h j;by_cases a:d<0
 .obtain⟨c,b⟩:=Qug (n:=n) a;rw[<-hg]at c b;rw[<-Qx3 c b];exact U0 func155 rfl [.k i,.t (by simpa using a),.k (AB (Gb n) hn),.k (AB (Gb d) hd),.k (QG (Gb _) (Gb _) (by rw[Rq];exact hn) e Fo (Qed h)),.k (QG (Gb _) (Gb _) (by rw[Rq];exact hd) e Fo (Qed j))] rfl
 .obtain⟨c,b⟩:=Qd7 (n:=n) (d:=d) Fo;rw[<-hg]at c b;rw[<-Qx3 c b];exact U0 func155 rfl [.k i,.f (by simpa using a),.k (QG (Gb _) (Gb _) hn e Fo h),.k (QG (Gb _) (Gb _) hd e Fo j)] rfl
theorem LG{x y c a:LV}{n d:Int}(h1:Hi x y n)(h2:Hi c a d)(hn:Gm n<=4294967295)(hd:Gm d<=4294967295):U5 88 [.agg [x,y,c,a]] [.agg (rl (Hn n d))]:=by
 have g:=Bz h1 hn;have h:=Bz h2 hd;obtain⟨b,l,rfl,rfl,_⟩:=h1;obtain⟨b',l',rfl,rfl,_⟩:=h2;by_cases h0:d=0
 .have e:Hn n d=Rat.divInt n 1:=by unfold Hn;rw[if_pos h0]
  rw[e];exact U0 func88 rfl [.k h,.k Ep,.t (by simpa using h0),.k (AD (z:=1) Fp),.k g,.k (VF Fp hn Fp)] rfl
 .have e:Hn n d=Rat.divInt n d:=by unfold Hn;rw[if_neg h0]
  rw[e];exact U0 func88 rfl [.k h,.k Ep,.f (by simpa using h0),.k g,.k (VF h0 hn hd)] rfl
theorem IR(a:Qs 4294967295 q):U5 88 [.agg (rl q)] [.agg (rl q)]:=by
 have:=LG (Gb q.num) (Gb (q.den:Int)) a.1 a.2;rwa[Mk]at this
theorem Qzp{n:Int}(hn:Gm n<=4294967295):U5 57 [.agg (Rr n)] [.agg (rl (n:Rat))] :=
 U0 func57 rfl [.k (Bz (Gb n) hn),.k (AD (z:=1) Fp)] rfl (by simp[rl]) trivial
theorem uK{a b:Rat}(ha:Qs 2147483647 a)(hb:Qs 2147483647 b):U5 139 [.agg (rl a),.agg (rl b)] [.agg (Rr (a.num*(b.den:Int))),.agg (Rr (b.num*(a.den:Int))),.agg (Rr ((a.den:Int)*(b.den:Int)))] :=
 U0 func139 rfl [.k (IR (ha.mono Fp)),.k (IR (hb.mono Fp)),.k (Nx (Gb _) (Gb _) (Qa ha.1 Fp) (Qa hb.2 Fp)),.k (Nx (Gb _) (Gb _) (Qa hb.1 Fp) (Qa ha.2 Fp)),.k (Nx (Gb _) (Gb _) (Qa ha.2 Fp) (Qa hb.2 Fp))] rfl
theorem Er{a b:Rat}(ha:Qs 2147483647 a)(hb:Qs 2147483647 b):U5 74 [.agg (rl a),.agg (rl b)] [.oi (Hu a b)] :=
 U0 func74 rfl [.k (uK ha hb),.k (MX (Gb _) (Gb _) (Qa (G9 _ _) (by have:=ha.1;have:=hb.2;omega)) (Qa (G9 _ _) (by have:=hb.1;have:=ha.2;omega)))] rfl
theorem IH{x y c a:LV}{n d:Int}(h1:Hi x y n)(h2:Hi c a d)(hn:Gm n<=4294967295)(hd:Gm d<=4294967295):U5 37 [.agg [x,y,c,a],.one (.row [])] [.agg (rl (Hn n d))]:=by
 have e:=LG h1 h2 hn hd;obtain⟨b,l,rfl,rfl,_⟩:=h1;obtain⟨b',l',rfl,rfl,_⟩:=h2;refine G7 func37 rfl ?_;refine Ux [.k e] rfl ?_;refine U4 (S:=Unit) 3 (λL1 _=>(12,.v (.oi 0))::L1) (λ_=>[.blk 41 [.bool b,.row (lm l),.bool b',.row (lm l')],.blk 41 [.bool false,.nils,.bool false,.nils],.blk 41 (rl (Hn n d))]) (λ_=>0) (λ_=>True) () trivial rfl rfl λ_ _=>?_
 exact Uz [.f Ft] rfl
theorem Dk(a:Qs 4294967295 q):U5 37 [.agg (rl q),.one (.row [])] [.agg (rl q)]:=by
 have:=IH (Gb q.num) (Gb (q.den:Int)) a.1 a.2;rwa[Mk]at this
theorem Qs4(a:Qs 4294967295 q):U5 248 [.agg (rl q)] [.agg (rl q)]:=U0 func248 rfl [.k (Dk a)] rfl
theorem Qb7{p:U8}{s t:Nat}(d:Gg p)(hl:p.length<274877906944)(hp:Bd s p)(a:Qs t q)(b:s+p.length*(t+1)+2*t+10<=4294967295):U5 208 [pr p,.agg (rl q)] [.oi (Hp p q)]:=by
 have c:=MX (Gb (Qvf p q.num q.den)) YQ (Qa (tI hp a.1 a.2).1 Fo) Fp;exact U0 func208 rfl [.k (Qs4 (a.mono Fo)),.k (Tq d hl (Fz hp Fo)),.k (Qj7 hl hp a.1 a.2 b),.k c] rfl
theorem Qkx{p:U8}{g:Int}(hl:p.length<274877906944)(hp:Bd 4294967295 p)(hg:Gm g≤4294967295)(h0:g≠0)(hd:∀z∈p,z % g=0):U5 172 [pr p,.agg (Rr g)] [pr (trim (p.map (· / g)))]:=by
 refine G7 func172 rfl ?_;refine Uy [.r 9 (eI (b:=(p.length:Int)) Ft),.i p.length,.i p.length,.r 12 (eI (b:=(p.length:Int)) Ft)] rfl ?_;rw[Ow λk=>Rr (p.getD k 0 / g)];refine U4 (S:=Nat) 2 (λL1 k=>(13,.v (.oi k))::L1) (λk=>[.blk 35 (Rr g),.row false 35 2 (xG (λk=>Rr (p.getD k 0 / g)) [.bool false,.nils] p.length k)]) (λk=>p.length-k) (λk=>k<=p.length) 0 (Qj _) rfl rfl λk d=>?_
 by_cases a:k<p.length
 .have c:=S9 a;refine go tt [.t Fq,.x (Ni c),.k (QG (Gb _) (Gb _) (Gz hp k) hg h0 (hd _ (Qc c))),.i k] rfl (by simp[Gi,QA];omega) ?_;have e:=JO (λk=>Rr (p.getD k 0 / g)) [.bool false,.nils] a;rw[e];exact rd (k+1) Fo a rfl
 .obtain rfl:k=p.length:=Fo;have e:xG (λk=>Rr (p.getD k 0 / g)) [.bool false,.nils] p.length p.length=(p.map (· / g)).map Rr:=by
   rw[JI];refine Xu λi=>?_
   by_cases hi:i<p.length
   .simp[Jh hi,List.getD,Qf hi]
   .simp[Qu,hi]
  rw[e];exact Uz [.f Ft,.k (Lo (H5 (p.map (· / g))) (by simp;exact hl) (PI hp g))] rfl
theorem zQ(p:U8):∀c∈p.map Rr,c.length=2:=Qxx p λ_=>rfl
variable{d:Int}
theorem LY{lx ly:Ff}{px py:U8}{x y:LV}(hx:IsInts lx px)(P:IsInts ly py)(hd:Hi x y d)(q:Cs 4294967294 1073741824 (Crv.mk px py d)):U5 102 [.agg [.row lx,.row ly,x,y]] [.agg (cl (Crv.norm (Crv.mk px py d)))]:=by
 have F:=q.lx;have J:=q.ly;simp only at F J;have G:=Tu px;have K:=Tu py;have n:Gm (Crv.mk px py d).d'<=4294967295:=Qa (Qnl q.d Fo) Fo;have j:=Crv.isz_g (Crv.mk px py d) n;have i:=Crv.g_ne (Crv.mk px py d);have m:=Crv.g_dvd (Crv.mk px py d);have N:=Lo hx Fo (Fz q.x Fo);have M:=Lo P Fo (Fz q.y Fo);have cd:=Bz hd (Qa q.d Fo);have E:Bd 4294967295 (trim px):=Fz (Pv q.x) Fo;have by_:Bd 4294967295 (trim py):=Fz (Pv q.y) Fo;obtain⟨b,l,rfl,rfl,_⟩:=hd;obtain⟨e,he⟩:=nmE ((Crv.mk px py d).d');obtain⟨g,o⟩:=nmE ((Crv.mk px py d).g);obtain⟨X,C⟩:=nmE (trim px);obtain⟨Y,D⟩:=nmE (trim py);have h:(Crv.mk px py d).norm=⟨trim (X.map (· / g)),trim (Y.map (· / g)),e / g⟩:=by rw[he,o,C,D];rfl
 rw[h];have a:g=if e<0 then -((S8 (e::(X++Y)):Nat):Int)else(S8 (e::(X++Y)):Nat):=by rw[o,he,C,D];rfl
 have u:e=if d=0 then 1 else d:=by rw[he];rfl
 simp only[<-he,<-o,<-C,<-D]at n j i m G K N M E by_;clear h o he C D;refine G7 func102 rfl ?_;refine Ux [.k N,.k M,.k cd,.k Ep] rfl ?_;refine ct 1 (S:=Unit) (λ_=>[(2,.v (.one (.ow 1 0))),(3,.v (pr X)),(4,.v (pr Y)),(5,.v (.one (.ow 2 0)))]) (λ_=>[.blk 37 [.row lx,.row ly,.bool b,.row (lm l)],.blk 37 [.nils,.nils,.bool false,.nils],.blk 35 (Rr e)]) (λ_=>True) rfl ?_ ?_
 .by_cases h0:d=0
  .rw[u,if_pos h0];exact go tt [.t (by simpa using h0),.k (AD (z:=1) Fp)] rfl trivial (rc () trivial rfl)
  .rw[u,if_neg h0];exact go tt [.f (by simpa using h0)] rfl trivial (rc () trivial rfl)
 .intro _ _;have H:IsInts ([Rr e]++X.map Rr++Y.map Rr) (e::(X++Y)):=by
   have:=H5 (e::(X++Y));simpa using this
  have w:∀z∈e::(X++Y),Gm z≤4294967295:=λz hz=>by
   rcases Qm.1 hz with rfl|hz
   .exact n
   .rcases Qr.1 hz with hz|hz
    .exact E z hz
    .exact by_ z hz
  have I:=Qjp H w;have B:=Qkx (p:=X) Fo E j i λz hz=>m z (Qi _ (X9 _ hz))
  have r:=Qkx (p:=Y) Fo by_ j i λz hz=>m z (Qi _ (Jv _ hz))
  have O:=QG (Gb e) (Gb g) n j i (m e (Qy ..));have A:=LL w;by_cases c:e<0
  .rw[if_pos c]at a;have L:=AB (Gb ((S8 (e::(X++Y)):Nat):Int)) A;rw[<-a]at L;exact Uz [.lo,.s (zQ X),.s (zQ Y),.k I,.t (by simpa using c),.k L,.k O,.k B,.k r] rfl rfl Fw
  .rw[if_neg c]at a;rw[<-a]at I;exact Uz [.lo,.s (zQ X),.s (zQ Y),.k I,.f (by simpa using c),.k O,.k B,.k r] rfl rfl Fw
theorem IX{k:Crv}(hn:WN k)(a:Cs 4294967294 1073741824 k):U5 102 [.agg (cl k)] [.agg (cl k)]:=by
 have h:=LY (H5 k.x) (H5 k.y) (Gb k.d) a;rw[Crv.norm_of hn]at h;exact h
theorem RR{lx ly:Ff}{px py:U8}{x y:LV}(hx:IsInts lx px)(e:IsInts ly py)(hd:Hi x y d)(a:Cs 4294967294 1073741824 (Crv.mk px py d))(h0:d≠0):U5 196 [.one (.row lx),.one (.row ly),.agg [x,y]] [.agg (cl (Crv.norm (Crv.mk px py d))),.oi 0]:=by
 have cd:=Bz hd (Qa a.d Fo);have c:=LY hx e hd a;obtain⟨b,l,rfl,rfl,_⟩:=hd;exact U0 func196 rfl [.k cd,.k Ep,.f (by simpa using h0),.k c] rfl
theorem Qxa{lx ly:Ff}{px py:U8}(hx:IsInts lx px)(a:IsInts ly py)(b:Cs 4294967294 1073741824 (Crv.mk px py 0)):U5 51 [.one (.row lx),.one (.row ly)] [.agg (cl (Crv.norm (Crv.mk px py 0)))] :=
 U0 func51 rfl [.k (LY hx a YQ b)] rfl
def JJ(x y:Int):Crv:=Crv.norm ⟨trim [x],trim [y],0⟩
theorem mX{x y:Int}(hx:-9223372036854775808<=x/\x<=9223372036854775807)(b:-9223372036854775808<=y/\y<=9223372036854775807):Cs 64 1 ⟨trim [x],trim [y],0⟩:=by
 have a:∀z:Int,-9223372036854775808<=z/\z<=9223372036854775807->Gm z<=64:=λz hz=>by
  rw[Pi];have:(2:Nat)^64=18446744073709551616:=Fp;omega
 refine⟨Pv λz hz=>?_,Pv λz hz=>?_,Qj _,Tu [x],Tu [y]⟩
 .rw[Qk]at hz;rw[hz];exact a x hx
 .rw[Qk]at hz;rw[hz];exact a y b
theorem Qsm{x y:Int}(hx:-9223372036854775808<=x/\x<=9223372036854775807)(a:-9223372036854775808<=y/\y<=9223372036854775807):U5 52 [.oi x,.oi y] [.agg (cl (JJ x y))] :=
 U0 func52 rfl [.k (Qb6 (p:=[x]) (show 1<274877906944 by decide) (by intro z hz;rw[Qk]at hz;rw[hz];exact hx)),.k (Qb6 (p:=[y]) (show 1<274877906944 by decide) (by intro z hz;rw[Qk]at hz;rw[hz];exact a)),.k (Qxa (H5 _) (H5 _) ((mX hx a).mono Fo Fo))] rfl
theorem Qsu{a b:Crv}(ha:WN a)(hb:WN b)(c:Cs 4294967294 1073741824 a)(cb:Cs 4294967294 1073741824 b):U5 230 [.agg (cl a),.agg (cl b)] [.one (.bool (QB a b))]:=by
 have g:=IX ha c;have i:=IX hb cb;have m:=c.lx;have j:=c.ly;have l:=cb.lx;have n:=cb.ly;have e:=LJ (p:=a.x) (q:=b.x) Fo Fo (Fz c.x Fo) (Fz cb.x Fo);have h:=LJ (p:=a.y) (q:=b.y) Fo Fo (Fz c.y Fo) (Fz cb.y Fo);have sd:=MX (Gb a.d) (Gb b.d) (Qa c.d Fo) (Qa cb.d Fo);rw[ha.1,hb.1]at e;rw[ha.2.1,hb.2.1]at h;by_cases h1:a.x=b.x
 .by_cases h2:a.y=b.y
  .exact U0 func230 rfl [.k g,.k i,.k e,.t (by simpa using h1),.k h,.t (by simpa using h2),.k sd] rfl (by simp[QB,h1,h2,uN]) trivial
  .exact U0 func230 rfl [.k g,.k i,.k e,.t (by simpa using h1),.k h,.f (by simpa using h2)] rfl (by simp[QB,h1,h2]) trivial
 .exact U0 func230 rfl [.k g,.k i,.k e,.f (by simpa using h1),.f rfl] rfl (by simp[QB,h1]) trivial
variable{l:List Pt}
theorem Mr{i:Nat}{p:Pt}(h:l[i]? = some p):(l.map Gq)[i]? = some [pl p.c.x,pl p.c.y,sg p.c.d,mg p.c.d,.int .i64 p.id]:=Ra h
theorem Mi(l:List Pt):∀c∈l.map Gq,c.length=5:=Qxx l λ_=>rfl
theorem Qci{lx ly:Ff}{px py:U8}{x y:LV}{d:Int}(hx:IsInts lx px)(h:IsInts ly py)(hd:Hi x y d)(a:Cs 4294967294 1073741824 (Crv.mk px py d))(id:Int):U5 218 [.agg [.row lx,.row ly,x,y,.int .i64 id]] [.agg (Gq ⟨Crv.norm (Crv.mk px py d),id⟩)]:=by
 have cd:=Bz hd (Qa a.d Fo);by_cases h0:d=0
 .subst h0;have ck:Cs 4294967294 1073741824 (Crv.mk px py 1):=⟨a.x,a.y,show Gm 1<=4294967294 by decide,a.lx,a.ly⟩;have c:=RR hx h (Gb 1) ck Fp;have e:Crv.norm (Crv.mk px py 1)=Crv.norm (Crv.mk px py 0):=by simp only[Crv.norm,Crv.g,Crv.d'];rfl
  rw[e]at c;obtain⟨b,l,rfl,rfl,_⟩:=hd;exact U0 func218 rfl [.k cd,.k Ep,.t Ft,.k (AD (z:=1) Fp),.k c] rfl
 .have c:=RR hx h hd a h0;obtain⟨b,l,rfl,rfl,_⟩:=hd;exact U0 func218 rfl [.k cd,.k Ep,.f (by simpa using h0),.k c] rfl
theorem Qkr(id:Int)(hl:l.length<1073741824):U5 217 [.agg [pts l],.oi id] [.oi (S6 l id:Int),.one (.bool (has l id))]:=by
 refine G7 func217 rfl ?_;refine Ux [] rfl ?_;refine ct 2 (S:=Unit) (λ_=>[(1,.v (.oi id)),(2,.v (.one (.ow 0 0))),(6,.v (.oi (S6 l id:Int)))]) (λ_=>[.blk 193 [pts l]]) (λ_=>True) rfl ?_ ?_
 .refine U4 (S:=Nat) 1 (λL1 k=>(6,.v (.oi k))::L1) (λ_=>[.blk 193 [pts l]]) (λk=>l.length-k) (λk=>k<=l.length/\∀j p,j<k->l[j]? = some p->p.id<id) 0 ⟨Qj _,λj p h=>Fo⟩ rfl rfl λk ⟨m,b⟩=>?_
  by_cases h:k<l.length
  .obtain⟨p,hp⟩:=gxE (l:=l) (i:=k) h;by_cases a:p.id<id
   .refine Uy [.t Fq,.x (Mr hp),.t (by simpa using a)] rfl ?_;exact rd (k+1) Fo ⟨h,λj q d c=>by
     rcases Q7 j k with h2|h2
     .exact b j q h2 c
     .have:j=k:=Fo;subst this;rw[hp]at c;injection c with c;rw[<-c];exact a⟩ rfl
   .have e:=zV b (.inr ⟨p,hp,a⟩);refine Ux [.t Fq,.x (Mr hp),.f (by simpa using a)] rfl ?_;rw[e];exact rc () trivial rfl
  .obtain rfl:k=l.length:=Fo;have e:=zV b (.inl rfl);refine Ux [.f Ft,.f rfl] rfl ?_;rw[e];exact rc () trivial rfl
 .intro _ _;by_cases h:S6 l id<l.length
  .obtain⟨p,hp⟩:=gxE (l:=l) (i:=S6 l id) h;have e:has l id=decide (p.id=id):=by simp[has,hp]
   rw[e];exact Uz [.g 30 true Fq,.x (Mr hp)] rfl
  .have e:has l id=false:=by simp[has,Qu (Yc h)]
   rw[e];exact Uz [.g 30 false Fq] rfl
theorem ZJ:U5 179 [.agg [pts l]] [.one (pts l)]:=U0 func179 rfl [] rfl
theorem pV{lx ly:Ff}{px py:U8}{x y:LV}{d id:Int}(hx:IsInts lx px)(p:IsInts ly py)(hd:Hi x y d)(o:Cs 4294967294 1073741824 (Crv.mk px py d))(hl:l.length<=1000000):
 U5 176 [.agg [pts l],.agg [.row lx,.row ly,x,y,.int .i64 id]] [.agg [pts (if HY l (Pt.mk (Crv.norm (Crv.mk px py d)) id)=0 then put l (Pt.mk (Crv.norm (Crv.mk px py d)) id)else l)],.oi (HY l (Pt.mk (Crv.norm (Crv.mk px py d)) id))]:=by
 have h:=Qkr (l:=l) id Fo;have m:=Qci hx p hd o id;obtain⟨b,r,rfl,rfl,_⟩:=hd;obtain⟨q,j⟩:=nmE (Pt.mk (Crv.norm (Crv.mk px py d)) id);have a:q.id=id:=by rw[j]
 rw[<-j]at m ⊢;have g:=rT l id;by_cases h1:has l id=true
 .have e:HY l q=6:=by simp[HY,a,h1]
  rw[e,if_neg Fp];exact U0 func176 rfl [.k h,.t h1] rfl
 by_cases h2:6<=l.length
 .have e:HY l q=9:=by simp[HY,a,h1,h2]
  rw[e,if_neg Fp];exact U0 func176 rfl [.k h,.f (by simpa using h1),.t Fq] rfl
 have e:HY l q=0:=by simp[HY,a,h1,h2]
 rw[e,if_pos rfl];have n:∀c∈(l.map Gq).take (S6 l id),c.length=5:=λc hc=>Mi l c (Qn hc)
 have u:∀c∈(l.map Gq).drop (S6 l id),c.length=5:=λc hc=>Mi l c (Q3 hc)
 refine U0 func176 rfl [.k h,.f (by simpa using h1),.f Fq,.i (S6 l id),.s n,.k m,.i (S6 l id),.s u] rfl ?_ ?_
 .simp[put,a,pts,Yd,Vv,Gq]
 .simp[Gi];exact⟨Fo,g,λ_ _=>rfl,Fo,Fo,g⟩
theorem aF(h:∀p∈l,Q2r 4294967294 1073741824 p)(hl:l.length<1073741824):U5 184 [.agg [pts l]] [.one (pts (Pq l))]:=by
 refine G7 func184 rfl ?_;refine Ux [.o 3 39 5] rfl ?_;refine U4 (S:=Nat) 2 (λL1 i=>(12,.v (.oi i))::(3,.v (.one (.orow 1 5 none)))::L1) (λi=>[.blk 193 [pts l],.row false 39 5 (((l.take i).foldl Lh []).map Gq)]) (λi=>l.length-i) (λi=>i<=l.length) 0 (Qj _) rfl rfl λi hi=>?_
 by_cases b:i<l.length
 .obtain⟨p,hp⟩:=gxE (l:=l) (i:=i) b;obtain⟨hn,w⟩:=h p (Qc hp);have g:=Ph Lh [] l hp;have s:=FO l i;have j:=GQ l i;obtain⟨o,z⟩:=nmE ((l.take i).foldl Lh []);rw[<-z]at g s j ⊢;refine Ux [.t Fq,.x (Mr hp)] rfl ?_;refine U4 (S:=Nat) 3 (λL1 k=>(18,.v (.oi k))::(6,.v (.one (.bool ((o.take k).any λq=>QB p.c q.c))))::L1) (λk=>[.blk 193 [pts l],.row false 39 5 (o.map Gq),.blk 39 (Gq p)]) (λk=>o.length-k) (λk=>k<=o.length) 0 (Qj _) rfl rfl λk y=>?_
  by_cases d:k<o.length
  .obtain⟨q,m⟩:=gxE (l:=o) (i:=k) d;obtain⟨u,n⟩:=h q (j q (Qc m));have a:((o.take (k+1)).any λq=>QB p.c q.c)=(((o.take k).any λq=>QB p.c q.c) || QB p.c q.c):=by rw[Vb,m,List.any_append];simp
   cases hb:(o.take k).any λq=>QB p.c q.c with
   |
    true =>
    rw[hb]at a;refine Uy [.t Fq,.i k,.x (Mr m),.t rfl,.r 29 (v:=.one (.bool ((o.take (k+1)).any λq=>QB p.c q.c))) (by rw[a];rfl)] rfl ?_;exact rd (k+1) Fo d rfl
   |
    false =>
    rw[hb]at a;refine Uy [.t Fq,.i k,.x (Mr m),.f rfl,.k (Qsu hn u w n),.r 29 (v:=.one (.bool ((o.take (k+1)).any λq=>QB p.c q.c))) (by rw[a];rfl)] rfl ?_;exact rd (k+1) Fo d rfl
  .obtain rfl:k=o.length:=Fo;rw[Q6];cases hb:o.any λq=>QB p.c q.c with
   |
    true =>
    have e:Lh o p=o:=by unfold Lh;rw[if_pos hb]
    exact go tt [.f Ft,.f rfl] rfl Fw (rd (i+1) Fo b (by rw[g,e];rfl))
   |
    false =>
    have e:Lh o p=o++[p]:=by unfold Lh;rw[if_neg (by rw[hb];decide)]
    exact go tt [.f Ft,.t rfl] rfl Fw (rd (i+1) Fo b (by rw[g,e,Jx];rfl))
 .obtain rfl:i=l.length:=Fo;exact Uz [.f Ft] rfl (by rw[Q6];rfl) trivial
theorem Qfk(q:Rat):Gg [-q.num,(q.den:Int)]:=by
 have:=q.den_nz;simp[Gg,trim,this]
theorem Q2x{s:Nat}{q:Rat}(h:Qs s q):Bd s [-q.num,(q.den:Int)]:=λz hz=>by
 simp at hz;rcases hz with rfl|rfl
 .rw[Rq];exact h.1
 .exact h.2
theorem FH{x y e c:LV}{n d:Int}(h1:Hi x y n)(h2:Hi e c d)(hn:Gm n<=4294967295)(hd:Gm d<=4294967295)(a:Qs 4294967295 (Hn n d)):U5 112 [.agg [x,y,e,c]] [.agg (qa (Hn n d))]:=by
 have f:=IH h1 h2 hn hd;obtain⟨b,l,rfl,rfl,_⟩:=h1;obtain⟨b',l',rfl,rfl,_⟩:=h2;exact U0 func112 rfl [.k f,.k (AB (Gb _) a.1),.k (Dk a)] rfl
theorem Ac{k:Crv}(hn:WN k)(a:Cs 4294967294 1073741824 k):U5 234 [.agg (cl k)] [.agg (cl k)]:=by
 have h0:k.d≠0:=by have:=hn.2.2.1;omega
 have b:=RR (H5 k.x) (H5 k.y) (Gb k.d) a h0;rw[show Crv.mk k.x k.y k.d=k from rfl,Crv.norm_of hn]at b;exact U0 func234 rfl [.k (Bz (Gb k.d) (Qa a.d Fo)),.k Ep,.f (by simpa using h0),.k b] rfl
theorem RG{a b:Crv}(ha:WN a)(hb:WN b)(c:Cb a)(cb:Cb b):U5 225 [.agg (cl a),.agg (cl b)] [pr (Ht a b)]:=by
 have l1:=c.lx;have l2:=cb.lx;have l3:=Ha b.x a.d;have e:=Ha a.x b.d;exact U0 func225 rfl [.k (Ac ha (c.mono Fo Fo)),.k (Ac hb (cb.mono Fo Fo)),.k (Nl Fo (Fz cb.x Fo) (Qa c.d Fo)),.k (Nl Fo (Fz c.x Fo) (Qa cb.d Fo)),.k (MQ Fo Fo (Fz (Hj cb.x c.d) Fo) (Fz (Hj c.x cb.d) Fo))] rfl
theorem RV{a b:Crv}(ha:WN a)(hb:WN b)(c:Cb a)(cb:Cb b):U5 226 [.agg (cl a),.agg (cl b)] [pr (Hr a b)]:=by
 have l1:=c.ly;have l2:=cb.ly;have l3:=Ha b.y a.d;have e:=Ha a.y b.d;exact U0 func226 rfl [.k (Ac ha (c.mono Fo Fo)),.k (Ac hb (cb.mono Fo Fo)),.k (Nl Fo (Fz cb.y Fo) (Qa c.d Fo)),.k (Nl Fo (Fz c.y Fo) (Qa cb.d Fo)),.k (MQ Fo Fo (Fz (Hj cb.y c.d) Fo) (Fz (Hj c.y cb.d) Fo))] rfl
def M5(ps:U9):Ff:=ps.map λp=>[pl p]
theorem Sr{ps:U9}{i:Nat}{p:U8}(h:ps[i]? = some p):(M5 ps)[i]? = some [pl p]:=Ra h
end Orr
