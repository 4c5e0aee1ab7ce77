/- Ntt L1 L2 L3 L4 L5 M1 P2 M2 PolyL RatL CrvL CrowdL PredL CertL Y1 Y2 Q1 C1 -/
import Derived.Test.YtbhhcpcpionelaaGreatPart03
import Derived.Laws.StructEq
import Derived.Test.YtbhhcpcpionelaaGreatProg
import Derived.Test.YtbhhcpcpionelaaGreatPart00
set_option linter.all false
namespace Orr
open Go Go.Proofs Tryz
theorem iG(d:Nat)(x y:Int)(w:World):(Op.equalIn (d+1) 3 (.int .i64 x) (.int .i64 y)).run prog w=.ok (decide (x=y)) w:=by
 simp[Op.equalIn,runUnderlying3];rfl
noncomputable def ti3:TI prog:=QZ 3 isAgg3 sizeOf3 underlying3 zeroValue3 typeInfo3 8 rfl
noncomputable def ti4:TI prog:=QZ 4 isAgg4 sizeOf4 underlying4 zeroValue4 typeInfo4 1 rfl
noncomputable def ti5:TI prog:=QZ 5 isAgg5 sizeOf5 underlying5 zeroValue5 typeInfo5 1 rfl
noncomputable def ti9:TI prog:=QZ 9 isAgg9 sizeOf9 underlying9 zeroValue9 typeInfo9 16 rfl
noncomputable def ti22:TI prog:=QZ 22 isAgg22 sizeOf22 underlying22 zeroValue22 typeInfo22 24 rfl
noncomputable def ti23:TI prog:=QZ 23 isAgg23 sizeOf23 underlying23 zeroValue23 typeInfo23 8 rfl
noncomputable def ti26:TI prog:=HK (ks:=[1,1,1]) (ag:=[false,false,false]) 26 isAgg26 sizeOf26 underlying26 zeroValue26 typeInfo26 24 rfl ⟨sizeOf23,sizeOf24,sizeOf3,trivial⟩ ⟨isAgg23,isAgg24,isAgg3,trivial⟩ rfl
set_option maxRecDepth 20000 in
theorem Qpk(d:Nat)(x0 x1 x2 x3 x4 y0 y1 y2 y3 y4:Int)(w:World):(Op.equalIn (d+1+1) 29 (.agg #[.int .i64 x0,.int .i64 x1,.int .i64 x2,.int .i64 x3,.int .i64 x4]) (.agg #[.int .i64 y0,.int .i64 y1,.int .i64 y2,.int .i64 y3,.int .i64 y4])).run prog w=.ok (decide ([x0,x1,x2,x3,x4]=[y0,y1,y2,y3,y4])) w:=by
 rw[run_equalIn_array w (d+1) _ _ (n:=5) (e:=3) rfl rfl];rw[show List.range 5=[0,1,2,3,4] from rfl,show prog.cellsOf 3=1 from rfl];simp[Op.eqItems,Go.part,isAgg3,iG];by_cases h0:x0=y0 <;> by_cases h1:x1=y1 <;> by_cases h2:x2=y2 <;> by_cases h3:x3=y3 <;> by_cases h4:x4=y4 <;> simp[h0,h1,h2,h3,h4]
theorem Qvw(a b:Uq)(ha:a.length=5)(hb:b.length=5)(w:World):(Op.equal 29 (.agg (a.map (Value.int .i64)).toArray) (.agg (b.map (Value.int .i64)).toArray)).run prog w=.ok (decide (a=b)) w:=by
 match a,ha,b,hb with
 | [x0,x1,x2,x3,x4],_,[y0,y1,y2,y3,y4],_=>exact Qpk 9998 x0 x1 x2 x3 x4 y0 y1 y2 y3 y4 w
noncomputable def ti29:TI prog:={ tiA 29 isAgg29 sizeOf29 underlying29 zeroValue29 typeInfo29 40 rfl sizeOf3 with eqn:=some 5,heq:=λk h=>by injection h with h;subst h;exact⟨eqGuardType29,Qvw⟩ }
noncomputable def ti31:TI prog:=QZ 31 isAgg31 sizeOf31 underlying31 zeroValue31 typeInfo31 8 rfl
noncomputable def ti33:TI prog:=QZ 33 isAgg33 sizeOf33 underlying33 zeroValue33 typeInfo33 24 rfl
noncomputable def ti34:TI prog:=QZ 34 isAgg34 sizeOf34 underlying34 zeroValue34 typeInfo34 24 rfl
noncomputable def ti35:TI prog:=QZ 35 isAgg35 sizeOf35 underlying35 zeroValue35 typeInfo35 24 rfl
noncomputable def ti37:TI prog:=HK (ks:=[1,1]) (ag:=[false,false]) 37 isAgg37 sizeOf37 underlying37 zeroValue37 typeInfo37 32 rfl ⟨sizeOf4,sizeOf35,trivial⟩ ⟨isAgg4,isAgg35,trivial⟩ rfl
noncomputable def ti39:TI prog:=HK (ks:=[1,1,2]) (ag:=[false,false,true]) 39 isAgg39 sizeOf39 underlying39 zeroValue39 typeInfo39 80 rfl ⟨sizeOf34,sizeOf34,sizeOf37,trivial⟩ ⟨isAgg34,isAgg34,isAgg37,trivial⟩ rfl
noncomputable def ti41:TI prog:=HK (ks:=[4,1]) (ag:=[true,false]) 41 isAgg41 sizeOf41 underlying41 zeroValue41 typeInfo41 88 rfl ⟨sizeOf39,sizeOf3,trivial⟩ ⟨isAgg39,isAgg3,trivial⟩ rfl
noncomputable def ti43:TI prog:=HK (ks:=[2,2]) (ag:=[true,true]) 43 isAgg43 sizeOf43 underlying43 zeroValue43 typeInfo43 64 rfl ⟨sizeOf37,sizeOf37,trivial⟩ ⟨isAgg37,isAgg37,trivial⟩ rfl
noncomputable def ti45:TI prog:=HK (ks:=[1,1,1,5,4]) (ag:=[false,false,false,true,true]) 45 isAgg45 sizeOf45 underlying45 zeroValue45 typeInfo45 176 rfl ⟨sizeOf3,sizeOf3,sizeOf3,sizeOf41,sizeOf43,trivial⟩ ⟨isAgg3,isAgg3,isAgg3,isAgg41,isAgg43,trivial⟩ rfl
noncomputable def ti52:TI prog:=QZ 52 isAgg52 sizeOf52 underlying52 zeroValue52 typeInfo52 24 rfl
noncomputable def ti54:TI prog:=QZ 54 isAgg54 sizeOf54 underlying54 zeroValue54 typeInfo54 24 rfl
noncomputable def ti55:TI prog:=QZ 55 isAgg55 sizeOf55 underlying55 zeroValue55 typeInfo55 24 rfl
noncomputable def ti57:TI prog:=QZ 57 isAgg57 sizeOf57 underlying57 zeroValue57 typeInfo57 24 rfl
noncomputable def ti59:TI prog:=HK (ks:=[1,1]) (ag:=[false,false]) 59 isAgg59 sizeOf59 underlying59 zeroValue59 typeInfo59 32 rfl ⟨sizeOf57,sizeOf4,trivial⟩ ⟨isAgg57,isAgg4,trivial⟩ rfl
noncomputable def ti61:TI prog:=HK (ks:=[2,2]) (ag:=[true,true]) 61 isAgg61 sizeOf61 underlying61 zeroValue61 typeInfo61 64 rfl ⟨sizeOf59,sizeOf59,trivial⟩ ⟨isAgg59,isAgg59,trivial⟩ rfl
noncomputable def ti66:TI prog:=QZ 66 isAgg66 sizeOf66 underlying66 zeroValue66 typeInfo66 24 rfl
noncomputable def ti68:TI prog:=HK (ks:=[1,1,1,1,1]) (ag:=[false,false,false,false,false]) 68 isAgg68 sizeOf68 underlying68 zeroValue68 typeInfo68 120 rfl ⟨sizeOf55,sizeOf55,sizeOf55,sizeOf55,sizeOf66,trivial⟩ ⟨isAgg55,isAgg55,isAgg55,isAgg55,isAgg66,trivial⟩ rfl
noncomputable def ti81:TI prog:=QZ 81 isAgg81 sizeOf81 underlying81 zeroValue81 typeInfo81 8 rfl
abbrev cU:List (Nat×Nat×String):=[(365,0,"Advance"),(121,0,"Begin"),(366,0,"Certs"),(51,0,"Clone"),(367,0,"Drop"),(368,0,"Events"),(372,0,"Go"),(88,0,"Ids"),(377,0,"Next"),(376,0,"Now"),(369,0,"Put"),(370,0,"Turn")]
theorem Qwn:∀x∈cU,∀b o w,(method (prog.types.size+Made.depth) 82 (.pointer (some ⟨b,o,none⟩)) x.2.2).run prog w=.ok (x.1,.pointer (some ⟨b,o+x.2.1,none⟩)) w:=λx hx=>by
 simp only[cU,Qm,Xl,or_false]at hx;rcases hx with rfl|rfl|rfl|rfl|rfl|rfl|rfl|rfl|rfl|rfl|rfl|rfl <;> first|exact As (E:=196) typeInfo82 rfl underlying82|exact Lk (S:=196) (i:=0) typeInfo82 rfl underlying196 rfl underlying192 (λ_ h=>by cases h) sizeOf192 (by decide)
noncomputable def ti82:TI prog:={ QZ 82 isAgg82 sizeOf82 underlying82 zeroValue82 typeInfo82 8 rfl with ms:=cU,hms:=Qwn }
abbrev cF:List (Nat×Nat×String):=[(393,0,"Advance"),(121,0,"Begin"),(366,0,"Certs"),(52,0,"Clone"),(394,0,"Drop"),(368,0,"Events"),(372,0,"Go"),(377,0,"Next"),(376,0,"Now"),(395,0,"Put"),(396,0,"Turn"),(91,0,"Winner")]
theorem Qwo:∀x∈cF,∀b o w,(method (prog.types.size+Made.depth) 83 (.pointer (some ⟨b,o,none⟩)) x.2.2).run prog w=.ok (x.1,.pointer (some ⟨b,o+x.2.1,none⟩)) w:=λx hx=>by
 simp only[cF,Qm,Xl,or_false]at hx;rcases hx with rfl|rfl|rfl|rfl|rfl|rfl|rfl|rfl|rfl|rfl|rfl|rfl <;> first|exact As (E:=199) typeInfo83 rfl underlying83|exact Lk (S:=199) (i:=0) typeInfo83 rfl underlying199 rfl underlying192 (λ_ h=>by cases h) sizeOf192 (by decide)
noncomputable def ti83:TI prog:={ QZ 83 isAgg83 sizeOf83 underlying83 zeroValue83 typeInfo83 8 rfl with ms:=cF,hms:=Qwo }
abbrev cG:List (Nat×Nat×String):=[(398,0,"Advance"),(121,0,"Begin"),(366,0,"Certs"),(53,0,"Clone"),(399,0,"Drop"),(368,0,"Events"),(372,0,"Go"),(89,0,"Ids"),(377,0,"Next"),(376,0,"Now"),(400,0,"Put"),(401,0,"Turn")]
theorem Qwp:∀x∈cG,∀b o w,(method (prog.types.size+Made.depth) 84 (.pointer (some ⟨b,o,none⟩)) x.2.2).run prog w=.ok (x.1,.pointer (some ⟨b,o+x.2.1,none⟩)) w:=λx hx=>by
 simp only[cG,Qm,Xl,or_false]at hx;rcases hx with rfl|rfl|rfl|rfl|rfl|rfl|rfl|rfl|rfl|rfl|rfl|rfl <;> first|exact As (E:=201) typeInfo84 rfl underlying84|exact Lk (S:=201) (i:=0) typeInfo84 rfl underlying201 rfl underlying192 (λ_ h=>by cases h) sizeOf192 (by decide)
noncomputable def ti84:TI prog:={ QZ 84 isAgg84 sizeOf84 underlying84 zeroValue84 typeInfo84 8 rfl with ms:=cG,hms:=Qwp }
abbrev cH:List (Nat×Nat×String):=[(403,0,"Advance"),(121,0,"Begin"),(366,0,"Certs"),(54,0,"Clone"),(404,0,"Drop"),(368,0,"Events"),(372,0,"Go"),(92,0,"Ids"),(377,0,"Next"),(376,0,"Now"),(405,0,"Put"),(406,0,"Turn")]
theorem Qwq:∀x∈cH,∀b o w,(method (prog.types.size+Made.depth) 85 (.pointer (some ⟨b,o,none⟩)) x.2.2).run prog w=.ok (x.1,.pointer (some ⟨b,o+x.2.1,none⟩)) w:=λx hx=>by
 simp only[cH,Qm,Xl,or_false]at hx;rcases hx with rfl|rfl|rfl|rfl|rfl|rfl|rfl|rfl|rfl|rfl|rfl|rfl <;> first|exact As (E:=203) typeInfo85 rfl underlying85|exact Lk (S:=203) (i:=0) typeInfo85 rfl underlying203 rfl underlying192 (λ_ h=>by cases h) sizeOf192 (by decide)
noncomputable def ti85:TI prog:={ QZ 85 isAgg85 sizeOf85 underlying85 zeroValue85 typeInfo85 8 rfl with ms:=cH,hms:=Qwq }
abbrev cR:List (Nat×Nat×String):=[(408,0,"Advance"),(121,0,"Begin"),(366,0,"Certs"),(55,0,"Clone"),(409,0,"Drop"),(368,0,"Events"),(372,0,"Go"),(377,0,"Next"),(376,0,"Now"),(410,0,"Put"),(90,0,"Triples"),(411,0,"Turn")]
theorem Qwr:∀x∈cR,∀b o w,(method (prog.types.size+Made.depth) 86 (.pointer (some ⟨b,o,none⟩)) x.2.2).run prog w=.ok (x.1,.pointer (some ⟨b,o+x.2.1,none⟩)) w:=λx hx=>by
 simp only[cR,Qm,Xl,or_false]at hx;rcases hx with rfl|rfl|rfl|rfl|rfl|rfl|rfl|rfl|rfl|rfl|rfl|rfl <;> first|exact As (E:=205) typeInfo86 rfl underlying86|exact Lk (S:=205) (i:=0) typeInfo86 rfl underlying205 rfl underlying192 (λ_ h=>by cases h) sizeOf192 (by decide)
noncomputable def ti86:TI prog:={ QZ 86 isAgg86 sizeOf86 underlying86 zeroValue86 typeInfo86 8 rfl with ms:=cR,hms:=Qwr }
noncomputable def ti88:TI prog:=HK (ks:=[1,4,1,1,1,1,1]) (ag:=[false,true,false,false,false,false,false]) 88 isAgg88 sizeOf88 underlying88 zeroValue88 typeInfo88 112 rfl ⟨sizeOf81,sizeOf43,sizeOf82,sizeOf83,sizeOf84,sizeOf85,sizeOf86,trivial⟩ ⟨isAgg81,isAgg43,isAgg82,isAgg83,isAgg84,isAgg85,isAgg86,trivial⟩ rfl
set_option maxRecDepth 20000 in
theorem Qih(d:Nat)(x0 x1 x2 y0 y1 y2:Int)(w:World):(Op.equalIn (d+1+1) 101 (.agg #[.int .i64 x0,.int .i64 x1,.int .i64 x2]) (.agg #[.int .i64 y0,.int .i64 y1,.int .i64 y2])).run prog w=.ok (decide ([x0,x1,x2]=[y0,y1,y2])) w:=by
 rw[run_equalIn_array w (d+1) _ _ (n:=3) (e:=3) rfl rfl];rw[show List.range 3=[0,1,2] from rfl,show prog.cellsOf 3=1 from rfl];simp[Op.eqItems,Go.part,isAgg3,iG];by_cases h0:x0=y0 <;> by_cases h1:x1=y1 <;> by_cases h2:x2=y2 <;> simp[h0,h1,h2]
theorem yY(a b:Uq)(ha:a.length=3)(hb:b.length=3)(w:World):(Op.equal 101 (.agg (a.map (Value.int .i64)).toArray) (.agg (b.map (Value.int .i64)).toArray)).run prog w=.ok (decide (a=b)) w:=by
 match a,ha,b,hb with
 | [x0,x1,x2],_,[y0,y1,y2],_=>exact Qih 9998 x0 x1 x2 y0 y1 y2 w
noncomputable def ti101:TI prog:={ tiA 101 isAgg101 sizeOf101 underlying101 zeroValue101 typeInfo101 24 rfl sizeOf3 with eqn:=some 3,heq:=λk h=>by injection h with h;subst h;exact⟨eqGuardType101,yY⟩ }
noncomputable def ti105:TI prog:=QZ 105 isAgg105 sizeOf105 underlying105 zeroValue105 typeInfo105 16 rfl
noncomputable def ti106:TI prog:=tiA 106 isAgg106 sizeOf106 underlying106 zeroValue106 typeInfo106 80 rfl sizeOf105
noncomputable def ti111:TI prog:=QZ 111 isAgg111 sizeOf111 underlying111 zeroValue111 typeInfo111 4 rfl
set_option maxRecDepth 20000 in
theorem Qii(d:Nat)(x0 x1 x2 x3 y0 y1 y2 y3:Int)(w:World):(Op.equalIn (d+1+1) 122 (.agg #[.int .i64 x0,.int .i64 x1,.int .i64 x2,.int .i64 x3]) (.agg #[.int .i64 y0,.int .i64 y1,.int .i64 y2,.int .i64 y3])).run prog w=.ok (decide ([x0,x1,x2,x3]=[y0,y1,y2,y3])) w:=by
 rw[run_equalIn_array w (d+1) _ _ (n:=4) (e:=3) rfl rfl];rw[show List.range 4=[0,1,2,3] from rfl,show prog.cellsOf 3=1 from rfl];simp[Op.eqItems,Go.part,isAgg3,iG];by_cases h0:x0=y0 <;> by_cases h1:x1=y1 <;> by_cases h2:x2=y2 <;> by_cases h3:x3=y3 <;> simp[h0,h1,h2,h3]
noncomputable def ti122:TI prog:=tiA 122 isAgg122 sizeOf122 underlying122 zeroValue122 typeInfo122 32 rfl sizeOf3
set_option maxRecDepth 20000 in
theorem Qij(d:Nat)(x x0 x1 x2 x3 y y0 y1 y2 y3:Int)(w:World):(Op.equalIn (d+1+1+1) 124 (.agg #[.int .i64 x,.int .i64 x0,.int .i64 x1,.int .i64 x2,.int .i64 x3]) (.agg #[.int .i64 y,.int .i64 y0,.int .i64 y1,.int .i64 y2,.int .i64 y3])).run prog w=.ok (decide ([x,x0,x1,x2,x3]=[y,y0,y1,y2,y3])) w:=by
 rw[run_equalIn_struct w (d+1+1) 124 _ _ rfl Tryz.stoodInHeld124];have hf:(prog.fieldsOf 124).toList=[{ name := "Kind",type:=3,offset:=0,embedded:=false,tag := "",pkgPath := "",byteOffset:=0 },{ name := "Ids",type:=122,offset:=1,embedded:=false,tag := "",pkgPath := "",byteOffset:=8 }]:=by simp[Program.fieldsOf,underlying124]
 rw[hf];simp[Op.eqFields,Go.part,isAgg3,isAgg122,sizeOf122,sizeOf3,iG,Qii];by_cases h:x=y <;> by_cases h0:x0=y0 <;> by_cases h1:x1=y1 <;> by_cases h2:x2=y2 <;> by_cases h3:x3=y3 <;> simp[h,h0,h1,h2,h3]
theorem Qpj(a b:Uq)(ha:a.length=5)(hb:b.length=5)(w:World):(Op.equal 124 (.agg (a.map (Value.int .i64)).toArray) (.agg (b.map (Value.int .i64)).toArray)).run prog w=.ok (decide (a=b)) w:=by
 match a,ha,b,hb with
 | [x,x0,x1,x2,x3],_,[y,y0,y1,y2,y3],_=>exact Qij 9997 x x0 x1 x2 x3 y y0 y1 y2 y3 w
noncomputable def ti124:TI prog:={ HK (ks:=[1,4]) (ag:=[false,true]) 124 isAgg124 sizeOf124 underlying124 zeroValue124 typeInfo124 40 rfl ⟨sizeOf3,sizeOf122,trivial⟩ ⟨isAgg3,isAgg122,trivial⟩ rfl with eqn:=some 5,heq:=λk h=>by injection h with h;subst h;exact⟨eqGuardType124,Qpj⟩ }
noncomputable def ti126:TI prog:=HK (ks:=[5,1,1]) (ag:=[true,false,false]) 126 isAgg126 sizeOf126 underlying126 zeroValue126 typeInfo126 72 rfl ⟨sizeOf124,sizeOf34,sizeOf3,trivial⟩ ⟨isAgg124,isAgg34,isAgg3,trivial⟩ rfl
noncomputable def ti158:TI prog:=HK (ks:=[1,1,1]) (ag:=[false,false,false]) 158 isAgg158 sizeOf158 underlying158 zeroValue158 typeInfo158 40 rfl ⟨sizeOf3,sizeOf3,sizeOf54,trivial⟩ ⟨isAgg3,isAgg3,isAgg54,trivial⟩ rfl
noncomputable def ti169:TI prog:=QZ 169 isAgg169 sizeOf169 underlying169 zeroValue169 typeInfo169 24 rfl
noncomputable def ti171:TI prog:=QZ 171 isAgg171 sizeOf171 underlying171 zeroValue171 typeInfo171 24 rfl
noncomputable def ti172:TI prog:=QZ 172 isAgg172 sizeOf172 underlying172 zeroValue172 typeInfo172 24 rfl
noncomputable def ti174:TI prog:=HK (ks:=[1,1,4,4]) (ag:=[false,false,true,true]) 174 isAgg174 sizeOf174 underlying174 zeroValue174 typeInfo174 176 rfl ⟨sizeOf171,sizeOf172,sizeOf61,sizeOf61,trivial⟩ ⟨isAgg171,isAgg172,isAgg61,isAgg61,trivial⟩ rfl
noncomputable def ti175:TI prog:=QZ 175 isAgg175 sizeOf175 underlying175 zeroValue175 typeInfo175 24 rfl
noncomputable def ti176:TI prog:=QZ 176 isAgg176 sizeOf176 underlying176 zeroValue176 typeInfo176 24 rfl
noncomputable def ti178:TI prog:=HK (ks:=[10,1,1,1]) (ag:=[true,false,false,false]) 178 isAgg178 sizeOf178 underlying178 zeroValue178 typeInfo178 232 rfl ⟨sizeOf174,sizeOf175,sizeOf3,sizeOf176,trivial⟩ ⟨isAgg174,isAgg175,isAgg3,isAgg176,trivial⟩ rfl
noncomputable def ti179:TI prog:=tiA 179 isAgg179 sizeOf179 underlying179 zeroValue179 typeInfo179 1160 rfl sizeOf178
noncomputable def ti181:TI prog:=HK (ks:=[1,1,1,4,65]) (ag:=[false,false,false,true,true]) 181 isAgg181 sizeOf181 underlying181 zeroValue181 typeInfo181 1264 rfl ⟨sizeOf3,sizeOf3,sizeOf169,sizeOf61,sizeOf179,trivial⟩ ⟨isAgg3,isAgg3,isAgg169,isAgg61,isAgg179,trivial⟩ rfl
noncomputable def ti189:TI prog:=HK (ks:=[1,4,4]) (ag:=[false,true,true]) 189 isAgg189 sizeOf189 underlying189 zeroValue189 typeInfo189 152 rfl ⟨sizeOf34,sizeOf43,sizeOf43,trivial⟩ ⟨isAgg34,isAgg43,isAgg43,trivial⟩ rfl
noncomputable def ti190:TI prog:=QZ 190 isAgg190 sizeOf190 underlying190 zeroValue190 typeInfo190 24 rfl
noncomputable def ti192:TI prog:=HK (ks:=[1,9,1,1]) (ag:=[false,true,false,false]) 192 isAgg192 sizeOf192 underlying192 zeroValue192 typeInfo192 192 rfl ⟨sizeOf4,sizeOf189,sizeOf190,sizeOf3,trivial⟩ ⟨isAgg4,isAgg189,isAgg190,isAgg3,trivial⟩ rfl
noncomputable def ti194:TI prog:=HK (ks:=[1]) (ag:=[false]) 194 isAgg194 sizeOf194 underlying194 zeroValue194 typeInfo194 24 rfl ⟨sizeOf54,trivial⟩ ⟨isAgg54,trivial⟩ rfl
noncomputable def ti196:TI prog:=HK (ks:=[12,1,1]) (ag:=[true,true,false]) 196 isAgg196 sizeOf196 underlying196 zeroValue196 typeInfo196 240 rfl ⟨sizeOf192,sizeOf194,sizeOf54,trivial⟩ ⟨isAgg192,isAgg194,isAgg54,trivial⟩ rfl
noncomputable def ti197:TI prog:=QZ 197 isAgg197 sizeOf197 underlying197 zeroValue197 typeInfo197 24 rfl
noncomputable def ti199:TI prog:=HK (ks:=[12,1,1,1]) (ag:=[true,true,false,false]) 199 isAgg199 sizeOf199 underlying199 zeroValue199 typeInfo199 264 rfl ⟨sizeOf192,sizeOf194,sizeOf54,sizeOf197,trivial⟩ ⟨isAgg192,isAgg194,isAgg54,isAgg197,trivial⟩ rfl
noncomputable def ti201:TI prog:=HK (ks:=[12,1,1]) (ag:=[true,true,false]) 201 isAgg201 sizeOf201 underlying201 zeroValue201 typeInfo201 240 rfl ⟨sizeOf192,sizeOf194,sizeOf54,trivial⟩ ⟨isAgg192,isAgg194,isAgg54,trivial⟩ rfl
noncomputable def ti203:TI prog:=HK (ks:=[12,1,1]) (ag:=[true,true,false]) 203 isAgg203 sizeOf203 underlying203 zeroValue203 typeInfo203 240 rfl ⟨sizeOf192,sizeOf194,sizeOf54,trivial⟩ ⟨isAgg192,isAgg194,isAgg54,trivial⟩ rfl
noncomputable def ti205:TI prog:=HK (ks:=[12,1,1]) (ag:=[true,true,false]) 205 isAgg205 sizeOf205 underlying205 zeroValue205 typeInfo205 240 rfl ⟨sizeOf192,sizeOf194,sizeOf66,trivial⟩ ⟨isAgg192,isAgg194,isAgg66,trivial⟩ rfl
noncomputable def ti215:TI prog:=QZ 215 isAgg215 sizeOf215 underlying215 zeroValue215 typeInfo215 24 rfl
noncomputable def ti231:TI prog:=QZ 231 isAgg231 sizeOf231 underlying231 zeroValue231 typeInfo231 8 rfl
noncomputable def ti234:TI prog:=QZ 234 isAgg234 sizeOf234 underlying234 zeroValue234 typeInfo234 8 rfl
noncomputable def ti264:TI prog:=tiA 264 isAgg264 sizeOf264 underlying264 zeroValue264 typeInfo264 176 rfl sizeOf41
theorem Qcv(em:Bool)(n:Nat)(v:Int)(w:World):(Instr.checkKey em (n+1) 3 (.int .i64 v)).run prog w=.ok () w:=by
 rw[Instr.checkKey];simp[runUnderlying3]
theorem jB(em:Bool)(n:Nat)(a b c:Int)(w:World):(Instr.checkKey em (n+1+1) 101 (.agg #[.int .i64 a,.int .i64 b,.int .i64 c])).run prog w=.ok () w:=by
 rw[Instr.checkKey];simp[runUnderlying101];rw[show List.range' 0 3=[0,1,2] from rfl];simp[Go.part,isAgg3,sizeOf3,Qcv]
theorem FN(em:Bool)(ks:Uq)(hk:ks.length=3)(w:World):(Instr.checkKey em 10000 101 (An ks)).run prog w=.ok () w:=by
 match ks,hk with
 | [a,b,c],_=>exact jB em 9998 a b c w
theorem Qjw:MapT prog 271 101 3 (.int .i64 0):=⟨runUnderlying271,⟨_,runUnderlying101,λ_ _=>rfl⟩,FN,λx y hx hy w=>yY x y hx hy w,zeroValue3,rfl⟩
noncomputable def ti271:TI prog:={ QZ 271 isAgg271 sizeOf271 underlying271 zeroValue271 typeInfo271 8 rfl with md:=some (.int .i64 0),hmd:=λd h=>by injection h with h;subst h;exact⟨101,3,Qjw⟩ }
theorem Qjx:MapT prog 272 101 4 (.bool false):=⟨runUnderlying272,⟨_,runUnderlying101,λ_ _=>rfl⟩,FN,λx y hx hy w=>yY x y hx hy w,zeroValue4,rfl⟩
noncomputable def ti272:TI prog:={ QZ 272 isAgg272 sizeOf272 underlying272 zeroValue272 typeInfo272 8 rfl with md:=some (.bool false),hmd:=λd h=>by injection h with h;subst h;exact⟨101,4,Qjx⟩ }
noncomputable def ti285:TI prog:=HK (ks:=[5,1,1,1,1]) (ag:=[true,false,false,false,false]) 285 isAgg285 sizeOf285 underlying285 zeroValue285 typeInfo285 104 rfl ⟨sizeOf124,sizeOf171,sizeOf3,sizeOf176,sizeOf4,trivial⟩ ⟨isAgg124,isAgg171,isAgg3,isAgg176,isAgg4,trivial⟩ rfl
noncomputable def ti291:TI prog:=HK (ks:=[7,1,1,9]) (ag:=[true,false,false,true]) 291 isAgg291 sizeOf291 underlying291 zeroValue291 typeInfo291 232 rfl ⟨sizeOf126,sizeOf4,sizeOf4,sizeOf189,trivial⟩ ⟨isAgg126,isAgg4,isAgg4,isAgg189,trivial⟩ rfl
noncomputable def ti308:TI prog:=tiA 308 isAgg308 sizeOf308 underlying308 zeroValue308 typeInfo308 72 rfl sizeOf33
noncomputable def ti320:TI prog:=QZ 320 isAgg320 sizeOf320 underlying320 zeroValue320 typeInfo320 24 rfl
noncomputable def ti322:TI prog:=QZ 322 isAgg322 sizeOf322 underlying322 zeroValue322 typeInfo322 24 rfl
noncomputable def ti339:TI prog:=HK (ks:=[1,1,4]) (ag:=[false,false,true]) 339 isAgg339 sizeOf339 underlying339 zeroValue339 typeInfo339 128 rfl ⟨sizeOf171,sizeOf171,sizeOf39,trivial⟩ ⟨isAgg171,isAgg171,isAgg39,trivial⟩ rfl
noncomputable def ti341:TI prog:=HK (ks:=[6,1]) (ag:=[true,false]) 341 isAgg341 sizeOf341 underlying341 zeroValue341 typeInfo341 136 rfl ⟨sizeOf339,sizeOf3,trivial⟩ ⟨isAgg339,isAgg3,trivial⟩ rfl
noncomputable def ti343:TI prog:=QZ 343 isAgg343 sizeOf343 underlying343 zeroValue343 typeInfo343 24 rfl
noncomputable def ti347:TI prog:=tiA 347 isAgg347 sizeOf347 underlying347 zeroValue347 typeInfo347 272 rfl sizeOf341
noncomputable def ti351:TI prog:=QZ 351 isAgg351 sizeOf351 underlying351 zeroValue351 typeInfo351 24 rfl
noncomputable def ti355:TI prog:=HK (ks:=[1]) (ag:=[false]) 355 isAgg355 sizeOf355 underlying355 zeroValue355 typeInfo355 24 rfl ⟨sizeOf322,trivial⟩ ⟨isAgg322,trivial⟩ rfl
noncomputable def ti379:TI prog:=QZ 379 isAgg379 sizeOf379 underlying379 zeroValue379 typeInfo379 24 rfl
noncomputable def ti380:TI prog:=QZ 380 isAgg380 sizeOf380 underlying380 zeroValue380 typeInfo380 24 rfl
noncomputable def tt:TT prog:=(.nd (.nd (.nd (.nd (.nd (.nd (.nd .nil ti3 .nil) ti4 .nil) ti5 (.nd .nil ti9 .nil)) ti22 (.nd (.nd (.nd .nil ti23 .nil) ti26 .nil) ti29 (.nd .nil ti31 .nil))) ti33 (.nd (.nd (.nd (.nd .nil ti34 .nil) ti35 .nil) ti37 (.nd .nil ti39 .nil)) ti41 (.nd (.nd (.nd .nil ti43 .nil) ti45 .nil) ti52 (.nd .nil ti54 .nil)))) ti55 (.nd (.nd (.nd (.nd (.nd .nil ti57 .nil) ti59 .nil) ti61 (.nd .nil ti66 .nil)) ti68 (.nd (.nd (.nd .nil ti81 .nil) ti82 .nil) ti83 (.nd .nil ti84 .nil))) ti85 (.nd (.nd (.nd (.nd .nil ti86 .nil) ti88 .nil) ti101 (.nd .nil ti105 .nil)) ti106 (.nd (.nd (.nd .nil ti111 .nil) ti122 .nil) ti124 (.nd .nil ti126 .nil))))) ti158 (.nd (.nd (.nd (.nd (.nd (.nd .nil ti169 .nil) ti171 .nil) ti172 (.nd .nil ti174 .nil)) ti175 (.nd (.nd (.nd .nil ti176 .nil) ti178 .nil) ti179 (.nd .nil ti181 .nil))) ti189 (.nd (.nd (.nd (.nd .nil ti190 .nil) ti192 .nil) ti194 (.nd .nil ti196 .nil)) ti197 (.nd (.nd (.nd .nil ti199 .nil) ti201 .nil) ti203 (.nd .nil ti205 .nil)))) ti215 (.nd (.nd (.nd (.nd (.nd .nil ti231 .nil) ti234 .nil) ti264 (.nd .nil ti271 .nil)) ti272 (.nd (.nd (.nd .nil ti285 .nil) ti291 .nil) ti308 (.nd .nil ti320 .nil))) ti322 (.nd (.nd (.nd (.nd .nil ti339 .nil) ti341 .nil) ti343 (.nd .nil ti347 .nil)) ti351 (.nd (.nd .nil ti355 .nil) ti379 (.nd .nil ti380 .nil))))))
instance:Mo prog:=⟨rfl⟩
theorem Uh{n : Nat}{Q : Exit -> Sg -> List OB -> Prop}{L L' : Sg}{B B' : List OB}{it it' : List It}{as0 : List Qv}{ob : List Prop}(hs : List (H Tryz.prog))(h : (match run tt n 100000 it L B hs [] []with
 |some (it, L, B, q, ob) => (match IB ob with
  |some ob => some (it, L, B, q.map (·.1), q.map (·.2), ob)
  |none => none)
 |none => none) = some (it', L', B', as0, as0, ob)) (k : AK Tryz.prog n Q it' L' B') (ho : U5 ob := by exact trivial) : AK Tryz.prog n Q it L B := go tt hs h ho k
theorem Ui{n : Nat}{Q : Exit -> Sg -> List OB -> Prop}{L L' : Sg}{B B' : List OB}{it it' : List It}{as0 : List Qv}{ob : List Prop}(hs : List (H Tryz.prog))(h : (match run tt n 100000 it L B hs [] []with
 |some (it, L, B, q, ob) => (match IB ob with
  |some ob => some (it, L, B, q.map (·.1), q.map (·.2), ob)
  |none => none)
 |none => none) = some (it', L', B', as0, as0, ob)) (k : AK Tryz.prog n Q it' L' B') (ho : U5 ob := by simp[U5];omega) : AK Tryz.prog n Q it L B := go tt hs h ho k
theorem Uk {n : Nat} {f : FuncId} {fn : Func} {c : Code} {args res us : List TV} {as0 : List Qv} {ob : List Prop} (hf : Tryz.prog.funcs[f]? = some fn) (hh : (fn.body, fn.ntmps, (fn.name == "runtime.NumGoroutine"), Nat.ble args.length n) = (some c, n, false, true)) (hs : List (H Tryz.prog))
 (h : wE tt n c fn.results.toList args hs = some (us, as0, as0, ob)) (he : us = res := by exact rfl) (ho : U5 ob := by exact trivial) : IF Tryz.prog f args res := w tt hf hh hs h he ho
theorem Uj{n : Nat}{L : Sg}{B : List OB}{fn : Func}{res us : List TV}{it : List It}{as0 : List Qv}{ob : List Prop}(hs : List (H Tryz.prog))(h : enE tt n fn.results.toList it L B hs = some (us, as0, as0, ob))(he : us = res := by exact rfl)(ho : U5 ob := by exact trivial) : AK Tryz.prog n (RQ Tryz.prog fn n 0 λu B => u = res /\ B = []) it L B := en tt hs h he ho
theorem Ul{n : Nat}{L : Sg}{B : List OB}{fn : Func}{k : Nat}{res : List TV}{Bout : List OB}{it : List It}{as0 : List Qv}{ob : List Prop}(ps is : List Nat)(hs : List (H Tryz.prog))(h : edE tt n k fn.results.toList it L B hs res Bout ps is = some (as0, as0, ob))(ho : U5 ob := by exact trivial) : AK Tryz.prog n (RQ Tryz.prog fn n k λu B => u = res /\ B = Bout) it L B := ed tt ps is hs h ho
theorem Um{n : Nat}{Q : Exit -> Sg -> List OB -> Prop}{L : Sg}{B : List OB}{S : Type}{c : Code}{r : List It}{L1 : Sg}(k : Nat)(st : Sg -> S -> Sg)(bs : S -> List OB)(μ : S -> Nat)(I : S -> Prop)(s0 : S)(h0 : I s0)(hL : prn (wY c []) L = some L1){as0 : List Qv}(hs : two (lG none L B (st L1 s0) (bs s0)) = some (as0, as0))
 (round : ∀s, I s -> AK Tryz.prog n Q (.code c :: .rnd (some k) (λL B => ∃s', μ s' < μ s /\ I s' /\ L = st L1 s' /\ B = bs s') :: r) (st L1 s) (bs s)) (hk : ∀s, I s -> (bs s).length = k := by exact λ_ _ => rfl) : AK Tryz.prog n Q (.code (.loop c) :: r) L B := lp k st bs μ I s0 h0 hL hk hs round
abbrev Un(f : Nat)(a r : List TV) : Prop := IF Tryz.prog f a r
end Orr
namespace Orr
open Go Go.Proofs Tryz
set_option maxRecDepth 10000
def lm(l:Us):Uw:=l.map λ(x:Nat)=>[.int .u32 (x:Int)]
abbrev lr(l:Us):TV:=.one (.row (lm l))
theorem U9(l:Us):(lm l).length=l.length:=by simp[lm]
theorem G6{l:Us}{i x:Nat}(h:l[i]? = some x):(lm l)[i]? = some [.int .u32 (x:Int)]:=by simp[lm,h]
def kB:Us->Us
 | []=>[]
 |
  x::l=>match kB l with
  | []=>if x=0 then []else [x]
  |r=>x::r
theorem Qrv{l:Us}:kB l=[]↔∀x∈l,x=0:=by
 induction l with
 |nil=>simp[kB]
 |
  cons x l ih =>
  simp only[kB]
  split
  ·rename_i e;have h1:=ih.1 e;by_cases h:x=0
   ·simp[h];exact h1
   ·simp[h]
  ·rename_i r hne;simp only[reduceCtorEq,Qm,forall_eq_or_imp,false_iff,not_and];exact λ_ h=>hne (ih.2 h)
theorem HU:∀{l:Us} {n:Nat},n<=l.length->(∀j,n<=j->j<l.length->l[j]? = some 0)->(n=0\/∃x,l[n-1]? = some x/\x≠0)->l.take n=kB l
 | [],n,h,_,_=>by simp at h;subst h;rfl
 |
  x::l,0,h,hz,_=>by
  rw[Y9];refine(Qrv.2 λy hy=>?_).symm;obtain⟨j,hj⟩:=Zm.1 hy;have:=hz j (Qh _) (Qf.1 hj).1;rw[hj]at this;injection this
 |
  x::l,n+1,h,hz,ht=>by
  simp only[Q3,Nat.add_le_add_iff_right]at h;have hz':∀j,n<=j->j<l.length->l[j]? = some 0:=λj h1 h2=>by simpa using hz (j+1) (by omega) (by simpa using h2)
  cases n with
  |
   zero =>
   have e:kB l=[]:=(HU (n:=0) h hz' (.inl rfl)).symm;rcases ht with h|⟨y,h1,h2⟩
   ·omega
   ·simp at h1;subst h1;simp[kB,e,h2]
  |
   succ n =>
   have ih:=HU (n:=n+1) h hz' (.inr (by rcases ht with h|⟨y,h1,h2⟩;(· omega);exact⟨y,by simpa using h1,h2⟩));simp only[Vf,kB];rw[<-ih];cases hl:l with
   |nil=>rw[hl]at h;simp at h
   |cons y l'=>simp[Vf]
theorem Q0g(l:Us):Un 181 [lr l] [lr (kB l)]:=by
 refine Fz func181 rfl (ln 0 rfl rfl λhl=>?_);rw[U9]at hl;refine Uh [] rfl ?_;refine Um (S:=Nat) 0 (λL1 n=>(3,.v (.oi n))::L1) (λ_=>[]) id (λn=>n<=l.length/\∀j,n<=j->j<l.length->l[j]? = some 0) (lm l).length ⟨by rw[U9];exact Qk _,λj h1 h2=>by rw[U9]at h1;omega⟩ rfl rfl λn ⟨h1,h2⟩=>?_
 cases n with
 |zero=>exact Uj [.f (by simp),.f rfl,.i 0] rfl (by rw[<-HU h1 h2 (.inl rfl)];simp[lm]) (by simp[U5,Hy])
 |
  succ n =>
  obtain⟨x,hx⟩:=gxE (l:=l) (i:=n) (by omega);by_cases h0:x=0
  ·refine go tt [.t (by simp),.r 11 (v:=.oi n) (by simp),.x (G6 hx),.t (by simp[h0]),.r 17 (v:=.oi n) (by simp)] rfl (by simp[U5,Hy];omega) ?_;exact rd n (by simp) ⟨by omega,λj h3 h4=>by
    rcases Vl h3 with rfl|h3
    ·rw[hx,h0]
    ·exact h2 j h3 h4⟩ rfl
  ·exact Uj [.t (by simp),.r 11 (v:=.oi n) (by simp),.x (G6 hx),.f (by simp[h0]),.i (n+1)] rfl (by rw[<-HU h1 h2 (.inr ⟨x,hx,h0⟩)];simp[lm]) (by simp[U5,Hy,U9] <;> omega)
def Sm(l:Us):Prop:=∀x∈l,x<4294967296
theorem kC:∀l:Us,Cut l (kB l).length/\l.take (kB l).length=kB l
 | []=>⟨⟨Qk _,λj _ h=>by simp at h,λh=>by simp[kB]at h⟩,rfl⟩
 |
  x::l=>by
  obtain⟨⟨h1,h2,h3⟩,h4⟩:=kC l;simp only[kB]
  split
  ·rename_i e;rw[e]at h2 h3;by_cases h:x=0
   ·rw[if_pos h];refine⟨⟨Qh _,λj _ hj=>?_,λh=>by simp at h⟩,rfl⟩;cases j with
    |zero=>simp[h]
    |succ j=>simpa using h2 j (Qh _) (by simpa using hj)
   ·rw[if_neg h];refine⟨⟨by simp,λj h5 hj=>?_,λ_=>⟨x,rfl,h⟩⟩,rfl⟩;cases j with
    |zero=>simp at h5
    |succ j=>simpa using h2 j (Qh _) (by simpa using hj)
  ·rename_i r hne;refine⟨⟨by simp[h1],λj h5 hj=>?_,λ_=>?_⟩,by simp[h4]⟩
   ·cases j with
    |zero=>simp at h5
    |succ j=>simpa using h2 j (by simpa using h5) (by simpa using hj)
   ·have hp:0<(kB l).length:=by
     cases e:kB l with
     |nil=>exact absurd e hne
     |cons=>simp
    obtain⟨y,h5,h6⟩:=h3 hp;refine⟨y,?_,h6⟩;rw[Q3,show(kB l).length+1-1=((kB l).length-1)+1 from by omega];simpa using h5
theorem xE{l:Us}(h:Sm l):kB l=Gg (val l):=by
 obtain⟨h1,h2⟩:=kC l;refine Qjq ?_ ?_
 ·rw[<-h2];exact Qo7 h1 h
 ·rw[<-h2];exact Qo8 h1
theorem Lv(x:Nat):Sm (Gg x):=(Dq x).1
theorem Ti{x k:Nat}(h:sz x<=k):32*(Gg x).length<=k+31:=by
 have:=Qqa (Dq x);rw[Ha]at this;omega
theorem KX{l:Us}(h:Sm l):Un 181 [lr l] [lr (Gg (val l))]:=xE h ▸ Q0g l
theorem Qjs(l:Us):∀c∈lm l,c.length=1:=λc hc=>by
 obtain⟨x,_,rfl⟩:=Q6.1 hc;rfl
theorem KN{l:Us}(h:Sm l)(hs:sz (val l)<=4294967296):Un 135 [lr l] [lr (Gg (val l))] :=
 Uk func135 rfl [.k (KX h),.s (Qjs (Gg (val l)))] rfl rfl (by have:=Ti hs;simp[U5,Hy,U9];omega)
theorem RP{a:Us}(ha:Sm a):∃p,Un 181 [lr a] [lr p]/\wP p/\val p=val a/\p.length<=a.length/\p=Gg (val a) :=
 ⟨_,KX ha,Dq _,Ha _,by rw[<-xE ha];exact(kC a).1.1,rfl⟩
theorem Qfi{a b:Us}(ha:Sm a)(hb:Sm b):Un 155 [lr a,lr b] [.oi (ZN (val a) (val b))]:=by
 refine Fz func155 rfl (ln 0 rfl rfl λhl=>ln 1 rfl rfl λhl'=>?_);rw[U9]at hl hl';obtain⟨p,ca,np,vp,lp',_⟩:=RP ha;obtain⟨q,cb,nq,vq,lq,_⟩:=RP hb;rw[<-vp,<-vq];by_cases h:p.length=q.length
 ·refine go tt [.k ca,.k cb,.f (by simp[U9,h])] rfl (by simp[U5,Hy,U9] <;> omega) ?_;refine Um (S:=Int) 0 (λL1 i=>(5,.v (.oi i))::L1) (λ_=>[]) (λi=>(i+1).toNat) (λi=>-1<=i/\i<p.length/\p.drop (i+1).toNat=q.drop (i+1).toNat) (((lm p).length:Int)-1) ⟨by omega,by simp[U9];omega,by simp[U9,h]⟩ rfl rfl λi ⟨h1,h2,h3⟩=>?_
  rcases Kf i 0 with hi|hi
  ·obtain rfl:i=-1:=by omega
   exact Uj [.f (by decide)] rfl (by rw[aE];exact congrArg val (by simpa using h3)) trivial
  ·obtain⟨k,rfl⟩:=Km hi;have e:((k:Int)+1).toNat=k+1:=by omega
   rw[e]at h3;obtain⟨x,hx⟩:=gxE (l:=p) (i:=k) (by omega);obtain⟨y,hy⟩:=gxE (l:=q) (i:=k) (by omega);rcases Kq x y with hxy|rfl|hxy
   ·exact Uj [.t (by simp),.x (G6 hx),.x (G6 hy),.t (by simp;omega)] rfl (by rw[NQ (Qbl np.1 h3 hx hy hxy)]) (by simp[U5,Hy,U9] <;> omega)
   ·refine go tt [.t (by simp),.x (G6 hx),.x (G6 hy),.f (by simp),.x (G6 hx),.x (G6 hy),.f (by simp)] rfl (by simp[U5,Hy,U9] <;> omega) ?_;exact rd ((k:Int)-1) (by omega) ⟨by omega,by omega,by rw[show((k:Int)-1+1).toNat=k from by omega];exact Qc4 h3 hx hy⟩ rfl
   ·exact Uj [.t (by simp),.x (G6 hx),.x (G6 hy),.f (by simp;omega),.x (G6 hx),.x (G6 hy),.t (by simp;omega)] rfl (by rw[MO (Qbl nq.1 h3.symm hy hx hxy)]) (by simp[U5,Hy,U9] <;> omega)
 ·by_cases h2:p.length<q.length
  ·exact Uj [.k ca,.k cb,.t (by simp[U9];omega),.t (by simp[U9];omega)] rfl (by rw[NQ (D7 np nq h2)]) (by simp[U5,Hy])
  ·exact Uj [.k ca,.k cb,.t (by simp[U9];omega),.f (by simp[U9];omega)] rfl (by rw[MO (D7 nq np (by omega))]) (by simp[U5,Hy])
theorem WI(m:Nat):List.replicate m [LV.int .u32 0]=lm (List.replicate m 0):=by simp[lm]
theorem Cm(l:Us)(i x:Nat):(lm l).set i [.int .u32 (x:Int)]=lm (l.set i x):=by simp[lm,Vw]
theorem D2{a b:Int}(h:a=b):TV.one (LV.int .u64 a)=.one (.int .u64 b):=h ▸ rfl
theorem Eo{a b:Int}(h:a=b):TV.one (LV.int .u32 a)=.one (.int .u32 b):=h ▸ rfl
theorem eI{a b:Int}(h:a=b):TV.one (LV.int .i64 a)=.oi b:=h ▸ rfl
theorem xI(z:Int):IntKind.u32.wrap z=z % 4294967296:=by simp[IntKind.wrap,IntKind.bits,IntKind.signed]
theorem w64(z:Int):IntKind.u64.wrap z=z % 18446744073709551616:=by simp[IntKind.wrap,IntKind.bits,IntKind.signed]
theorem Qsm{a b:Us}(ha:Sm a)(hb:Sm b)(h1:sz (val a)<=4294967296)(h2:sz (val b)<=4294967296):Un 225 [lr a,lr b] [lr (Gg (val a+val b))]:=by
 refine Fz func225 rfl ?_;obtain⟨p,ca,np,vp,_,ep⟩:=RP ha;obtain⟨q,cb,nq,vq,_,eq⟩:=RP hb;have lp':=Ti h1;have lq:=Ti h2;rw[<-ep]at lp';rw[<-eq]at lq;rw[<-vp,<-vq];refine Uh [.k ca,.k cb] rfl ?_;refine ct 1 (S:=Us×Us) (λs=>[(0,.v (lr s.1)),(1,.v (lr s.2))]) (λ_=>[]) (λs=>wP s.1/\wP s.2/\32*s.1.length<=4294967327/\s.2.length<=s.1.length/\val s.1+val s.2=val p+val q) rfl ?_ ?_
 ·by_cases h:p.length<q.length
  ·exact go tt [.t (by simp[U9];omega)] rfl trivial (rc (q,p) ⟨nq,np,lq,Yl h,Jv _ _⟩ rfl)
  ·exact go tt [.f (by simp[U9];omega)] rfl trivial (rc (p,q) ⟨np,nq,lp',J9 h,rfl⟩ rfl)
 ·intro⟨p',q'⟩ ⟨np,nq,hp,hq,e⟩;dsimp only at np nq hp hq e;rw[<-e];clear ca cb e vp vq ep eq;refine go tt [.i ((lm p').length+1),.i ((lm p').length+1)] rfl (by simp[U5,Hy,U9] <;> omega) ?_;rw[WI];refine lp (S:=Nat×Us×Nat) 1 (λL1 s=>(27,.v (.oi (s.1:Int)))::(6,.v (.one (.int .u64 (s.2.2:Int))))::L1) (λs=>[.row false 111 1 (lm s.2.1)]) (λs=>p'.length-s.1)
   (λs=>s.1<=p'.length/\s.2.1.length=p'.length+1/\Sm s.2.1/\s.2.2<=1/\val (s.2.1.take s.1)+s.2.2*4294967296^s.1=val (p'.take s.1)+val (q'.take s.1)) (0,List.replicate ((lm p').length+1) 0,0)
   ⟨Qh _,by simp[U9],λx hx=>by rw[Zw hx];decide,Qh _,by simp[val]⟩ rfl (λ_ _=>rfl) rfl λ⟨i,o,c⟩ ⟨j1,j2,j3,j4,j5⟩=>?_
  dsimp only at j1 j2 j3 j4 j5 ⊢;by_cases hi:i<p'.length
  ·obtain⟨x,hx⟩:=gxE (l:=p') (i:=i) hi;have xb:=np.1 x (Qc hx);have fin:∀y s,(q'[i]? = some y\/q'.length<=i/\y=0)->y<4294967296->s=x+c+y->p'.length-(i+1)<p'.length-i/\i+1<=p'.length/\(o.set i (s % 4294967296)).length=p'.length+1/\Sm (o.set i (s % 4294967296))/\s / 4294967296<=1 /\
    val ((o.set i (s % 4294967296)).take (i+1))+s / 4294967296*4294967296^(i+1)=val (p'.take (i+1))+val (q'.take (i+1)):=λy s hy hyb hs =>
    ⟨by omega,hi,by simp[j2],Bq j3 i _ (by omega),by omega,wM (by omega) hx hy j5 hs⟩
   by_cases hi2:i<q'.length
   ·obtain⟨y,hy⟩:=gxE (l:=q') (i:=i) hi2;have yb:=nq.1 y (Qc hy);refine go tt [.t (by simp[U9];omega),.x (G6 hx),.t (by simp[U9];omega),.x (G6 hy),.w 2,.r 50 (v:=.one (.int .u32 (((x+c+y) % 4294967296:Nat):Int))) (by simp[IntKind.wrap,IntKind.bits,IntKind.signed]),.i 32,.r 52 (v:=.one (.int .u64 (((x+c+y) / 4294967296:Nat):Int))) (by simp),.i i] rfl (by simp[U5,Hy,U9,IntKind.bits] <;> omega) ?_;rw[Cm];exact rd (i+1,o.set i ((x+c+y) % 4294967296),(x+c+y) / 4294967296) (fin y _ (.inl hy) yb rfl).1 (fin y _ (.inl hy) yb rfl).2 rfl
   ·refine go tt [.t (by simp[U9];omega),.x (G6 hx),.f (by simp[U9];omega),.w 0,.r 50 (v:=.one (.int .u32 (((x+c+0) % 4294967296:Nat):Int))) (by simp[IntKind.wrap,IntKind.bits,IntKind.signed]),.i 32,.r 52 (v:=.one (.int .u64 (((x+c+0) / 4294967296:Nat):Int))) (by simp),.i i] rfl (by simp[U5,Hy,U9,IntKind.bits] <;> omega) ?_;rw[Cm];exact rd (i+1,o.set i ((x+c+0) % 4294967296),(x+c+0) / 4294967296) (fin 0 _ (.inr ⟨by omega,rfl⟩) (by decide) rfl).1 (fin 0 _ (.inr ⟨by omega,rfl⟩) (by decide) rfl).2 rfl
  ·obtain rfl:i=p'.length:=by omega
   refine go tt [.f (by simp[U9]),.w 0,.r 59 (v:=.one (.int .u32 (c:Int))) (by simp[IntKind.wrap,IntKind.bits,IntKind.signed];omega),.i (lm p').length] rfl (by simp[U5,Hy,U9,j2]) ?_;rw[U9,Cm];have e:val (o.set p'.length c)=val p'+val q':=by
    have h1:=ZG o p'.length c (by omega);rw[Qn (by simp;omega)]at h1;rw[Qn (Qk _),Qn hq]at j5;rw[h1,<-j5,Zr]
   rw[<-e];exact Uj [.k (KX (Bq j3 _ c (by omega)))] rfl
theorem uC{x y:Nat}:ZN x y<0↔x<y:=by unfold ZN;split <;> (try split) <;> omega
theorem Qsq{a b:Us}(ha:Sm a)(hb:Sm b)(h1:sz (val a)<=4294967296):Un 226 [lr a,lr b] (if val b<=val a then [lr (Gg (val a-val b)),.one (.bool true)]else [lr [],.one (.bool false)]):=by
 refine Fz func226 rfl ?_;obtain⟨p,ca,np,vp,_,ep⟩:=RP ha;obtain⟨q,cb,nq,vq,_,_⟩:=RP hb;have hp:=Ti h1;rw[<-ep]at hp;rw[<-vp,<-vq];have cc:=Qfi np.1 nq.1;by_cases hlt:val p<val q
 ·rw[if_neg (by omega)];exact Uj [.k ca,.k cb,.k cc,.t (by simpa using uC.2 hlt)] rfl
 rw[if_pos (by omega)];have hq:q.length<=p.length:=J9 λh=>hlt (D7 np nq h)
 refine go tt [.k ca,.k cb,.k cc,.f (by have:=mt uC.1 hlt;simpa using this),.i (lm p).length,.i (lm p).length] rfl (by simp[U5,Hy,U9] <;> omega) ?_;rw[WI];refine lp (S:=Nat×Us×Nat) 1 (λL1 s=>(24,.v (.oi (s.1:Int)))::(7,.v (.one (.int .u64 (s.2.2:Int))))::L1) (λs=>[.row false 111 1 (lm s.2.1)]) (λs=>p.length-s.1)
  (λs=>s.1<=p.length/\s.2.1.length=p.length/\Sm s.2.1/\s.2.2<=1/\val (s.2.1.take s.1)+val (q.take s.1)=val (p.take s.1)+s.2.2*4294967296^s.1) (0,List.replicate (lm p).length 0,0)
  ⟨Qh _,by simp[U9],λx hx=>by rw[Zw hx];decide,Qh _,by simp[val]⟩ rfl (λ_ _=>rfl) rfl λ⟨i,o,c⟩ ⟨j1,j2,j3,j4,j5⟩=>?_
 dsimp only at j1 j2 j3 j4 j5 ⊢;by_cases hi:i<p.length
 ·obtain⟨x,hx⟩:=gxE (l:=p) (i:=i) hi;have xb:=np.1 x (Qc hx);have fin:∀y s,(q[i]? = some y\/q.length<=i/\y=0)->y<4294967296->s=(x+18446744073709551616-c-y) % 18446744073709551616->p.length-(i+1)<p.length-i/\i+1<=p.length/\(o.set i (s % 4294967296)).length=p.length/\Sm (o.set i (s % 4294967296))/\s / 9223372036854775808<=1 /\
   val ((o.set i (s % 4294967296)).take (i+1))+val (q.take (i+1))=val (p.take (i+1))+s / 9223372036854775808*4294967296^(i+1):=λy s hy hyb hs=>by
   obtain⟨h1,h2⟩:=Ql5 (o:=o) (by omega) hx hy xb hyb j4 j5 hs;exact⟨by omega,hi,by simp[j2],Bq j3 i _ (by omega),h2,h1⟩
  by_cases hi2:i<q.length
  ·obtain⟨y,hy⟩:=gxE (l:=q) (i:=i) hi2;have yb:=nq.1 y (Qc hy);obtain⟨s,hs⟩:=nmE ((x+18446744073709551616-c-y) % 18446744073709551616);refine go tt [.t (by simp[U9];omega),.x (G6 hx),.w 1,.r 32 (D2 (b:=(((x+18446744073709551616-c) % 18446744073709551616:Nat):Int)) (by rw[w64];omega)),.t (by simp[U9];omega),.x (G6 hy),.w 1,.r 43 (D2 (b:=(s:Int)) (by rw[w64];omega)),.w 0,.r 47 (Eo (b:=((s % 4294967296:Nat):Int)) (by rw[xI];omega)),.i 63,.r 49 (D2 (b:=((s / 9223372036854775808:Nat):Int)) (by simp)),.i i] rfl (by simp[U5,Hy,U9,IntKind.bits] <;> omega) ?_;rw[Cm];exact rd (i+1,o.set i (s % 4294967296),s / 9223372036854775808) (fin y _ (.inl hy) yb hs).1 (fin y _ (.inl hy) yb hs).2 rfl
  ·obtain⟨s,hs⟩:=nmE ((x+18446744073709551616-c-0) % 18446744073709551616);have hf:=fin 0 _ (.inr ⟨by omega,rfl⟩) (by decide) hs;refine go tt [.t (by simp[U9];omega),.x (G6 hx),.w 1,.r 32 (D2 (b:=(s:Int)) (by rw[w64];omega)),.f (by simp[U9];omega),.w 0,.r 47 (Eo (b:=((s % 4294967296:Nat):Int)) (by rw[xI];omega)),.i 63,.r 49 (D2 (b:=((s / 9223372036854775808:Nat):Int)) (by simp)),.i i] rfl (by simp[U5,Hy,U9,IntKind.bits] <;> omega) ?_;rw[Cm];exact rd (i+1,o.set i (s % 4294967296),s / 9223372036854775808) hf.1 hf.2 rfl
 ·obtain rfl:i=p.length:=by omega
  have e:val o=val p-val q:=by
   rw[Qn (Nat.le_of_eq j2),Qn hq,Qn (Qk _)]at j5;have h1:=Bu o j3;rw[j2]at h1;rcases Nat.le_one_iff_eq_zero_or_eq_one.1 j4 with rfl|rfl <;> omega
  rw[<-e];exact Uj [.f (by simp[U9]),.k (KX j3)] rfl
theorem Qyy{a b:Us}(ha:Sm a)(hb:Sm b)(h1:sz (val a)<=4294967296)(h2:sz (val b)<=4294967296):Un 184 [lr a,lr b] [lr (Gg (val a*val b))]:=by
 refine Fz func184 rfl ?_;obtain⟨p,ca,np,vp,_,ep⟩:=RP ha;obtain⟨q,cb,nq,vq,_,eq⟩:=RP hb;have hp:=Ti h1;have hq:=Ti h2;rw[<-ep]at hp;rw[<-eq]at hq;rw[<-vp,<-vq];refine go tt [.k ca,.k cb,.i ((lm p).length+(lm q).length),.i ((lm p).length+(lm q).length)] rfl (by simp[U5,Hy,U9] <;> omega) ?_;rw[WI];refine lp (S:=Nat×Us) 1 (λL1 s=>(24,.v (.oi (s.1:Int)))::L1) (λs=>[.row false 111 1 (lm s.2)]) (λs=>p.length-s.1)
  (λs=>s.1<=p.length/\s.2.length=p.length+q.length/\Sm s.2/\(∀j,s.1+q.length<=j->j<s.2.length->s.2[j]? = some 0)/\val s.2=val (p.take s.1)*val q) (0,List.replicate ((lm p).length+(lm q).length) 0)
  ⟨Qh _,by simp[U9],λx hx=>by rw[Zw hx];decide,λj _ hj=>by rw[J0,if_pos (by simpa using hj)],by simp[val,SH]⟩ rfl (λ_ _=>rfl) rfl λ⟨i,o⟩ ⟨j1,j2,j3,j4,j5⟩=>?_
 dsimp only at j1 j2 j3 j4 j5 ⊢;by_cases hi:i<p.length
 ·obtain⟨x,hx⟩:=gxE (l:=p) (i:=i) hi;have xb:=np.1 x (Qc hx);refine Uh [.t (by simp[U9];omega),.x (G6 hx)] rfl ?_;refine lp (S:=Nat×Us×Nat) 1 (λL1 s=>(31,.v (.oi (s.1:Int)))::(8,.v (.one (.int .u64 (s.2.2:Int))))::L1) (λs=>[.row false 111 1 (lm s.2.1)]) (λs=>q.length-s.1)
   (λs=>s.1<=q.length/\s.2.1.length=p.length+q.length/\Sm s.2.1/\(∀j,i+q.length<=j->j<s.2.1.length->s.2.1[j]? = some 0)/\s.2.2<4294967296/\val s.2.1+s.2.2*4294967296^(i+s.1)=val (p.take i)*val q+4294967296^i*x*val (q.take s.1)) (0,o,0)
   ⟨Qh _,j2,j3,j4,by simp,by simp[val,j5]⟩ rfl (λ_ _=>rfl) rfl λ⟨k,o',c⟩ ⟨k1,k2,k3,k4,k5,k6⟩=>?_
  dsimp only at k1 k2 k3 k4 k5 k6 ⊢;by_cases hk:k<q.length
  ·obtain⟨y,hy⟩:=gxE (l:=q) (i:=k) hk;have yb:=nq.1 y (Qc hy);obtain⟨z,hz⟩:=gxE (l:=o') (i:=i+k) (by omega);have zb:=k3 z (Qc hz);have hm:=JZ xb yb;have hm2:(x:Int)*(y:Int)=((x*y:Nat):Int):=by push_cast;rfl
   obtain⟨s,hs⟩:=nmE (x*y+z+c);refine go tt [.t (by simp[U9];omega),.x (G6 hy),.r 40 (D2 (b:=((x*y:Nat):Int)) (by push_cast;rfl)),.i (i+k),.x (G6 hz),.r 50 (D2 (b:=(s:Int)) (by omega)),.w 1,.r 56 (Eo (b:=((s % 4294967296:Nat):Int)) (by rw[xI];omega)),.i 32,.r 58 (D2 (b:=((s / 4294967296:Nat):Int)) (by simp)),.i (i+k)] rfl ?_ ?_
   ·simp[U5,Hy,U9,IntKind.bits] <;> omega
   ·rw[Cm];exact rd (k+1,o'.set (i+k) (s % 4294967296),s / 4294967296) (show q.length-(k+1)<q.length-k by omega) ⟨hk,by simp[k2],Bq k3 _ _ (by omega),λj h3 h4=>by
     rw[Yh (by omega)];exact k4 j h3 (by simpa using h4),(show s / 4294967296<4294967296 from by omega),Qj5 hz hy k6 hs⟩ rfl
  ·obtain rfl:k=q.length:=by omega
   by_cases hq0:0<q.length
   ·refine go tt [.f (by simp[U9]),.t (by simp[U9];omega),.w 1,.r 70 (Eo (b:=((c % 4294967296:Nat):Int)) (by rw[xI];omega)),.i (i+(lm q).length)] rfl (by simp[U5,Hy,U9,IntKind.bits] <;> omega) ?_;rw[Cm];refine rd (i+1,o'.set (i+(lm q).length) (c % 4294967296)) (show p.length-(i+1)<p.length-i by omega) ⟨hi,by simp[k2],Bq k3 _ _ (by omega),λj h3 h4=>?_,?_⟩ rfl
    ·rw[U9,List.getElem?_set_ne (by dsimp only at h3;omega)];exact k4 j (by dsimp only at h3;omega) (by simpa using h4)
    ·rw[U9];exact Qj4 (k4 _ (Qk _) (by omega)) hx k5 rfl k6
   ·have q0:q=[]:=Qj (by omega);refine go tt [.f (by simp[U9]),.f (by simp[U9,q0])] rfl (by simp[U5,Hy,U9,IntKind.bits] <;> omega) ?_;refine rd (i+1,o') (show p.length-(i+1)<p.length-i by omega) ⟨hi,k2,k3,λj h3 h4=>k4 j (by dsimp only at h3;omega) h4,?_⟩ rfl;have c0:c*4294967296^(i+q.length)=0/\val o'=0:=by
     subst q0;simp only[val,List.take_nil,Yz]at k6;omega
    rw[c0.2,q0];rfl
 ·obtain rfl:i=p.length:=by omega
  rw[Qn (Qk _)]at j5;rw[<-j5];exact Uj [.f (by simp[U9]),.k (KX j3)] rfl
theorem o64{k q:Nat}(hq:q<4294967296)(hb:4294967296*k+q<18446744073709551616):orI .u64 ((4294967296*k:Nat):Int) (q:Int)=((4294967296*k+q:Nat):Int):=by
 have e1:(BitVec.ofInt 64 ((4294967296*k:Nat):Int)).toNat=4294967296*k:=by rw[BitVec.toNat_ofInt];omega
 have e2:(BitVec.ofInt 64 (q:Int)).toNat=q:=by rw[BitVec.toNat_ofInt];omega
 show IntKind.u64.wrap ((BitVec.ofInt 64 ((4294967296*k:Nat):Int) ||| BitVec.ofInt 64 (q:Int)).toNat:Int)=_;rw[BitVec.toNat_or,e1,e2,Qwy hq,w64];omega
theorem oM{k p:Nat}(hp:p<4294967296)(hb:4294967296*k+p<18446744073709551616):orI .u64 (p:Int) ((4294967296*k:Nat):Int)=((4294967296*k+p:Nat):Int):=by
 have:=o64 hp hb;unfold orI at this ⊢;rw[BitVec.or_comm];exact this
theorem o32{s k p:Nat}(hp:p<2^s)(h1:p<4294967296)(h2:2^s*k<4294967296)(hb:p+2^s*k<4294967296):orI .u32 (p:Int) ((2^s*k:Nat):Int)=((p+2^s*k:Nat):Int):=by
 have e1:(BitVec.ofInt 32 ((2^s*k:Nat):Int)).toNat=2^s*k:=by rw[BitVec.toNat_ofInt];omega
 have e2:(BitVec.ofInt 32 (p:Int)).toNat=p:=by rw[BitVec.toNat_ofInt];omega
 have e3:p ||| 2^s*k=p+2^s*k:=by
  have:=Wu (i:=s) (b:=p) hp k;rw[Nat.or_comm,<-this,Jv]
 show IntKind.u32.wrap ((BitVec.ofInt 32 (p:Int) ||| BitVec.ofInt 32 ((2^s*k:Nat):Int)).toNat:Int)=_;rw[BitVec.toNat_or,e1,e2,e3,xI];omega
theorem Qy8{l:Us}{v:Nat}(hl:Sm l)(hn:l.length<274877906944)(h0:0<v)(hv:v<4294967296):Un 220 [lr l,.one (.int .u32 (v:Int))] [lr (Gg (val l / v)),.one (.int .u32 ((val l % v:Nat):Int))]:=by
 refine Fz func220 rfl ?_;refine go tt [.i (lm l).length,.i (lm l).length] rfl (by simp[U5,Hy,U9] <;> omega) ?_;rw[WI];refine lp (S:=Int×Us×Nat) 1 (λL1 s=>(8,.v (.oi s.1))::(7,.v (.one (.int .u64 (s.2.2:Int))))::L1) (λs=>[.row false 111 1 (lm s.2.1)]) (λs=>(s.1+1).toNat)
  (λs=>-1<=s.1/\s.1<l.length/\s.2.1.length=l.length/\Sm s.2.1/\s.2.2<v/\val (l.drop (s.1+1).toNat)=v*val (s.2.1.drop (s.1+1).toNat)+s.2.2) (((lm l).length:Int)-1,List.replicate (lm l).length 0,0)
  ⟨by simp[U9];omega,by simp[U9];omega,by simp[U9],λx hx=>by rw[Zw hx];decide,h0,by simp[U9,val]⟩ rfl (λ_ _=>rfl) rfl λ⟨i,o,r⟩ ⟨j1,j2,j3,j4,j5,j6⟩=>?_
 dsimp only at j1 j2 j3 j4 j5 j6 ⊢;rcases Kf i 0 with hi|hi
 ·obtain rfl:i=-1:=by omega
  simp only[show((-1:Int)+1).toNat=0 from rfl,X4]at j6;have e1:val l / v=val o:=by rw[j6,Ud h0,V4 j5,Xp]
  have e2:val l % v=r:=by rw[j6,Ue,Xx j5]
  rw[e1,e2];exact Uj [.f (by decide),.k (KX j4)] rfl rfl (by simp[U5,Hy,U9,IntKind.bits] <;> omega)
 ·obtain⟨k,rfl⟩:=Km hi;have e:((k:Int)+1).toNat=k+1:=by omega
  rw[e]at j6;obtain⟨x,hx⟩:=gxE (l:=l) (i:=k) (by omega);have xb:=hl x (Qc hx);obtain⟨s,hs⟩:=nmE (r*4294967296+x);obtain⟨k1,k2,k3⟩:=Qkf hx xb (show k<o.length by omega) h0 j5 j6 hs;obtain⟨q,hq⟩:=nmE (s / v);obtain⟨u,hu⟩:=nmE (s % v);have hqi:(s:Int).tdiv v=(q:Int):=by rw[V8 (by omega),hq];rfl
  have hui:(s:Int).tmod v=(u:Int):=by rw[Y5 (by omega),hu];rfl
  rw[<-hq,<-hu]at k3;rw[<-hq]at k1;rw[<-hu]at k2;refine go tt [.t (by simp),.i 32,.r 21 (D2 (b:=((4294967296*r:Nat):Int)) (by omega)),.x (G6 hx),.r 27 (D2 (b:=(s:Int)) (by rw[o64 xb (by omega)];omega)),
   .r 33 (D2 (b:=(q:Int)) hqi),.w 0,.r 34 (Eo (b:=((q % 4294967296:Nat):Int)) (by rw[xI];omega)),.r 38 (D2 (b:=(u:Int)) hui),.i k] rfl (by simp[U5,Hy,U9,IntKind.bits,hqi] <;> omega) ?_
  rw[Cm];exact rd ((k:Int)-1,o.set k (q % 4294967296),u) (by dsimp only;omega) ⟨by dsimp only;omega,by dsimp only;omega,by simp[j3],Bq j4 _ _ (by omega),k2,by dsimp only;rw[show((k:Int)-1+1).toNat=k from by omega];exact k3⟩ rfl
theorem UH{i:Nat}{s:ByteArray}(h:∀i,i<256->(s[i]?).map (·.toNat)=some (sz i))(hi:i<256):(s[i]?).map (·.toNat)=some (sz i):=h i hi
set_option maxRecDepth 100000 in
theorem eD{x:Nat}(hx:x<4294967296):Un 238 [.one (.int .u32 (x:Int))] [.oi (sz x:Int)]:=by
 refine Fz func238 rfl ?_;have h31:sz x<=32:=Nt.2 (by omega);by_cases h1:65536<=x
 ·have e1:sz x=16+sz (x / 2^16):=HJ (by omega);obtain⟨y,hy⟩:=nmE (x / 2^16);rw[<-hy]at e1;by_cases h2:256<=y
  ·have e2:sz y=8+sz (y / 2^8):=HJ (by omega);obtain⟨z,hz⟩:=nmE (y / 2^8);rw[<-hz]at e2;exact Uj [.t (by simp;omega),.i 16,.r 6 (Eo (b:=(y:Int)) (by simp[hy])),.t (by simp;omega),.i 8,.r 10 (Eo (b:=(z:Int)) (by simp[hz])),.y (UH (i:=z) (by decide) (by omega))] rfl (by rw[e1,e2];simp;omega) (by simp[U5,Hy,IntKind.bits] <;> omega)
  ·exact Uj [.t (by simp;omega),.i 16,.r 6 (Eo (b:=(y:Int)) (by simp[hy])),.f (by simp;omega),.y (UH (i:=y) (by decide) (by omega))] rfl (by rw[e1];simp) (by simp[U5,Hy,IntKind.bits] <;> omega)
 ·by_cases h2:256<=x
  ·have e2:sz x=8+sz (x / 2^8):=HJ (by omega);obtain⟨z,hz⟩:=nmE (x / 2^8);rw[<-hz]at e2;exact Uj [.f (by simp;omega),.t (by simp;omega),.i 8,.r 10 (Eo (b:=(z:Int)) (by simp[hz])),.y (UH (i:=z) (by decide) (by omega))] rfl (by rw[e2];simp) (by simp[U5,Hy,IntKind.bits] <;> omega)
  ·exact Uj [.f (by simp;omega),.f (by simp;omega),.y (UH (i:=x) (by decide) (by omega))] rfl (by simp) (by simp[U5,Hy,IntKind.bits] <;> omega)
theorem Qun{x:Nat}(hx:x<4294967296):Un 221 [.one (.int .u32 (x:Int))] [.oi ((32-sz x:Nat):Int)]:=by
 have h31:sz x<=32:=Nt.2 (by omega);exact Uk func221 rfl [.k (eD hx)] rfl (by simp;omega) (by simp[U5,Hy] <;> omega)
theorem mN{l:Us}(hl:Sm l)(hs:sz (val l)<=4294967296):Un 191 [lr l] [.oi (sz (val l):Int)]:=by
 refine Fz func191 rfl ?_;obtain⟨p,ca,np,vp,_,ep⟩:=RP hl;have hp:=Ti hs;rw[<-ep]at hp;rw[<-vp]at hs ⊢;by_cases h0:p=[]
 ·subst h0;exact Uj [.k ca,.t (by simp[lm])] rfl rfl (by simp[U5,Hy])
 ·have hpl:0<p.length:=J3.2 h0;obtain⟨x,hx,hx0⟩:=np.2 h0;have xb:=np.1 x (Qc hx);have e:=lH np hx;have h31:sz x<=32:=Nt.2 (by omega);have hn:(lm p).length≠0:=by rw[U9];omega
  refine Uj [.k ca,.f (by simp[U9];omega),.r 15 (eI (b:=((p.length-1:Nat):Int)) (by rw[U9];omega)),.x (G6 hx),.k (eD xb)] rfl (by rw[e,U9];simp;omega) (by simp[U5,Hy,U9] <;> omega)
theorem sY{s:Nat}(h:s<=31):((s:Nat):Int).tdiv 32=((0:Nat):Int):=by
 rw[V8 (by omega)];omega
theorem Qk7{s:Nat}(h:s<=31):((s:Nat):Int).tmod 32=(s:Int):=Int.tmod_eq_of_lt (by omega) (by omega)
theorem Qwm{s:Nat}(h:s<=31):max 0 (min (s:Int) 65536)=(s:Int):=by omega
theorem Qy3{a:Us}{s:Nat}(ha:Sm a)(h1:sz (val a)<=4294967400)(hs:s<=31):Un 257 [lr a,.oi s] [lr (Gg (val a*2^s))]:=by
 refine Fz func257 rfl ?_;obtain⟨p,ca,np,vp,_,ep⟩:=RP ha;have hp:=Ti h1;rw[<-ep]at hp;rw[<-vp];have hq:((s:Nat):Int).tdiv 32=0:=sY hs;by_cases h0:p=[]
 ·subst h0;exact Uj [.k ca,.t (by simp[lm])] rfl (by simp[val,Hd,lm]) (by simp[U5,Hy])
 have hpl:0<p.length:=J3.2 h0;refine go tt [.k ca,.r 15 (eI (b:=(s:Int)) (Qwm hs)),.f (by simp[U9];omega),.r 20 (eI (b:=((0:Nat):Int)) (sY hs)),.r 22 (eI (b:=(s:Int)) (Qk7 hs)),.r 28 (eI (b:=(((lm p).length+1:Nat):Int)) (by omega)),.i ((lm p).length+1),.i ((lm p).length+1)] rfl (by have e:=U9 p;simp only[U5,Hy];omega) ?_;rw[WI];refine lp (S:=Nat×Us) 1 (λL1 s=>(32,.v (.oi (s.1:Int)))::L1) (λs=>[.row false 111 1 (lm s.2)]) (λs=>p.length-s.1)
  (λr=>r.1<=p.length/\r.2.length=p.length+1/\Sm r.2/\(∃z,r.2[r.1]? = some z/\z<2^s)/\val (r.2.take (r.1+1))=val (p.take r.1)*2^s) (0,List.replicate ((lm p).length+1) 0)
  ⟨Qh _,by simp[U9],λx hx=>by rw[Zw hx];decide,⟨0,by simp,Z1 (by decide)⟩,by simp[val,J4]⟩ rfl (λ_ _=>rfl) rfl λ⟨i,o⟩ ⟨j1,j2,j3,⟨z,hz,hzs⟩,j5⟩=>?_
 dsimp only at j1 j2 j3 hz hzs j5 ⊢;by_cases hi:i<p.length
 ·obtain⟨x,hx⟩:=gxE (l:=p) (i:=i) hi;have xb:=np.1 x (Qc hx);have zb:=j3 z (Qc hz);obtain⟨k1,k2,k3,k4⟩:=Qls hs hx xb hz hzs (by omega) j5;have hxs:=Qxe hs xb;have h31:2^s<=2^31:=Zt (by decide) hs;have ec:(x:Int)*2^s=((x*2^s:Nat):Int):=by push_cast;rfl
  obtain⟨m,hm⟩:=nmE (x*2^s);rw[<-hm]at k1 k2 k3 k4 hxs ec;refine go tt [.t (by simp[U9];omega),.x (G6 hx),.i s,.r 40 (D2 (b:=(m:Int)) ec),.i i,.x (G6 hz),.w 0,.r 52 (Eo (b:=((m % 4294967296:Nat):Int)) (by rw[xI];omega)),.r 53 (Eo (b:=((z+m % 4294967296:Nat):Int)) (by rw[k4,o32 hzs zb (by omega) (by omega)])),.i i,
   .i 32,.r 61 (D2 (b:=((m / 2^32:Nat):Int)) (by simp)),.w 0,.r 62 (Eo (b:=((m / 2^32 % 4294967296:Nat):Int)) (by rw[xI];omega)),.i (i+1)] rfl (by simp[U5,Hy,U9,IntKind.bits,ec] <;> omega) ?_
  rw[Cm,Cm];exact rd (i+1,(o.set i (z+m % 4294967296)).set (i+1) (m / 2^32 % 4294967296)) (show p.length-(i+1)<p.length-i by omega) ⟨hi,by simp[j2],Bq (Bq j3 _ _ (by omega)) _ _ (by omega),⟨_,by rw[Jd (by simp;omega)],by omega⟩,k3⟩ rfl
 ·obtain rfl:i=p.length:=by omega
  rw[Qn (by omega),Qn (Qk _)]at j5;rw[<-j5];exact Uj [.f (by simp[U9]),.k (KX j3)] rfl
theorem Qy4{a:Us}{s:Nat}(ha:Sm a)(h1:sz (val a)<=4294967400)(hs:s<=31):Un 224 [lr a,.oi s] [lr (Gg (val a / 2^s))]:=by
 refine Fz func224 rfl ?_;obtain⟨p,ca,np,vp,_,ep⟩:=RP ha;have hp:=Ti h1;rw[<-ep]at hp;rw[<-vp];have hq:((s:Nat):Int).tdiv 32=0:=sY hs;by_cases h0:p=[]
 ·subst h0;exact Uj [.k ca,.r 14 (eI (b:=(s:Int)) (Qwm hs)),.r 16 (eI (b:=((0:Nat):Int)) (sY hs)),.r 18 (eI (b:=(s:Int)) (Qk7 hs)),.t (by simp[lm])] rfl (by simp[val,Hd,lm]) (by simp only[U5,Hy];omega)
 have hpl:0<p.length:=J3.2 h0;refine go tt [.k ca,.r 14 (eI (b:=(s:Int)) (Qwm hs)),.r 16 (eI (b:=((0:Nat):Int)) (sY hs)),.r 18 (eI (b:=(s:Int)) (Qk7 hs)),.f (by simp[U9];omega),.r 27 (eI (b:=((lm p).length:Int)) (by omega)),.i (lm p).length,.i (lm p).length] rfl (by have e:=U9 p;simp only[U5,Hy];omega) ?_;rw[WI];refine lp (S:=Nat×Us) 1 (λL1 s=>(31,.v (.oi (s.1:Int)))::L1) (λs=>[.row false 111 1 (lm s.2)]) (λs=>p.length-s.1)
  (λr=>r.1<=p.length/\r.2.length=p.length/\Sm r.2/\val (r.2.take r.1)=val p / 2^s % 4294967296^r.1) (0,List.replicate (lm p).length 0)
  ⟨Qh _,by simp[U9],λx hx=>by rw[Zw hx];decide,by simp[val];omega⟩ rfl (λ_ _=>rfl) rfl λ⟨i,o⟩ ⟨j1,j2,j3,j5⟩=>?_
 dsimp only at j1 j2 j3 j5 ⊢;by_cases hi:i<p.length
 ·obtain⟨x,hx⟩:=gxE (l:=p) (i:=i) hi;have xb:=np.1 x (Qc hx);have fin:∀y m,(p[i+1]? = some y\/p.length<=i+1/\y=0)->m=(x+y*2^32) / 2^s->p.length-(i+1)<p.length-i/\i+1<=p.length/\(o.set i (m % 4294967296)).length=p.length/\Sm (o.set i (m % 4294967296))/\val ((o.set i (m % 4294967296)).take (i+1))=val p / 2^s % 4294967296^(i+1):=λy m hy hm =>
   ⟨by omega,hi,by simp[j2],Bq j3 _ _ (by omega),by subst hm;exact Qlt hs hx hy (by omega) np.1 j5⟩
  have hsp:0<2^s:=Z1 (by decide);by_cases hy0:i+1<p.length
  ·obtain⟨y,hy⟩:=gxE (l:=p) (i:=i+1) hy0;have yb:=np.1 y (Qc hy);obtain⟨v,hv⟩:=nmE (4294967296*y+x);obtain⟨m,hm⟩:=nmE (v / 2^s);have hml:m<=v:=hm ▸ Jr _ _;have hf:=fin y m (.inl hy) (by rw[hm,hv];congr 1;omega);refine go tt [.t (by simp[U9];omega),.x (G6 hx),.t (by simp[U9];omega),.x (G6 hy),.i 32,.r 57 (D2 (b:=((4294967296*y:Nat):Int)) (by omega)),.r 58 (D2 (b:=(v:Int)) (by rw[oM xb (by omega)];omega)),
    .i s,.r 63 (D2 (b:=(m:Int)) (by rw[hm];push_cast;rfl)),.w 0,.r 64 (Eo (b:=((m % 4294967296:Nat):Int)) (by rw[xI];omega)),.i i] rfl (by simp[U5,Hy,U9,IntKind.bits] <;> omega) ?_
   rw[Cm];exact rd (i+1,o.set i (m % 4294967296)) hf.1 hf.2 rfl
  ·obtain⟨m,hm⟩:=nmE (x / 2^s);have hml:m<=x:=hm ▸ Jr _ _;have hf:=fin 0 m (.inr ⟨by omega,rfl⟩) (by rw[hm];simp);refine go tt [.t (by simp[U9];omega),.x (G6 hx),.f (by simp[U9];omega),
    .i s,.r 63 (D2 (b:=(m:Int)) (by rw[hm];push_cast;rfl)),.w 0,.r 64 (Eo (b:=((m % 4294967296:Nat):Int)) (by rw[xI];omega)),.i i] rfl (by simp[U5,Hy,U9,IntKind.bits] <;> omega) ?_
   rw[Cm];exact rd (i+1,o.set i (m % 4294967296)) hf.1 hf.2 rfl
 ·obtain rfl:i=p.length:=by omega
  have hvl:=Bu p np.1;rw[Qn (by omega),Xx (Z2 (Jr _ _) hvl)]at j5;rw[<-j5];exact Uj [.f (by simp[U9,j2]),.k (KX j3)] rfl
def fW:Nat->Nat->Us
 | 0,_=>[]
 |k+1,v=>v % 4294967296::fW k (v / 4294967296)
theorem Qh2:∀{l:Us},Sm l->l=fW l.length (val l)
 | [],_=>rfl
 |
  x::l,h=>by
  have hx:=h x (.head _);have ih:=Qh2 (l:=l) λy hy=>h y (.tail _ hy)
  simp only[Q3,fW,val];rw[show(x+4294967296*val l) % 4294967296=x by omega,show(x+4294967296*val l) / 4294967296=val l by omega,<-ih]
theorem nC{l:Us}{k v:Nat}(h:Sm l)(hk:l.length=k)(hv:val l=v):fW k v=l:=by
 rw[<-hk,<-hv];exact(Qh2 h).symm
theorem jE:∀{k v:Nat},(fW k v).length=k/\Sm (fW k v)/\(v<4294967296^k->val (fW k v)=v)
 | 0,v=>⟨rfl,λx hx=>by(cases hx),λh=>by simp at h;subst h;rfl⟩
 |
  k+1,v=>by
  obtain⟨h1,h2,h3⟩:=jE (k:=k) (v:=v / 4294967296);refine⟨by simp[fW,h1],λx hx=>?_,λh=>?_⟩
  ·rcases Qm.1 hx with rfl|hx
   ·exact Z5 _ (by decide)
   ·exact h2 x hx
  ·simp only[fW,val];rw[h3 (by rw[Zs]at h;exact Jc (by rw[Zr];exact h))];omega
theorem Qhi{a:Us}{s n:Nat}(ha:Sm a)(h1:sz (val a)<=4294967400)(hs:s<=31)(hn:n<274877906944)(h0:0<n)(hv:val a*2^s<4294967296^n) :
 U8 prog 222 [lr a,.oi s,.oi n] [] [.one (.orow 0 1 none)] [.row false 111 1 (lm (fW n (val a*2^s)))]:=by
 refine Fz func222 rfl ?_;obtain⟨v,hvv⟩:=nmE (val a*2^s);have cs:=Qy3 ha h1 hs;rw[<-hvv]at cs hv ⊢;have hl:(Gg v).length<=n:=by
  apply Classical.byContradiction;intro hh;have h2:=GX (Dq v) (λe=>by rw[e]at hh;simp at hh);rw[Ha]at h2;have h3:4294967296^n<=4294967296^((Gg v).length-1):=Zt (by decide) (by omega);omega
 refine go tt [.i n,.i n,.k cs,.s (Qjs (Gg v)),.i (Gg v).length] rfl (by simp[U5,Hy,U9] <;> omega) ?_;have e:List.take 0 (List.replicate n [LV.int .u32 0])++(List.take (Gg v).length (lm (Gg v))++List.drop (0+(Gg v).length) (List.replicate n [LV.int .u32 0]))=lm (fW n v):=by
  rw[nC (l:=Gg v++List.replicate (n-(Gg v).length) 0) (λx hx=>?_) (by simp;omega) (by rw[Bt,SH,Ha];simp)]
  ·rw[Y9,Yk,Qn (by rw[U9];exact Qk _)];simp[lm]
  ·rcases Qq.1 hx with hx|hx
   ·exact Lv v x hx
   ·rw[Zw hx];decide
 rw[e];exact Ul [] [0] [] rfl
theorem IA{pre x post:Us}{i u:Nat}(h:x[i]? = some u):(lm (pre++x++post))[pre.length+i]? = some [.int .u32 (u:Int)]:=G6 (by
 have hi:=(Qf.1 h).1;rw[Ze,Xb (by omega),Jm,Zj hi];exact h)
theorem Qmj{pre x post:Us}{i v:Nat}(h:i<x.length):(lm (pre++x++post)).set (pre.length+i) [.int .u32 (v:Int)]=lm (pre++x.set i v++post):=by
 rw[Cm,Ze,List.set_append_right _ _ (by omega),Jm,List.set_append_left _ _ h,<-Ze]
theorem Qoi{pre x post ly:Us}{top nx xn x1 x2:Nat}(D:Dig x ly ly.length top nx xn x1 x2)(hn:ly.length<274877906944) :
 U8 prog 223 [.one (.orow 0 1 (some (pre.length,x.length))),lr ly] [.row true 111 1 (lm (pre++x++post))] [.one (.int .u32 ((val x / val ly:Nat):Int))] [.row true 111 1 (lm (pre++fW x.length (val x % val ly)++post))]:=by
 refine Fz func223 rfl ?_;have hxl:=D.hx;have hn2:=D.hn;have hb:=D.bnd;obtain⟨head,hh⟩:=nmE (xn*2^32+x1);obtain⟨g0,hg0⟩:=nmE (head / top);obtain⟨r0,hr0⟩:=nmE (head % top);have hst:=D.start;rw[<-hh,<-hg0]at hst;have ht0:=D.top0;have hg0l:g0<=head:=hg0 ▸ Jr _ _;have hr0l:r0<top:=hr0 ▸ Z5 _ ht0;have htd:(head:Int).tdiv top=(g0:Int):=by rw[V8 (by omega),hg0];rfl
 have htm:(head:Int).tmod top=(r0:Int):=by rw[Y5 (by omega),hr0];rfl
 refine go tt [.r 23 (eI (b:=(ly.length:Int)) (by rw[U9])),.r 26 (eI (b:=((ly.length-1:Nat):Int)) (by omega)),.x (G6 D.ltop),.r 32 (eI (b:=((ly.length-2:Nat):Int)) (by omega)),.x (G6 D.lnx),
  .i ly.length,.x (IA D.xn),.i 32,.r 41 (D2 (b:=((4294967296*xn:Nat):Int)) (by omega)),.r 44 (eI (b:=((ly.length-1:Nat):Int)) (by omega)),.i (ly.length-1),.x (IA D.x1),.r 48 (D2 (b:=(head:Int)) (by rw[o64 hb.2.2.2.1 (by omega)];omega)),
  .r 51 (D2 (b:=(g0:Int)) htd),.r 54 (D2 (b:=(r0:Int)) htm)] rfl ?_ ?_
 ·simp only[U5,Hy,htd,IntKind.bits];omega
 refine ct 2 (S:=Nat) (λg=>[(0,.v (.one (.orow 0 1 (some (pre.length,x.length))))),(1,.v (lr ly)),(5,.v (.oi (ly.length:Int))),(9,.v (.one (.int .u64 (g:Int))))]) (λ_=>[.row true 111 1 (lm (pre++x++post))]) (λg=>val x / val ly<=g/\(g-1)*val ly<=val x/\g<=4294967296) rfl ?_ ?_
 ·refine lp (S:=Nat×Nat) 1 (λL1 s=>(9,.v (.one (.int .u64 (s.1:Int))))::(10,.v (.one (.int .u64 (s.2:Int))))::L1) (λ_=>[.row true 111 1 (lm (pre++x++post))]) (λs=>4294967296-s.2)
   (λs=>s.1*top+s.2=xn*2^32+x1/\val x / val ly<=s.1/\s.2<4294967296/\s.1<18446744073709551616) (g0,r0)
   ⟨by rw[<-hh,hg0,hr0,Nat.mul_comm];exact Nat.div_add_mod _ _,hst,by dsimp only;omega,by dsimp only;omega⟩ rfl (λ_ _=>rfl) rfl λ⟨g,r⟩ ⟨j1,j2,j3,j4⟩=>?_
  dsimp only at j1 j2 j3 j4 ⊢;by_cases hge:4294967296<=g
  ·have hrd:=D.round j1 j2 (.inl hge);by_cases h2:4294967296<=r+top
   ·exact go tt [.t (by simp;omega),.t rfl,.r 73 (D2 (b:=((g-1:Nat):Int)) (by omega)),.t (by simp;omega)] rfl (by simp[U5,Hy] <;> omega) (rc (g-1) ⟨hrd.2.1,(hrd.2.2.2 h2).1,(hrd.2.2.2 h2).2⟩ rfl)
   ·exact go tt [.t (by simp;omega),.t rfl,.r 73 (D2 (b:=((g-1:Nat):Int)) (by omega)),.f (by simp;omega)] rfl (by simp[U5,Hy] <;> omega) (rd (g-1,r+top) (by dsimp only;omega) ⟨hrd.2.2.1,hrd.2.1,by dsimp only;omega,by dsimp only;omega⟩ rfl)
  ·have hgn:=JZ (x:=g) (y:=nx) (by omega) hb.2.1;by_cases hc:r*2^32+x2<g*nx
   ·have hrd:=D.round j1 j2 (.inr hc);have e1:(g:Int)*(nx:Int)=((g*nx:Nat):Int):=by push_cast;rfl
    obtain⟨m,hm⟩:=nmE (g*nx);rw[<-hm]at e1 hgn hc;by_cases h2:4294967296<=r+top
    ·exact go tt [.f (by simp;omega),.r 60 (D2 (b:=(m:Int)) e1),.i 32,.r 62 (D2 (b:=((4294967296*r:Nat):Int)) (by omega)),.r 65 (eI (b:=((ly.length-2:Nat):Int)) (by omega)),.i (ly.length-2),.x (IA D.x2),.r 69 (D2 (b:=((4294967296*r+x2:Nat):Int)) (o64 hb.2.2.2.2 (by omega))),.t (by simp;omega),.r 73 (D2 (b:=((g-1:Nat):Int)) (by omega)),.t (by simp;omega)] rfl (by simp only[U5,Hy,e1,IntKind.bits];omega) (rc (g-1) ⟨hrd.2.1,(hrd.2.2.2 h2).1,(hrd.2.2.2 h2).2⟩ rfl)
    ·exact go tt [.f (by simp;omega),.r 60 (D2 (b:=(m:Int)) e1),.i 32,.r 62 (D2 (b:=((4294967296*r:Nat):Int)) (by omega)),.r 65 (eI (b:=((ly.length-2:Nat):Int)) (by omega)),.i (ly.length-2),.x (IA D.x2),.r 69 (D2 (b:=((4294967296*r+x2:Nat):Int)) (o64 hb.2.2.2.2 (by omega))),.t (by simp;omega),.r 73 (D2 (b:=((g-1:Nat):Int)) (by omega)),.f (by simp;omega)] rfl (by simp only[U5,Hy,e1,IntKind.bits];omega) (rd (g-1,r+top) (by dsimp only;omega) ⟨hrd.2.2.1,hrd.2.1,by dsimp only;omega,by dsimp only;omega⟩ rfl)
   ·have hf:=D.fin j1 (by omega) (by omega);have e1:(g:Int)*(nx:Int)=((g*nx:Nat):Int):=by push_cast;rfl
    obtain⟨m,hm⟩:=nmE (g*nx);rw[<-hm]at e1 hgn hc;exact go tt [.f (by simp;omega),.r 60 (D2 (b:=(m:Int)) e1),.i 32,.r 62 (D2 (b:=((4294967296*r:Nat):Int)) (by omega)),.r 65 (eI (b:=((ly.length-2:Nat):Int)) (by omega)),.i (ly.length-2),.x (IA D.x2),.r 69 (D2 (b:=((4294967296*r+x2:Nat):Int)) (o64 hb.2.2.2.2 (by omega))),.f (by simp;omega)] rfl (by simp only[U5,Hy,e1,IntKind.bits];omega) (rc g ⟨j2,hf,by omega⟩ rfl)
 ·intro g ⟨q1,q2,q3⟩;refine Uh [.r 80 (eI (b:=(ly.length:Int)) (by rw[U9]))] rfl ?_;refine lp (S:=Nat×Us×Nat×Nat) 1 (λL1 s=>(81,.v (.oi (s.1:Int)))::(11,.v (.one (.int .u64 (s.2.2.1:Int))))::(12,.v (.one (.int .u64 (s.2.2.2:Int))))::L1) (λs=>[.row true 111 1 (lm (pre++s.2.1++post))]) (λs=>ly.length-s.1)
   (λs=>s.1<=ly.length/\s.2.1.length=ly.length+1/\Sm s.2.1/\s.2.2.2<=1/\s.2.2.1<4294967296/\val (s.2.1.take s.1)+g*val (ly.take s.1)=val (x.take s.1)+(s.2.2.1+s.2.2.2)*4294967296^s.1/\s.2.1.drop s.1=x.drop s.1) (0,x,0,0)
   ⟨Qh _,hxl,D.xb,Qh _,by simp,by simp[val],rfl⟩ rfl (λ_ _=>rfl) rfl λ⟨i,o,cy,bw⟩ ⟨j1,j2,j3,j4,j5,j6,j7⟩=>?_
  dsimp only at j1 j2 j3 j4 j5 j6 j7 ⊢;by_cases hi:i<ly.length
  ·obtain⟨w1,hw1⟩:=gxE (l:=ly) (i:=i) hi;obtain⟨u,hu⟩:=gxE (l:=x) (i:=i) (by omega);have wb:=D.lb w1 (Qc hw1);have ub:=D.xb u (Qc hu);have hou:=(FQ j7).trans hu;have hgw:g*w1<=18446744069414584320:=by
    have:=Q8 q3 (show w1<=4294967295 by omega);omega
   obtain⟨s,hs⟩:=nmE (((u+18446744073709551616-(g*w1+cy) % 4294967296) % 18446744073709551616+18446744073709551616-bw) % 18446744073709551616);have hstep:=vJ (o:=o) (by omega) hu hw1 ub j4 j6 rfl hs;have e1:(g:Int)*(w1:Int)=((g*w1:Nat):Int):=by push_cast;rfl
   obtain⟨m,hm⟩:=nmE (g*w1);rw[<-hm]at e1 hgw hs hstep;obtain⟨p,hp⟩:=nmE (m+cy);rw[<-hp]at hs hstep;refine go tt [.t (by simp;omega),.x (G6 hw1),.r 89 (D2 (b:=(m:Int)) e1),.r 91 (D2 (b:=(p:Int)) (by omega)),.i 32,.r 93 (D2 (b:=((p / 2^32:Nat):Int)) (by simp)),.i i,.x (IA hou),.w 1,.r 100 (Eo (b:=((p % 4294967296:Nat):Int)) (by rw[xI];omega)),.w 1,.r 102 (D2 (b:=(((u+18446744073709551616-p % 4294967296) % 18446744073709551616:Nat):Int)) (by rw[w64];omega)),.w 0,.r 104 (D2 (b:=(s:Int)) (by rw[w64];omega)),
    .w 0,.r 108 (Eo (b:=((s % 4294967296:Nat):Int)) (by rw[xI];omega)),.i 63,.r 110 (D2 (b:=((s / 2^63:Nat):Int)) (by simp)),.i i] rfl (by simp only[U5,Hy,e1,IntKind.bits,U9,Qu];omega) ?_
   rw[Qmj (by omega)];exact rd (i+1,o.set i (s % 4294967296),p / 2^32,s / 2^63) (by dsimp only;omega) ⟨hi,by simp[j2],Bq j3 _ _ (by omega),hstep.2,by dsimp only;omega,hstep.1,OL j7⟩ rfl
  ·obtain rfl:i=ly.length:=by omega
   have hon:=(FQ j7).trans D.xn;rw[Qn (l:=ly) (Qk _)]at j6;obtain⟨s,hs⟩:=nmE (((xn+18446744073709551616-cy) % 18446744073709551616+18446744073709551616-bw) % 18446744073709551616);obtain⟨oa,hoa⟩:=nmE (o.set ly.length (s % 4294967296));have oal:oa.length=ly.length+1:=by rw[hoa,Xf];exact j2
   have oab:Sm oa:=hoa ▸ Bq j3 _ _ (by omega);by_cases IU:s / 2^63=0
   ·have hf:=D.fin0 j2 j5 j4 q1 j6 hs IU;refine go tt [.f (by simp),.i ly.length,.x (IA hon),.w 1,.r 119 (D2 (b:=(((xn+18446744073709551616-cy) % 18446744073709551616:Nat):Int)) (by rw[w64];omega)),.w 0,.r 121 (D2 (b:=(s:Int)) (by rw[w64];omega)),.w 0,.r 125 (Eo (b:=((s % 4294967296:Nat):Int)) (by rw[xI];omega)),.i ly.length,.i 63,.r 128 (D2 (b:=((s / 2^63:Nat):Int)) (by simp)),.t (by simp;omega),.w 0,.r 131 (Eo (b:=((val x / val ly:Nat):Int)) (by rw[xI];omega))] rfl (by simp only[U5,Hy,IntKind.bits,U9,Qu];omega) ?_;rw[Qmj (by omega),<-nC (l:=o.set ly.length (s % 4294967296)) (k:=x.length) (hoa ▸ oab) (by rw[<-hoa,oal,hxl]) hf.2];exact Ul [] [0] [] rfl
   ·have hf:=D.fin1 j2 j3 j5 j4 q2 j6 hs IU;rw[<-hoa]at hf;obtain⟨v1,hv1⟩:=gxE (l:=oa) (i:=ly.length) (by omega);refine go tt [.f (by simp),.i ly.length,.x (IA hon),.w 1,.r 119 (D2 (b:=(((xn+18446744073709551616-cy) % 18446744073709551616:Nat):Int)) (by rw[w64];omega)),.w 0,.r 121 (D2 (b:=(s:Int)) (by rw[w64];omega)),.w 0,.r 125 (Eo (b:=((s % 4294967296:Nat):Int)) (by rw[xI];omega)),.i ly.length,.i 63,.r 128 (D2 (b:=((s / 2^63:Nat):Int)) (by simp)),.f (by simp;omega),.r 133 (eI (b:=(ly.length:Int)) (by rw[U9]))] rfl (by simp only[U5,Hy,IntKind.bits,U9,Qu];omega) ?_;rw[Qmj (by omega),<-hoa];refine lp (S:=Nat×Us×Nat) 1 (λL1 s=>(134,.v (.oi (s.1:Int)))::(18,.v (.one (.int .u64 (s.2.2:Int))))::L1) (λs=>[.row true 111 1 (lm (pre++s.2.1++post))]) (λs=>ly.length-s.1)
     (λs=>s.1<=ly.length/\s.2.1.length=ly.length+1/\Sm s.2.1/\s.2.2<=1/\val (s.2.1.take s.1)+s.2.2*4294967296^s.1=val (oa.take s.1)+val (ly.take s.1)/\s.2.1.drop s.1=oa.drop s.1) (0,oa,0)
     ⟨Qh _,oal,oab,Qh _,by simp[val],rfl⟩ rfl (λ_ _=>rfl) rfl λ⟨j,o2,bk⟩ ⟨r1,r2,r3,r4,r5,r6⟩=>?_
    dsimp only at r1 r2 r3 r4 r5 r6 ⊢;by_cases hj:j<ly.length
    ·obtain⟨w1,hw1⟩:=gxE (l:=ly) (i:=j) hj;obtain⟨u,hu⟩:=gxE (l:=oa) (i:=j) (by omega);have wb:=D.lb w1 (Qc hw1);have ub:=oab u (Qc hu);have hou:=(FQ r6).trans hu;obtain⟨m,hm⟩:=nmE (u+bk+w1);have hstep:=wM (o:=o2) (by omega) hu (.inl hw1) r5 hm;refine go tt [.t (by simp;omega),.x (G6 hw1),.i j,.x (IA hou),.r 148 (D2 (b:=(m:Int)) (by omega)),.w 0,.r 152 (Eo (b:=((m % 4294967296:Nat):Int)) (by rw[xI];omega)),.i 32,.r 154 (D2 (b:=((m / 4294967296:Nat):Int)) (by simp)),.i j] rfl (by simp only[U5,Hy,IntKind.bits,U9,Qu];omega) ?_;rw[Qmj (by omega)];exact rd (j+1,o2.set j (m % 4294967296),m / 4294967296) (by dsimp only;omega) ⟨hj,by simp[r2],Bq r3 _ _ (by omega),by dsimp only;omega,hstep,OL r6⟩ rfl
    ·obtain rfl:j=ly.length:=by omega
     have hon2:=(FQ r6).trans hv1;have vb:=oab v1 (Qc hv1);rw[Qn (l:=ly) (Qk _)]at r5;have hf2:=D.fin2 oal oab r2 r3 hv1 r4 hf.2 r5;refine go tt [.f (by simp),.i ly.length,.x (IA hon2),.w 1,.r 165 (Eo (b:=(((v1+bk) % 4294967296:Nat):Int)) (by rw[xI];omega)),.i ly.length,.w 0,.r 168 (Eo (b:=((g % 4294967296:Nat):Int)) (by rw[xI];omega)),.w 0,.r 169 (Eo (b:=((val x / val ly:Nat):Int)) (Q0e hf.1 D.qlt))] rfl (by simp only[U5,Hy,IntKind.bits,U9,Qu];omega) ?_;rw[Qmj (by omega),<-nC (l:=o2.set ly.length ((v1+bk) % 4294967296)) (k:=x.length) (Bq r3 _ _ (by omega)) (by rw[Xf,r2,hxl]) hf2];exact Ul [] [0] [] rfl
theorem Qgt{o ly:Us}{lo top nx xn x1 x2:Nat}(hlo:lo+(ly.length+1)<=o.length)(D:Dig (UU o lo ly.length) ly ly.length top nx xn x1 x2)(hn:ly.length<274877906944) :
 U8 prog 223 [.one (.orow 0 1 (some (lo,ly.length+1))),lr ly] [.row true 111 1 (lm o)] [.one (.int .u32 ((val (UU o lo ly.length) / val ly:Nat):Int))] [.row true 111 1 (lm (o.take lo++fW (ly.length+1) (val (UU o lo ly.length) % val ly)++o.drop (lo+ly.length+1)))]:=by
 have:=Qoi (pre:=o.take lo) (post:=o.drop (lo+ly.length+1)) D hn;have e1:(o.take lo).length=lo:=by rw[Qr];omega
 have e2:=HH (o:=o) (i:=lo) (n:=ly.length) (by omega);rw[e1,e2,VP]at this;exact this
theorem uX{a b:Us}(ha:Sm a)(hb:Sm b)(h1:sz (val a)<=4294967296)(h2:sz (val b)<=4294967296)(hy:0<val b):Un 182 [lr a,lr b] [lr (Gg (val a / val b)),lr (Gg (val a % val b)),.oi 0]:=by
 refine Fz func182 rfl ?_;obtain⟨p,ca,np,vp,_,ep⟩:=RP ha;obtain⟨q,cb,nq,vq,_,eq⟩:=RP hb;have hp:=Ti h1;have hq:=Ti h2;rw[<-ep]at hp;rw[<-eq]at hq;rw[<-vp,<-vq];rw[<-vp]at h1;rw[<-vq]at h2 hy;have q0:q≠[]:=λe=>by rw[e]at hy;simp[val]at hy
 have qp:0<q.length:=J3.2 q0;have c1:¬((lm q).length:Int)=0:=by rw[U9];omega
 by_cases hlt:p.length<q.length
 ·have hv:=D7 np nq hlt;rw[V4 hv,Xx hv,Hd];exact Uj [.k ca,.k cb,.f (by simpa using c1),.t (by simp[U9];omega),.k (KN np.1 h1)] rfl rfl (by simp[U5,Hy])
 by_cases hone:q.length=1
 ·obtain⟨y,rfl⟩:∃y,q=[y]:=by
   match q,hone with
   | [y],_=>exact⟨y,rfl⟩
  have yb:=nq.1 y (.head _);have vy:val [y]=y:=by simp[val]
  rw[vy]at hy ⊢;have co:=Qy8 np.1 (by omega) hy yb;have sm:Sm [val p % y]:=λz hz=>by
   simp at hz;subst hz;exact Nat.lt_trans (Z5 _ hy) yb
  have cc:=KX sm;rw[show val [val p % y]=val p % y from by simp[val]]at cc;exact Uj [.k ca,.k cb,.f (by simp[lm]),.f (by simp[U9];omega),.t (by simp[lm]),.x (G6 (l:=[y]) (i:=0) rfl),.k co,.k cc] rfl rfl (by simp[U5,Hy])
 ·have hle:q.length<=p.length:=J9 hlt;obtain⟨y1,hy1,hy10⟩:=nq.2 q0;have y1b:=nq.1 y1 (Qc hy1);have hszy:=lH nq hy1;have hsz1:sz y1<=32:=Nt.2 (by omega);have hsz0:0<sz y1:=Qxo (by omega);obtain⟨s,hs⟩:=nmE (32-sz y1);have hs31:s<=31:=by omega
  have Eo:(2:Nat)^32=4294967296:=by decide
  obtain⟨x,hx⟩:=nmE (val p);obtain⟨y,hyv⟩:=nmE (val q);have cl:=Qun y1b;rw[<-hs]at cl;have hvx:val p*2^s<4294967296^(p.length+1):=by
   have h1:=Bu p np.1;rw[Zs];exact Z9 (Xq h1 (show 0<2^s from Z1 (by decide))) (Zp _ (by rw[<-Eo];exact Zt (by decide) (by omega)))
  have hvy:val q*2^s<4294967296^q.length:=by
   have h1:=FA (val q);rw[<-Eo,<-Kv];have h2:val q*2^s<2^sz (val q)*2^s:=Xq h1 (Z1 (by decide));rw[<-Xh]at h2;rw[show 32*q.length=sz (val q)+s from by omega];exact h2
  have cx:=Qhi np.1 (show sz (val p)<=4294967400 by omega) hs31 (show p.length+1<274877906944 by omega) (by omega) hvx;have cy:=Qhi nq.1 (show sz (val q)<=4294967400 by omega) hs31 (show q.length<274877906944 by omega) qp hvy;obtain⟨hXl,hXb,hXv⟩:=jE (k:=p.length+1) (v:=val p*2^s);obtain⟨hYl,hYb,hYv⟩:=jE (k:=q.length) (v:=val q*2^s);have hXv:=hXv hvx;have hYv:=hYv hvy;obtain⟨X,hX⟩:=nmE (fW (p.length+1) (val p*2^s));obtain⟨Y,hY⟩:=nmE (fW q.length (val q*2^s));rw[<-hX]at hXl hXb hXv cx;rw[<-hY]at hYl hYb hYv cy;have hyB:4294967296^(q.length-1)<=val q:=GX nq q0;have hR:=dG hXv hYv hXl hXb hYl hYb (show 2<=q.length by omega) (Bu p np.1) hyB hle;refine go tt [.k ca,.k cb,.f (by simpa using c1),.f (by simp[U9];omega),.f (by simp[U9];omega),.r 49 (eI (b:=((q.length-1:Nat):Int)) (by rw[U9];omega)),.x (G6 hy1),.k cl,.r 57 (eI (b:=((p.length+1:Nat):Int)) (by rw[U9];omega)),.c [0] cx,.r 62 (eI (b:=(q.length:Int)) (by rw[U9])),.c [1] cy,.r 65 (eI (b:=(q.length:Int)) (by rw[U9,hYl])),.r 70 (eI (b:=((p.length-q.length+1:Nat):Int)) (by rw[U9];omega)),.i (p.length-q.length+1),.i (p.length-q.length+1),.r 73 (eI (b:=((p.length-q.length+1:Nat):Int)) (by simp))] rfl ?_ ?_
  ·simp only[U5,Hy,IntKind.bits,U9];omega
  ·rw[WI];refine pb 1 rfl rfl ?_;refine lp (S:=Int×Us×Us) 3 (λL1 s=>(13,.v (.oi s.1))::L1) (λs=>[.row false 111 1 (lm s.2.2),.gone,.row false 111 1 (lm s.2.1)]) (λs=>(s.1+1).toNat)
    (λs=>-1<=s.1/\s.1<p.length-q.length+1/\s.2.1.length=p.length-q.length+1/\Sm s.2.1/\Rest s.2.2 Y p.length q.length (s.1+1).toNat/\val (s.2.1.drop (s.1+1).toNat)*4294967296^(s.1+1).toNat*val Y+val s.2.2=val X) (((p.length-q.length+1:Nat):Int)-1,List.replicate (p.length-q.length+1) 0,X)
    ⟨by dsimp only;omega,by dsimp only;omega,by simp,λx hx=>by rw[List.eq_of_mem_replicate hx];decide,by simpa using hR,by simp[val]⟩ rfl (λ_ _=>rfl) rfl λ⟨i,oq,ox⟩ ⟨j1,j2,j3,j4,j5,j6⟩=>?_
   dsimp only at j1 j2 j3 j4 j5 j6 ⊢;rcases Kf i 0 with hi|hi
   ·obtain rfl:i=-1:=by omega
    simp only[show((-1:Int)+1).toNat=0 from rfl,X4,Ve,Ye]at j5 j6;have hlt':val ox<val q*2^s:=by have:=j5.lt;rw[hYv]at this;simpa using this
    have hfin:=Qk8 (x:=val p) (y:=val q) (s:=s) (r:=val ox) (q:=oq) hy (by rw[<-hXv,<-hYv];exact j6) hlt';have hoxl:=j5.ol;have hox:=lT (o:=ox) (n:=q.length) (by omega) (Nat.lt_trans hlt' hvy);have hszm:sz (val (ox.take q.length))<=4294967400:=by
     rw[hox,hfin.2];have h1:=Ql6 (val p % val q) (2^s);have h2':=Rl (Yl (Z5 (val p) hy));have h3:sz (2^s)<=s+1:=Nt.2 (Nat.pow_lt_pow_right (by decide) (by omega));omega
    have cs:=Qy4 (a:=ox.take q.length) (λu hu=>j5.ob u (Qo hu)) hszm hs31;rw[hox,hfin.2,Nat.mul_div_cancel _ (Z1 (by decide))]at cs;have cq:=KX j4;rw[hfin.1]at cq;exact Uj [.f (by decide),.p 2,.p 0,.k cq,.i q.length,.r 95 (v:=lr (ox.take q.length)) (by simp[lm]),.k cs] rfl rfl (by simp[U5,Hy,U9];omega)
   ·obtain⟨k,rfl⟩:=Km hi;have e:((k:Int)+1).toNat=k+1:=by omega
    rw[e]at j5 j6;obtain⟨top,nx,xn,x1,x2,D⟩:=j5.dig;have hoxl:=j5.ol;have hm:=j5.hm;have cd:=Qgt (o:=ox) (lo:=k) (by omega) (hYl.symm ▸ D) (by omega);rw[hYl]at cd;have hwl:=HH (o:=ox) (i:=k) (n:=q.length) (by omega);have hwlt:val (UU ox k q.length) % val Y<4294967296^(q.length+1):=by
     have h3:=Bu (UU ox k q.length) D.xb;rw[hwl]at h3;exact Z2 (Nat.mod_le _ _) h3
    obtain⟨d1,d2,d3⟩:=jE (k:=q.length+1) (v:=val (UU ox k q.length) % val Y);have hnx:=j5.next (w':=fW (q.length+1) (val (UU ox k q.length) % val Y)) (d1.trans hwl.symm) d2 (d3 hwlt) (q:=oq) (by omega) j6;have hdg:=D.qlt;refine go tt [.t (by simp),.i k,.i (k+q.length+1),.r 87 (v:=.one (.orow 0 1 (some (k,q.length+1)))) (by rw[show k+q.length+1-k=q.length+1 by omega]),.c [0] cd,.i k] rfl ?_ ?_
    ·simp only[U5,U9];omega
    ·rw[Cm];refine rd ((k:Int)-1,oq.set k (val (UU ox k q.length) / val Y),ox.take k++fW (q.length+1) (val (UU ox k q.length) % val Y)++ox.drop (k+q.length+1)) (by dsimp only;omega) ⟨by dsimp only;omega,by dsimp only;omega,by simp[j3],Bq j4 _ _ hdg,?_,?_⟩ rfl
     ·dsimp only;rw[show((k:Int)-1+1).toNat=k from by omega];exact hnx.1
     ·dsimp only;rw[show((k:Int)-1+1).toNat=k from by omega];exact hnx.2
def sg(z:Int):LV:=.bool (decide (z<0))
def mg(z:Int):LV:=.row (lm (Gg z.natAbs))
abbrev Hg(z:Int):Uv:=[sg z,mg z]
def Gi(x y:LV)(z:Int):Prop:=∃b l,x=.bool b/\y=.row (lm l)/\Sm l/\z=Fc b (val l)
theorem U6(z:Int):Gi (sg z) (mg z) z:=by
 refine⟨_,_,rfl,rfl,Lv _,?_⟩;rw[Ha];unfold Fc;by_cases h:z<0 <;> simp[h] <;> omega
theorem Qww(b:Bool)(m:Nat):[LV.bool (b && decide (0<m)),LV.row (lm (Gg m))]=Hg (Fc b m):=by
 simp only[Hg,sg,mg,EU,Ta]
theorem D4{m:Nat}:0<(Gg m).length↔0<m:=by
 rcases Q4 m with h|h
 ·subst h;rw[Hd];simp
 ·rw[E6 (by omega)];simp[h]
theorem P9(b:Bool)(m:Nat):Un 134 [lr (Gg m),.one (.bool b)] [.agg (Hg (Fc b m))]:=by
 rw[<-Qww];have e:=D4 (m:=m);cases b with
 |false=>exact Uk func134 rfl [.f rfl] rfl
 |true=>exact Uk func134 rfl [.t rfl] rfl (by simp[U9,e]) trivial
theorem P6{b:Bool}{m:Nat}{k:Nat}(h:Fg (Fc b m)<=k):sz m<=k:=by
 unfold Fg at h;rwa[Ta]at h
theorem M4{x y:LV}{z:Int}(hi:Gi x y z)(hs:Fg z<=4294967295):Un 118 [.agg [x,y]] [.agg (Hg z)]:=by
 obtain⟨b,l,rfl,rfl,hl,rfl⟩:=hi;exact Uk func118 rfl [.k (KN hl (Qa (P6 hs) (by decide))),.k (P9 _ _)] rfl
theorem FH(b:Bool)(m:Nat):Fc (!b) m=-(Fc b m):=by unfold Fc;cases b <;> simp
theorem BA{x y:LV}{z:Int}(hi:Gi x y z)(hs:Fg z<=4294967295):Un 139 [.agg [x,y]] [.agg (Hg (-z))]:=by
 obtain⟨b,l,rfl,rfl,hl,rfl⟩:=hi;rw[<-FH];exact Uk func139 rfl [.k (KN hl (Qa (P6 hs) (by decide))),.k (P9 _ _)] rfl
theorem P8{x y x' y':LV}{z z':Int}(hi:Gi x y z)(hi':Gi x' y' z')(hs:Fg z<=4294967295)(hs':Fg z'<=4294967295):Un 143 [.agg [x,y],.agg [x',y']] [.agg (Hg (z*z'))]:=by
 obtain⟨b,l,rfl,rfl,hl,rfl⟩:=hi;obtain⟨b',l',rfl,rfl,hl',rfl⟩:=hi';have e:Fc b (val l)*Fc b' (val l')=Fc (b != b') (val l*val l'):=by
  unfold Fc;cases b <;> cases b' <;> simp[Int.neg_mul,Int.mul_neg]
 rw[e];exact Uk func143 rfl [.k (Qyy hl hl' (Qa (P6 hs) (by decide)) (Qa (P6 hs') (by decide))),.k (P9 _ _)] rfl
theorem CJ{a b:Us}(ha:Sm a)(hb:Sm b)(h1:sz (val a)<=4294967296)(h:val b<=val a):Un 226 [lr a,lr b] [lr (Gg (val a-val b)),.one (.bool true)]:=by
 have:=Qsq ha hb h1;rwa[if_pos h]at this
theorem Qgj{a b:Us}(ha:Sm a)(hb:Sm b)(h1:sz (val a)<=4294967296)(h:val a<val b):Un 226 [lr a,lr b] [lr [],.one (.bool false)]:=by
 have:=Qsq ha hb h1;rwa[if_neg (by omega)]at this
theorem KD{x y x' y':LV}{z z':Int}(hi:Gi x y z)(hi':Gi x' y' z')(hs:Fg z<=4294967295)(hs':Fg z'<=4294967295):Un 185 [.agg [x,y],.agg [x',y']] [.agg (Hg (z+z'))]:=by
 obtain⟨b,l,rfl,rfl,hl,rfl⟩:=hi;obtain⟨b',l',rfl,rfl,hl',rfl⟩:=hi';have s1:=Qa (P6 hs) (show 4294967295<=4294967296 by decide);have s2:=Qa (P6 hs') (show 4294967295<=4294967296 by decide);by_cases hb:b=b'
 ·subst hb;have e:Fc b (val l)+Fc b (val l')=Fc b (val l+val l'):=by unfold Fc;cases b <;> simp <;> omega
  rw[e];exact Uk func185 rfl [.t (by simp),.k (Qsm hl hl' s1 s2),.k (P9 _ _)] rfl
 ·by_cases hle:val l'<=val l
  ·have e:Fc b (val l)+Fc b' (val l')=Fc b (val l-val l'):=by unfold Fc;cases b <;> cases b' <;> simp at hb ⊢ <;> omega
   rw[e];exact Uk func185 rfl [.f (by simpa using hb),.k (CJ hl hl' s1 hle),.t rfl,.k (P9 _ _)] rfl
  ·have e:Fc b (val l)+Fc b' (val l')=Fc b' (val l'-val l):=by unfold Fc;cases b <;> cases b' <;> simp at hb ⊢ <;> omega
   rw[e];exact Uk func185 rfl [.f (by simpa using hb),.k (Qgj hl hl' s1 (by omega)),.f rfl,.k (CJ hl' hl s2 (by omega)),.k (P9 _ _)] rfl
theorem Qgr{x y x' y':LV}{z z':Int}(hi:Gi x y z)(hi':Gi x' y' z')(hs:Fg z<=4294967295)(hs':Fg z'<=4294967295):Un 256 [.agg [x,y],.agg [x',y']] [.agg (Hg (z-z'))]:=by
 obtain⟨b',l',rfl,rfl,hl',rfl⟩:=hi';have hn:Gi (.bool (!b')) (.row (lm l')) (-(Fc b' (val l'))):=⟨_,_,rfl,rfl,hl',(FH _ _).symm⟩;rw[Int.sub_eq_add_neg];have hi2:=hi;obtain⟨b,l,rfl,rfl,hl,_⟩:=hi;exact Uk func256 rfl [.k (KD hi2 hn hs (by rw[Hp];exact hs'))] rfl
theorem Qhb{x y:LV}{z:Int}(hi:Gi x y z)(hs:Fg z<=4294967295):Un 154 [.agg [x,y]] [.oi (Int.sign z)]:=by
 obtain⟨b,l,rfl,rfl,hl,rfl⟩:=hi;have s1:=Qa (P6 hs) (show 4294967295<=4294967296 by decide);have cb:=mN hl s1;by_cases h0:val l=0
 ·have e:Fc b (val l)=0:=by unfold Fc;rw[h0];cases b <;> simp
  rw[e];exact Uk func154 rfl [.k cb,.t (by simp[AA,h0])] rfl
 ·have IU:sz (val l)≠0:=λh=>h0 (AA.1 h)
  cases b
  ·have e:(Fc false (val l)).sign=1:=Int.sign_eq_one_of_pos (by unfold Fc;simp;omega);rw[e];exact Uk func154 rfl [.k cb,.f (by simp;omega),.f rfl] rfl
  ·have e:(Fc true (val l)).sign=-1:=Int.sign_eq_neg_one_of_neg (by unfold Fc;simp;omega);rw[e];exact Uk func154 rfl [.k cb,.f (by simp;omega),.t rfl] rfl
theorem RU{x y x' y':LV}{z z':Int}(hi:Gi x y z)(hi':Gi x' y' z')(hs:Fg z<=4294967295)(hs':Fg z'<=4294967295):Un 100 [.agg [x,y],.agg [x',y']] [.oi (Ld z z')]:=by
 have c1:=Qhb hi hs;have c2:=Qhb hi' hs';obtain⟨b,l,rfl,rfl,hl,hz⟩:=hi;obtain⟨b',l',rfl,rfl,hl',hz'⟩:=hi';have k1:=A1 z;have k2:=A1 z';have zl:z.natAbs=val l:=by rw[hz,Ta]
 have zl':z'.natAbs=val l':=by rw[hz',Ta]
 by_cases h1:z.sign<z'.sign
 ·have e:Ld z z'=-1:=by unfold Ld;rw[if_pos (by omega)]
  rw[e];exact Uk func100 rfl [.k c1,.k c2,.t (by simpa using h1)] rfl
 ·by_cases h2:z'.sign<z.sign
  ·have e:Ld z z'=1:=by unfold Ld;rw[if_neg (by omega),if_pos (by omega)]
   rw[e];exact Uk func100 rfl [.k c1,.k c2,.f (by simpa using h1),.t (by simpa using h2)] rfl
  ·by_cases h3:z.sign<0
   ·have e:ZN (val l') (val l)=Ld z z':=by unfold Ld ZN;rw[<-zl,<-zl'];split <;> split <;> (try split) <;> (try split) <;> omega
    have cc:=Qfi hl' hl;rw[e]at cc;exact Uk func100 rfl [.k c1,.k c2,.f (by simpa using h1),.f (by simpa using h2),.t (by simpa using h3),.k cc] rfl
   ·have e:ZN (val l) (val l')=Ld z z':=by unfold Ld ZN;rw[<-zl,<-zl'];split <;> split <;> (try split) <;> (try split) <;> omega
    have cc:=Qfi hl hl';rw[e]at cc;exact Uk func100 rfl [.k c1,.k c2,.f (by simpa using h1),.f (by simpa using h2),.f (by simpa using h3),.k cc] rfl
theorem Dl{z:Int}:Un 136 [.agg (Hg z)] [.one (.bool (decide (z=0)))] :=
 Uk func136 rfl [] rfl (by simp only[U9];congr 3;have:=D4 (m:=z.natAbs);rw[decide_eq_decide];omega) trivial
theorem BI{z:Int}(h1:-9223372036854775808<=z/\z<=9223372036854775807):Un 78 [.oi z] [.agg (Hg z)]:=by
 obtain⟨m,hm⟩:=nmE (z.natAbs);have sm:Sm [m % 4294967296,m / 4294967296]:=λx hx=>by
  simp at hx;rcases hx with rfl|rfl <;> omega
 have hv:val [m % 4294967296,m / 4294967296]=m:=by simp only[val];omega
 have cn:=KN sm (by rw[hv];exact Qa (Nt.2 (show m<2^64 by omega)) (show 64<=4294967296 by decide));rw[hv]at cn;by_cases hz:z<0
 ·have e:Fc true m=z:=by unfold Fc;simp;omega
  have cm:=P9 true m;rw[e]at cm;exact Uk func78 rfl [.w 0,.r 5 (D2 (b:=((18446744073709551616-m:Nat):Int)) (by rw[w64];omega)),.t (by simpa using hz),.w 0,.r 9 (D2 (b:=(m:Int)) (by rw[w64];omega)),.w 0,.r 11 (Eo (b:=((m % 4294967296:Nat):Int)) (by rw[xI];omega)),.i 32,.r 13 (D2 (b:=((m / 4294967296:Nat):Int)) (by simp)),.k cn,.r 18 (v:=.one (.bool true)) (by simp[hz]),.k cm] rfl rfl (by simp[U5,IntKind.bits] <;> omega)
 ·have e:Fc false m=z:=by unfold Fc;simp;omega
  have cm:=P9 false m;rw[e]at cm;exact Uk func78 rfl [.w 0,.r 5 (D2 (b:=(m:Int)) (by rw[w64];omega)),.f (by simpa using hz),.w 0,.r 11 (Eo (b:=((m % 4294967296:Nat):Int)) (by rw[xI];omega)),.i 32,.r 13 (D2 (b:=((m / 4294967296:Nat):Int)) (by simp)),.k cn,.r 18 (v:=.one (.bool false)) (by simp;omega),.k cm] rfl rfl (by simp[U5,IntKind.bits] <;> omega)
theorem mL{m n:Nat}(h1:sz m<=4294967296)(h2:sz n<=4294967296)(hn:0<n):Un 182 [lr (Gg m),lr (Gg n)] [lr (Gg (m / n)),lr (Gg (m % n)),.oi 0]:=by
 have:=uX (Lv m) (Lv n) (by rw[Ha];exact h1) (by rw[Ha];exact h2) (by rw[Ha];exact hn);rwa[Ha,Ha]at this
theorem Qcj{x y x' y':LV}{z z':Int}(hi:Gi x y z)(hi':Gi x' y' z')(hs:Fg z<=4294967295)(hs':Fg z'<=4294967295)(hz:z'≠0):Un 183 [.agg [x,y],.agg [x',y']] [.agg (Hg (z / z')),.agg (Hg (z % z')),.oi 0]:=by
 obtain⟨b,l,rfl,rfl,hl,hz1⟩:=hi;obtain⟨b',l',rfl,rfl,hl',hz2⟩:=hi';have zl:z.natAbs=val l:=by rw[hz1,Ta]
 have zl':z'.natAbs=val l':=by rw[hz2,Ta]
 have s1:sz (val l)<=4294967296:=Qa (P6 (hz1 ▸ hs)) (by decide);have s2:sz (val l')<=4294967296:=Qa (P6 (hz2 ▸ hs')) (by decide);have hp:0<z'.natAbs:=by omega
 have e1:z=if b=true then -(z.natAbs:Int)else(z.natAbs:Int):=by rw[zl];exact hz1
 have e2:z'=if b'=true then -(z'.natAbs:Int)else(z'.natAbs:Int):=by rw[zl'];exact hz2
 have cd:=uX hl hl' s1 s2 (by omega);rw[<-zl,<-zl']at cd;have s0:sz (z.natAbs % z'.natAbs)<=4294967296:=Qa (Rl (Yl (Z5 _ hp))) (by rw[zl'];exact s2);cases b with
 |
  false =>
  obtain⟨d1,d2⟩:=DF e2 hp e1;rw[d1,d2];exact Uk func183 rfl [.k cd,.f rfl,.k (P9 _ _),.k (P9 _ _),.f rfl,.f rfl] rfl
 |
  true =>
  by_cases h0:z.natAbs % z'.natAbs=0
  ·obtain⟨d1,d2⟩:=MY e2 hp e1 h0;rw[d1,d2];exact Uk func183 rfl [.k cd,.f rfl,.k (P9 _ _),.k (P9 _ _),.t rfl,.f (by rw[h0,Hd];rfl)] rfl
  ·obtain⟨d1,d2⟩:=DU e2 hp e1 (by omega);rw[d1,d2];have ca:=Qsm (a:=Gg (z.natAbs / z'.natAbs)) (b:=[1]) (Lv _) (λx hx=>by simp at hx;subst hx;decide) (by rw[Ha];exact Qa (Rl (Jr _ _)) (by rw[zl];exact s1)) (by decide);have cs:=CJ (a:=l') (b:=Gg (z.natAbs % z'.natAbs)) hl' (Lv _) s2 (by rw[Ha,<-zl'];exact Yl (Z5 _ hp));rw[Ha]at ca cs;rw[<-zl']at cs;have hl0:=D4 (m:=z.natAbs % z'.natAbs);exact Uk func183 rfl [.k cd,.f rfl,.k (P9 _ _),.k (P9 _ _),.t rfl,.t (by simp[U9];omega),.k ca,.k cs,.k (P9 _ _),.k (P9 _ _)] rfl
theorem Ib{x y x' y':LV}{z z':Int}(hi:Gi x y z)(hi':Gi x' y' z')(hs:Fg z<=4294967295)(hs':Fg z'<=4294967295)(hz:z'≠0)(hd:z % z'=0):Un 140 [.agg [x,y],.agg [x',y']] [.agg (Hg (z / z')),.oi 0]:=by
 have cd:=Qcj hi hi' hs hs' hz;obtain⟨b,l,rfl,rfl,_⟩:=hi;obtain⟨b',l',rfl,rfl,_⟩:=hi';exact Uk func140 rfl [.k cd,.f rfl,.f (by rw[hd];simp[U9,Hd])] rfl
end Orr
namespace Orr
open Go
abbrev Q14(l:Us):LV:=.row (lm l)
def Tg(l:Uq):Nat:=l.foldl (λg z=>Nat.gcd g z.natAbs) 0
theorem Qde{l:Uq}{i:Nat}{z:Int}(h:l[i]? = some z):Tg (l.take (i+1))=Nat.gcd (Tg (l.take i)) z.natAbs:=by
 unfold Tg;rw[Y7,h];simp[Vr]
theorem Qpr(g x:Nat):Nat.gcd x (g % x)=Nat.gcd g x:=by
 rw[Nat.gcd_comm g x,Nat.gcd_rec x g,Nat.gcd_comm]
theorem IP(l:Uq):l.foldl (λg z=>Nat.gcd g z.natAbs) 1=1:=by
 induction l with
 |nil=>rfl
 |cons z l ih=>simp[ih]
theorem Qiy{l:Uq}{i:Nat}(h:Tg (l.take i)=1):Tg l=1:=by
 have e:l=l.take i++l.drop i:=(Zi i l).symm;unfold Tg at h ⊢;rw[e,Vr,h,IP]
def trim:Uq->Uq
 | []=>[]
 |
  x::l=>match trim l with
  | []=>if x=0 then []else [x]
  |y::k=>x::y::k
theorem UJ:∀{l:Uq},(∀x∈l,x=0)->trim l=[]
 | [],_=>rfl
 |
  x::l,h=>by
  have ih:=UJ (l:=l) (λy hy=>h y (Qg _ hy));simp[trim,ih,h x (Qy ..)]
theorem xC:∀{l:Uq} {m:Nat} {y:Int},(∀j x,m<j->l[j]? = some x->x=0)->l[m]? = some y->y≠0->trim l=l.take (m+1)
 | [],m,y,_,h,_=>by simp at h
 |
  x::l,0,y,h1,h2,h3=>by
  have h0:trim l=[]:=UJ λz hz=>by
   obtain⟨j,hj⟩:=Zm.1 hz;exact h1 (j+1) z (by omega) (by simpa using hj)
  simp at h2;subst h2;simp[trim,h0,h3]
 |
  x::l,m+1,y,h1,h2,h3=>by
  have ih:=xC (l:=l) (m:=m) (y:=y) (λj z hj hz=>h1 (j+1) z (by omega) (by simpa using hz)) (by simpa using h2) h3;cases hl:l with
  |nil=>subst hl;simp at h2
  |
   cons u k =>
   subst hl;rw[Vf]at ih;simp only[trim]at ih ⊢;rw[ih];simp
def Fe(l:Uq):Prop:=trim l=l
theorem Rv:∀(l:Uq),Fe (trim l)
 | []=>rfl
 |
  x::l=>by
  have ih:=Rv l;unfold Fe at ih ⊢;cases h:trim l with
  |nil=>by_cases hx:x=0 <;> simp[trim,h,hx]
  |
   cons y k =>
   rw[h]at ih;simp only[trim,h]at ih ⊢;rw[ih]
theorem pX{l:Uq}{m:Nat}(hm:m<=l.length)(h1:∀j x,m<=j->l[j]? = some x->x=0)(h2:0<m->∃y,l[m-1]? = some y/\y≠0):trim l=l.take m:=by
 rcases Q4 m with h0|h0
 ·subst h0;rw[UJ λz hz=>?_];rfl;obtain⟨j,hj⟩:=Zm.1 hz;exact h1 j z (by omega) hj
 ·obtain⟨y,hy,hy0⟩:=h2 h0;have:=xC (l:=l) (m:=m-1) (y:=y) (λj x hj hx=>h1 j x (by omega) hx) hy hy0;rwa[show m-1+1=m from by omega]at this
def IsInts:Uw->Uq->Prop
 | [],[]=>True
 |x::l,z::p=>(∃a b,x=[a,b]/\Gi a b z)/\IsInts l p
 |_,_=>False
theorem IsInts.len:∀{l:Uw} {p:Uq},IsInts l p->l.length=p.length
 | [],[],_=>rfl
 |x::l,z::p,h=>by simp[h.2.len]
 | [],_::_,h=>h.elim
 |_::_,[],h=>h.elim
theorem IsInts.get:∀{l:Uw} {p:Uq},IsInts l p->∀{i:Nat} {z:Int},p[i]? = some z->∃a b,l[i]? = some [a,b]/\Gi a b z
 | [],[],_,i,z,h=>by simp at h
 |
  x::l,y::p,h,0,z,hz=>by
  simp at hz;subst hz;obtain⟨a,b,rfl,hi⟩:=h.1;exact⟨a,b,rfl,hi⟩
 |x::l,y::p,h,i+1,z,hz=>by simpa using h.2.get (i:=i) (by simpa using hz)
 | [],_::_,h,_,_,_=>h.elim
 |_::_,[],h,_,_,_=>h.elim
theorem Gt:∀(p:Uq),IsInts (p.map Hg) p
 | []=>trivial
 |z::p=>⟨⟨_,_,rfl,U6 z⟩,Gt p⟩
theorem IsInts.append:∀{l l':Uw} {p p':Uq},IsInts l p->IsInts l' p'->IsInts (l++l') (p++p')
 | [],_,[],_,_,h=>h
 |x::l,_,z::p,_,h,h'=>⟨h.1,h.2.append h'⟩
 | [],_,_::_,_,h,_=>h.elim
 |_::_,_,[],_,h,_=>h.elim
def pl(p:Uq):LV:=.row (p.map Hg)
def ids(l:Uq):LV:=.row (l.map λ(x:Int)=>[.int .i64 x])
theorem QD:Gi (.bool false) (.row []) 0:=⟨false,[],rfl,rfl,(λx hx=>by cases hx),rfl⟩
theorem Qrf:sg 0=.bool false:=rfl
theorem Qdm{z:Int}:(Gg z.natAbs).length=0↔z=0:=by
 constructor
 ·intro h;have h0:=Qj h;have:=(GY (Dq z.natAbs)).2 h0;rw[Ha]at this;omega
 ·rintro rfl;rw[show(0:Int).natAbs=0 from rfl,Hd];rfl
theorem Hm{α β:Type}{f:α->β}{l:List α}{i:Nat}{x:α}(h:l[i]? = some x):(l.map f)[i]? = some (f x):=by rw[Zb,h];rfl
theorem Qtc{α:Type}{f:α->Uv}{sz:Nat}(l:List α)(h:∀x,(f x).length=sz):∀c∈l.map f,c.length=sz:=λc hc=>by
 obtain⟨x,_,rfl⟩:=Q6.1 hc;exact h x
theorem Qp3:mg 0=.row []:=by simp[mg,Hd,lm]
theorem Lo:Hg 0=[LV.bool false,LV.row []]:=by simp[Hg,Qrf,Qp3]
end Orr
namespace Orr
open Go Go.Proofs Tryz
set_option maxRecDepth 10000
theorem NU{p:Uq}(hs:∀z∈p,Fg z≤4294967295):sz (Tg p)≤4294967295:=by
 have key:∀(p:Uq) (g:Nat),sz g≤4294967295->(∀z∈p,Fg z≤4294967295)->sz (p.foldl (λg z=>Nat.gcd g z.natAbs) g)≤4294967295:=by
  intro p
  induction p with
  |nil=>exact λg h _=>h
  |
   cons z p ih =>
   intro g h hs;refine ih _ ?_ λy hy=>hs y (.tail _ hy)
   rcases Q4 g with h0|h0
   ·subst h0;show sz (Nat.gcd 0 z.natAbs)<=_;rw[Nat.gcd_zero_left];exact hs z (.head _)
   ·exact Qa (Rl (Nat.gcd_le_left _ h0)) h
 exact key p 0 (by decide) hs
theorem Qfr{l:Uw}{p:Uq}(hi:IsInts l p)(hs:∀z∈p,Fg z≤4294967295):Un 138 [.one (.row l)] [.agg (Hg ((Tg p:Nat):Int))]:=by
 refine Fz func138 rfl (ln 0 rfl rfl λhl=>?_);have hlp:=hi.len;refine Uh [.z 3,.r 3 (v:=lr (Gg (Tg (p.take 0)))) (by simp[Tg,Hd,lm])] rfl ?_;refine ct 2 (S:=Unit) (λ_=>[(2,.v (.one (.ow 0 0))),(3,.v (lr (Gg (Tg p))))]) (λ_=>[.blk 37 [.bool false,.nils],.gone]) (λ_=>True) rfl ?_ ?_
 ·refine Um (S:=Nat) 1 (λL1 i=>(12,.v (.oi i))::(3,.v (lr (Gg (Tg (p.take i)))))::L1) (λ_=>[.blk 37 [.bool false,.nils]]) (λi=>p.length-i) (λi=>i<=p.length) 0 (Qh _) rfl rfl λi hip=>?_
  by_cases h:i<p.length
  ·have hlt:i<l.length:=by omega
   obtain⟨c,hc⟩:=gxE (l:=l) (i:=i) hlt;obtain⟨z,hz⟩:=gxE (l:=p) (i:=i) h;obtain⟨x,y,hc',b,r,rfl,rfl,hr,hzz⟩:=hi.get hz;rw[hc]at hc';injection hc' with hc';subst hc'
   have hsz:=hs z (Qc hz);have hg0:sz (Tg (p.take i))<=4294967295:=NU λy hy=>hs y (Qo hy)
   have ezr:z.natAbs=val r:=by rw[hzz,Ta]
   have cn:=KN hr (by rw[<-ezr];exact Qa hsz (by decide));rw[<-ezr]at cn;refine Uh [.t (by simp;omega),.x hc,.k cn] rfl ?_;refine Um (S:=Nat×Nat) 2 (λL1 s=>(3,.v (lr (Gg s.1)))::(6,.v (lr (Gg s.2)))::L1) (λ_=>[.blk 37 [.bool false,.nils],.blk 37 [.bool b,.row (lm r)]]) (λs=>s.2) (λs=>Nat.gcd s.1 s.2=Nat.gcd (Tg (p.take i)) z.natAbs/\sz s.1<=4294967295/\sz s.2<=4294967295) (Tg (p.take i),z.natAbs) ⟨rfl,hg0,hsz⟩ rfl rfl λ⟨g,u⟩ ⟨j1,j2,j3⟩=>?_
   dsimp only at j1 j2 j3 ⊢;have hul:=D4 (m:=u);by_cases hu:0<u
   ·have cd:=mL (m:=g) (n:=u) (by omega) (by omega) hu;refine Uh [.t (by simp[U9];omega),.k cd] rfl ?_;exact rd (u,g % u) (Z5 _ hu) ⟨(Qpr g u).trans j1,j3,Qa (Rl (Yl (Z5 _ hu))) j3⟩ rfl
   ·obtain rfl:u=0:=by omega
    rw[Nat.gcd_zero_right,<-Qde hz]at j1;subst j1;by_cases h1:Tg (p.take (i+1))=1
    ·have e1:Gg (Tg (p.take (i+1)))=[1]:=by rw[h1,E6 (by decide)];simp[Hd]
     refine Uh [.f (by simp[Hd,lm]),.t (by rw[e1];rfl),.x (G6 (i:=0) (x:=1) (by rw[e1];rfl)),.t rfl] rfl ?_;exact rc () trivial (by rw[h1,Qiy h1];rfl)
    ·obtain⟨g,hg⟩:=nmE (Tg (p.take (i+1)));rw[<-hg]at h1 j2 ⊢;by_cases h2:(Gg g).length=1
     ·obtain⟨v,hv⟩:∃v,Gg g=[v]:=by
       match hm:Gg g,h2 with
       | [v],_=>exact⟨v,rfl⟩
      have hv1:v≠1:=λe=>h1 (by rw[<-Ha g,hv,e];rfl)
      refine go tt [.f (by simp[Hd,lm]),.t (by simp[U9,h2]),.x (G6 (i:=0) (x:=v) (by rw[hv];rfl)),.f (by simp;omega)] rfl (by simp[U5] <;> omega) ?_;exact rd (i+1) (by omega) h (by rw[<-hg];rfl)
     ·refine go tt [.f (by simp[Hd,lm]),.f (by simp[U9];omega),.f rfl] rfl (by simp[U5] <;> omega) ?_;exact rd (i+1) (by omega) h (by rw[<-hg];rfl)
  ·obtain rfl:i=p.length:=by omega
   refine Uh [.f (by simp;omega)] rfl ?_;rw[Q7];exact rc () trivial rfl
 ·intro _ _;have cn:=KN (Lv (Tg p)) (by rw[Ha];exact Qa (NU hs) (by decide));rw[Ha]at cn;exact Uj [.k cn,.k (P9 false _)] rfl (by simp[Fc]) trivial
end Orr
namespace Orr
def Bd(s:Nat)(p:Uq):Prop:=∀z∈p,Fg z≤s
theorem Nl:Fg 0=0:=rfl
theorem Qfd{s:Nat}{p:Uq}(h:Bd s p){i:Nat}{z:Int}(hz:p[i]? = some z):Fg z<=s:=h z (Qc hz)
theorem Fw{s:Nat}{p:Uq}(h:Bd s p)(k:Nat):Fg (p.getD k 0)<=s:=by
 rw[Qi];cases hk:p[k]? with
 |none=>rw[K0,Nl];exact Qh _
 |some z=>exact Qfd h hk
theorem U7{s t:Nat}{p:Uq}(h:Bd s p)(ht:s<=t):Bd t p:=λz hz=>Qa (h z hz) ht
theorem KR{s:Nat}:Bd s []:=λz hz=>by cases hz
theorem Qt4{s:Nat}{n:Nat}{g:Nat->Int}(h:∀k,k<n->Fg (g k)<=s):Bd s ((List.range n).map g):=λz hz=>by
 obtain⟨k,hk,rfl⟩:=Q6.1 hz;exact h k (Kl.1 hk)
theorem pY:∀(l:Uq),∀z∈trim l,z∈l
 | [],z,h=>by cases h
 |
  x::l,z,h=>by
  have ih:=pY l;cases hl:trim l with
  |
   nil =>
   simp only[trim,hl]at h
   split at h
   ·cases h
   ·rw[Ql]at h;rw[h];exact Qy ..
  |
   cons y k =>
   simp only[trim,hl]at h;rcases Qm.1 h with rfl|h
   ·exact Qy ..
   ·exact Qg _ (ih z (by rw[hl];exact h))
theorem Re(l:Uq):(trim l).length<=l.length:=by
 induction l with
 |nil=>exact Qk _
 |
  cons x l ih =>
  cases hl:trim l with
  |nil=>simp only[trim,hl];split <;> simp
  |cons y k=>simp only[trim,hl];rw[hl]at ih;simp at ih ⊢;exact ih
theorem Tz{s:Nat}{p:Uq}(h:Bd s p):Bd s (trim p):=λz hz=>h z (pY p z hz)
theorem VT:∀(l:Uq) (k:Nat),(trim l).getD k 0=l.getD k 0
 | [],k=>rfl
 |
  x::l,k=>by
  have ih:=VT l;cases hl:trim l with
  |
   nil =>
   rw[hl]at ih;simp only[trim,hl]
   split
   ·rename_i hx;cases k with
    |zero=>simp[hx]
    |succ k=>have:=ih k;simp at this ⊢;exact this
   ·cases k with
    |zero=>simp
    |succ k=>have:=ih k;simp at this ⊢;exact this
  |
   cons y m =>
   rw[hl]at ih;simp only[trim,hl];cases k with
   |zero=>simp
   |succ k=>have:=ih k;simp at this ⊢;exact this
def A6(n:Nat)(g:Nat->Int):Uq:=trim ((List.range n).map g)
theorem Fy(n:Nat)(g:Nat->Int):Fe (A6 n g):=Rv _
theorem Od(n:Nat)(g:Nat->Int):(A6 n g).length<=n:=Qa (Re _) (by simp)
theorem Pi(n:Nat)(g:Nat->Int)(k:Nat):(A6 n g).getD k 0=if k<n then g k else 0:=by
 unfold A6;rw[VT,Qi,Zb]
 split
 ·rename_i h;rw[List.getElem?_range h];rfl
 ·rename_i h;rw[List.getElem?_eq_none (by simpa using h)];rfl
theorem YJ{s n:Nat}{g:Nat->Int}(h:∀k,k<n->Fg (g k)<=s):Bd s (A6 n g):=Tz (Qt4 h)
def A7(p q:Uq):Uq:=A6 (max p.length q.length) λk=>p.getD k 0+q.getD k 0
def Ni(p q:Uq):Uq:=A6 (max p.length q.length) λk=>p.getD k 0-q.getD k 0
def Mq(p:Uq):Uq:=A6 p.length λk=>-(p.getD k 0)
def Fv(p:Uq)(c:Int):Uq:=A6 p.length λk=>p.getD k 0*c
def Gv(p:Uq):Uq:=A6 (p.length-1) λk=>p.getD (k+1) 0*((k+1:Nat):Int)
theorem YY{s t:Nat}{p q:Uq}(h:Bd s p)(h':Bd t q):Bd (max s t+1) (A7 p q):=YJ λk _=>Qa (QE _ _) (by have:=Fw h k;have:=Fw h' k;omega)
theorem Dw{s t:Nat}{p q:Uq}(h:Bd s p)(h':Bd t q):Bd (max s t+1) (Ni p q):=YJ λk _=>Qa (yN _ _) (by have:=Fw h k;have:=Fw h' k;omega)
theorem MB{s:Nat}{p:Uq}(h:Bd s p):Bd s (Mq p):=YJ λk _=>by rw[Hp];exact Fw h k
theorem Gj{s t:Nat}{p:Uq}{c:Int}(h:Bd s p)(hc:Fg c<=t):Bd (s+t) (Fv p c):=YJ λk _=>Qa (Gf _ _) (by have:=Fw h k;omega)
theorem Lj(p q:Uq):(A7 p q).length<=max p.length q.length:=Od _ _
theorem Pm(p q:Uq):(Ni p q).length<=max p.length q.length:=Od _ _
theorem Oj(p:Uq):(Mq p).length<=p.length:=Od _ _
theorem Fp(p:Uq)(c:Int):(Fv p c).length<=p.length:=Od _ _
theorem Mn(p:Uq):(Gv p).length<=p.length-1:=Od _ _
theorem yM{k t:Nat}(h:k<2^t):Fg (k:Int)<=t:=by rw[S6];simpa using h
theorem Qdj{k:Nat}(h:k<274877906944):Fg (k:Int)<=4294967295:=Qa (yM (t:=38) (Kj h (by decide))) (by omega)
theorem jV{s t:Nat}{p:Uq}(h:Bd s p)(hl:p.length<=2^t):Bd (s+t) (Gv p):=YJ λk hk=>Qa (Gf _ _) (by
 have:=Fw h (k+1);have:=yM (k:=k+1) (t:=t) (by omega);omega)
def Oo(x:Int)(b:Uq)(i:Nat)(o:Uq):Nat->Uq
 | 0=>o
 |k+1=>(Oo x b i o k).set (i+k) ((Oo x b i o k).getD (i+k) 0+x*b.getD k 0)
def Au(a b o:Uq):Nat->Uq
 | 0=>o
 |i+1=>Oo (a.getD i 0) b i (Au a b o i) b.length
def Gl(a b:Uq):Uq:=if a.length=0\/b.length=0 then []else trim (Au a b (List.replicate (a.length+b.length-1) 0) a.length)
theorem Oq(x:Int)(b:Uq)(i:Nat)(o:Uq)(k:Nat):(Oo x b i o k).length=o.length:=by
 induction k with
 |zero=>rfl
 |succ k ih=>simp[Oo,ih]
theorem Lm(a b o:Uq)(i:Nat):(Au a b o i).length=o.length:=by
 induction i with
 |zero=>rfl
 |succ i ih=>simp[Au,Oq,ih]
theorem Qi5(l:Uq)(i m:Nat)(v:Int)(h:i<l.length):(l.set i v).getD m 0=if m=i then v else l.getD m 0:=by
 rw[Qi,Yo,Qi];by_cases e:i=m
 ·subst e;simp[h]
 ·rw[if_neg e,if_neg (λh=>e h.symm)]
theorem Qdr(x:Int)(b:Uq)(i:Nat)(o:Uq)(k m:Nat)(h:i+k<=o.length):(Oo x b i o k).getD m 0=if i<=m/\m<i+k then o.getD m 0+x*b.getD (m-i) 0 else o.getD m 0:=by
 induction k with
 |zero=>simp only[Oo];rw[if_neg (by omega)]
 |
  succ k ih =>
  have ih:=ih (by omega);simp only[Oo];rw[Qi5 _ _ _ _ (by rw[Oq];omega)];by_cases e:m=i+k
  ·subst e;rw[if_pos rfl,if_pos (by omega),show i+k-i=k from by omega];rw[ih,if_neg (by omega)]
  ·rw[if_neg e,ih];by_cases h1:i<=m/\m<i+k
   ·rw[if_pos h1,if_pos (by omega)]
   ·rw[if_neg h1,if_neg (by omega)]
theorem Nm{x y:Int}{s t:Nat}(hx:Fg x<=s)(hy:Fg y<=t):(x*y).natAbs<=2^(s+t):=by
 have h:=Qa (Gf x y) (show _<=s+t by omega);rw[S6]at h;omega
theorem vX{x:Int}{b:Uq}{i:Nat}{o:Uq}{k M:Nat}(h:i+k<=o.length)(ho:∀m,(o.getD m 0).natAbs<=i*M)(hx:∀j,(x*b.getD j 0).natAbs<=M)(m:Nat):((Oo x b i o k).getD m 0).natAbs<=(i+1)*M:=by
 rw[Qdr x b i o k m h,Xc];have h1:=ho m
 split
 ·have h2:=hx (m-i);generalize i*M=q at *;omega
 ·omega
theorem vZ{a b o:Uq}{i M:Nat}(h:∀j,j<i->j+b.length<=o.length)(ho:∀m,o.getD m 0=0)(hx:∀i j,(a.getD i 0*b.getD j 0).natAbs<=M)(m:Nat):((Au a b o i).getD m 0).natAbs<=i*M:=by
 induction i generalizing m with
 |zero=>simp only[Au];rw[ho];simp
 |
  succ i ih =>
  simp only[Au];exact vX (by rw[Lm];exact h i (by omega)) (ih λj hj=>h j (by omega)) (hx i) m
theorem Iz{z:Int}{i s t:Nat}(h:z.natAbs<=i*2^s)(hi:i<2^t):Fg z<=s+t:=by
 rw[S6];have h1:i*2^s<2^t*2^s:=Xq hi (Z1 (by decide));rw[<-Xh,Jv t s]at h1;omega
theorem Cj(n m:Nat):(List.replicate n (0:Int)).getD m 0=0:=by
 rw[Qi,J0];split <;> rfl
theorem BS{s:Nat}{p:Uq}(h:∀m,Fg (p.getD m 0)<=s):Bd s p:=λz hz=>by
 obtain⟨i,hi⟩:=Zm.1 hz;have:=h i;rw[Qi,hi]at this;exact this
theorem H9(a b:Uq):(Gl a b).length<=a.length+b.length-1:=by
 unfold Gl
 split
 ·simp
 ·refine Qa (Re _) ?_;rw[Lm];simp
theorem Pp{s t u:Nat}{a b:Uq}(ha:Bd s a)(hb:Bd t b)(hl:a.length<2^u):Bd (s+t+u) (Gl a b):=by
 unfold Gl
 split
 ·exact KR
 ·refine Tz (BS λm=>?_);exact Iz (vZ (M:=2^(s+t)) (λj hj=>by simp;omega) (Cj _) (λi j=>Nm (Fw ha i) (Fw hb j)) m) hl
theorem H6(a b:Uq):Fe (Gl a b):=by
 unfold Gl
 split
 ·rfl
 ·exact Rv _
def Ef(a:Uq)(n d:Int):Nat->Int×Int
 | 0=>(0,1)
 |k+1=>((Ef a n d k).1*n+a.getD (a.length-1-k) 0*(Ef a n d k).2,(Ef a n d k).2*d)
def Qw0(a:Uq)(n d:Int):Int:=(Ef a n d a.length).1
theorem Qbm{a:Uq}{n d:Int}{s t k:Nat}(ha:Bd s a)(hn:Fg n<=t)(hd:Fg d<=t):Fg (Ef a n d k).1<=s+2+k*(t+1)/\Fg (Ef a n d k).2<=1+k*t:=by
 induction k with
 |zero=>exact⟨by simp[Ef,Nl],by simp[Ef];decide⟩
 |
  succ k ih =>
  obtain⟨h1,h2⟩:=ih;have h3:=Fw ha (a.length-1-k);have e1:k*(t+1)=k*t+k:=by rw[Xk,Ye]
  rw[Xc,Xc];refine⟨?_,?_⟩
  ·simp only[Ef];refine Qa (QE _ _) ?_;have h4:=Gf (Ef a n d k).1 n;have h5:=Gf (a.getD (a.length-1-k) 0) (Ef a n d k).2;generalize k*t=q at *;rw[e1]at h1 ⊢;omega
  ·simp only[Ef];have h4:=Gf (Ef a n d k).2 d;generalize k*t=q at *;omega
end Orr
namespace Orr
theorem jC{x y:Int}:Ld x y=0↔x=y:=by
 unfold Ld;constructor
 ·intro h
  split at h
  ·omega
  ·split at h <;> omega
 ·rintro rfl;simp
theorem Rf{p:Uq}(h:Fe p)(h0:0<p.length):p.getD (p.length-1) 0≠0:=by
 induction p with
 |nil=>simp at h0
 |
  cons x l ih =>
  unfold Fe at h;cases hl:trim l with
  |
   nil =>
   simp only[trim,hl]at h
   split at h
   ·cases h
   ·rename_i hx;injection h with h1 h2;subst h2;simpa using hx
  |
   cons y k =>
   simp only[trim,hl]at h;injection h with h1 h2;rw[<-hl]at h2;have ih:=ih h2 (by rw[<-h2,hl];simp);have h3:0<l.length:=by rw[<-h2,hl];simp
   simp only[Q3,Yc];obtain⟨m,hm⟩:∃m,l.length=m+1:=⟨l.length-1,by omega⟩;rw[hm]at ih ⊢;simpa using ih
end Orr
namespace Orr
theorem rG(p:Uq):(List.range p.length).map (λk=>p.getD k 0)=p:=by
 apply Xo;intro i;rw[Zb];rcases Zd i p.length with h|h
 ·rw[X7 h];simp[Qe h]
 ·rw[Qw (by simpa using h),Qw h];rfl
theorem DI{p q:Uq}(hl:p.length=q.length)(h:∀j,j<p.length->p.getD j 0=q.getD j 0):p=q:=by
 rw[<-rG p,<-rG q,<-hl];exact Xu λj hj=>h j (Kl.1 hj)
end Orr
namespace Orr
abbrev rl(q:Rat):Uv:=[sg q.num,mg q.num,sg (q.den:Int),mg (q.den:Int)]
theorem Lh(n d:Int):Tg [n,d]=Int.gcd d n:=by
 unfold Tg;simp only[Z7,List.foldl_nil,Nat.gcd_zero_left];exact Nat.gcd_comm _ _
theorem gV{n d:Int}(hd:d≠0):(0:Int)<((Tg [n,d]:Nat):Int):=by
 rw[Lh];have:=Int.gcd_pos_of_ne_zero_left n hd;omega
theorem LH(n d:Int):n % ((Tg [n,d]:Nat):Int)=0:=by
 rw[Lh];exact Jy (Wx ..)
theorem LR(n d:Int):d % ((Tg [n,d]:Nat):Int)=0:=by
 rw[Lh];exact Jy (Int.gcd_dvd_left ..)
theorem Qac{n g:Int}(h:n % g=0):-n % g=0:=by
 exact Jy (Int.dvd_neg.2 (Vg h))
theorem oZ{n d:Int}{s:Nat}(hd:d≠0)(h:Fg d<=s):Fg ((Tg [n,d]:Nat):Int)<=s:=by
 rw[Lh];refine Qa (Rl ?_) h;have:=Ky (by omega:0<d.natAbs) (show Int.gcd d n∣d.natAbs from W6 _ _);simpa using this
theorem oN{n d:Int}(hd:0<d):n / ((Tg [n,d]:Nat):Int)=(Rat.divInt n d).num/\d / ((Tg [n,d]:Nat):Int)=((Rat.divInt n d).den:Int):=by
 rw[Lh,Rat.num_divInt,Wp,if_neg (by omega),Yv hd,Ks];refine⟨rfl,?_⟩;rw[Int.natCast_ediv,Int.natAbs_of_nonneg (by omega)]
theorem Qp2{n d:Int}(hd:d<0):-n / ((Tg [n,d]:Nat):Int)=(Rat.divInt n d).num/\-d / ((Tg [n,d]:Nat):Int)=((Rat.divInt n d).den:Int):=by
 rw[Lh,Rat.num_divInt,Wp,if_neg (by omega),J8 hd,Kr,Ks];refine⟨rfl,?_⟩;rw[Int.natCast_ediv,Int.ofNat_natAbs_of_nonpos (by omega)]
theorem XN(u g:Int):Fg (u / g)<=Fg u:=by
 unfold Fg;exact Rl (Int.natAbs_ediv_le_natAbs u g)
theorem Pk{n d:Int}{s:Nat}(h:Fg n<=s):Fg (Rat.divInt n d).num<=s:=by
 rw[Rat.num_divInt];refine Qa (XN _ _) ?_;unfold Fg;rw[Ya];refine Qa (Rl ?_) h;have:d.sign.natAbs<=1:=by rcases A1 d with⟨_,e⟩|⟨_,e⟩|⟨_,e⟩ <;> rw[e] <;> decide
 calc d.sign.natAbs*n.natAbs<=1*n.natAbs:=Q0 _ this
  _=n.natAbs:=Ku _
theorem Pj{n d:Int}{s:Nat}(h:Fg d<=s)(h1:1<=s):Fg ((Rat.divInt n d).den:Int)<=s:=by
 rw[Wp]
 split
 ·exact h1
 ·refine Qa (Rl ?_) h;exact Jr _ _
def Qs(s:Nat)(q:Rat):Prop:=Fg q.num<=s/\Fg (q.den:Int)<=s
theorem Qs.mono{s t:Nat}{q:Rat}(h:Qs s q)(ht:s<=t):Qs t q:=⟨Qa h.1 ht,Qa h.2 ht⟩
theorem Qs.divInt{s:Nat}{n d:Int}(h:Fg n<=s)(h':Fg d<=s)(h1:1<=s):Qs s (Rat.divInt n d):=⟨Pk h,Pj h' h1⟩
theorem Dn(q:Rat):(q.den:Int)≠0:=by have:=q.den_nz;omega
theorem den_pos(q:Rat):(0:Int)<(q.den:Int):=by have:=q.den_nz;omega
def Gn(n d:Int):Rat:=Rat.divInt n (if d=0 then 1 else d)
theorem Sx(q:Rat):Gn q.num q.den=q:=by
 unfold Gn;rw[if_neg (Dn q)];exact Z6 q
def Hk(a b:Rat):Int:=Ld (a.num*(b.den:Int)) (b.num*(a.den:Int))
theorem Nx{a b:Rat}:Hk a b<0↔a<b:=by
 rw[Rat.lt_iff];unfold Hk Ld;constructor
 ·intro h;split at h
  ·assumption
  ·split at h <;> omega
 ·intro h;rw[if_pos h];decide
theorem En{a b:Rat}:0<Hk a b↔b<a:=by
 rw[Rat.lt_iff];unfold Hk Ld;constructor
 ·intro h;split at h
  ·omega
  ·split at h
   ·assumption
   ·omega
 ·intro h;rw[if_neg (by omega),if_pos h];decide
theorem Ez(a:Rat):Hk a a=0:=by unfold Hk Ld;simp
structure Crv where
 x:List Int
 y:List Int
 d:Int
abbrev cl(k:Crv):Uv:=[pl k.x,pl k.y,sg k.d,mg k.d]
def Crv.d'(k:Crv):Int:=if k.d=0 then 1 else k.d
def Crv.g(k:Crv):Int:=if k.d'<0 then -((Tg (k.d'::(trim k.x++trim k.y)):Nat):Int)else(Tg (k.d'::(trim k.x++trim k.y)):Nat)
def Crv.norm(k:Crv):Crv:=⟨trim ((trim k.x).map (· / k.g)),trim ((trim k.y).map (· / k.g)),k.d' / k.g⟩
theorem XG{l:Uq}:∀z∈l,((Tg l:Nat):Int)∣z:=by
 have key:∀(l:Uq) (g:Nat),(l.foldl (λg z=>Nat.gcd g z.natAbs) g∣g)/\∀z∈l,l.foldl (λg z=>Nat.gcd g z.natAbs) g∣z.natAbs:=by
  intro l
  induction l with
  |nil=>intro g;exact⟨Nat.dvd_refl _,by simp⟩
  |
   cons u l ih =>
   intro g;obtain⟨h1,h2⟩:=ih (Nat.gcd g u.natAbs);refine⟨Nat.dvd_trans h1 (W6 _ _),λz hz=>?_⟩;rcases Qm.1 hz with rfl|hz
   ·exact Nat.dvd_trans h1 (Nat.gcd_dvd_right _ _)
   ·exact h2 z hz
 intro z hz;have:=(key l 0).2 z hz;exact Ws.2 this
theorem Crv.d'_ne(k:Crv):k.d'≠0:=by unfold Crv.d';split <;> omega
theorem Crv.gcd_ne(k:Crv):Tg (k.d'::(trim k.x++trim k.y))≠0:=by
 intro e;have h:=XG (l:=k.d'::(trim k.x++trim k.y)) k.d' (Qy ..);rw[e]at h;exact k.d'_ne (by simpa using h)
theorem Crv.g_ne(k:Crv):k.g≠0:=by
 have h0:=k.gcd_ne;unfold Crv.g
 split <;> omega
theorem Crv.g_dvd(k:Crv):∀z∈k.d'::(trim k.x++trim k.y),z % k.g=0:=by
 intro z hz;have h:=XG z hz;refine Jy ?_;unfold Crv.g
 split
 ·exact Ug.2 h
 ·exact h
theorem Crv.isz_g(k:Crv){s:Nat}(h:Fg k.d'<=s):Fg k.g<=s:=by
 have hd:=XG (l:=k.d'::(trim k.x++trim k.y)) k.d' (Qy ..);have hle:Tg (k.d'::(trim k.x++trim k.y))<=k.d'.natAbs:=Ky (by have:=k.d'_ne;omega) (Ws.1 hd);refine Qa (Rl ?_) h;unfold Crv.g
 split <;> simp <;> exact hle
structure Cs(s n:Nat)(k:Crv):Prop where
 x:Bd s k.x
 y:Bd s k.y
 d:Fg k.d<=s
 lx:k.x.length<=n
 ly:k.y.length<=n
theorem Qjj{k:Crv}{s:Nat}(h:Fg k.d<=s)(h1:1<=s):Fg k.d'<=s:=by unfold Crv.d';split <;> first|exact h1|exact h
theorem RX{s:Nat}{p:Uq}(h:Bd s p)(g:Int):Bd s (p.map (· / g)):=λz hz=>by
 obtain⟨u,hu,rfl⟩:=Q6.1 hz;exact Qa (XN u g) (h u hu)
theorem Cs.norm{s n:Nat}{k:Crv}(h:Cs s n k)(h1:1<=s):Cs s n k.norm:=by
 refine⟨Tz (RX (Tz h.x) _),Tz (RX (Tz h.y) _),Qa (XN _ _) (Qjj h.d h1),?_,?_⟩
 ·refine Qa (Re _) ?_;rw[Za];exact Qa (Re _) h.lx
 ·refine Qa (Re _) ?_;rw[Za];exact Qa (Re _) h.ly
theorem Cs.mono{s n t m:Nat}{k:Crv}(h:Cs s n k)(hs:s<=t)(hn:n<=m):Cs t m k:=⟨U7 h.x hs,U7 h.y hs,Qa h.d hs,Qa h.lx hn,Qa h.ly hn⟩
def YZ(k:Crv):Prop:=Fe k.x/\Fe k.y/\0<k.d/\Tg (k.d::(k.x++k.y))=1
theorem Crv.norm_of{k:Crv}(h:YZ k):k.norm=k:=by
 obtain⟨h1,h2,h3,h4⟩:=h;have hd:k.d'=k.d:=by unfold Crv.d';rw[if_neg (by omega)]
 have hx:trim k.x=k.x:=h1;have hy:trim k.y=k.y:=h2;have hg:k.g=1:=by unfold Crv.g;rw[hd,hx,hy,h4,if_neg (by omega)];rfl
 unfold Crv.norm;rw[hg,hd,hx,hy];simp[hx,hy]
theorem yG{l:Uq}{g:Int}(hg:g≠0)(hga:g.natAbs=Tg l):Tg (l.map (· / g))=1:=by
 have key:∀(l:Uq) (a:Nat),(∀z∈l,g∣z)->l.foldl (λa z=>Nat.gcd a z.natAbs) (a*g.natAbs)=((l.map (· / g)).foldl (λa z=>Nat.gcd a z.natAbs) a)*g.natAbs:=by
  intro l
  induction l with
  |nil=>intro a _;rfl
  |
   cons z l ih =>
   intro a h;simp only[Zz,Z7];have hz:z.natAbs=(z / g).natAbs*g.natAbs:=by
    obtain⟨q,rfl⟩:=h z (Qy ..);rw[Jf _ hg,Ya,Zr]
   rw[hz,Nat.gcd_mul_right];exact ih _ λu hu=>h u (Qg _ hu)
 have h:=key l 0 λz hz=>X8.1 (by rw[hga];exact X8.2 (XG z hz))
 rw[Ym]at h;have h':Tg l=Tg (l.map (· / g))*g.natAbs:=h;rw[<-hga]at h';have hp:0<g.natAbs:=by omega
 exact Nat.eq_of_mul_eq_mul_right hp (by rw[Ku];exact h'.symm)
theorem JE{l:Uq}{g:Int}(ht:Fe l)(hg:g≠0)(hd:∀z∈l,g∣z):Fe (l.map (· / g)):=by
 induction l with
 |nil=>rfl
 |
  cons x l ih =>
  have hne:∀z∈x::l,z≠0->z / g≠0:=λz hz h0 h1=>by
   obtain⟨q,rfl⟩:=hd z hz;rw[Jf _ hg]at h1;rw[h1]at h0;simp at h0
  unfold Fe at ht ih ⊢;cases hl:trim l with
  |
   nil =>
   simp only[trim,hl]at ht
   split at ht
   ·cases ht
   ·rename_i hx;injection ht with _ h2;subst h2;simp[trim,hne x (Qy ..) hx]
  |
   cons y k =>
   simp only[trim,hl]at ht;injection ht with _ h2;have hll:trim l=l:=by rw[hl];exact h2
   have ih:=ih hll λz hz=>hd z (Qg _ hz)
   rw[Zz];have hne2:l.map (· / g)≠[]:=by rw[<-hll,hl];simp
   cases hm:l.map (· / g)with
   |nil=>exact absurd hm hne2
   |
    cons u w =>
    rw[hm]at ih;have e:trim (x / g::u::w)=match trim (u::w)with| []=>if x / g=0 then []else [x / g]|y::k=>x / g::y::k:=rfl
    rw[e,ih]
theorem Crv.nml(k:Crv):YZ k.norm:=by
 have hg:=k.g_ne;have hdv:∀z∈k.d'::(trim k.x++trim k.y),k.g∣z:=λz hz=>Vg (k.g_dvd z hz)
 have hx:=JE (g:=k.g) (Rv k.x) hg λz hz=>hdv z (by simp[hz])
 have hy:=JE (g:=k.g) (Rv k.y) hg λz hz=>hdv z (by simp[hz])
 refine⟨Rv _,Rv _,?_,?_⟩
 ·show 0<k.d' / k.g;obtain⟨q,hq⟩:=hdv k.d' (Qy ..);have h0:=k.d'_ne;have hgc:=k.gcd_ne;have e:k.d' / k.g=q:=by rw[hq,Jf _ hg]
  rw[e];unfold Crv.g at hq hg;have hq0:q≠0:=λe=>by rw[e,Wd]at hq;exact h0 hq
  split at hq
  ·rename_i hneg;rcases Wq hq0 with h|h
   ·have:=Kb (a:=-((Tg (k.d'::(trim k.x++trim k.y)):Nat):Int)) (b:=q) (by omega) h;omega
   ·exact h
  ·rename_i hneg;rcases Wq hq0 with h|h
   ·have:=Ka (a:=((Tg (k.d'::(trim k.x++trim k.y)):Nat):Int)) (b:=q) (by omega) h;omega
   ·exact h
 ·show Tg (k.d' / k.g::(trim ((trim k.x).map (· / k.g))++trim ((trim k.y).map (· / k.g))))=1;rw[show trim ((trim k.x).map (· / k.g))=(trim k.x).map (· / k.g) from hx,show trim ((trim k.y).map (· / k.g))=(trim k.y).map (· / k.g) from hy,<-Yi,<-Zz (f:=(· / k.g))];refine yG hg ?_;unfold Crv.g
  split <;> omega
structure Pt where
 c:Crv
 id:Int
def Ff(p:Pt):Uv:=[pl p.c.x,pl p.c.y,sg p.c.d,mg p.c.d,.int .i64 p.id]
def pts(l:List Pt):LV:=.row (l.map Ff)
def Tc:List Pt->Int->Nat
 | [],_=>0
 |p::l,id=>if p.id<id then Tc l id+1 else 0
def has(l:List Pt)(id:Int):Bool:=match l[Tc l id]? with
 |some p=>decide (p.id=id)
 |none=>false
theorem vL(l:List Pt)(id:Int):Tc l id<=l.length:=by
 induction l with
 |nil=>exact Qk _
 |cons p l ih=>simp only[Tc];split <;> simp <;> omega
theorem EA:∀{l:List Pt} {id:Int} {k:Nat},(∀j p,j<k->l[j]? = some p->p.id<id)->(k=l.length\/∃p,l[k]? = some p/\¬p.id<id)->Tc l id=k
 |
  [],id,k,_,h=>by
  rcases h with h|⟨p,h,_⟩
  ·subst h;rfl
  ·simp at h
 |
  q::l,id,0,_,h=>by
  rcases h with h|⟨p,h,h2⟩
  ·simp at h
  ·simp at h;subst h;simp[Tc,h2]
 |
  q::l,id,k+1,h1,h=>by
  have hq:=h1 0 q (by omega) rfl;simp only[Tc,hq,if_true];rw[EA (k:=k) (λj p hj hp=>h1 (j+1) p (by omega) (by simpa using hp))];rcases h with h|⟨p,h,h2⟩
  ·left;simpa using h
  ·right;exact⟨p,by simpa using h,h2⟩
def put(l:List Pt)(q:Pt):List Pt:=l.take (Tc l q.id)++q::l.drop (Tc l q.id)
def WL(l:List Pt)(q:Pt):Int:=if has l q.id=true then 6 else if 6<=l.length then 9 else 0
def Qtx(s n:Nat)(p:Pt):Prop:=YZ p.c/\Cs s n p.c
theorem Qay(l:List Pt)(q:Pt):(put l q).length=l.length+1:=by
 have:=vL l q.id;simp[put];omega
theorem NC{l:List Pt}{q p:Pt}(h:p∈put l q):p=q\/p∈l:=by
 unfold put at h;rcases Qq.1 h with h|h
 ·exact .inr (Qo h)
 ·rcases Qm.1 h with h|h
  ·exact .inl h
  ·exact .inr (Qz h)
def Ih(a b:Crv):Bool:=decide (a.x=b.x/\a.y=b.y/\a.d=b.d)
def B8(out:List Pt)(p:Pt):List Pt:=if out.any (λq=>Ih p.c q.c)=true then out else out++[p]
def Rw(l:List Pt):List Pt:=l.foldl B8 []
theorem Qep{out:List Pt}{p q:Pt}(h:q∈B8 out p):q∈out\/q=p:=by
 unfold B8 at h
 split at h
 ·exact .inl h
 ·rcases Qq.1 h with h|h
  ·exact .inl h
  ·exact .inr (by simpa using h)
theorem Qeo(out:List Pt)(p:Pt):(B8 out p).length<=out.length+1:=by
 unfold B8;split <;> simp
theorem Sj{α β:Type}(f:β->α->β)(b:β)(l:List α){i:Nat}{x:α}(h:l[i]? = some x):(l.take (i+1)).foldl f b=f ((l.take i).foldl f b) x:=by
 rw[Y7,h];simp[Vr]
theorem KH(l:List Pt)(i:Nat):∀q∈(l.take i).foldl B8 [],q∈l:=by
 induction i with
 |zero=>simp
 |
  succ i ih =>
  intro q hq;cases hi:l[i]? with
  |
   none =>
   rw[Qn (by have:=Xz.1 hi;omega)]at hq;rw[Qn (Xz.1 hi)]at ih;exact ih q hq
  |
   some x =>
   rw[Sj _ _ _ hi]at hq;rcases Qep hq with h|h
   ·exact ih q h
   ·subst h;exact Qc hi
theorem KG(l:List Pt)(i:Nat):((l.take i).foldl B8 []).length<=i:=by
 induction i with
 |zero=>simp
 |
  succ i ih =>
  cases hi:l[i]? with
  |
   none =>
   rw[Qn (by have:=Xz.1 hi;omega)];rw[Qn (Xz.1 hi)]at ih;omega
  |
   some x =>
   rw[Sj _ _ _ hi];have:=Qeo ((l.take i).foldl B8 []) x;omega
theorem My{l:List Pt}{q:Pt}(h:q∈Rw l):q∈l:=by
 have:=KH l l.length q;rw[Q7]at this;exact this h
theorem A4(l:List Pt):(Rw l).length<=l.length:=by
 have:=KG l l.length;rwa[Q7]at this
def Ri(p:Uq)(q:Rat):Int:=Ld (Qw0 p q.num q.den) 0
abbrev qa(q:Rat):Uv:=pl [-q.num,(q.den:Int)]::(rl q++rl q)
def Tx(sgn:Uq->Int):Nat->Uq->Int
 | 0,_=>0
 |k+1,p=>if p.length=0 then 0 else if sgn p=0 then Tx sgn k (Gv p)else sgn p
theorem XT(sgn:Uq->Int):∀(k:Nat) (p:Uq),p.length<=k->Tx sgn k p=Tx sgn p.length p
 |
  0,p,h=>by
  have:p.length=0:=by omega
  rw[this]
 |
  k+1,p,h=>by
  cases hp:p.length with
  |zero=>simp[Tx,hp]
  |
   succ m =>
   simp only[Tx];have h1:=Mn p;rw[XT sgn k (Gv p) (by omega),XT sgn m (Gv p) (by omega)]
theorem gG(sgn:Uq->Int){p:Uq}(h:p.length=0):Tx sgn p.length p=0:=by rw[h];rfl
theorem gW(sgn:Uq->Int){p:Uq}(h:0<p.length)(hs:sgn p≠0):Tx sgn p.length p=sgn p:=by
 obtain⟨m,hm⟩:∃m,p.length=m+1:=⟨p.length-1,by omega⟩;rw[hm];simp only[Tx];rw[if_neg (by omega),if_neg hs]
theorem gU(sgn:Uq->Int){p:Uq}(h:0<p.length)(hs:sgn p=0):Tx sgn p.length p=Tx sgn (Gv p).length (Gv p):=by
 obtain⟨m,hm⟩:∃m,p.length=m+1:=⟨p.length-1,by omega⟩;rw[hm];simp only[Tx];rw[if_neg (by omega),if_pos hs];exact XT sgn m _ (by have:=Mn p;omega)
structure Tm where
 p:List Int
 lo:Rat
 hi:Rat
abbrev ta(t:Tm):Uv:=pl t.p::(rl t.lo++rl t.hi)
abbrev tq(q:Rat):Tm:=⟨[-q.num,(q.den:Int)],q,q⟩
def Hl(sg:Uq->Int)(p:Uq):Int:=Tx sg p.length p
structure Pb(p:List Int):Prop where
 t:Fe p
 l:p.length<=64
 b:Bd 16777216 p
abbrev Qb(q:Rat):Prop:=Qs 16777216 q
abbrev Cb(k:Crv):Prop:=Cs 1048576 16 k
def Gd(a b:Crv):Uq:=Ni (Fv b.x a.d) (Fv a.x b.d)
def Gb(a b:Crv):Uq:=Ni (Fv b.y a.d) (Fv a.y b.d)
theorem tY{a b:Crv}(ha:Cb a)(hb:Cb b):Pb (Gd a b)/\(Gd a b).length<=16/\Bd 2097153 (Gd a b):=by
 have h1:Bd 2097153 (Gd a b):=U7 (Dw (Gj hb.x ha.d) (Gj ha.x hb.d)) (by omega);have h2:(Gd a b).length<=16:=by
  refine Qa (Pm _ _) ?_;have:=Fp b.x a.d;have:=Fp a.x b.d;have:=ha.lx;have:=hb.lx;omega
 exact⟨⟨Fy _ _,by omega,U7 h1 (by omega)⟩,h2,h1⟩
theorem tX{a b:Crv}(ha:Cb a)(hb:Cb b):Pb (Gb a b)/\(Gb a b).length<=16/\Bd 2097153 (Gb a b):=by
 have h1:Bd 2097153 (Gb a b):=U7 (Dw (Gj hb.y ha.d) (Gj ha.y hb.d)) (by omega);have h2:(Gb a b).length<=16:=by
  refine Qa (Pm _ _) ?_;have:=Fp b.y a.d;have:=Fp a.y b.d;have:=ha.ly;have:=hb.ly;omega
 exact⟨⟨Fy _ _,by omega,U7 h1 (by omega)⟩,h2,h1⟩
def Ea(sg:Uq->Int)(a b:Pt):Ur->Bool
 | []=>decide (a.id<b.id)
 |p::l=>if 0<p.length then decide (0<Hl sg p)else Ea sg a b l
def Ce(sg:Uq->Int)(a b:Pt):Bool:=Ea sg a b [Gb b.c a.c,Gd b.c a.c]
def Tv(sg:Uq->Int)(a b:Pt):Bool:=Ea sg a b [Gd a.c b.c,Gb a.c b.c]
end Orr
namespace Orr
open Go
structure Ct where
 kind:Int
 i0:Int
 i1:Int
 i2:Int
 i3:Int
 p:List Int
 want:Int
abbrev L9(c:Ct):Uv:=[.int .i64 c.kind,.int .i64 c.i0,.int .i64 c.i1,.int .i64 c.i2,.int .i64 c.i3,pl c.p,.int .i64 c.want]
def Ly(p q:Uq):Uq:=if 0<p.length then p else q
def Dd:Uq->Uq->Bool
 |x::l,y::m=>if x=y then Dd l m else decide (x<y)
 |_,_=>false
def rY(a b:Ct):Bool:=Dd [a.kind,a.i0,a.i1,a.i2,a.i3] [b.kind,b.i0,b.i1,b.i2,b.i3]
def JG(out:List Ct)(c:Ct):Nat->Nat
 | 0=>0
 |
  k+1=>match out[k]? with
  |some x=>if rY c x=true then JG out c k else k+1
  |none=>k+1
theorem Qap(out:List Ct)(c:Ct):∀k,JG out c k<=k
 | 0=>Qk _
 |
  k+1=>by
  simp only[JG]
  split
  ·split
   ·exact Nat.le_succ_of_le (Qap out c k)
   ·exact Qk _
  ·exact Qk _
theorem Qqo{out:List Ct}{c x:Ct}{k:Nat}(hx:out[k]? = some x)(h:rY c x=true):JG out c (k+1)=JG out c k:=by
 simp only[JG,hx,h,if_true]
theorem Qku{out:List Ct}{c x:Ct}{k:Nat}(hx:out[k]? = some x)(h:rY c x=false):JG out c (k+1)=k+1:=by
 simp[JG,hx,h]
def WW(out:List Ct)(c:Ct):List Ct:=out.take (JG out c out.length)++c::out.drop (JG out c out.length)
theorem Qjc(out:List Ct)(c:Ct):(WW out c).length=out.length+1:=by
 have:=Qap out c out.length;simp[WW];omega
theorem Qjd{out:List Ct}{c x:Ct}(h:x∈WW out c):x=c\/x∈out:=by
 simp only[WW,Qq,Qm]at h;rcases h with h|h|h
 ·exact .inr (Qo h)
 ·exact .inl h
 ·exact .inr (Qz h)
def Ga(l:List Ct):List Ct:=l.foldl WW []
theorem dO(l:List Ct)(c:Ct):Ga (l++[c])=WW (Ga l) c:=by simp[Ga,Vr]
theorem lQ{l:List Ct}{i:Nat}{c:Ct}(h:l[i]? = some c):Ga (l.take (i+1))=WW (Ga (l.take i)) c:=by
 rw[Z3,h];exact dO _ _
theorem qG:∀(l acc:List Ct),(l.foldl WW acc).length=acc.length+l.length
 | [],acc=>by simp
 |c::l,acc=>by simp only[Z7];rw[qG l (WW acc c),Qjc];simp;omega
theorem Dv(l:List Ct):(Ga l).length=l.length:=by unfold Ga;rw[qG];simp
theorem qH:∀(l acc:List Ct) {x:Ct},x∈l.foldl WW acc->x∈l\/x∈acc
 | [],acc,x,h=>.inr h
 |
  c::l,acc,x,h=>by
  simp only[Z7]at h;rcases qH l _ h with h|h
  ·exact .inl (Qg _ h)
  ·rcases Qjd h with rfl|h
   ·exact .inl (Qy ..)
   ·exact .inr h
theorem VU{l:List Ct}{x:Ct}(h:x∈Ga l):x∈l:=by
 rcases qH l [] h with h|h
 ·exact h
 ·cases h
theorem gI{α:Type}(l:List α)(z x:α){k m':Nat}(hk:k<=l.length)(hm:m'=l.length-k) :
 ((l++[z]).take (k+1)++((l++[z]).drop k).take m'++(l++[z]).drop (k+1+m')).set k x=l.take k++x::l.drop k:=by
 subst hm;have e1:((l++[z]).drop k).take (l.length-k)=l.drop k:=by
  rw[Wj hk,Vq (by simp),Qn (by simp)]
 have e2:(l++[z]).drop (k+1+(l.length-k))=[]:=Yw (by simp;omega);rw[e1,e2,Zv];have e3:(l++[z]).take (k+1)=(l++[z]).take k++[(l++[z])[k]'(by simp;omega)]:=by rw[List.take_succ_eq_append_getElem]
 rw[e3,Vq hk,Ze,List.set_append,if_neg (by simp;omega)];simp[Zx hk]
def Av(a b:Pt):Uq:=Ly (Gd a.c b.c) (Gb a.c b.c)
def Ar(a b:Pt):Uq:=Ly (Gb b.c a.c) (Gd b.c a.c)
def ZZ(sg:Uq->Int)(a b:Pt):Ct:={ kind:=1,i0:=a.id,i1:=b.id,i2:=0,i3:=0,p:=Av a b,want:=Hl sg (Av a b) }
def D5(sg:Uq->Int)(a b:Pt):Ct:={ kind:=2,i0:=a.id,i1:=b.id,i2:=0,i3:=0,p:=Ar a b,want:=Hl sg (Ar a b) }
end Orr
namespace Orr
open Go Go.Proofs Tryz
set_option maxRecDepth 10000
abbrev pr(p:Uq):TV:=.one (pl p)
theorem Pv{p:Uq}{i:Nat}{z:Int}(h:p[i]? = some z):(p.map Hg)[i]? = some (Hg z):=Hm h
theorem CU(p:Uq):Un 79 [pr p] [pr (trim p)]:=by
 refine Fz func79 rfl (ln 0 rfl rfl λhl=>?_);rw[Za]at hl;refine Uh [] rfl ?_;refine lp (S:=Nat) 0 (λL1 n=>(3,.v (.oi n))::L1) (λ_=>[]) id (λn=>n<=p.length/\∀j x,n<=j->p[j]? = some x->x=0) (p.map Hg).length ⟨by simp,λj x h1 h2=>by
  have:=(Qf.1 h2).1;simp at h1;omega⟩ rfl (λ_ _=>rfl) rfl λn ⟨h1,h2⟩=>?_
 cases n with
 |zero=>exact Uj [.f (by simp),.f rfl,.i 0] rfl (by rw[pX h1 h2 (λh=>by omega)];simp[pl]) (by simp[U5])
 |
  succ n =>
  obtain⟨x,hx⟩:=gxE (l:=p) (i:=n) (by omega);by_cases h0:x=0
  ·refine Ui [.t (by simp),.r 11 (v:=.oi n) (by simp),.x (Pv hx),.k Dl,.t (by simp[h0]),.r 17 (v:=.oi n) (by simp)] rfl ?_;exact rd n (by simp) ⟨by omega,λj y h3 h4=>by
    rcases Vl h3 with rfl|h3
    ·rw[hx]at h4;injection h4 with h4;rw[<-h4,h0]
    ·exact h2 j y h3 h4⟩ rfl
  ·exact Uj [.t (by simp),.r 11 (v:=.oi n) (by simp),.x (Pv hx),.k Dl,.f (by simp[h0]),.i (n+1)] rfl (by rw[pX h1 h2 (λ_=>⟨x,hx,h0⟩)];simp[pl,Jw]) (by simp[U5] <;> omega)
theorem aG(p:Uq)(k:Nat):Un 219 [pr p,.oi k] [.agg (Hg (p.getD k 0))]:=by
 by_cases h:k<p.length
 ·have hx:=Qe h;have e:p.getD k 0=p[k]:=by simp[List.getD,hx]
  rw[e];exact Uk func219 rfl [.t (by simp;omega),.x (Pv hx)] rfl
 ·have e:p.getD k 0=0:=by simp[List.getD,Qw (J9 h)]
  rw[e,Lo];exact Uk func219 rfl [.f (by simp;omega)] rfl
def IW(f:Nat->Uv)(z:Uv)(n k:Nat):Uw:=(List.range n).map λi=>if i<k then f i else z
theorem Im(f:Nat->Uv)(z:Uv)(n k:Nat):(IW f z n k).length=n:=by simp[IW]
theorem Ak(f:Nat->Uv)(z:Uv)(n:Nat):List.replicate n z=IW f z n 0:=by
 refine Xo λi=>?_
 simp only[IW,J0,Zb];by_cases h:i<n
 ·simp[h]
 ·simp[h]
theorem QB(f:Nat->Uv)(z:Uv)(n:Nat):IW f z n n=(List.range n).map f:=by
 refine Xu λi hi=>?_
 rw[if_pos (Kl.1 hi)]
theorem QC(f:Nat->Uv)(z:Uv){n k:Nat}(h:k<n):(IW f z n k).set k (f k)=IW f z n (k+1):=by
 refine Xo λi=>?_
 rw[Yo];simp only[IW,Zb,Za,List.length_range,h,if_true];by_cases e:k=i
 ·subst e;simp[h]
 ·simp only[e,if_false];by_cases hi:i<n
  ·simp only[X7 hi,Yn];congr 1;by_cases h2:i<k
   ·rw[if_pos h2,if_pos (by omega)]
   ·rw[if_neg h2,if_neg (by omega)]
  ·simp[Qw,hi]
theorem jS{n fid:Nat}{l1 l2:Uv}{g:Nat->Int}(hn:n<274877906944)(h:∀k,k<n->IF prog fid [.oi k,.one (.sh l1),.one (.sh l2)] [.agg (Hg (g k))]):Un 179 [.oi n,.one (.fn fid [] [.sh l1,.sh l2])] [pr (A6 n g)]:=by
 refine Fz func179 rfl ?_;refine Ui [.i n,.i n,.r 10 (eI (b:=(n:Int)) (by simp))] rfl ?_;rw[Ak λk=>Hg (g k)];refine Um (S:=Nat) 1 (λL1 k=>(11,.v (.oi k))::L1) (λk=>[.row false 37 2 (IW (λk=>Hg (g k)) [.bool false,.nils] n k)]) (λk=>n-k) (λk=>k<=n) 0 (Qh _) rfl rfl λk hk=>?_
 by_cases hlt:k<n
 ·refine go tt [.t (by simp;omega),.k (h k hlt),.i k] rfl (by simp[U5,Im];omega) ?_;have e:=QC (λk=>Hg (g k)) [.bool false,.nils] hlt;rw[e];exact rd (k+1) (by omega) hlt rfl
 ·obtain rfl:k=n:=by omega
  have e:IW (λk=>Hg (g k)) [.bool false,.nils] k k=((List.range k).map g).map Hg:=by rw[QB];simp
  rw[e];exact Uj [.f (by simp),.k (CU _)] rfl
theorem aU{n fid:Nat}{l1:Uv}{g:Nat->Int}(hn:n<274877906944)(h:∀k,k<n->IF prog fid [.oi k,.one (.sh l1)] [.agg (Hg (g k))]):Un 179 [.oi n,.one (.fn fid [] [.sh l1])] [pr (A6 n g)]:=by
 refine Fz func179 rfl ?_;refine Ui [.i n,.i n,.r 10 (eI (b:=(n:Int)) (by simp))] rfl ?_;rw[Ak λk=>Hg (g k)];refine Um (S:=Nat) 1 (λL1 k=>(11,.v (.oi k))::L1) (λk=>[.row false 37 2 (IW (λk=>Hg (g k)) [.bool false,.nils] n k)]) (λk=>n-k) (λk=>k<=n) 0 (Qh _) rfl rfl λk hk=>?_
 by_cases hlt:k<n
 ·refine go tt [.t (by simp;omega),.k (h k hlt),.i k] rfl (by simp[U5,Im];omega) ?_;have e:=QC (λk=>Hg (g k)) [.bool false,.nils] hlt;rw[e];exact rd (k+1) (by omega) hlt rfl
 ·obtain rfl:k=n:=by omega
  have e:IW (λk=>Hg (g k)) [.bool false,.nils] k k=((List.range k).map g).map Hg:=by rw[QB];simp
  rw[e];exact Uj [.f (by simp),.k (CU _)] rfl
theorem Qud{p q:Uq}(k:Nat)(hp:Bd 4294967295 p)(hq:Bd 4294967295 q):Un 218 [.oi k,.one (.sh [pl p]),.one (.sh [pl q])] [.agg (Hg (p.getD k 0+q.getD k 0))] :=
 Uk func218 rfl [.k (aG p k),.k (aG q k),.k (KD (U6 _) (U6 _) (Fw hp k) (Fw hq k))] rfl
theorem Qux{p q:Uq}(k:Nat)(hp:Bd 4294967295 p)(hq:Bd 4294967295 q):Un 255 [.oi k,.one (.sh [pl p]),.one (.sh [pl q])] [.agg (Hg (p.getD k 0-q.getD k 0))] :=
 Uk func255 rfl [.k (aG p k),.k (aG q k),.k (Qgr (U6 _) (U6 _) (Fw hp k) (Fw hq k))] rfl
theorem Td{p:Uq}{k:Nat}(h:k<p.length):p[k]? = some (p.getD k 0):=by simp[List.getD,Qe h]
theorem Qgi{p:Uq}{c:Int}{k:Nat}(hk:k<p.length)(hp:Bd 4294967295 p)(hc:Fg c<=4294967295):Un 180 [.oi k,.one (.sh [pl p]),.one (.sh (Hg c))] [.agg (Hg (p.getD k 0*c))] :=
 Uk func180 rfl [.x (Pv (Td hk)),.k (P8 (U6 _) (U6 _) (Fw hp k) hc)] rfl
theorem Quq{p:Uq}{k:Nat}(hk:k<p.length)(hp:Bd 4294967295 p):Un 304 [.oi k,.one (.sh [pl p])] [.agg (Hg (-(p.getD k 0)))] :=
 Uk func304 rfl [.x (Pv (Td hk)),.k (BA (U6 _) (Fw hp k))] rfl
theorem Qb5{p:Uq}{k:Nat}(hk:k+1<p.length)(hl:p.length<274877906944)(hp:Bd 4294967295 p):Un 280 [.oi k,.one (.sh [pl p])] [.agg (Hg (p.getD (k+1) 0*((k+1:Nat):Int)))] :=
 Uk func280 rfl [.x (Pv (Td hk)),.r 10 (eI (b:=((k+1:Nat):Int)) (by omega)),.k (BI (by omega)),.k (P8 (U6 _) (U6 _) (Fw hp _) (Qdj (show k+1<274877906944 by omega)))] rfl rfl (by simp[U5] <;> omega)
theorem BO{p q:Uq}(hlp:p.length<274877906944)(hlq:q.length<274877906944)(hp:Bd 4294967295 p)(hq:Bd 4294967295 q):Un 177 [pr p,pr q] [pr (A7 p q)] :=
 Uk func177 rfl [.r 9 (eI (b:=((max p.length q.length:Nat):Int)) (by simp;omega)),.k (jS (by omega) λk _=>Qud k hp hq)] rfl
theorem RV{p q:Uq}(hlp:p.length<274877906944)(hlq:q.length<274877906944)(hp:Bd 4294967295 p)(hq:Bd 4294967295 q):Un 216 [pr p,pr q] [pr (Ni p q)] :=
 Uk func216 rfl [.r 9 (eI (b:=((max p.length q.length:Nat):Int)) (by simp;omega)),.k (jS (by omega) λk _=>Qux k hp hq)] rfl
theorem Qf5{p:Uq}(hlp:p.length<274877906944)(hp:Bd 4294967295 p):Un 283 [pr p] [pr (Mq p)] :=
 Uk func283 rfl [.r 4 (eI (b:=(p.length:Int)) (by simp)),.k (aU hlp λk hk=>Quq hk hp)] rfl
theorem Pw{p:Uq}{c:Int}(hlp:p.length<274877906944)(hp:Bd 4294967295 p)(hc:Fg c<=4294967295):Un 132 [pr p,.agg (Hg c)] [pr (Fv p c)] :=
 Uk func132 rfl [.r 6 (eI (b:=(p.length:Int)) (by simp)),.k (jS hlp λk hk=>Qgi hk hp hc)] rfl
theorem I8{p:Uq}(hlp:p.length<274877906944)(hp:Bd 4294967295 p):Un 252 [pr p] [pr (Gv p)] :=
 Uk func252 rfl [.r 6 (eI (b:=((p.length-1:Nat):Int)) (by simp;omega)),.k (aU (by omega) λk hk=>Qb5 (by omega) hlp hp)] rfl rfl (by simp[U5];omega)
theorem Cf{ls:Uw}{p:Uq}(hi:IsInts ls p)(hl:p.length<274877906944)(hs:Bd 4294967295 p):Un 128 [.one (.row ls)] [pr (trim p)]:=by
 refine Fz func128 rfl ?_;have hlen:=hi.len;refine Ui [.i ls.length,.i ls.length] rfl ?_;rw[Ak λk=>Hg (p.getD k 0)];refine Um (S:=Nat) 1 (λL1 k=>(11,.v (.oi k))::L1) (λk=>[.row false 37 2 (IW (λk=>Hg (p.getD k 0)) [.bool false,.nils] ls.length k)]) (λk=>ls.length-k) (λk=>k<=ls.length) 0 (Qh _) rfl rfl λk hk=>?_
 by_cases hlt:k<ls.length
 ·obtain⟨x,y,hx,hxy⟩:=hi.get (Td (p:=p) (k:=k) (by omega));have cn:=M4 hxy (Fw hs k);obtain⟨b,l,rfl,rfl,_⟩:=hxy;refine go tt [.t (by simp;omega),.x hx,.k cn,.i k] rfl (by simp[U5,Im];omega) ?_;have e:=QC (λk=>Hg (p.getD k 0)) [.bool false,.nils] hlt;rw[e];exact rd (k+1) (by omega) hlt rfl
 ·obtain rfl:k=ls.length:=by omega
  have e:IW (λk=>Hg (p.getD k 0)) [.bool false,.nils] ls.length ls.length=p.map Hg:=by
   rw[QB,hlen];refine Xo λi=>?_
   by_cases hi:i<p.length
   ·simp[X7 hi,List.getD,Qe hi]
   ·simp[Qw,hi]
  rw[e];exact Uj [.f (by simp),.k (CU _)] rfl
theorem Hu{p:Uq}(ht:Fe p)(hl:p.length<274877906944)(hs:Bd 4294967295 p):Un 128 [pr p] [pr p]:=by
 have:=Cf (Gt p) hl hs;rw[ht]at this;exact this
theorem Qps{p:Uq}{i:Nat}{z:Int}(h:p[i]? = some z):(p.map λ(x:Int)=>[LV.int .i64 x])[i]? = some [.int .i64 z]:=Hm h
theorem eO{p:Uq}(hl:p.length<274877906944)(hr:∀z∈p,-9223372036854775808≤z/\z≤9223372036854775807):Un 30 [.one (ids p)] [pr (trim p)]:=by
 refine Fz func30 rfl ?_;refine Ui [.r 7 (eI (b:=(p.length:Int)) (by simp)),.i p.length,.i p.length,.r 10 (eI (b:=(p.length:Int)) (by simp))] rfl ?_;rw[Ak λk=>Hg (p.getD k 0)];refine Um (S:=Nat) 1 (λL1 k=>(11,.v (.oi k))::L1) (λk=>[.row false 37 2 (IW (λk=>Hg (p.getD k 0)) [.bool false,.nils] p.length k)]) (λk=>p.length-k) (λk=>k<=p.length) 0 (Qh _) rfl rfl λk hk=>?_
 by_cases hlt:k<p.length
 ·have hg:=Td hlt;refine go tt [.t (by simp;omega),.x (Qps hg),.k (BI (hr _ (Qc hg))),.i k] rfl (by simp[U5,Im];omega) ?_;have e:=QC (λk=>Hg (p.getD k 0)) [.bool false,.nils] hlt;rw[e];exact rd (k+1) (by omega) hlt rfl
 ·obtain rfl:k=p.length:=by omega
  have e:IW (λk=>Hg (p.getD k 0)) [.bool false,.nils] p.length p.length=p.map Hg:=by
   rw[QB];refine Xo λi=>?_
   by_cases hi:i<p.length
   ·simp[X7 hi,List.getD,Qe hi]
   ·simp[Qw,hi]
  rw[e];exact Uj [.f (by simp),.k (CU _)] rfl
theorem cA(l:Uq)(i:Nat)(z:Int):(l.map Hg).set i (Hg z)=(l.set i z).map Hg:=by rw[Vw]
theorem NL(m:Nat):((List.replicate m [LV.bool false,LV.nils]).map λc=>c.map GQ)=(List.replicate m (0:Int)).map Hg:=by
 simp[Lo,GQ]
theorem jU{p0 q:Uq}{s t:Nat}(tq:Fe q)(hlp:p0.length<137438953472)(hlq:q.length<137438953472)(hp:Bd s p0)(hq:Bd t q)(hst:s+t<=4294967000):Un 178 [pr p0,pr q] [pr (Gl (trim p0) q)]:=by
 have cp:=Cf (Gt p0) (by omega) (U7 hp (show s<=4294967295 by omega));have hp:=Tz hp;have hlp:=Z2 (Re p0) hlp;obtain⟨p,ep⟩:=nmE (trim p0);rw[<-ep]at cp hp hlp ⊢;have cq:=Hu tq (by omega) (U7 hq (show t<=4294967295 by omega));by_cases h0:p.length=0
 ·have e:Gl p q=[]:=by unfold Gl;rw[if_pos (.inl h0)]
  rw[e];exact Uk func178 rfl [.k cp,.k cq,.t (by simp;exact Qj h0),.t rfl] rfl
 by_cases h1:q.length=0
 ·have e:Gl p q=[]:=by unfold Gl;rw[if_pos (.inr h1)]
  rw[e];exact Uk func178 rfl [.k cp,.k cq,.f (by simp;intro h;subst h;simp at h0),.t (by simp;exact Qj h1)] rfl
 refine Fz func178 rfl ?_;have e:Gl p q=trim (Au p q (List.replicate (p.length+q.length-1) 0) p.length):=by unfold Gl;rw[if_neg (by omega)]
 rw[e];obtain⟨N,hN⟩:=nmE (p.length+q.length-1);rw[<-hN];obtain⟨o,ho⟩:=nmE (List.replicate N (0:Int));rw[<-ho];have hol:o.length=N:=by rw[ho];simp
 have ho0:∀m,o.getD m 0=0:=λm=>by rw[ho];exact Cj N m
 refine Ui [.k cp,.k cq,.f (by simp;intro h;subst h;simp at h0),.f (by simp;intro h;subst h;simp at h1),.r 27 (eI (b:=(N:Int)) (by simp;omega)),.i N,.i N] rfl ?_;refine nl 0 rfl rfl rfl ?_;rw[NL,<-ho];refine Um (S:=Nat) 1 (λL1 i=>(31,.v (.oi i))::L1) (λi=>[.row false 37 2 ((Au p q o i).map Hg)]) (λi=>p.length-i) (λi=>i<=p.length) 0 (Qh _) rfl rfl λi hi=>?_
 by_cases hlt:i<p.length
 ·refine Uh [.t (by simp;omega),.x (Pv (Td hlt))] rfl ?_;refine Um (S:=Nat) 2 (λL1 k=>(38,.v (.oi k))::L1) (λk=>[.row false 37 2 ((Oo (p.getD i 0) q i (Au p q o i) k).map Hg),.blk 37 (Hg (p.getD i 0))]) (λk=>q.length-k) (λk=>k<=q.length) 0 (Qh _) rfl rfl λk hk=>?_
  by_cases hk2:k<q.length
  ·have hm1:Fg ((Oo (p.getD i 0) q i (Au p q o i) k).getD (i+k) 0)<=4294967295:=Qa (Iz (t:=39) (vX (by rw[Lm];omega) (vZ (λj hj=>by omega) ho0 (λi j=>Nm (Fw hp i) (Fw hq j))) (λj=>Nm (Fw hp i) (Fw hq j)) (i+k)) (Kj (show i+1<549755813888 by omega) (by decide))) (by omega);have hm2:Fg (p.getD i 0*q.getD k 0)<=4294967295:=Qa (Gf _ _) (by have:=Fw hp i;have:=Fw hq k;omega);have hg:(Oo (p.getD i 0) q i (Au p q o i) k)[i+k]? = some ((Oo (p.getD i 0) q i (Au p q o i) k).getD (i+k) 0):=Td (by rw[Oq,Lm];omega);refine go tt [.t (by simp;omega),.x (Pv (Td hk2)),.i (i+k),.x (Pv hg),.k (P8 (U6 _) (U6 _) (Qa (Fw hp i) (by omega)) (Qa (Fw hq k) (by omega))),.k (KD (U6 _) (U6 _) hm1 hm2),.i (i+k)] rfl (by simp[U5,Oq,Lm] <;> omega) ?_;rw[cA];exact rd (k+1) (by omega) hk2 rfl
  ·obtain rfl:k=q.length:=by omega
   exact go tt [.f (by simp)] rfl (by simp[U5];omega) (rd (i+1) (by omega) hlt rfl)
 ·obtain rfl:i=p.length:=by omega
  exact Uj [.f (by simp),.k (CU _)] rfl
theorem KC{p q:Uq}{s t:Nat}(tp:Fe p)(tq:Fe q)(hlp:p.length<137438953472)(hlq:q.length<137438953472)(hp:Bd s p)(hq:Bd t q)(hst:s+t<=4294967000):Un 178 [pr p,pr q] [pr (Gl p q)]:=by
 have h:=jU tq hlp hlq hp hq hst;rw[show trim p=p from tp]at h;exact h
theorem MD{p q:Uq}(hlp:p.length<274877906944)(hlq:q.length<274877906944)(hp:Bd 4294967295 p)(hq:Bd 4294967295 q):Un 101 [pr p,pr q] [.one (.bool (decide (trim p=trim q)))]:=by
 refine Fz func101 rfl ?_;have cp:=Cf (Gt p) hlp hp;have cq:=Cf (Gt q) hlq hq;have bp:=Tz hp;have bq:=Tz hq;have l1:=Re p;have l2:=Re q;obtain⟨a,ha⟩:=nmE (trim p);obtain⟨b,hb⟩:=nmE (trim q);rw[<-ha]at cp bp l1 ⊢;rw[<-hb]at cq bq l2 ⊢;by_cases hl:a.length=b.length
 ·refine Uh [.k cp,.k cq,.f (by simp;omega)] rfl ?_;refine Um (S:=Nat) 0 (λL1 i=>(18,.v (.oi i))::L1) (λ_=>[]) (λi=>a.length-i) (λi=>i<=a.length/\a.take i=b.take i) 0 ⟨Qh _,rfl⟩ rfl rfl λi ⟨hi,he⟩=>?_
  by_cases hlt:i<a.length
  ·have ga:=Td hlt;have gb:=Td (p:=b) (k:=i) (by omega);have cc:=RU (U6 (a.getD i 0)) (U6 (b.getD i 0)) (Fw bp i) (Fw bq i);by_cases hz:a.getD i 0=b.getD i 0
   ·refine Ui [.t (by simp;omega),.x (Pv ga),.x (Pv gb),.k cc,.f (by simpa using jC.2 hz)] rfl ?_;exact rd (i+1) (by omega) ⟨hlt,by rw[Y7,Y7,he,ga,gb,hz]⟩ rfl
   ·exact Uj [.t (by simp;omega),.x (Pv ga),.x (Pv gb),.k cc,.t (by have:=mt jC.1 hz;simpa using this)] rfl (by rw[decide_eq_false];intro h;exact hz (by rw[h])) trivial
  ·obtain rfl:i=a.length:=by omega
   rw[Q7,hl,Q7]at he;exact Uj [.f (by simp)] rfl (by rw[decide_eq_true he]) trivial
 ·exact Uj [.k cp,.k cq,.t (by simp;omega)] rfl (by rw[decide_eq_false];intro h;exact hl (by rw[h])) trivial
theorem Qga{p:Uq}{n d:Int}{s t:Nat}(hl:p.length<274877906944)(hp:Bd s p)(hn:Fg n<=t)(hd:Fg d<=t)(hst:s+p.length*(t+1)+2*t+10<=4294967295):Un 146 [pr p,.agg (Hg n),.agg (Hg d)] [.agg (Hg (Qw0 p n d))]:=by
 refine Fz func146 rfl ?_;refine Ui [.k (BI (z:=1) (by decide)),.r 13 (eI (b:=(p.length:Int)-1-((0:Nat):Int)) (by simp))] rfl ?_;refine nlb 3 rfl rfl rfl ?_;have e0:[LV.bool false,LV.nils].map GQ=Hg (Ef p n d 0).1:=by simp[GQ,Ef,Lo]
 rw[e0];refine Um (S:=Nat) 5 (λL1 j=>(9,.v (.oi ((p.length:Int)-1-(j:Int))))::L1) (λj=>[.blk 37 (Hg n),.blk 37 (Hg d),.blk 37 [.bool false,.nils],.blk 37 (Hg (Ef p n d j).1),.blk 37 (Hg (Ef p n d j).2)]) (λj=>p.length-j) (λj=>j<=p.length) 0 (Qh _) rfl rfl λj hj=>?_
 have hv:=Qbm (k:=j) hp hn hd;have hjl:j*(t+1)<=p.length*(t+1):=Q0 _ (by omega);have hjl2:j*t<=j*(t+1):=Zp _ (by omega);by_cases hlt:j<p.length
 ·have hc:=Fw hp (p.length-1-j);have hm1:Fg ((Ef p n d j).1*n)<=4294967295:=Qa (Gf _ _) (by omega);have hm2:Fg (p.getD (p.length-1-j) 0*(Ef p n d j).2)<=4294967295:=Qa (Gf _ _) (by omega);refine go tt [.t (by simp;omega),.k (P8 (U6 _) (U6 _) (by omega) (by omega)),.r 22 (eI (b:=((p.length-1-j:Nat):Int)) (by omega)),.x (Pv (Td (p:=p) (k:=p.length-1-j) (by omega))),.k (P8 (U6 _) (U6 _) (by omega) (by omega)),.k (KD (U6 _) (U6 _) hm1 hm2),.k (P8 (U6 _) (U6 _) (by omega) (by omega)),.r 17 (eI (b:=(p.length:Int)-1-((j+1:Nat):Int)) (by omega))] rfl (by simp[U5] <;> omega) ?_;exact rd (j+1) (by omega) hlt rfl
 ·obtain rfl:j=p.length:=by omega
  exact Uj [.f (by simp;omega)] rfl
theorem Dx{p:Uq}(tp:Fe p)(hl:p.length<274877906944)(hp:Bd 4294967295 p):Un 299 [pr p] [.agg (Hg (p.getD (p.length-1) 0))]:=by
 have cn:=Hu tp hl hp;by_cases h0:p=[]
 ·subst h0;exact Uk func299 rfl [.k cn,.t (by simp)] rfl (by simp[Lo]) trivial
 ·have hpl:0<p.length:=J3.2 h0;exact Uk func299 rfl [.k cn,.f (by simpa using h0),.r 12 (eI (b:=((p.length-1:Nat):Int)) (by simp;omega)),.x (Pv (Td (by omega)))] rfl rfl (by simp[U5];omega)
theorem Qth{a b:Int}{q:Rat}(h1:a=q.num)(h2:b=(q.den:Int)):[sg a,mg a,sg b,mg b]=rl q:=by rw[h1,h2]
theorem XQ{n d:Int}(h0:d≠0)(hn:Fg n<=4294967295)(hd:Fg d<=4294967295):Un 142 [.agg (Hg n),.agg (Hg d)] [.agg (rl (Rat.divInt n d))]:=by
 have cg:=Qfr (Gt [n,d]) (λz hz=>by simp at hz;rcases hz with rfl|rfl <;> assumption);have gp:=gV (n:=n) h0;have gs:=oZ (n:=n) h0 hd;have m1:=LH n d;have m2:=LR n d;obtain⟨g,hg⟩:=nmE (((Tg [n,d]:Nat):Int));rw[<-hg]at cg gp gs m1 m2;by_cases hneg:d<0
 ·obtain⟨e1,e2⟩:=Qp2 (n:=n) hneg;rw[<-hg]at e1 e2;rw[<-Qth e1 e2];exact Uk func142 rfl [.k cg,.t (by simpa using hneg),.k (BA (U6 n) hn),.k (BA (U6 d) hd),.k (Ib (U6 _) (U6 _) (by rw[Hp];exact hn) gs (by omega) (Qac m1)),.k (Ib (U6 _) (U6 _) (by rw[Hp];exact hd) gs (by omega) (Qac m2))] rfl
 ·obtain⟨e1,e2⟩:=oN (n:=n) (d:=d) (by omega);rw[<-hg]at e1 e2;rw[<-Qth e1 e2];exact Uk func142 rfl [.k cg,.f (by simpa using hneg),.k (Ib (U6 _) (U6 _) hn gs (by omega) m1),.k (Ib (U6 _) (U6 _) hd gs (by omega) m2)] rfl
theorem MA{x y x' y':LV}{n d:Int}(h1:Gi x y n)(h2:Gi x' y' d)(hn:Fg n<=4294967295)(hd:Fg d<=4294967295):Un 110 [.agg [x,y,x',y']] [.agg (rl (Gn n d))]:=by
 have c1:=M4 h1 hn;have c2:=M4 h2 hd;obtain⟨b,l,rfl,rfl,_⟩:=h1;obtain⟨b',l',rfl,rfl,_⟩:=h2;by_cases h0:d=0
 ·have e:Gn n d=Rat.divInt n 1:=by unfold Gn;rw[if_pos h0]
  rw[e];exact Uk func110 rfl [.k c2,.k Dl,.t (by simpa using h0),.k (BI (z:=1) (by decide)),.k c1,.k (XQ (by decide) hn (by decide))] rfl
 ·have e:Gn n d=Rat.divInt n d:=by unfold Gn;rw[if_neg h0]
  rw[e];exact Uk func110 rfl [.k c2,.k Dl,.f (by simpa using h0),.k c1,.k (XQ h0 hn hd)] rfl
theorem CP{q:Rat}(hq:Qs 4294967295 q):Un 110 [.agg (rl q)] [.agg (rl q)]:=by
 have:=MA (U6 q.num) (U6 (q.den:Int)) hq.1 hq.2;rwa[Sx]at this
theorem Qu8{n:Int}(hn:Fg n<=4294967295):Un 70 [.agg (Hg n)] [.agg (rl (n:Rat))] :=
 Uk func70 rfl [.k (M4 (U6 n) hn),.k (BI (z:=1) (by decide))] rfl (by simp[rl]) trivial
theorem jR{a b:Rat}(ha:Qs 2147483647 a)(hb:Qs 2147483647 b):Un 99 [.agg (rl a),.agg (rl b)] [.agg (Hg (a.num*(b.den:Int))),.agg (Hg (b.num*(a.den:Int))),.agg (Hg ((a.den:Int)*(b.den:Int)))] :=
 Uk func99 rfl [.k (CP (ha.mono (by decide))),.k (CP (hb.mono (by decide))),.k (P8 (U6 _) (U6 _) (Qa ha.1 (by decide)) (Qa hb.2 (by decide))),.k (P8 (U6 _) (U6 _) (Qa hb.1 (by decide)) (Qa ha.2 (by decide))),.k (P8 (U6 _) (U6 _) (Qa ha.2 (by decide)) (Qa hb.2 (by decide)))] rfl
theorem Dm{a b:Rat}(ha:Qs 2147483647 a)(hb:Qs 2147483647 b):Un 56 [.agg (rl a),.agg (rl b)] [.oi (Hk a b)] :=
 Uk func56 rfl [.k (jR ha hb),.k (RU (U6 _) (U6 _) (Qa (Gf _ _) (by have:=ha.1;have:=hb.2;omega)) (Qa (Gf _ _) (by have:=hb.1;have:=ha.2;omega)))] rfl
theorem CS{x y x' y':LV}{n d:Int}(h1:Gi x y n)(h2:Gi x' y' d)(hn:Fg n<=4294967295)(hd:Fg d<=4294967295):Un 64 [.agg [x,y,x',y'],.one (.row [])] [.agg (rl (Gn n d))]:=by
 have c1:=MA h1 h2 hn hd;obtain⟨b,l,rfl,rfl,_⟩:=h1;obtain⟨b',l',rfl,rfl,_⟩:=h2;refine Fz func64 rfl ?_;refine Uh [.k c1] rfl ?_;refine Um (S:=Unit) 3 (λL1 _=>(12,.v (.oi 0))::L1) (λ_=>[.blk 43 [.bool b,.row (lm l),.bool b',.row (lm l')],.blk 43 [.bool false,.nils,.bool false,.nils],.blk 43 (rl (Gn n d))]) (λ_=>0) (λ_=>True) () trivial rfl rfl λ_ _=>?_
 exact Uj [.f (by simp)] rfl
theorem Nw{q:Rat}(hq:Qs 4294967295 q):Un 64 [.agg (rl q),.one (.row [])] [.agg (rl q)]:=by
 have:=CS (U6 q.num) (U6 (q.den:Int)) hq.1 hq.2;rwa[Sx]at this
theorem Qor{q:Rat}(hq:Qs 4294967295 q):Un 144 [.agg (rl q)] [.agg (rl q)]:=Uk func144 rfl [.k (Nw hq)] rfl
theorem aQ{p:Uq}{q:Rat}{s t:Nat}(tp:Fe p)(hl:p.length<274877906944)(hp:Bd s p)(hq:Qs t q)(hst:s+p.length*(t+1)+2*t+10<=4294967295):Un 241 [pr p,.agg (rl q)] [.oi (Ri p q)]:=by
 have cc:=RU (U6 (Qw0 p q.num q.den)) QD (Qa (Qbm hp hq.1 hq.2).1 (by omega)) (by decide);exact Uk func241 rfl [.k (Qor (hq.mono (by omega))),.k (Hu tp hl (U7 hp (by omega))),.k (Qga hl hp hq.1 hq.2 hst),.k cc] rfl
theorem Qg0{p:Uq}{g:Int}(hl:p.length<274877906944)(hp:Bd 4294967295 p)(hg:Fg g≤4294967295)(h0:g≠0)(hd:∀z∈p,z % g=0):Un 141 [pr p,.agg (Hg g)] [pr (trim (p.map (· / g)))]:=by
 refine Fz func141 rfl ?_;refine Ui [.r 9 (eI (b:=(p.length:Int)) (by simp)),.i p.length,.i p.length,.r 12 (eI (b:=(p.length:Int)) (by simp))] rfl ?_;rw[Ak λk=>Hg (p.getD k 0 / g)];refine Um (S:=Nat) 2 (λL1 k=>(13,.v (.oi k))::L1) (λk=>[.blk 37 (Hg g),.row false 37 2 (IW (λk=>Hg (p.getD k 0 / g)) [.bool false,.nils] p.length k)]) (λk=>p.length-k) (λk=>k<=p.length) 0 (Qh _) rfl rfl λk hk=>?_
 by_cases hlt:k<p.length
 ·have hg2:=Td hlt;refine go tt [.t (by simp;omega),.x (Pv hg2),.k (Ib (U6 _) (U6 _) (Fw hp k) hg h0 (hd _ (Qc hg2))),.i k] rfl (by simp[U5,Im];omega) ?_;have e:=QC (λk=>Hg (p.getD k 0 / g)) [.bool false,.nils] hlt;rw[e];exact rd (k+1) (by omega) hlt rfl
 ·obtain rfl:k=p.length:=by omega
  have e:IW (λk=>Hg (p.getD k 0 / g)) [.bool false,.nils] p.length p.length=(p.map (· / g)).map Hg:=by
   rw[QB];refine Xo λi=>?_
   by_cases hi:i<p.length
   ·simp[X7 hi,List.getD,Qe hi]
   ·simp[Qw,hi]
  rw[e];exact Uj [.f (by simp),.k (Cf (Gt (p.map (· / g))) (by simp;exact hl) (RX hp g))] rfl
theorem EB(p:Uq):∀c∈p.map Hg,c.length=2:=Qtc p λ_=>rfl
theorem ML{lx ly:Uw}{px py:Uq}{x y:LV}{d:Int}(hx:IsInts lx px)(hy:IsInts ly py)(hd:Gi x y d)(hk:Cs 4294967294 1073741824 (Crv.mk px py d)):Un 82 [.agg [.row lx,.row ly,x,y]] [.agg (cl (Crv.norm (Crv.mk px py d)))]:=by
 have hlx:=hk.lx;have hly:=hk.ly;simp only at hlx hly;have htx:=Re px;have hty:=Re py;have hd1:Fg (Crv.mk px py d).d'<=4294967295:=Qa (Qjj hk.d (by omega)) (by omega);have hg1:=Crv.isz_g (Crv.mk px py d) hd1;have hg0:=Crv.g_ne (Crv.mk px py d);have hgd:=Crv.g_dvd (Crv.mk px py d);have cx:=Cf hx (by omega) (U7 hk.x (by omega));have cy:=Cf hy (by omega) (U7 hk.y (by omega));have cd:=M4 hd (Qa hk.d (by omega));have bx:Bd 4294967295 (trim px):=U7 (Tz hk.x) (by omega);have by_:Bd 4294967295 (trim py):=U7 (Tz hk.y) (by omega);obtain⟨b,l,rfl,rfl,_⟩:=hd;obtain⟨e,he⟩:=nmE ((Crv.mk px py d).d');obtain⟨g,hgg⟩:=nmE ((Crv.mk px py d).g);obtain⟨X,hX⟩:=nmE (trim px);obtain⟨Y,hY⟩:=nmE (trim py);have hnorm:(Crv.mk px py d).norm=⟨trim (X.map (· / g)),trim (Y.map (· / g)),e / g⟩:=by rw[he,hgg,hX,hY];rfl
 rw[hnorm];have hgdef:g=if e<0 then -((Tg (e::(X++Y)):Nat):Int)else(Tg (e::(X++Y)):Nat):=by rw[hgg,he,hX,hY];rfl
 have hde:e=if d=0 then 1 else d:=by rw[he];rfl
 simp only[<-he,<-hgg,<-hX,<-hY]at hd1 hg1 hg0 hgd htx hty cx cy bx by_;clear hnorm hgg he hX hY;refine Fz func82 rfl ?_;refine Uh [.k cx,.k cy,.k cd,.k Dl] rfl ?_;refine ct 1 (S:=Unit) (λ_=>[(2,.v (.one (.ow 1 0))),(3,.v (pr X)),(4,.v (pr Y)),(5,.v (.one (.ow 2 0)))]) (λ_=>[.blk 39 [.row lx,.row ly,.bool b,.row (lm l)],.blk 39 [.nils,.nils,.bool false,.nils],.blk 37 (Hg e)]) (λ_=>True) rfl ?_ ?_
 ·by_cases h0:d=0
  ·rw[hde,if_pos h0];exact go tt [.t (by simpa using h0),.k (BI (z:=1) (by decide))] rfl trivial (rc () trivial rfl)
  ·rw[hde,if_neg h0];exact go tt [.f (by simpa using h0)] rfl trivial (rc () trivial rfl)
 ·intro _ _;have hgi:IsInts ([Hg e]++X.map Hg++Y.map Hg) (e::(X++Y)):=by
   have:=Gt (e::(X++Y));simpa using this
  have hgs:∀z∈e::(X++Y),Fg z≤4294967295:=λz hz=>by
   rcases Qm.1 hz with rfl|hz
   ·exact hd1
   ·rcases Qq.1 hz with hz|hz
    ·exact bx z hz
    ·exact by_ z hz
  have cg:=Qfr hgi hgs;have co1:=Qg0 (p:=X) (by omega) bx hg1 hg0 λz hz=>hgd z (Qg _ (Z8 _ hz))
  have co2:=Qg0 (p:=Y) (by omega) by_ hg1 hg0 λz hz=>hgd z (Qg _ (Z4 _ hz))
  have ce:=Ib (U6 e) (U6 g) hd1 hg1 hg0 (hgd e (Qy ..));have hszg:=NU hgs;by_cases hneg:e<0
  ·rw[if_pos hneg]at hgdef;have cn:=BA (U6 ((Tg (e::(X++Y)):Nat):Int)) hszg;rw[<-hgdef]at cn;exact Uj [.lo,.s (EB X),.s (EB Y),.k cg,.t (by simpa using hneg),.k cn,.k ce,.k co1,.k co2] rfl rfl (by simp[U5];omega)
  ·rw[if_neg hneg]at hgdef;rw[<-hgdef]at cg;exact Uj [.lo,.s (EB X),.s (EB Y),.k cg,.f (by simpa using hneg),.k ce,.k co1,.k co2] rfl rfl (by simp[U5];omega)
theorem CV{k:Crv}(hn:YZ k)(hk:Cs 4294967294 1073741824 k):Un 82 [.agg (cl k)] [.agg (cl k)]:=by
 have h:=ML (Gt k.x) (Gt k.y) (U6 k.d) hk;rw[Crv.norm_of hn]at h;exact h
theorem UM{lx ly:Uw}{px py:Uq}{x y:LV}{d:Int}(hx:IsInts lx px)(hy:IsInts ly py)(hd:Gi x y d)(hk:Cs 4294967294 1073741824 (Crv.mk px py d))(h0:d≠0):Un 137 [.one (.row lx),.one (.row ly),.agg [x,y]] [.agg (cl (Crv.norm (Crv.mk px py d))),.oi 0]:=by
 have cd:=M4 hd (Qa hk.d (by omega));have cn:=ML hx hy hd hk;obtain⟨b,l,rfl,rfl,_⟩:=hd;exact Uk func137 rfl [.k cd,.k Dl,.f (by simpa using h0),.k cn] rfl
theorem Qsr{lx ly:Uw}{px py:Uq}(hx:IsInts lx px)(hy:IsInts ly py)(hk:Cs 4294967294 1073741824 (Crv.mk px py 0)):Un 35 [.one (.row lx),.one (.row ly)] [.agg (cl (Crv.norm (Crv.mk px py 0)))] :=
 Uk func35 rfl [.k (ML hx hy QD hk)] rfl
def Tj(x y:Int):Crv:=Crv.norm ⟨trim [x],trim [y],0⟩
theorem uI{x y:Int}(hx:-9223372036854775808<=x/\x<=9223372036854775807)(hy:-9223372036854775808<=y/\y<=9223372036854775807):Cs 64 1 ⟨trim [x],trim [y],0⟩:=by
 have key:∀z:Int,-9223372036854775808<=z/\z<=9223372036854775807->Fg z<=64:=λz hz=>by
  rw[S6];have:(2:Nat)^64=18446744073709551616:=by decide
  omega
 refine⟨Tz λz hz=>?_,Tz λz hz=>?_,Qh _,Re [x],Re [y]⟩
 ·rw[Ql]at hz;rw[hz];exact key x hx
 ·rw[Ql]at hz;rw[hz];exact key y hy
theorem aJ{x y:Int}(hx:-9223372036854775808<=x/\x<=9223372036854775807)(hy:-9223372036854775808<=y/\y<=9223372036854775807):Un 28 [.oi x,.oi y] [.agg (cl (Tj x y))] :=
 Uk func28 rfl [.k (eO (p:=[x]) (show 1<274877906944 by decide) (by intro z hz;rw[Ql]at hz;rw[hz];exact hx)),.k (eO (p:=[y]) (show 1<274877906944 by decide) (by intro z hz;rw[Ql]at hz;rw[hz];exact hy)),.k (Qsr (Gt _) (Gt _) ((uI hx hy).mono (by omega) (by omega)))] rfl
theorem Qoh{a b:Crv}(ha:YZ a)(hb:YZ b)(ca:Cs 4294967294 1073741824 a)(cb:Cs 4294967294 1073741824 b):Un 57 [.agg (cl a),.agg (cl b)] [.one (.bool (Ih a b))]:=by
 have na:=CV ha ca;have nb:=CV hb cb;have alx:=ca.lx;have aly:=ca.ly;have blx:=cb.lx;have bly:=cb.ly;have sx:=MD (p:=a.x) (q:=b.x) (by omega) (by omega) (U7 ca.x (by omega)) (U7 cb.x (by omega));have sy:=MD (p:=a.y) (q:=b.y) (by omega) (by omega) (U7 ca.y (by omega)) (U7 cb.y (by omega));have sd:=RU (U6 a.d) (U6 b.d) (Qa ca.d (by omega)) (Qa cb.d (by omega));rw[ha.1,hb.1]at sx;rw[ha.2.1,hb.2.1]at sy;by_cases h1:a.x=b.x
 ·by_cases h2:a.y=b.y
  ·exact Uk func57 rfl [.k na,.k nb,.k sx,.t (by simpa using h1),.k sy,.t (by simpa using h2),.k sd] rfl (by simp[Ih,h1,h2,jC]) trivial
  ·exact Uk func57 rfl [.k na,.k nb,.k sx,.t (by simpa using h1),.k sy,.f (by simpa using h2)] rfl (by simp[Ih,h1,h2]) trivial
 ·exact Uk func57 rfl [.k na,.k nb,.k sx,.f (by simpa using h1),.f rfl] rfl (by simp[Ih,h1]) trivial
end Orr
