/- Ntt L1 L2 L3 L4 L5 M1 P2 M2 PolyL RatL CrvL CrowdL PredL CertL Y1 Y2 Q1 C1 -/
import Derived.Test.YtbhhcpcpionelaaGreatPart03
import Derived.Laws.StructEq
import Derived.Test.YtbhhcpcpionelaaGreatProg
import Derived.Test.YtbhhcpcpionelaaGreatPart00
set_option linter.all false
namespace Orr
open Go Go.Proofs Tryz
theorem aY(d:Nat)(x y:Int)(w:World):(Op.equalIn (d+1) 3 (.int .i64 x) (.int .i64 y)).run prog w=.ok (decide (x=y)) w:=by
 simp[Op.equalIn,runUnderlying3];rfl
noncomputable def ti3:TI prog:=O7 3 isAgg3 sizeOf3 underlying3 zeroValue3 typeInfo3 8 rfl
noncomputable def ti4:TI prog:=O7 4 isAgg4 sizeOf4 underlying4 zeroValue4 typeInfo4 1 rfl
noncomputable def ti5:TI prog:=O7 5 isAgg5 sizeOf5 underlying5 zeroValue5 typeInfo5 1 rfl
noncomputable def ti9:TI prog:=O7 9 isAgg9 sizeOf9 underlying9 zeroValue9 typeInfo9 16 rfl
noncomputable def ti22:TI prog:=O7 22 isAgg22 sizeOf22 underlying22 zeroValue22 typeInfo22 24 rfl
noncomputable def ti23:TI prog:=O7 23 isAgg23 sizeOf23 underlying23 zeroValue23 typeInfo23 8 rfl
noncomputable def ti26:TI prog:=GB (ks:=[1,1,1]) (ag:=[false,false,false]) 26 isAgg26 sizeOf26 underlying26 zeroValue26 typeInfo26 24 rfl ⟨sizeOf23,sizeOf24,sizeOf3,trivial⟩ ⟨isAgg23,isAgg24,isAgg3,trivial⟩ rfl
set_option maxRecDepth 20000 in
theorem Qon(d:Nat)(x0 x1 x2 x3 x4 y0 y1 y2 y3 y4:Int)(w:World):(Op.equalIn (d+1+1) 29 (.agg #[.int .i64 x0,.int .i64 x1,.int .i64 x2,.int .i64 x3,.int .i64 x4]) (.agg #[.int .i64 y0,.int .i64 y1,.int .i64 y2,.int .i64 y3,.int .i64 y4])).run prog w=.ok (decide ([x0,x1,x2,x3,x4]=[y0,y1,y2,y3,y4])) w:=by
 rw[run_equalIn_array w (d+1) _ _ (n:=5) (e:=3) rfl rfl];rw[show List.range 5=[0,1,2,3,4] from rfl,show prog.cellsOf 3=1 from rfl];simp[Op.eqItems,Go.part,isAgg3,aY];by_cases h0:x0=y0 <;> by_cases h1:x1=y1 <;> by_cases h2:x2=y2 <;> by_cases h3:x3=y3 <;> by_cases h4:x4=y4 <;> simp[h0,h1,h2,h3,h4]
theorem Quq(a b:Um)(ha:a.length=5)(hb:b.length=5)(w:World):(Op.equal 29 (.agg (a.map (Value.int .i64)).toArray) (.agg (b.map (Value.int .i64)).toArray)).run prog w=.ok (decide (a=b)) w:=by
 match a,ha,b,hb with
 | [x0,x1,x2,x3,x4],_,[y0,y1,y2,y3,y4],_=>exact Qon 9998 x0 x1 x2 x3 x4 y0 y1 y2 y3 y4 w
noncomputable def ti29:TI prog:={ tiA 29 isAgg29 sizeOf29 underlying29 zeroValue29 typeInfo29 40 rfl sizeOf3 with eqn:=some 5,heq:=λk h=>by injection h with h;subst h;exact⟨eqGuardType29,Quq⟩ }
noncomputable def ti31:TI prog:=O7 31 isAgg31 sizeOf31 underlying31 zeroValue31 typeInfo31 8 rfl
noncomputable def ti33:TI prog:=O7 33 isAgg33 sizeOf33 underlying33 zeroValue33 typeInfo33 24 rfl
noncomputable def ti34:TI prog:=O7 34 isAgg34 sizeOf34 underlying34 zeroValue34 typeInfo34 24 rfl
noncomputable def ti35:TI prog:=O7 35 isAgg35 sizeOf35 underlying35 zeroValue35 typeInfo35 24 rfl
noncomputable def ti37:TI prog:=GB (ks:=[1,1]) (ag:=[false,false]) 37 isAgg37 sizeOf37 underlying37 zeroValue37 typeInfo37 32 rfl ⟨sizeOf4,sizeOf35,trivial⟩ ⟨isAgg4,isAgg35,trivial⟩ rfl
noncomputable def ti39:TI prog:=GB (ks:=[1,1,2]) (ag:=[false,false,true]) 39 isAgg39 sizeOf39 underlying39 zeroValue39 typeInfo39 80 rfl ⟨sizeOf34,sizeOf34,sizeOf37,trivial⟩ ⟨isAgg34,isAgg34,isAgg37,trivial⟩ rfl
noncomputable def ti41:TI prog:=GB (ks:=[4,1]) (ag:=[true,false]) 41 isAgg41 sizeOf41 underlying41 zeroValue41 typeInfo41 88 rfl ⟨sizeOf39,sizeOf3,trivial⟩ ⟨isAgg39,isAgg3,trivial⟩ rfl
noncomputable def ti43:TI prog:=GB (ks:=[2,2]) (ag:=[true,true]) 43 isAgg43 sizeOf43 underlying43 zeroValue43 typeInfo43 64 rfl ⟨sizeOf37,sizeOf37,trivial⟩ ⟨isAgg37,isAgg37,trivial⟩ rfl
noncomputable def ti45:TI prog:=GB (ks:=[1,1,1,5,4]) (ag:=[false,false,false,true,true]) 45 isAgg45 sizeOf45 underlying45 zeroValue45 typeInfo45 176 rfl ⟨sizeOf3,sizeOf3,sizeOf3,sizeOf41,sizeOf43,trivial⟩ ⟨isAgg3,isAgg3,isAgg3,isAgg41,isAgg43,trivial⟩ rfl
noncomputable def ti52:TI prog:=O7 52 isAgg52 sizeOf52 underlying52 zeroValue52 typeInfo52 24 rfl
noncomputable def ti54:TI prog:=O7 54 isAgg54 sizeOf54 underlying54 zeroValue54 typeInfo54 24 rfl
noncomputable def ti55:TI prog:=O7 55 isAgg55 sizeOf55 underlying55 zeroValue55 typeInfo55 24 rfl
noncomputable def ti57:TI prog:=O7 57 isAgg57 sizeOf57 underlying57 zeroValue57 typeInfo57 24 rfl
noncomputable def ti59:TI prog:=GB (ks:=[1,1]) (ag:=[false,false]) 59 isAgg59 sizeOf59 underlying59 zeroValue59 typeInfo59 32 rfl ⟨sizeOf57,sizeOf4,trivial⟩ ⟨isAgg57,isAgg4,trivial⟩ rfl
noncomputable def ti61:TI prog:=GB (ks:=[2,2]) (ag:=[true,true]) 61 isAgg61 sizeOf61 underlying61 zeroValue61 typeInfo61 64 rfl ⟨sizeOf59,sizeOf59,trivial⟩ ⟨isAgg59,isAgg59,trivial⟩ rfl
noncomputable def ti66:TI prog:=O7 66 isAgg66 sizeOf66 underlying66 zeroValue66 typeInfo66 24 rfl
noncomputable def ti68:TI prog:=GB (ks:=[1,1,1,1,1]) (ag:=[false,false,false,false,false]) 68 isAgg68 sizeOf68 underlying68 zeroValue68 typeInfo68 120 rfl ⟨sizeOf55,sizeOf55,sizeOf55,sizeOf55,sizeOf66,trivial⟩ ⟨isAgg55,isAgg55,isAgg55,isAgg55,isAgg66,trivial⟩ rfl
noncomputable def ti81:TI prog:=O7 81 isAgg81 sizeOf81 underlying81 zeroValue81 typeInfo81 8 rfl
abbrev bQ:List (Nat×Nat×String):=[(365,0,"Advance"),(121,0,"Begin"),(366,0,"Certs"),(51,0,"Clone"),(367,0,"Drop"),(368,0,"Events"),(372,0,"Go"),(88,0,"Ids"),(377,0,"Next"),(376,0,"Now"),(369,0,"Put"),(370,0,"Turn")]
theorem Qvg:∀x∈bQ,∀b o w,(method (prog.types.size+Made.depth) 82 (.pointer (some ⟨b,o,none⟩)) x.2.2).run prog w=.ok (x.1,.pointer (some ⟨b,o+x.2.1,none⟩)) w:=λx hx=>by
 simp only[bQ,Qm,X2,or_false]at hx;rcases hx with rfl|rfl|rfl|rfl|rfl|rfl|rfl|rfl|rfl|rfl|rfl|rfl <;> first|exact As (E:=196) typeInfo82 rfl underlying82|exact Lf (S:=196) (i:=0) typeInfo82 rfl underlying196 rfl underlying192 (λ_ h=>by cases h) sizeOf192 (by decide)
noncomputable def ti82:TI prog:={ O7 82 isAgg82 sizeOf82 underlying82 zeroValue82 typeInfo82 8 rfl with ms:=bQ,hms:=Qvg }
abbrev bZ:List (Nat×Nat×String):=[(393,0,"Advance"),(121,0,"Begin"),(366,0,"Certs"),(52,0,"Clone"),(394,0,"Drop"),(368,0,"Events"),(372,0,"Go"),(377,0,"Next"),(376,0,"Now"),(395,0,"Put"),(396,0,"Turn"),(91,0,"Winner")]
theorem Qvh:∀x∈bZ,∀b o w,(method (prog.types.size+Made.depth) 83 (.pointer (some ⟨b,o,none⟩)) x.2.2).run prog w=.ok (x.1,.pointer (some ⟨b,o+x.2.1,none⟩)) w:=λx hx=>by
 simp only[bZ,Qm,X2,or_false]at hx;rcases hx with rfl|rfl|rfl|rfl|rfl|rfl|rfl|rfl|rfl|rfl|rfl|rfl <;> first|exact As (E:=199) typeInfo83 rfl underlying83|exact Lf (S:=199) (i:=0) typeInfo83 rfl underlying199 rfl underlying192 (λ_ h=>by cases h) sizeOf192 (by decide)
noncomputable def ti83:TI prog:={ O7 83 isAgg83 sizeOf83 underlying83 zeroValue83 typeInfo83 8 rfl with ms:=bZ,hms:=Qvh }
abbrev bX:List (Nat×Nat×String):=[(398,0,"Advance"),(121,0,"Begin"),(366,0,"Certs"),(53,0,"Clone"),(399,0,"Drop"),(368,0,"Events"),(372,0,"Go"),(89,0,"Ids"),(377,0,"Next"),(376,0,"Now"),(400,0,"Put"),(401,0,"Turn")]
theorem Qvi:∀x∈bX,∀b o w,(method (prog.types.size+Made.depth) 84 (.pointer (some ⟨b,o,none⟩)) x.2.2).run prog w=.ok (x.1,.pointer (some ⟨b,o+x.2.1,none⟩)) w:=λx hx=>by
 simp only[bX,Qm,X2,or_false]at hx;rcases hx with rfl|rfl|rfl|rfl|rfl|rfl|rfl|rfl|rfl|rfl|rfl|rfl <;> first|exact As (E:=201) typeInfo84 rfl underlying84|exact Lf (S:=201) (i:=0) typeInfo84 rfl underlying201 rfl underlying192 (λ_ h=>by cases h) sizeOf192 (by decide)
noncomputable def ti84:TI prog:={ O7 84 isAgg84 sizeOf84 underlying84 zeroValue84 typeInfo84 8 rfl with ms:=bX,hms:=Qvi }
abbrev bJ:List (Nat×Nat×String):=[(403,0,"Advance"),(121,0,"Begin"),(366,0,"Certs"),(54,0,"Clone"),(404,0,"Drop"),(368,0,"Events"),(372,0,"Go"),(92,0,"Ids"),(377,0,"Next"),(376,0,"Now"),(405,0,"Put"),(406,0,"Turn")]
theorem Qvj:∀x∈bJ,∀b o w,(method (prog.types.size+Made.depth) 85 (.pointer (some ⟨b,o,none⟩)) x.2.2).run prog w=.ok (x.1,.pointer (some ⟨b,o+x.2.1,none⟩)) w:=λx hx=>by
 simp only[bJ,Qm,X2,or_false]at hx;rcases hx with rfl|rfl|rfl|rfl|rfl|rfl|rfl|rfl|rfl|rfl|rfl|rfl <;> first|exact As (E:=203) typeInfo85 rfl underlying85|exact Lf (S:=203) (i:=0) typeInfo85 rfl underlying203 rfl underlying192 (λ_ h=>by cases h) sizeOf192 (by decide)
noncomputable def ti85:TI prog:={ O7 85 isAgg85 sizeOf85 underlying85 zeroValue85 typeInfo85 8 rfl with ms:=bJ,hms:=Qvj }
abbrev bY:List (Nat×Nat×String):=[(408,0,"Advance"),(121,0,"Begin"),(366,0,"Certs"),(55,0,"Clone"),(409,0,"Drop"),(368,0,"Events"),(372,0,"Go"),(377,0,"Next"),(376,0,"Now"),(410,0,"Put"),(90,0,"Triples"),(411,0,"Turn")]
theorem Qvk:∀x∈bY,∀b o w,(method (prog.types.size+Made.depth) 86 (.pointer (some ⟨b,o,none⟩)) x.2.2).run prog w=.ok (x.1,.pointer (some ⟨b,o+x.2.1,none⟩)) w:=λx hx=>by
 simp only[bY,Qm,X2,or_false]at hx;rcases hx with rfl|rfl|rfl|rfl|rfl|rfl|rfl|rfl|rfl|rfl|rfl|rfl <;> first|exact As (E:=205) typeInfo86 rfl underlying86|exact Lf (S:=205) (i:=0) typeInfo86 rfl underlying205 rfl underlying192 (λ_ h=>by cases h) sizeOf192 (by decide)
noncomputable def ti86:TI prog:={ O7 86 isAgg86 sizeOf86 underlying86 zeroValue86 typeInfo86 8 rfl with ms:=bY,hms:=Qvk }
noncomputable def ti88:TI prog:=GB (ks:=[1,4,1,1,1,1,1]) (ag:=[false,true,false,false,false,false,false]) 88 isAgg88 sizeOf88 underlying88 zeroValue88 typeInfo88 112 rfl ⟨sizeOf81,sizeOf43,sizeOf82,sizeOf83,sizeOf84,sizeOf85,sizeOf86,trivial⟩ ⟨isAgg81,isAgg43,isAgg82,isAgg83,isAgg84,isAgg85,isAgg86,trivial⟩ rfl
set_option maxRecDepth 20000 in
theorem Qhi(d:Nat)(x0 x1 x2 y0 y1 y2:Int)(w:World):(Op.equalIn (d+1+1) 101 (.agg #[.int .i64 x0,.int .i64 x1,.int .i64 x2]) (.agg #[.int .i64 y0,.int .i64 y1,.int .i64 y2])).run prog w=.ok (decide ([x0,x1,x2]=[y0,y1,y2])) w:=by
 rw[run_equalIn_array w (d+1) _ _ (n:=3) (e:=3) rfl rfl];rw[show List.range 3=[0,1,2] from rfl,show prog.cellsOf 3=1 from rfl];simp[Op.eqItems,Go.part,isAgg3,aY];by_cases h0:x0=y0 <;> by_cases h1:x1=y1 <;> by_cases h2:x2=y2 <;> simp[h0,h1,h2]
theorem jH(a b:Um)(ha:a.length=3)(hb:b.length=3)(w:World):(Op.equal 101 (.agg (a.map (Value.int .i64)).toArray) (.agg (b.map (Value.int .i64)).toArray)).run prog w=.ok (decide (a=b)) w:=by
 match a,ha,b,hb with
 | [x0,x1,x2],_,[y0,y1,y2],_=>exact Qhi 9998 x0 x1 x2 y0 y1 y2 w
noncomputable def ti101:TI prog:={ tiA 101 isAgg101 sizeOf101 underlying101 zeroValue101 typeInfo101 24 rfl sizeOf3 with eqn:=some 3,heq:=λk h=>by injection h with h;subst h;exact⟨eqGuardType101,jH⟩ }
noncomputable def ti105:TI prog:=O7 105 isAgg105 sizeOf105 underlying105 zeroValue105 typeInfo105 16 rfl
noncomputable def ti106:TI prog:=tiA 106 isAgg106 sizeOf106 underlying106 zeroValue106 typeInfo106 80 rfl sizeOf105
noncomputable def ti111:TI prog:=O7 111 isAgg111 sizeOf111 underlying111 zeroValue111 typeInfo111 4 rfl
set_option maxRecDepth 20000 in
theorem Qhj(d:Nat)(x0 x1 x2 x3 y0 y1 y2 y3:Int)(w:World):(Op.equalIn (d+1+1) 122 (.agg #[.int .i64 x0,.int .i64 x1,.int .i64 x2,.int .i64 x3]) (.agg #[.int .i64 y0,.int .i64 y1,.int .i64 y2,.int .i64 y3])).run prog w=.ok (decide ([x0,x1,x2,x3]=[y0,y1,y2,y3])) w:=by
 rw[run_equalIn_array w (d+1) _ _ (n:=4) (e:=3) rfl rfl];rw[show List.range 4=[0,1,2,3] from rfl,show prog.cellsOf 3=1 from rfl];simp[Op.eqItems,Go.part,isAgg3,aY];by_cases h0:x0=y0 <;> by_cases h1:x1=y1 <;> by_cases h2:x2=y2 <;> by_cases h3:x3=y3 <;> simp[h0,h1,h2,h3]
noncomputable def ti122:TI prog:=tiA 122 isAgg122 sizeOf122 underlying122 zeroValue122 typeInfo122 32 rfl sizeOf3
set_option maxRecDepth 20000 in
theorem Qhk(d:Nat)(x x0 x1 x2 x3 y y0 y1 y2 y3:Int)(w:World):(Op.equalIn (d+1+1+1) 124 (.agg #[.int .i64 x,.int .i64 x0,.int .i64 x1,.int .i64 x2,.int .i64 x3]) (.agg #[.int .i64 y,.int .i64 y0,.int .i64 y1,.int .i64 y2,.int .i64 y3])).run prog w=.ok (decide ([x,x0,x1,x2,x3]=[y,y0,y1,y2,y3])) w:=by
 rw[run_equalIn_struct w (d+1+1) 124 _ _ rfl Tryz.stoodInHeld124];have hf:(prog.fieldsOf 124).toList=[{ name := "Kind",type:=3,offset:=0,embedded:=false,tag := "",pkgPath := "",byteOffset:=0 },{ name := "Ids",type:=122,offset:=1,embedded:=false,tag := "",pkgPath := "",byteOffset:=8 }]:=by simp[Program.fieldsOf,underlying124]
 rw[hf];simp[Op.eqFields,Go.part,isAgg3,isAgg122,sizeOf122,sizeOf3,aY,Qhj];by_cases h:x=y <;> by_cases h0:x0=y0 <;> by_cases h1:x1=y1 <;> by_cases h2:x2=y2 <;> by_cases h3:x3=y3 <;> simp[h,h0,h1,h2,h3]
theorem Qom(a b:Um)(ha:a.length=5)(hb:b.length=5)(w:World):(Op.equal 124 (.agg (a.map (Value.int .i64)).toArray) (.agg (b.map (Value.int .i64)).toArray)).run prog w=.ok (decide (a=b)) w:=by
 match a,ha,b,hb with
 | [x,x0,x1,x2,x3],_,[y,y0,y1,y2,y3],_=>exact Qhk 9997 x x0 x1 x2 x3 y y0 y1 y2 y3 w
noncomputable def ti124:TI prog:={ GB (ks:=[1,4]) (ag:=[false,true]) 124 isAgg124 sizeOf124 underlying124 zeroValue124 typeInfo124 40 rfl ⟨sizeOf3,sizeOf122,trivial⟩ ⟨isAgg3,isAgg122,trivial⟩ rfl with eqn:=some 5,heq:=λk h=>by injection h with h;subst h;exact⟨eqGuardType124,Qom⟩ }
noncomputable def ti126:TI prog:=GB (ks:=[5,1,1]) (ag:=[true,false,false]) 126 isAgg126 sizeOf126 underlying126 zeroValue126 typeInfo126 72 rfl ⟨sizeOf124,sizeOf34,sizeOf3,trivial⟩ ⟨isAgg124,isAgg34,isAgg3,trivial⟩ rfl
noncomputable def ti158:TI prog:=GB (ks:=[1,1,1]) (ag:=[false,false,false]) 158 isAgg158 sizeOf158 underlying158 zeroValue158 typeInfo158 40 rfl ⟨sizeOf3,sizeOf3,sizeOf54,trivial⟩ ⟨isAgg3,isAgg3,isAgg54,trivial⟩ rfl
noncomputable def ti169:TI prog:=O7 169 isAgg169 sizeOf169 underlying169 zeroValue169 typeInfo169 24 rfl
noncomputable def ti171:TI prog:=O7 171 isAgg171 sizeOf171 underlying171 zeroValue171 typeInfo171 24 rfl
noncomputable def ti172:TI prog:=O7 172 isAgg172 sizeOf172 underlying172 zeroValue172 typeInfo172 24 rfl
noncomputable def ti174:TI prog:=GB (ks:=[1,1,4,4]) (ag:=[false,false,true,true]) 174 isAgg174 sizeOf174 underlying174 zeroValue174 typeInfo174 176 rfl ⟨sizeOf171,sizeOf172,sizeOf61,sizeOf61,trivial⟩ ⟨isAgg171,isAgg172,isAgg61,isAgg61,trivial⟩ rfl
noncomputable def ti175:TI prog:=O7 175 isAgg175 sizeOf175 underlying175 zeroValue175 typeInfo175 24 rfl
noncomputable def ti176:TI prog:=O7 176 isAgg176 sizeOf176 underlying176 zeroValue176 typeInfo176 24 rfl
noncomputable def ti178:TI prog:=GB (ks:=[10,1,1,1]) (ag:=[true,false,false,false]) 178 isAgg178 sizeOf178 underlying178 zeroValue178 typeInfo178 232 rfl ⟨sizeOf174,sizeOf175,sizeOf3,sizeOf176,trivial⟩ ⟨isAgg174,isAgg175,isAgg3,isAgg176,trivial⟩ rfl
noncomputable def ti179:TI prog:=tiA 179 isAgg179 sizeOf179 underlying179 zeroValue179 typeInfo179 1160 rfl sizeOf178
noncomputable def ti181:TI prog:=GB (ks:=[1,1,1,4,65]) (ag:=[false,false,false,true,true]) 181 isAgg181 sizeOf181 underlying181 zeroValue181 typeInfo181 1264 rfl ⟨sizeOf3,sizeOf3,sizeOf169,sizeOf61,sizeOf179,trivial⟩ ⟨isAgg3,isAgg3,isAgg169,isAgg61,isAgg179,trivial⟩ rfl
noncomputable def ti189:TI prog:=GB (ks:=[1,4,4]) (ag:=[false,true,true]) 189 isAgg189 sizeOf189 underlying189 zeroValue189 typeInfo189 152 rfl ⟨sizeOf34,sizeOf43,sizeOf43,trivial⟩ ⟨isAgg34,isAgg43,isAgg43,trivial⟩ rfl
noncomputable def ti190:TI prog:=O7 190 isAgg190 sizeOf190 underlying190 zeroValue190 typeInfo190 24 rfl
noncomputable def ti192:TI prog:=GB (ks:=[1,9,1,1]) (ag:=[false,true,false,false]) 192 isAgg192 sizeOf192 underlying192 zeroValue192 typeInfo192 192 rfl ⟨sizeOf4,sizeOf189,sizeOf190,sizeOf3,trivial⟩ ⟨isAgg4,isAgg189,isAgg190,isAgg3,trivial⟩ rfl
noncomputable def ti194:TI prog:=GB (ks:=[1]) (ag:=[false]) 194 isAgg194 sizeOf194 underlying194 zeroValue194 typeInfo194 24 rfl ⟨sizeOf54,trivial⟩ ⟨isAgg54,trivial⟩ rfl
noncomputable def ti196:TI prog:=GB (ks:=[12,1,1]) (ag:=[true,true,false]) 196 isAgg196 sizeOf196 underlying196 zeroValue196 typeInfo196 240 rfl ⟨sizeOf192,sizeOf194,sizeOf54,trivial⟩ ⟨isAgg192,isAgg194,isAgg54,trivial⟩ rfl
noncomputable def ti197:TI prog:=O7 197 isAgg197 sizeOf197 underlying197 zeroValue197 typeInfo197 24 rfl
noncomputable def ti199:TI prog:=GB (ks:=[12,1,1,1]) (ag:=[true,true,false,false]) 199 isAgg199 sizeOf199 underlying199 zeroValue199 typeInfo199 264 rfl ⟨sizeOf192,sizeOf194,sizeOf54,sizeOf197,trivial⟩ ⟨isAgg192,isAgg194,isAgg54,isAgg197,trivial⟩ rfl
noncomputable def ti201:TI prog:=GB (ks:=[12,1,1]) (ag:=[true,true,false]) 201 isAgg201 sizeOf201 underlying201 zeroValue201 typeInfo201 240 rfl ⟨sizeOf192,sizeOf194,sizeOf54,trivial⟩ ⟨isAgg192,isAgg194,isAgg54,trivial⟩ rfl
noncomputable def ti203:TI prog:=GB (ks:=[12,1,1]) (ag:=[true,true,false]) 203 isAgg203 sizeOf203 underlying203 zeroValue203 typeInfo203 240 rfl ⟨sizeOf192,sizeOf194,sizeOf54,trivial⟩ ⟨isAgg192,isAgg194,isAgg54,trivial⟩ rfl
noncomputable def ti205:TI prog:=GB (ks:=[12,1,1]) (ag:=[true,true,false]) 205 isAgg205 sizeOf205 underlying205 zeroValue205 typeInfo205 240 rfl ⟨sizeOf192,sizeOf194,sizeOf66,trivial⟩ ⟨isAgg192,isAgg194,isAgg66,trivial⟩ rfl
noncomputable def ti215:TI prog:=O7 215 isAgg215 sizeOf215 underlying215 zeroValue215 typeInfo215 24 rfl
noncomputable def ti231:TI prog:=O7 231 isAgg231 sizeOf231 underlying231 zeroValue231 typeInfo231 8 rfl
noncomputable def ti234:TI prog:=O7 234 isAgg234 sizeOf234 underlying234 zeroValue234 typeInfo234 8 rfl
noncomputable def ti264:TI prog:=tiA 264 isAgg264 sizeOf264 underlying264 zeroValue264 typeInfo264 176 rfl sizeOf41
theorem Qbz(em:Bool)(n:Nat)(v:Int)(w:World):(Instr.checkKey em (n+1) 3 (.int .i64 v)).run prog w=.ok () w:=by
 rw[Instr.checkKey];simp[runUnderlying3]
theorem xO(em:Bool)(n:Nat)(a b c:Int)(w:World):(Instr.checkKey em (n+1+1) 101 (.agg #[.int .i64 a,.int .i64 b,.int .i64 c])).run prog w=.ok () w:=by
 rw[Instr.checkKey];simp[runUnderlying101];rw[show List.range' 0 3=[0,1,2] from rfl];simp[Go.part,isAgg3,sizeOf3,Qbz]
theorem FW(em:Bool)(ks:Um)(hk:ks.length=3)(w:World):(Instr.checkKey em 10000 101 (An ks)).run prog w=.ok () w:=by
 match ks,hk with
 | [a,b,c],_=>exact xO em 9998 a b c w
theorem Qix:MapT prog 271 101 3 (.int .i64 0):=⟨runUnderlying271,⟨_,runUnderlying101,λ_ _=>rfl⟩,FW,λx y hx hy w=>jH x y hx hy w,zeroValue3,rfl⟩
noncomputable def ti271:TI prog:={ O7 271 isAgg271 sizeOf271 underlying271 zeroValue271 typeInfo271 8 rfl with md:=some (.int .i64 0),hmd:=λd h=>by injection h with h;subst h;exact⟨101,3,Qix⟩ }
theorem Qiy:MapT prog 272 101 4 (.bool false):=⟨runUnderlying272,⟨_,runUnderlying101,λ_ _=>rfl⟩,FW,λx y hx hy w=>jH x y hx hy w,zeroValue4,rfl⟩
noncomputable def ti272:TI prog:={ O7 272 isAgg272 sizeOf272 underlying272 zeroValue272 typeInfo272 8 rfl with md:=some (.bool false),hmd:=λd h=>by injection h with h;subst h;exact⟨101,4,Qiy⟩ }
noncomputable def ti285:TI prog:=GB (ks:=[5,1,1,1,1]) (ag:=[true,false,false,false,false]) 285 isAgg285 sizeOf285 underlying285 zeroValue285 typeInfo285 104 rfl ⟨sizeOf124,sizeOf171,sizeOf3,sizeOf176,sizeOf4,trivial⟩ ⟨isAgg124,isAgg171,isAgg3,isAgg176,isAgg4,trivial⟩ rfl
noncomputable def ti291:TI prog:=GB (ks:=[7,1,1,9]) (ag:=[true,false,false,true]) 291 isAgg291 sizeOf291 underlying291 zeroValue291 typeInfo291 232 rfl ⟨sizeOf126,sizeOf4,sizeOf4,sizeOf189,trivial⟩ ⟨isAgg126,isAgg4,isAgg4,isAgg189,trivial⟩ rfl
noncomputable def ti308:TI prog:=tiA 308 isAgg308 sizeOf308 underlying308 zeroValue308 typeInfo308 72 rfl sizeOf33
noncomputable def ti320:TI prog:=O7 320 isAgg320 sizeOf320 underlying320 zeroValue320 typeInfo320 24 rfl
noncomputable def ti322:TI prog:=O7 322 isAgg322 sizeOf322 underlying322 zeroValue322 typeInfo322 24 rfl
noncomputable def ti339:TI prog:=GB (ks:=[1,1,4]) (ag:=[false,false,true]) 339 isAgg339 sizeOf339 underlying339 zeroValue339 typeInfo339 128 rfl ⟨sizeOf171,sizeOf171,sizeOf39,trivial⟩ ⟨isAgg171,isAgg171,isAgg39,trivial⟩ rfl
noncomputable def ti341:TI prog:=GB (ks:=[6,1]) (ag:=[true,false]) 341 isAgg341 sizeOf341 underlying341 zeroValue341 typeInfo341 136 rfl ⟨sizeOf339,sizeOf3,trivial⟩ ⟨isAgg339,isAgg3,trivial⟩ rfl
noncomputable def ti343:TI prog:=O7 343 isAgg343 sizeOf343 underlying343 zeroValue343 typeInfo343 24 rfl
noncomputable def ti347:TI prog:=tiA 347 isAgg347 sizeOf347 underlying347 zeroValue347 typeInfo347 272 rfl sizeOf341
noncomputable def ti351:TI prog:=O7 351 isAgg351 sizeOf351 underlying351 zeroValue351 typeInfo351 24 rfl
noncomputable def ti355:TI prog:=GB (ks:=[1]) (ag:=[false]) 355 isAgg355 sizeOf355 underlying355 zeroValue355 typeInfo355 24 rfl ⟨sizeOf322,trivial⟩ ⟨isAgg322,trivial⟩ rfl
noncomputable def ti379:TI prog:=O7 379 isAgg379 sizeOf379 underlying379 zeroValue379 typeInfo379 24 rfl
noncomputable def ti380:TI prog:=O7 380 isAgg380 sizeOf380 underlying380 zeroValue380 typeInfo380 24 rfl
noncomputable def tt:TT prog:=(.nd (.nd (.nd (.nd (.nd (.nd (.nd .nil ti3 .nil) ti4 .nil) ti5 (.nd .nil ti9 .nil)) ti22 (.nd (.nd (.nd .nil ti23 .nil) ti26 .nil) ti29 (.nd .nil ti31 .nil))) ti33 (.nd (.nd (.nd (.nd .nil ti34 .nil) ti35 .nil) ti37 (.nd .nil ti39 .nil)) ti41 (.nd (.nd (.nd .nil ti43 .nil) ti45 .nil) ti52 (.nd .nil ti54 .nil)))) ti55 (.nd (.nd (.nd (.nd (.nd .nil ti57 .nil) ti59 .nil) ti61 (.nd .nil ti66 .nil)) ti68 (.nd (.nd (.nd .nil ti81 .nil) ti82 .nil) ti83 (.nd .nil ti84 .nil))) ti85 (.nd (.nd (.nd (.nd .nil ti86 .nil) ti88 .nil) ti101 (.nd .nil ti105 .nil)) ti106 (.nd (.nd (.nd .nil ti111 .nil) ti122 .nil) ti124 (.nd .nil ti126 .nil))))) ti158 (.nd (.nd (.nd (.nd (.nd (.nd .nil ti169 .nil) ti171 .nil) ti172 (.nd .nil ti174 .nil)) ti175 (.nd (.nd (.nd .nil ti176 .nil) ti178 .nil) ti179 (.nd .nil ti181 .nil))) ti189 (.nd (.nd (.nd (.nd .nil ti190 .nil) ti192 .nil) ti194 (.nd .nil ti196 .nil)) ti197 (.nd (.nd (.nd .nil ti199 .nil) ti201 .nil) ti203 (.nd .nil ti205 .nil)))) ti215 (.nd (.nd (.nd (.nd (.nd .nil ti231 .nil) ti234 .nil) ti264 (.nd .nil ti271 .nil)) ti272 (.nd (.nd (.nd .nil ti285 .nil) ti291 .nil) ti308 (.nd .nil ti320 .nil))) ti322 (.nd (.nd (.nd (.nd .nil ti339 .nil) ti341 .nil) ti343 (.nd .nil ti347 .nil)) ti351 (.nd (.nd .nil ti355 .nil) ti379 (.nd .nil ti380 .nil))))))
instance:Mo prog:=⟨rfl⟩
theorem Ud{n : Nat}{Q : Exit -> Sg -> List OB -> Prop}{L L' : Sg}{B B' : List OB}{it it' : List It}{as0 : List Qv}{ob : List Prop}(hs : List (H Tryz.prog))(h : (match run tt n 100000 it L B hs [] []with
 |some (it, L, B, q, ob) => (match AE ob with
  |some ob => some (it, L, B, q.map (·.1), q.map (·.2), ob)
  |none => none)
 |none => none) = some (it', L', B', as0, as0, ob)) (k : AK Tryz.prog n Q it' L' B') (ho : U3 ob := by exact trivial) : AK Tryz.prog n Q it L B := go tt hs h ho k
theorem Ue{n : Nat}{Q : Exit -> Sg -> List OB -> Prop}{L L' : Sg}{B B' : List OB}{it it' : List It}{as0 : List Qv}{ob : List Prop}(hs : List (H Tryz.prog))(h : (match run tt n 100000 it L B hs [] []with
 |some (it, L, B, q, ob) => (match AE ob with
  |some ob => some (it, L, B, q.map (·.1), q.map (·.2), ob)
  |none => none)
 |none => none) = some (it', L', B', as0, as0, ob)) (k : AK Tryz.prog n Q it' L' B') (ho : U3 ob := by simp[U3];omega) : AK Tryz.prog n Q it L B := go tt hs h ho k
theorem Ug {n : Nat} {f : FuncId} {fn : Func} {c : Code} {args res us : List TV} {as0 : List Qv} {ob : List Prop} (hf : Tryz.prog.funcs[f]? = some fn) (hh : (fn.body, fn.ntmps, (fn.name == "runtime.NumGoroutine"), Nat.ble args.length n) = (some c, n, false, true)) (hs : List (H Tryz.prog))
 (h : wE tt n c fn.results.toList args hs = some (us, as0, as0, ob)) (he : us = res := by exact rfl) (ho : U3 ob := by exact trivial) : AG Tryz.prog f args res := w tt hf hh hs h he ho
theorem Uf{n : Nat}{L : Sg}{B : List OB}{fn : Func}{res us : List TV}{it : List It}{as0 : List Qv}{ob : List Prop}(hs : List (H Tryz.prog))(h : enE tt n fn.results.toList it L B hs = some (us, as0, as0, ob))(he : us = res := by exact rfl)(ho : U3 ob := by exact trivial) : AK Tryz.prog n (RQ Tryz.prog fn n 0 λu B => u = res /\ B = []) it L B := en tt hs h he ho
theorem Uh{n : Nat}{L : Sg}{B : List OB}{fn : Func}{k : Nat}{res : List TV}{Bout : List OB}{it : List It}{as0 : List Qv}{ob : List Prop}(ps is : List Nat)(hs : List (H Tryz.prog))(h : edE tt n k fn.results.toList it L B hs res Bout ps is = some (as0, as0, ob))(ho : U3 ob := by exact trivial) : AK Tryz.prog n (RQ Tryz.prog fn n k λu B => u = res /\ B = Bout) it L B := ed tt ps is hs h ho
theorem Ui{n : Nat}{Q : Exit -> Sg -> List OB -> Prop}{L : Sg}{B : List OB}{S : Type}{c : Code}{r : List It}{L1 : Sg}(k : Nat)(st : Sg -> S -> Sg)(bs : S -> List OB)(μ : S -> Nat)(I : S -> Prop)(s0 : S)(h0 : I s0)(hL : prn (kZ c []) L = some L1){as0 : List Qv}(hs : two (dV none L B (st L1 s0) (bs s0)) = some (as0, as0))
 (round : ∀s, I s -> AK Tryz.prog n Q (.code c :: .rnd (some k) (λL B => ∃s', μ s' < μ s /\ I s' /\ L = st L1 s' /\ B = bs s') :: r) (st L1 s) (bs s)) (hk : ∀s, I s -> (bs s).length = k := by exact λ_ _ => rfl) : AK Tryz.prog n Q (.code (.loop c) :: r) L B := lp k st bs μ I s0 h0 hL hk hs round
abbrev Uj(f : Nat)(a r : List TV) : Prop := AG Tryz.prog f a r
end Orr
namespace Orr
open Go Go.Proofs Tryz
set_option maxRecDepth 10000
def lm(l:Uo):Us:=l.map λ(x:Nat)=>[.int .u32 (x:Int)]
abbrev lr(l:Uo):TV:=.one (.row (lm l))
theorem U7(l:Uo):(lm l).length=l.length:=by simp[lm]
theorem G0{l:Uo}{i x:Nat}(h:l[i]? = some x):(lm l)[i]? = some [.int .u32 (x:Int)]:=by simp[lm,h]
def vM:Uo->Uo
 | []=>[]
 |
  x::l=>match vM l with
  | []=>if x=0 then []else [x]
  |r=>x::r
theorem Qqx{l:Uo}:vM l=[]↔∀x∈l,x=0:=by
 induction l with
 |nil=>simp[vM]
 |
  cons x l ih =>
  simp only[vM]
  split
  ·rename_i e;have h1:=ih.1 e;by_cases h:x=0
   ·simp[h];exact h1
   ·simp[h]
  ·rename_i r hne;simp only[reduceCtorEq,Qm,forall_eq_or_imp,false_iff,not_and];exact λ_ h=>hne (ih.2 h)
theorem GL:∀{l:Uo} {n:Nat},n<=l.length->(∀j,n<=j->j<l.length->l[j]? = some 0)->(n=0\/∃x,l[n-1]? = some x/\x≠0)->l.take n=vM l
 | [],n,h,_,_=>by simp at h;subst h;rfl
 |
  x::l,0,h,hz,_=>by
  rw[Vu];refine(Qqx.2 λy hy=>?_).symm;obtain⟨j,hj⟩:=Zk.1 hy;have:=hz j (Qh _) (Qf.1 hj).1;rw[hj]at this;injection this
 |
  x::l,n+1,h,hz,ht=>by
  simp only[Q5,Nat.add_le_add_iff_right]at h;have hz':∀j,n<=j->j<l.length->l[j]? = some 0:=λj h1 h2=>by simpa using hz (j+1) (by omega) (by simpa using h2)
  cases n with
  |
   zero =>
   have e:vM l=[]:=(GL (n:=0) h hz' (.inl rfl)).symm;rcases ht with h|⟨y,h1,h2⟩
   ·omega
   ·simp at h1;subst h1;simp[vM,e,h2]
  |
   succ n =>
   have ih:=GL (n:=n+1) h hz' (.inr (by rcases ht with h|⟨y,h1,h2⟩;(· omega);exact⟨y,by simpa using h1,h2⟩));simp only[Ve,vM];rw[<-ih];cases hl:l with
   |nil=>rw[hl]at h;simp at h
   |cons y l'=>simp[Ve]
theorem Qy7(l:Uo):Uj 181 [lr l] [lr (vM l)]:=by
 refine Fv func181 rfl (ln 0 rfl rfl λhl=>?_);rw[U7]at hl;refine Ud [] rfl ?_;refine Ui (S:=Nat) 0 (λL1 n=>(3,.v (.oi n))::L1) (λ_=>[]) id (λn=>n<=l.length/\∀j,n<=j->j<l.length->l[j]? = some 0) (lm l).length ⟨by rw[U7];exact Ql _,λj h1 h2=>by rw[U7]at h1;omega⟩ rfl rfl λn ⟨h1,h2⟩=>?_
 cases n with
 |zero=>exact Uf [.f (by simp),.f rfl,.i 0] rfl (by rw[<-GL h1 h2 (.inl rfl)];simp[lm]) (by simp[U3,Hu])
 |
  succ n =>
  obtain⟨x,hx⟩:=gxE (l:=l) (i:=n) (by omega);by_cases h0:x=0
  ·refine go tt [.t (by simp),.r 11 (v:=.oi n) (by simp),.x (G0 hx),.t (by simp[h0]),.r 17 (v:=.oi n) (by simp)] rfl (by simp[U3,Hu];omega) ?_;exact rd n (by simp) ⟨by omega,λj h3 h4=>by
    rcases Vk h3 with rfl|h3
    ·rw[hx,h0]
    ·exact h2 j h3 h4⟩ rfl
  ·exact Uf [.t (by simp),.r 11 (v:=.oi n) (by simp),.x (G0 hx),.f (by simp[h0]),.i (n+1)] rfl (by rw[<-GL h1 h2 (.inr ⟨x,hx,h0⟩)];simp[lm]) (by simp[U3,Hu,U7] <;> omega)
def Sm(l:Uo):Prop:=∀x∈l,x<4294967296
theorem vN:∀l:Uo,Cut l (vM l).length/\l.take (vM l).length=vM l
 | []=>⟨⟨Ql _,λj _ h=>by simp at h,λh=>by simp[vM]at h⟩,rfl⟩
 |
  x::l=>by
  obtain⟨⟨h1,h2,h3⟩,h4⟩:=vN l;simp only[vM]
  split
  ·rename_i e;rw[e]at h2 h3;by_cases h:x=0
   ·rw[if_pos h];refine⟨⟨Qh _,λj _ hj=>?_,λh=>by simp at h⟩,rfl⟩;cases j with
    |zero=>simp[h]
    |succ j=>simpa using h2 j (Qh _) (by simpa using hj)
   ·rw[if_neg h];refine⟨⟨by simp,λj h5 hj=>?_,λ_=>⟨x,rfl,h⟩⟩,rfl⟩;cases j with
    |zero=>simp at h5
    |succ j=>simpa using h2 j (Qh _) (by simpa using hj)
  ·rename_i r hne;refine⟨⟨by simp[h1],λj h5 hj=>?_,λ_=>?_⟩,by simp[h4]⟩
   ·cases j with
    |zero=>simp at h5
    |succ j=>simpa using h2 j (by simpa using h5) (by simpa using hj)
   ·have hp:0<(vM l).length:=by
     cases e:vM l with
     |nil=>exact absurd e hne
     |cons=>simp
    obtain⟨y,h5,h6⟩:=h3 hp;refine⟨y,?_,h6⟩;rw[Q5,show(vM l).length+1-1=((vM l).length-1)+1 from by omega];simpa using h5
theorem zA{l:Uo}(h:Sm l):vM l=Gb (val l):=by
 obtain⟨h1,h2⟩:=vN l;refine Qiq ?_ ?_
 ·rw[<-h2];exact Qod h1 h
 ·rw[<-h2];exact Qoe h1
theorem Ls(x:Nat):Sm (Gb x):=(Do x).1
theorem Rm{x k:Nat}(h:sz x<=k):32*(Gb x).length<=k+31:=by
 have:=Qpc (Do x);rw[G9]at this;omega
theorem VL{l:Uo}(h:Sm l):Uj 181 [lr l] [lr (Gb (val l))]:=zA h ▸ Qy7 l
theorem Qis(l:Uo):∀c∈lm l,c.length=1:=λc hc=>by
 obtain⟨x,_,rfl⟩:=Za.1 hc;rfl
theorem KU{l:Uo}(h:Sm l)(hs:sz (val l)<=4294967296):Uj 135 [lr l] [lr (Gb (val l))] :=
 Ug func135 rfl [.k (VL h),.s (Qis (Gb (val l)))] rfl rfl (by have:=Rm hs;simp[U3,Hu,U7];omega)
theorem HA{a:Uo}(ha:Sm a):∃p,Uj 181 [lr a] [lr p]/\kR p/\val p=val a/\p.length<=a.length/\p=Gb (val a) :=
 ⟨_,VL ha,Do _,G9 _,by rw[<-zA ha];exact(vN a).1.1,rfl⟩
theorem Qeh{a b:Uo}(ha:Sm a)(hb:Sm b):Uj 155 [lr a,lr b] [.oi (ZT (val a) (val b))]:=by
 refine Fv func155 rfl (ln 0 rfl rfl λhl=>ln 1 rfl rfl λhl'=>?_);rw[U7]at hl hl';obtain⟨p,ca,np,vp,lp',_⟩:=HA ha;obtain⟨q,cb,nq,vq,lq,_⟩:=HA hb;rw[<-vp,<-vq];by_cases h:p.length=q.length
 ·refine go tt [.k ca,.k cb,.f (by simp[U7,h])] rfl (by simp[U3,Hu,U7] <;> omega) ?_;refine Ui (S:=Int) 0 (λL1 i=>(5,.v (.oi i))::L1) (λ_=>[]) (λi=>(i+1).toNat) (λi=>-1<=i/\i<p.length/\p.drop (i+1).toNat=q.drop (i+1).toNat) (((lm p).length:Int)-1) ⟨by omega,by simp[U7];omega,by simp[U7,h]⟩ rfl rfl λi ⟨h1,h2,h3⟩=>?_
  rcases Kd i 0 with hi|hi
  ·obtain rfl:i=-1:=by omega
   exact Uf [.f (by decide)] rfl (by rw[eG];exact congrArg val (by simpa using h3)) trivial
  ·obtain⟨k,rfl⟩:=Kk hi;have e:((k:Int)+1).toNat=k+1:=by omega
   rw[e]at h3;obtain⟨x,hx⟩:=gxE (l:=p) (i:=k) (by omega);obtain⟨y,hy⟩:=gxE (l:=q) (i:=k) (by omega);rcases Kn x y with hxy|rfl|hxy
   ·exact Uf [.t (by simp),.x (G0 hx),.x (G0 hy),.t (by simp;omega)] rfl (by rw[MG (Qaq np.1 h3 hx hy hxy)]) (by simp[U3,Hu,U7] <;> omega)
   ·refine go tt [.t (by simp),.x (G0 hx),.x (G0 hy),.f (by simp),.x (G0 hx),.x (G0 hy),.f (by simp)] rfl (by simp[U3,Hu,U7] <;> omega) ?_;exact rd ((k:Int)-1) (by omega) ⟨by omega,by omega,by rw[show((k:Int)-1+1).toNat=k from by omega];exact Qb8 h3 hx hy⟩ rfl
   ·exact Uf [.t (by simp),.x (G0 hx),.x (G0 hy),.f (by simp;omega),.x (G0 hx),.x (G0 hy),.t (by simp;omega)] rfl (by rw[MF (Qaq nq.1 h3.symm hy hx hxy)]) (by simp[U3,Hu,U7] <;> omega)
 ·by_cases h2:p.length<q.length
  ·exact Uf [.k ca,.k cb,.t (by simp[U7];omega),.t (by simp[U7];omega)] rfl (by rw[MG (D5 np nq h2)]) (by simp[U3,Hu])
  ·exact Uf [.k ca,.k cb,.t (by simp[U7];omega),.f (by simp[U7];omega)] rfl (by rw[MF (D5 nq np (by omega))]) (by simp[U3,Hu])
theorem WR(m:Nat):List.replicate m [LV.int .u32 0]=lm (List.replicate m 0):=by simp[lm]
theorem Cq(l:Uo)(i x:Nat):(lm l).set i [.int .u32 (x:Int)]=lm (l.set i x):=by simp[lm,Vs]
theorem Dy{a b:Int}(h:a=b):TV.one (LV.int .u64 a)=.one (.int .u64 b):=h ▸ rfl
theorem El{a b:Int}(h:a=b):TV.one (LV.int .u32 a)=.one (.int .u32 b):=h ▸ rfl
theorem eI{a b:Int}(h:a=b):TV.one (LV.int .i64 a)=.oi b:=h ▸ rfl
theorem zO(z:Int):IntKind.u32.wrap z=z % 4294967296:=by simp[IntKind.wrap,IntKind.bits,IntKind.signed]
theorem w64(z:Int):IntKind.u64.wrap z=z % 18446744073709551616:=by simp[IntKind.wrap,IntKind.bits,IntKind.signed]
theorem Qrm{a b:Uo}(ha:Sm a)(hb:Sm b)(h1:sz (val a)<=4294967296)(h2:sz (val b)<=4294967296):Uj 225 [lr a,lr b] [lr (Gb (val a+val b))]:=by
 refine Fv func225 rfl ?_;obtain⟨p,ca,np,vp,_,ep⟩:=HA ha;obtain⟨q,cb,nq,vq,_,eq⟩:=HA hb;have lp':=Rm h1;have lq:=Rm h2;rw[<-ep]at lp';rw[<-eq]at lq;rw[<-vp,<-vq];refine Ud [.k ca,.k cb] rfl ?_;refine ct 1 (S:=Uo×Uo) (λs=>[(0,.v (lr s.1)),(1,.v (lr s.2))]) (λ_=>[]) (λs=>kR s.1/\kR s.2/\32*s.1.length<=4294967327/\s.2.length<=s.1.length/\val s.1+val s.2=val p+val q) rfl ?_ ?_
 ·by_cases h:p.length<q.length
  ·exact go tt [.t (by simp[U7];omega)] rfl trivial (rc (q,p) ⟨nq,np,lq,Yk h,Ju _ _⟩ rfl)
  ·exact go tt [.f (by simp[U7];omega)] rfl trivial (rc (p,q) ⟨np,nq,lp',J8 h,rfl⟩ rfl)
 ·intro⟨p',q'⟩ ⟨np,nq,hp,hq,e⟩;dsimp only at np nq hp hq e;rw[<-e];clear ca cb e vp vq ep eq;refine go tt [.i ((lm p').length+1),.i ((lm p').length+1)] rfl (by simp[U3,Hu,U7] <;> omega) ?_;rw[WR];refine lp (S:=Nat×Uo×Nat) 1 (λL1 s=>(27,.v (.oi (s.1:Int)))::(6,.v (.one (.int .u64 (s.2.2:Int))))::L1) (λs=>[.row false 111 1 (lm s.2.1)]) (λs=>p'.length-s.1)
   (λs=>s.1<=p'.length/\s.2.1.length=p'.length+1/\Sm s.2.1/\s.2.2<=1/\val (s.2.1.take s.1)+s.2.2*4294967296^s.1=val (p'.take s.1)+val (q'.take s.1)) (0,List.replicate ((lm p').length+1) 0,0)
   ⟨Qh _,by simp[U7],λx hx=>by rw[Zx hx];decide,Qh _,by simp[val]⟩ rfl (λ_ _=>rfl) rfl λ⟨i,o,c⟩ ⟨j1,j2,j3,j4,j5⟩=>?_
  dsimp only at j1 j2 j3 j4 j5 ⊢;by_cases hi:i<p'.length
  ·obtain⟨x,hx⟩:=gxE (l:=p') (i:=i) hi;have xb:=np.1 x (Qc hx);have fin:∀y s,(q'[i]? = some y\/q'.length<=i/\y=0)->y<4294967296->s=x+c+y->p'.length-(i+1)<p'.length-i/\i+1<=p'.length/\(o.set i (s % 4294967296)).length=p'.length+1/\Sm (o.set i (s % 4294967296))/\s / 4294967296<=1 /\
    val ((o.set i (s % 4294967296)).take (i+1))+s / 4294967296*4294967296^(i+1)=val (p'.take (i+1))+val (q'.take (i+1)):=λy s hy hyb hs =>
    ⟨by omega,hi,by simp[j2],Bs j3 i _ (by omega),by omega,kM (by omega) hx hy j5 hs⟩
   by_cases hi2:i<q'.length
   ·obtain⟨y,hy⟩:=gxE (l:=q') (i:=i) hi2;have yb:=nq.1 y (Qc hy);refine go tt [.t (by simp[U7];omega),.x (G0 hx),.t (by simp[U7];omega),.x (G0 hy),.w 2,.r 50 (v:=.one (.int .u32 (((x+c+y) % 4294967296:Nat):Int))) (by simp[IntKind.wrap,IntKind.bits,IntKind.signed]),.i 32,.r 52 (v:=.one (.int .u64 (((x+c+y) / 4294967296:Nat):Int))) (by simp),.i i] rfl (by simp[U3,Hu,U7,IntKind.bits] <;> omega) ?_;rw[Cq];exact rd (i+1,o.set i ((x+c+y) % 4294967296),(x+c+y) / 4294967296) (fin y _ (.inl hy) yb rfl).1 (fin y _ (.inl hy) yb rfl).2 rfl
   ·refine go tt [.t (by simp[U7];omega),.x (G0 hx),.f (by simp[U7];omega),.w 0,.r 50 (v:=.one (.int .u32 (((x+c+0) % 4294967296:Nat):Int))) (by simp[IntKind.wrap,IntKind.bits,IntKind.signed]),.i 32,.r 52 (v:=.one (.int .u64 (((x+c+0) / 4294967296:Nat):Int))) (by simp),.i i] rfl (by simp[U3,Hu,U7,IntKind.bits] <;> omega) ?_;rw[Cq];exact rd (i+1,o.set i ((x+c+0) % 4294967296),(x+c+0) / 4294967296) (fin 0 _ (.inr ⟨by omega,rfl⟩) (by decide) rfl).1 (fin 0 _ (.inr ⟨by omega,rfl⟩) (by decide) rfl).2 rfl
  ·obtain rfl:i=p'.length:=by omega
   refine go tt [.f (by simp[U7]),.w 0,.r 59 (v:=.one (.int .u32 (c:Int))) (by simp[IntKind.wrap,IntKind.bits,IntKind.signed];omega),.i (lm p').length] rfl (by simp[U3,Hu,U7,j2]) ?_;rw[U7,Cq];have e:val (o.set p'.length c)=val p'+val q':=by
    have h1:=ZK o p'.length c (by omega);rw[Qn (by simp;omega)]at h1;rw[Qn (Ql _),Qn hq]at j5;rw[h1,<-j5,Zq]
   rw[<-e];exact Uf [.k (VL (Bs j3 _ c (by omega)))] rfl
theorem wB{x y:Nat}:ZT x y<0↔x<y:=by unfold ZT;split <;> (try split) <;> omega
theorem Qrq{a b:Uo}(ha:Sm a)(hb:Sm b)(h1:sz (val a)<=4294967296):Uj 226 [lr a,lr b] (if val b<=val a then [lr (Gb (val a-val b)),.one (.bool true)]else [lr [],.one (.bool false)]):=by
 refine Fv func226 rfl ?_;obtain⟨p,ca,np,vp,_,ep⟩:=HA ha;obtain⟨q,cb,nq,vq,_,_⟩:=HA hb;have hp:=Rm h1;rw[<-ep]at hp;rw[<-vp,<-vq];have cc:=Qeh np.1 nq.1;by_cases hlt:val p<val q
 ·rw[if_neg (by omega)];exact Uf [.k ca,.k cb,.k cc,.t (by simpa using wB.2 hlt)] rfl
 rw[if_pos (by omega)];have hq:q.length<=p.length:=J8 λh=>hlt (D5 np nq h)
 refine go tt [.k ca,.k cb,.k cc,.f (by have:=mt wB.1 hlt;simpa using this),.i (lm p).length,.i (lm p).length] rfl (by simp[U3,Hu,U7] <;> omega) ?_;rw[WR];refine lp (S:=Nat×Uo×Nat) 1 (λL1 s=>(24,.v (.oi (s.1:Int)))::(7,.v (.one (.int .u64 (s.2.2:Int))))::L1) (λs=>[.row false 111 1 (lm s.2.1)]) (λs=>p.length-s.1)
  (λs=>s.1<=p.length/\s.2.1.length=p.length/\Sm s.2.1/\s.2.2<=1/\val (s.2.1.take s.1)+val (q.take s.1)=val (p.take s.1)+s.2.2*4294967296^s.1) (0,List.replicate (lm p).length 0,0)
  ⟨Qh _,by simp[U7],λx hx=>by rw[Zx hx];decide,Qh _,by simp[val]⟩ rfl (λ_ _=>rfl) rfl λ⟨i,o,c⟩ ⟨j1,j2,j3,j4,j5⟩=>?_
 dsimp only at j1 j2 j3 j4 j5 ⊢;by_cases hi:i<p.length
 ·obtain⟨x,hx⟩:=gxE (l:=p) (i:=i) hi;have xb:=np.1 x (Qc hx);have fin:∀y s,(q[i]? = some y\/q.length<=i/\y=0)->y<4294967296->s=(x+18446744073709551616-c-y) % 18446744073709551616->p.length-(i+1)<p.length-i/\i+1<=p.length/\(o.set i (s % 4294967296)).length=p.length/\Sm (o.set i (s % 4294967296))/\s / 9223372036854775808<=1 /\
   val ((o.set i (s % 4294967296)).take (i+1))+val (q.take (i+1))=val (p.take (i+1))+s / 9223372036854775808*4294967296^(i+1):=λy s hy hyb hs=>by
   obtain⟨h1,h2⟩:=Qk6 (o:=o) (by omega) hx hy xb hyb j4 j5 hs;exact⟨by omega,hi,by simp[j2],Bs j3 i _ (by omega),h2,h1⟩
  by_cases hi2:i<q.length
  ·obtain⟨y,hy⟩:=gxE (l:=q) (i:=i) hi2;have yb:=nq.1 y (Qc hy);obtain⟨s,hs⟩:=nmE ((x+18446744073709551616-c-y) % 18446744073709551616);refine go tt [.t (by simp[U7];omega),.x (G0 hx),.w 1,.r 32 (Dy (b:=(((x+18446744073709551616-c) % 18446744073709551616:Nat):Int)) (by rw[w64];omega)),.t (by simp[U7];omega),.x (G0 hy),.w 1,.r 43 (Dy (b:=(s:Int)) (by rw[w64];omega)),.w 0,.r 47 (El (b:=((s % 4294967296:Nat):Int)) (by rw[zO];omega)),.i 63,.r 49 (Dy (b:=((s / 9223372036854775808:Nat):Int)) (by simp)),.i i] rfl (by simp[U3,Hu,U7,IntKind.bits] <;> omega) ?_;rw[Cq];exact rd (i+1,o.set i (s % 4294967296),s / 9223372036854775808) (fin y _ (.inl hy) yb hs).1 (fin y _ (.inl hy) yb hs).2 rfl
  ·obtain⟨s,hs⟩:=nmE ((x+18446744073709551616-c-0) % 18446744073709551616);have hf:=fin 0 _ (.inr ⟨by omega,rfl⟩) (by decide) hs;refine go tt [.t (by simp[U7];omega),.x (G0 hx),.w 1,.r 32 (Dy (b:=(s:Int)) (by rw[w64];omega)),.f (by simp[U7];omega),.w 0,.r 47 (El (b:=((s % 4294967296:Nat):Int)) (by rw[zO];omega)),.i 63,.r 49 (Dy (b:=((s / 9223372036854775808:Nat):Int)) (by simp)),.i i] rfl (by simp[U3,Hu,U7,IntKind.bits] <;> omega) ?_;rw[Cq];exact rd (i+1,o.set i (s % 4294967296),s / 9223372036854775808) hf.1 hf.2 rfl
 ·obtain rfl:i=p.length:=by omega
  have e:val o=val p-val q:=by
   rw[Qn (Nat.le_of_eq j2),Qn hq,Qn (Ql _)]at j5;have h1:=Bv o j3;rw[j2]at h1;rcases Nat.le_one_iff_eq_zero_or_eq_one.1 j4 with rfl|rfl <;> omega
  rw[<-e];exact Uf [.f (by simp[U7]),.k (VL j3)] rfl
theorem Qxn{a b:Uo}(ha:Sm a)(hb:Sm b)(h1:sz (val a)<=4294967296)(h2:sz (val b)<=4294967296):Uj 184 [lr a,lr b] [lr (Gb (val a*val b))]:=by
 refine Fv func184 rfl ?_;obtain⟨p,ca,np,vp,_,ep⟩:=HA ha;obtain⟨q,cb,nq,vq,_,eq⟩:=HA hb;have hp:=Rm h1;have hq:=Rm h2;rw[<-ep]at hp;rw[<-eq]at hq;rw[<-vp,<-vq];refine go tt [.k ca,.k cb,.i ((lm p).length+(lm q).length),.i ((lm p).length+(lm q).length)] rfl (by simp[U3,Hu,U7] <;> omega) ?_;rw[WR];refine lp (S:=Nat×Uo) 1 (λL1 s=>(24,.v (.oi (s.1:Int)))::L1) (λs=>[.row false 111 1 (lm s.2)]) (λs=>p.length-s.1)
  (λs=>s.1<=p.length/\s.2.length=p.length+q.length/\Sm s.2/\(∀j,s.1+q.length<=j->j<s.2.length->s.2[j]? = some 0)/\val s.2=val (p.take s.1)*val q) (0,List.replicate ((lm p).length+(lm q).length) 0)
  ⟨Qh _,by simp[U7],λx hx=>by rw[Zx hx];decide,λj _ hj=>by rw[Jz,if_pos (by simpa using hj)],by simp[val,TL]⟩ rfl (λ_ _=>rfl) rfl λ⟨i,o⟩ ⟨j1,j2,j3,j4,j5⟩=>?_
 dsimp only at j1 j2 j3 j4 j5 ⊢;by_cases hi:i<p.length
 ·obtain⟨x,hx⟩:=gxE (l:=p) (i:=i) hi;have xb:=np.1 x (Qc hx);refine Ud [.t (by simp[U7];omega),.x (G0 hx)] rfl ?_;refine lp (S:=Nat×Uo×Nat) 1 (λL1 s=>(31,.v (.oi (s.1:Int)))::(8,.v (.one (.int .u64 (s.2.2:Int))))::L1) (λs=>[.row false 111 1 (lm s.2.1)]) (λs=>q.length-s.1)
   (λs=>s.1<=q.length/\s.2.1.length=p.length+q.length/\Sm s.2.1/\(∀j,i+q.length<=j->j<s.2.1.length->s.2.1[j]? = some 0)/\s.2.2<4294967296/\val s.2.1+s.2.2*4294967296^(i+s.1)=val (p.take i)*val q+4294967296^i*x*val (q.take s.1)) (0,o,0)
   ⟨Qh _,j2,j3,j4,by simp,by simp[val,j5]⟩ rfl (λ_ _=>rfl) rfl λ⟨k,o',c⟩ ⟨k1,k2,k3,k4,k5,k6⟩=>?_
  dsimp only at k1 k2 k3 k4 k5 k6 ⊢;by_cases hk:k<q.length
  ·obtain⟨y,hy⟩:=gxE (l:=q) (i:=k) hk;have yb:=nq.1 y (Qc hy);obtain⟨z,hz⟩:=gxE (l:=o') (i:=i+k) (by omega);have zb:=k3 z (Qc hz);have hm:=JZ xb yb;have hm2:(x:Int)*(y:Int)=((x*y:Nat):Int):=by push_cast;rfl
   obtain⟨s,hs⟩:=nmE (x*y+z+c);refine go tt [.t (by simp[U7];omega),.x (G0 hy),.r 40 (Dy (b:=((x*y:Nat):Int)) (by push_cast;rfl)),.i (i+k),.x (G0 hz),.r 50 (Dy (b:=(s:Int)) (by omega)),.w 1,.r 56 (El (b:=((s % 4294967296:Nat):Int)) (by rw[zO];omega)),.i 32,.r 58 (Dy (b:=((s / 4294967296:Nat):Int)) (by simp)),.i (i+k)] rfl ?_ ?_
   ·simp[U3,Hu,U7,IntKind.bits] <;> omega
   ·rw[Cq];exact rd (k+1,o'.set (i+k) (s % 4294967296),s / 4294967296) (show q.length-(k+1)<q.length-k by omega) ⟨hk,by simp[k2],Bs k3 _ _ (by omega),λj h3 h4=>by
     rw[Yg (by omega)];exact k4 j h3 (by simpa using h4),(show s / 4294967296<4294967296 from by omega),Qi5 hz hy k6 hs⟩ rfl
  ·obtain rfl:k=q.length:=by omega
   by_cases hq0:0<q.length
   ·refine go tt [.f (by simp[U7]),.t (by simp[U7];omega),.w 1,.r 70 (El (b:=((c % 4294967296:Nat):Int)) (by rw[zO];omega)),.i (i+(lm q).length)] rfl (by simp[U3,Hu,U7,IntKind.bits] <;> omega) ?_;rw[Cq];refine rd (i+1,o'.set (i+(lm q).length) (c % 4294967296)) (show p.length-(i+1)<p.length-i by omega) ⟨hi,by simp[k2],Bs k3 _ _ (by omega),λj h3 h4=>?_,?_⟩ rfl
    ·rw[U7,List.getElem?_set_ne (by dsimp only at h3;omega)];exact k4 j (by dsimp only at h3;omega) (by simpa using h4)
    ·rw[U7];exact Qi4 (k4 _ (Ql _) (by omega)) hx k5 rfl k6
   ·have q0:q=[]:=Qj (by omega);refine go tt [.f (by simp[U7]),.f (by simp[U7,q0])] rfl (by simp[U3,Hu,U7,IntKind.bits] <;> omega) ?_;refine rd (i+1,o') (show p.length-(i+1)<p.length-i by omega) ⟨hi,k2,k3,λj h3 h4=>k4 j (by dsimp only at h3;omega) h4,?_⟩ rfl;have c0:c*4294967296^(i+q.length)=0/\val o'=0:=by
     subst q0;simp only[val,List.take_nil,Yz]at k6;omega
    rw[c0.2,q0];rfl
 ·obtain rfl:i=p.length:=by omega
  rw[Qn (Ql _)]at j5;rw[<-j5];exact Uf [.f (by simp[U7]),.k (VL j3)] rfl
theorem o64{k q:Nat}(hq:q<4294967296)(hb:4294967296*k+q<18446744073709551616):orI .u64 ((4294967296*k:Nat):Int) (q:Int)=((4294967296*k+q:Nat):Int):=by
 have e1:(BitVec.ofInt 64 ((4294967296*k:Nat):Int)).toNat=4294967296*k:=by rw[BitVec.toNat_ofInt];omega
 have e2:(BitVec.ofInt 64 (q:Int)).toNat=q:=by rw[BitVec.toNat_ofInt];omega
 show IntKind.u64.wrap ((BitVec.ofInt 64 ((4294967296*k:Nat):Int) ||| BitVec.ofInt 64 (q:Int)).toNat:Int)=_;rw[BitVec.toNat_or,e1,e2,Qvq hq,w64];omega
theorem oM{k p:Nat}(hp:p<4294967296)(hb:4294967296*k+p<18446744073709551616):orI .u64 (p:Int) ((4294967296*k:Nat):Int)=((4294967296*k+p:Nat):Int):=by
 have:=o64 hp hb;unfold orI at this ⊢;rw[BitVec.or_comm];exact this
theorem o32{s k p:Nat}(hp:p<2^s)(h1:p<4294967296)(h2:2^s*k<4294967296)(hb:p+2^s*k<4294967296):orI .u32 (p:Int) ((2^s*k:Nat):Int)=((p+2^s*k:Nat):Int):=by
 have e1:(BitVec.ofInt 32 ((2^s*k:Nat):Int)).toNat=2^s*k:=by rw[BitVec.toNat_ofInt];omega
 have e2:(BitVec.ofInt 32 (p:Int)).toNat=p:=by rw[BitVec.toNat_ofInt];omega
 have e3:p ||| 2^s*k=p+2^s*k:=by
  have:=Wq (i:=s) (b:=p) hp k;rw[Nat.or_comm,<-this,Ju]
 show IntKind.u32.wrap ((BitVec.ofInt 32 (p:Int) ||| BitVec.ofInt 32 ((2^s*k:Nat):Int)).toNat:Int)=_;rw[BitVec.toNat_or,e1,e2,e3,zO];omega
theorem Qxx{l:Uo}{v:Nat}(hl:Sm l)(hn:l.length<274877906944)(h0:0<v)(hv:v<4294967296):Uj 220 [lr l,.one (.int .u32 (v:Int))] [lr (Gb (val l / v)),.one (.int .u32 ((val l % v:Nat):Int))]:=by
 refine Fv func220 rfl ?_;refine go tt [.i (lm l).length,.i (lm l).length] rfl (by simp[U3,Hu,U7] <;> omega) ?_;rw[WR];refine lp (S:=Int×Uo×Nat) 1 (λL1 s=>(8,.v (.oi s.1))::(7,.v (.one (.int .u64 (s.2.2:Int))))::L1) (λs=>[.row false 111 1 (lm s.2.1)]) (λs=>(s.1+1).toNat)
  (λs=>-1<=s.1/\s.1<l.length/\s.2.1.length=l.length/\Sm s.2.1/\s.2.2<v/\val (l.drop (s.1+1).toNat)=v*val (s.2.1.drop (s.1+1).toNat)+s.2.2) (((lm l).length:Int)-1,List.replicate (lm l).length 0,0)
  ⟨by simp[U7];omega,by simp[U7];omega,by simp[U7],λx hx=>by rw[Zx hx];decide,h0,by simp[U7,val]⟩ rfl (λ_ _=>rfl) rfl λ⟨i,o,r⟩ ⟨j1,j2,j3,j4,j5,j6⟩=>?_
 dsimp only at j1 j2 j3 j4 j5 j6 ⊢;rcases Kd i 0 with hi|hi
 ·obtain rfl:i=-1:=by omega
  simp only[show((-1:Int)+1).toNat=0 from rfl,Xy]at j6;have e1:val l / v=val o:=by rw[j6,W9 h0,V2 j5,Xm]
  have e2:val l % v=r:=by rw[j6,Ua,Xu j5]
  rw[e1,e2];exact Uf [.f (by decide),.k (VL j4)] rfl rfl (by simp[U3,Hu,U7,IntKind.bits] <;> omega)
 ·obtain⟨k,rfl⟩:=Kk hi;have e:((k:Int)+1).toNat=k+1:=by omega
  rw[e]at j6;obtain⟨x,hx⟩:=gxE (l:=l) (i:=k) (by omega);have xb:=hl x (Qc hx);obtain⟨s,hs⟩:=nmE (r*4294967296+x);obtain⟨k1,k2,k3⟩:=Qjf hx xb (show k<o.length by omega) h0 j5 j6 hs;obtain⟨q,hq⟩:=nmE (s / v);obtain⟨u,hu⟩:=nmE (s % v);have hqi:(s:Int).tdiv v=(q:Int):=by rw[V6 (by omega),hq];rfl
  have hui:(s:Int).tmod v=(u:Int):=by rw[Y5 (by omega),hu];rfl
  rw[<-hq,<-hu]at k3;rw[<-hq]at k1;rw[<-hu]at k2;refine go tt [.t (by simp),.i 32,.r 21 (Dy (b:=((4294967296*r:Nat):Int)) (by omega)),.x (G0 hx),.r 27 (Dy (b:=(s:Int)) (by rw[o64 xb (by omega)];omega)),
   .r 33 (Dy (b:=(q:Int)) hqi),.w 0,.r 34 (El (b:=((q % 4294967296:Nat):Int)) (by rw[zO];omega)),.r 38 (Dy (b:=(u:Int)) hui),.i k] rfl (by simp[U3,Hu,U7,IntKind.bits,hqi] <;> omega) ?_
  rw[Cq];exact rd ((k:Int)-1,o.set k (q % 4294967296),u) (by dsimp only;omega) ⟨by dsimp only;omega,by dsimp only;omega,by simp[j3],Bs j4 _ _ (by omega),k2,by dsimp only;rw[show((k:Int)-1+1).toNat=k from by omega];exact k3⟩ rfl
theorem UQ{i:Nat}{s:ByteArray}(h:∀i,i<256->(s[i]?).map (·.toNat)=some (sz i))(hi:i<256):(s[i]?).map (·.toNat)=some (sz i):=h i hi
set_option maxRecDepth 100000 in
theorem lJ{x:Nat}(hx:x<4294967296):Uj 238 [.one (.int .u32 (x:Int))] [.oi (sz x:Int)]:=by
 refine Fv func238 rfl ?_;have h31:sz x<=32:=Nt.2 (by omega);by_cases h1:65536<=x
 ·have e1:sz x=16+sz (x / 2^16):=GP (by omega);obtain⟨y,hy⟩:=nmE (x / 2^16);rw[<-hy]at e1;by_cases h2:256<=y
  ·have e2:sz y=8+sz (y / 2^8):=GP (by omega);obtain⟨z,hz⟩:=nmE (y / 2^8);rw[<-hz]at e2;exact Uf [.t (by simp;omega),.i 16,.r 6 (El (b:=(y:Int)) (by simp[hy])),.t (by simp;omega),.i 8,.r 10 (El (b:=(z:Int)) (by simp[hz])),.y (UQ (i:=z) (by decide) (by omega))] rfl (by rw[e1,e2];simp;omega) (by simp[U3,Hu,IntKind.bits] <;> omega)
  ·exact Uf [.t (by simp;omega),.i 16,.r 6 (El (b:=(y:Int)) (by simp[hy])),.f (by simp;omega),.y (UQ (i:=y) (by decide) (by omega))] rfl (by rw[e1];simp) (by simp[U3,Hu,IntKind.bits] <;> omega)
 ·by_cases h2:256<=x
  ·have e2:sz x=8+sz (x / 2^8):=GP (by omega);obtain⟨z,hz⟩:=nmE (x / 2^8);rw[<-hz]at e2;exact Uf [.f (by simp;omega),.t (by simp;omega),.i 8,.r 10 (El (b:=(z:Int)) (by simp[hz])),.y (UQ (i:=z) (by decide) (by omega))] rfl (by rw[e2];simp) (by simp[U3,Hu,IntKind.bits] <;> omega)
  ·exact Uf [.f (by simp;omega),.f (by simp;omega),.y (UQ (i:=x) (by decide) (by omega))] rfl (by simp) (by simp[U3,Hu,IntKind.bits] <;> omega)
theorem Qti{x:Nat}(hx:x<4294967296):Uj 221 [.one (.int .u32 (x:Int))] [.oi ((32-sz x:Nat):Int)]:=by
 have h31:sz x<=32:=Nt.2 (by omega);exact Ug func221 rfl [.k (lJ hx)] rfl (by simp;omega) (by simp[U3,Hu] <;> omega)
theorem pB{l:Uo}(hl:Sm l)(hs:sz (val l)<=4294967296):Uj 191 [lr l] [.oi (sz (val l):Int)]:=by
 refine Fv func191 rfl ?_;obtain⟨p,ca,np,vp,_,ep⟩:=HA hl;have hp:=Rm hs;rw[<-ep]at hp;rw[<-vp]at hs ⊢;by_cases h0:p=[]
 ·subst h0;exact Uf [.k ca,.t (by simp[lm])] rfl rfl (by simp[U3,Hu])
 ·have hpl:0<p.length:=J3.2 h0;obtain⟨x,hx,hx0⟩:=np.2 h0;have xb:=np.1 x (Qc hx);have e:=dK np hx;have h31:sz x<=32:=Nt.2 (by omega);have hn:(lm p).length≠0:=by rw[U7];omega
  refine Uf [.k ca,.f (by simp[U7];omega),.r 15 (eI (b:=((p.length-1:Nat):Int)) (by rw[U7];omega)),.x (G0 hx),.k (lJ xb)] rfl (by rw[e,U7];simp;omega) (by simp[U3,Hu,U7] <;> omega)
theorem rA{s:Nat}(h:s<=31):((s:Nat):Int).tdiv 32=((0:Nat):Int):=by
 rw[V6 (by omega)];omega
theorem Qj7{s:Nat}(h:s<=31):((s:Nat):Int).tmod 32=(s:Int):=Int.tmod_eq_of_lt (by omega) (by omega)
theorem Qvf{s:Nat}(h:s<=31):max 0 (min (s:Int) 65536)=(s:Int):=by omega
theorem Qxs{a:Uo}{s:Nat}(ha:Sm a)(h1:sz (val a)<=4294967400)(hs:s<=31):Uj 257 [lr a,.oi s] [lr (Gb (val a*2^s))]:=by
 refine Fv func257 rfl ?_;obtain⟨p,ca,np,vp,_,ep⟩:=HA ha;have hp:=Rm h1;rw[<-ep]at hp;rw[<-vp];have hq:((s:Nat):Int).tdiv 32=0:=rA hs;by_cases h0:p=[]
 ·subst h0;exact Uf [.k ca,.t (by simp[lm])] rfl (by simp[val,Hb,lm]) (by simp[U3,Hu])
 have hpl:0<p.length:=J3.2 h0;refine go tt [.k ca,.r 15 (eI (b:=(s:Int)) (Qvf hs)),.f (by simp[U7];omega),.r 20 (eI (b:=((0:Nat):Int)) (rA hs)),.r 22 (eI (b:=(s:Int)) (Qj7 hs)),.r 28 (eI (b:=(((lm p).length+1:Nat):Int)) (by omega)),.i ((lm p).length+1),.i ((lm p).length+1)] rfl (by have e:=U7 p;simp only[U3,Hu];omega) ?_;rw[WR];refine lp (S:=Nat×Uo) 1 (λL1 s=>(32,.v (.oi (s.1:Int)))::L1) (λs=>[.row false 111 1 (lm s.2)]) (λs=>p.length-s.1)
  (λr=>r.1<=p.length/\r.2.length=p.length+1/\Sm r.2/\(∃z,r.2[r.1]? = some z/\z<2^s)/\val (r.2.take (r.1+1))=val (p.take r.1)*2^s) (0,List.replicate ((lm p).length+1) 0)
  ⟨Qh _,by simp[U7],λx hx=>by rw[Zx hx];decide,⟨0,by simp,Z2 (by decide)⟩,by simp[val,J4]⟩ rfl (λ_ _=>rfl) rfl λ⟨i,o⟩ ⟨j1,j2,j3,⟨z,hz,hzs⟩,j5⟩=>?_
 dsimp only at j1 j2 j3 hz hzs j5 ⊢;by_cases hi:i<p.length
 ·obtain⟨x,hx⟩:=gxE (l:=p) (i:=i) hi;have xb:=np.1 x (Qc hx);have zb:=j3 z (Qc hz);obtain⟨k1,k2,k3,k4⟩:=Qkt hs hx xb hz hzs (by omega) j5;have hxs:=Qv7 hs xb;have h31:2^s<=2^31:=Zs (by decide) hs;have ec:(x:Int)*2^s=((x*2^s:Nat):Int):=by push_cast;rfl
  obtain⟨m,hm⟩:=nmE (x*2^s);rw[<-hm]at k1 k2 k3 k4 hxs ec;refine go tt [.t (by simp[U7];omega),.x (G0 hx),.i s,.r 40 (Dy (b:=(m:Int)) ec),.i i,.x (G0 hz),.w 0,.r 52 (El (b:=((m % 4294967296:Nat):Int)) (by rw[zO];omega)),.r 53 (El (b:=((z+m % 4294967296:Nat):Int)) (by rw[k4,o32 hzs zb (by omega) (by omega)])),.i i,
   .i 32,.r 61 (Dy (b:=((m / 2^32:Nat):Int)) (by simp)),.w 0,.r 62 (El (b:=((m / 2^32 % 4294967296:Nat):Int)) (by rw[zO];omega)),.i (i+1)] rfl (by simp[U3,Hu,U7,IntKind.bits,ec] <;> omega) ?_
  rw[Cq,Cq];exact rd (i+1,(o.set i (z+m % 4294967296)).set (i+1) (m / 2^32 % 4294967296)) (show p.length-(i+1)<p.length-i by omega) ⟨hi,by simp[j2],Bs (Bs j3 _ _ (by omega)) _ _ (by omega),⟨_,by rw[Jb (by simp;omega)],by omega⟩,k3⟩ rfl
 ·obtain rfl:i=p.length:=by omega
  rw[Qn (by omega),Qn (Ql _)]at j5;rw[<-j5];exact Uf [.f (by simp[U7]),.k (VL j3)] rfl
theorem Qxt{a:Uo}{s:Nat}(ha:Sm a)(h1:sz (val a)<=4294967400)(hs:s<=31):Uj 224 [lr a,.oi s] [lr (Gb (val a / 2^s))]:=by
 refine Fv func224 rfl ?_;obtain⟨p,ca,np,vp,_,ep⟩:=HA ha;have hp:=Rm h1;rw[<-ep]at hp;rw[<-vp];have hq:((s:Nat):Int).tdiv 32=0:=rA hs;by_cases h0:p=[]
 ·subst h0;exact Uf [.k ca,.r 14 (eI (b:=(s:Int)) (Qvf hs)),.r 16 (eI (b:=((0:Nat):Int)) (rA hs)),.r 18 (eI (b:=(s:Int)) (Qj7 hs)),.t (by simp[lm])] rfl (by simp[val,Hb,lm]) (by simp only[U3,Hu];omega)
 have hpl:0<p.length:=J3.2 h0;refine go tt [.k ca,.r 14 (eI (b:=(s:Int)) (Qvf hs)),.r 16 (eI (b:=((0:Nat):Int)) (rA hs)),.r 18 (eI (b:=(s:Int)) (Qj7 hs)),.f (by simp[U7];omega),.r 27 (eI (b:=((lm p).length:Int)) (by omega)),.i (lm p).length,.i (lm p).length] rfl (by have e:=U7 p;simp only[U3,Hu];omega) ?_;rw[WR];refine lp (S:=Nat×Uo) 1 (λL1 s=>(31,.v (.oi (s.1:Int)))::L1) (λs=>[.row false 111 1 (lm s.2)]) (λs=>p.length-s.1)
  (λr=>r.1<=p.length/\r.2.length=p.length/\Sm r.2/\val (r.2.take r.1)=val p / 2^s % 4294967296^r.1) (0,List.replicate (lm p).length 0)
  ⟨Qh _,by simp[U7],λx hx=>by rw[Zx hx];decide,by simp[val];omega⟩ rfl (λ_ _=>rfl) rfl λ⟨i,o⟩ ⟨j1,j2,j3,j5⟩=>?_
 dsimp only at j1 j2 j3 j5 ⊢;by_cases hi:i<p.length
 ·obtain⟨x,hx⟩:=gxE (l:=p) (i:=i) hi;have xb:=np.1 x (Qc hx);have fin:∀y m,(p[i+1]? = some y\/p.length<=i+1/\y=0)->m=(x+y*2^32) / 2^s->p.length-(i+1)<p.length-i/\i+1<=p.length/\(o.set i (m % 4294967296)).length=p.length/\Sm (o.set i (m % 4294967296))/\val ((o.set i (m % 4294967296)).take (i+1))=val p / 2^s % 4294967296^(i+1):=λy m hy hm =>
   ⟨by omega,hi,by simp[j2],Bs j3 _ _ (by omega),by subst hm;exact Qku hs hx hy (by omega) np.1 j5⟩
  have hsp:0<2^s:=Z2 (by decide);by_cases hy0:i+1<p.length
  ·obtain⟨y,hy⟩:=gxE (l:=p) (i:=i+1) hy0;have yb:=np.1 y (Qc hy);obtain⟨v,hv⟩:=nmE (4294967296*y+x);obtain⟨m,hm⟩:=nmE (v / 2^s);have hml:m<=v:=hm ▸ Jq _ _;have hf:=fin y m (.inl hy) (by rw[hm,hv];congr 1;omega);refine go tt [.t (by simp[U7];omega),.x (G0 hx),.t (by simp[U7];omega),.x (G0 hy),.i 32,.r 57 (Dy (b:=((4294967296*y:Nat):Int)) (by omega)),.r 58 (Dy (b:=(v:Int)) (by rw[oM xb (by omega)];omega)),
    .i s,.r 63 (Dy (b:=(m:Int)) (by rw[hm];push_cast;rfl)),.w 0,.r 64 (El (b:=((m % 4294967296:Nat):Int)) (by rw[zO];omega)),.i i] rfl (by simp[U3,Hu,U7,IntKind.bits] <;> omega) ?_
   rw[Cq];exact rd (i+1,o.set i (m % 4294967296)) hf.1 hf.2 rfl
  ·obtain⟨m,hm⟩:=nmE (x / 2^s);have hml:m<=x:=hm ▸ Jq _ _;have hf:=fin 0 m (.inr ⟨by omega,rfl⟩) (by rw[hm];simp);refine go tt [.t (by simp[U7];omega),.x (G0 hx),.f (by simp[U7];omega),
    .i s,.r 63 (Dy (b:=(m:Int)) (by rw[hm];push_cast;rfl)),.w 0,.r 64 (El (b:=((m % 4294967296:Nat):Int)) (by rw[zO];omega)),.i i] rfl (by simp[U3,Hu,U7,IntKind.bits] <;> omega) ?_
   rw[Cq];exact rd (i+1,o.set i (m % 4294967296)) hf.1 hf.2 rfl
 ·obtain rfl:i=p.length:=by omega
  have hvl:=Bv p np.1;rw[Qn (by omega),Xu (Z3 (Jq _ _) hvl)]at j5;rw[<-j5];exact Uf [.f (by simp[U7,j2]),.k (VL j3)] rfl
def uK:Nat->Nat->Uo
 | 0,_=>[]
 |k+1,v=>v % 4294967296::uK k (v / 4294967296)
theorem Qg2:∀{l:Uo},Sm l->l=uK l.length (val l)
 | [],_=>rfl
 |
  x::l,h=>by
  have hx:=h x (.head _);have ih:=Qg2 (l:=l) λy hy=>h y (.tail _ hy)
  simp only[Q5,uK,val];rw[show(x+4294967296*val l) % 4294967296=x by omega,show(x+4294967296*val l) / 4294967296=val l by omega,<-ih]
theorem mB{l:Uo}{k v:Nat}(h:Sm l)(hk:l.length=k)(hv:val l=v):uK k v=l:=by
 rw[<-hk,<-hv];exact(Qg2 h).symm
theorem jJ:∀{k v:Nat},(uK k v).length=k/\Sm (uK k v)/\(v<4294967296^k->val (uK k v)=v)
 | 0,v=>⟨rfl,λx hx=>by(cases hx),λh=>by simp at h;subst h;rfl⟩
 |
  k+1,v=>by
  obtain⟨h1,h2,h3⟩:=jJ (k:=k) (v:=v / 4294967296);refine⟨by simp[uK,h1],λx hx=>?_,λh=>?_⟩
  ·rcases Qm.1 hx with rfl|hx
   ·exact Z4 _ (by decide)
   ·exact h2 x hx
  ·simp only[uK,val];rw[h3 (by rw[Zr]at h;exact Ja (by rw[Zq];exact h))];omega
theorem Qgl{a:Uo}{s n:Nat}(ha:Sm a)(h1:sz (val a)<=4294967400)(hs:s<=31)(hn:n<274877906944)(h0:0<n)(hv:val a*2^s<4294967296^n) :
 U6 prog 222 [lr a,.oi s,.oi n] [] [.one (.orow 0 1 none)] [.row false 111 1 (lm (uK n (val a*2^s)))]:=by
 refine Fv func222 rfl ?_;obtain⟨v,hvv⟩:=nmE (val a*2^s);have cs:=Qxs ha h1 hs;rw[<-hvv]at cs hv ⊢;have hl:(Gb v).length<=n:=by
  apply Classical.byContradiction;intro hh;have h2:=FN (Do v) (λe=>by rw[e]at hh;simp at hh);rw[G9]at h2;have h3:4294967296^n<=4294967296^((Gb v).length-1):=Zs (by decide) (by omega);omega
 refine go tt [.i n,.i n,.k cs,.s (Qis (Gb v)),.i (Gb v).length] rfl (by simp[U3,Hu,U7] <;> omega) ?_;have e:List.take 0 (List.replicate n [LV.int .u32 0])++(List.take (Gb v).length (lm (Gb v))++List.drop (0+(Gb v).length) (List.replicate n [LV.int .u32 0]))=lm (uK n v):=by
  rw[mB (l:=Gb v++List.replicate (n-(Gb v).length) 0) (λx hx=>?_) (by simp;omega) (by rw[Bu,TL,G9];simp)]
  ·rw[Vu,Yj,Qn (by rw[U7];exact Ql _)];simp[lm]
  ·rcases Qr.1 hx with hx|hx
   ·exact Ls v x hx
   ·rw[Zx hx];decide
 rw[e];exact Uh [] [0] [] rfl
theorem IX{pre x post:Uo}{i u:Nat}(h:x[i]? = some u):(lm (pre++x++post))[pre.length+i]? = some [.int .u32 (u:Int)]:=G0 (by
 have hi:=(Qf.1 h).1;rw[Zd,Z8 (by omega),Jl,Zi hi];exact h)
theorem Qll{pre x post:Uo}{i v:Nat}(h:i<x.length):(lm (pre++x++post)).set (pre.length+i) [.int .u32 (v:Int)]=lm (pre++x.set i v++post):=by
 rw[Cq,Zd,List.set_append_right _ _ (by omega),Jl,List.set_append_left _ _ h,<-Zd]
theorem Qno{pre x post ly:Uo}{top nx xn x1 x2:Nat}(D:Dig x ly ly.length top nx xn x1 x2)(hn:ly.length<274877906944) :
 U6 prog 223 [.one (.orow 0 1 (some (pre.length,x.length))),lr ly] [.row true 111 1 (lm (pre++x++post))] [.one (.int .u32 ((val x / val ly:Nat):Int))] [.row true 111 1 (lm (pre++uK x.length (val x % val ly)++post))]:=by
 refine Fv func223 rfl ?_;have hxl:=D.hx;have hn2:=D.hn;have hb:=D.bnd;obtain⟨head,hh⟩:=nmE (xn*2^32+x1);obtain⟨g0,hg0⟩:=nmE (head / top);obtain⟨r0,hr0⟩:=nmE (head % top);have hst:=D.start;rw[<-hh,<-hg0]at hst;have ht0:=D.top0;have hg0l:g0<=head:=hg0 ▸ Jq _ _;have hr0l:r0<top:=hr0 ▸ Z4 _ ht0;have htd:(head:Int).tdiv top=(g0:Int):=by rw[V6 (by omega),hg0];rfl
 have htm:(head:Int).tmod top=(r0:Int):=by rw[Y5 (by omega),hr0];rfl
 refine go tt [.r 23 (eI (b:=(ly.length:Int)) (by rw[U7])),.r 26 (eI (b:=((ly.length-1:Nat):Int)) (by omega)),.x (G0 D.ltop),.r 32 (eI (b:=((ly.length-2:Nat):Int)) (by omega)),.x (G0 D.lnx),
  .i ly.length,.x (IX D.xn),.i 32,.r 41 (Dy (b:=((4294967296*xn:Nat):Int)) (by omega)),.r 44 (eI (b:=((ly.length-1:Nat):Int)) (by omega)),.i (ly.length-1),.x (IX D.x1),.r 48 (Dy (b:=(head:Int)) (by rw[o64 hb.2.2.2.1 (by omega)];omega)),
  .r 51 (Dy (b:=(g0:Int)) htd),.r 54 (Dy (b:=(r0:Int)) htm)] rfl ?_ ?_
 ·simp only[U3,Hu,htd,IntKind.bits];omega
 refine ct 2 (S:=Nat) (λg=>[(0,.v (.one (.orow 0 1 (some (pre.length,x.length))))),(1,.v (lr ly)),(5,.v (.oi (ly.length:Int))),(9,.v (.one (.int .u64 (g:Int))))]) (λ_=>[.row true 111 1 (lm (pre++x++post))]) (λg=>val x / val ly<=g/\(g-1)*val ly<=val x/\g<=4294967296) rfl ?_ ?_
 ·refine lp (S:=Nat×Nat) 1 (λL1 s=>(9,.v (.one (.int .u64 (s.1:Int))))::(10,.v (.one (.int .u64 (s.2:Int))))::L1) (λ_=>[.row true 111 1 (lm (pre++x++post))]) (λs=>4294967296-s.2)
   (λs=>s.1*top+s.2=xn*2^32+x1/\val x / val ly<=s.1/\s.2<4294967296/\s.1<18446744073709551616) (g0,r0)
   ⟨by rw[<-hh,hg0,hr0,Nat.mul_comm];exact Nat.div_add_mod _ _,hst,by dsimp only;omega,by dsimp only;omega⟩ rfl (λ_ _=>rfl) rfl λ⟨g,r⟩ ⟨j1,j2,j3,j4⟩=>?_
  dsimp only at j1 j2 j3 j4 ⊢;by_cases hge:4294967296<=g
  ·have hrd:=D.round j1 j2 (.inl hge);by_cases h2:4294967296<=r+top
   ·exact go tt [.t (by simp;omega),.t rfl,.r 73 (Dy (b:=((g-1:Nat):Int)) (by omega)),.t (by simp;omega)] rfl (by simp[U3,Hu] <;> omega) (rc (g-1) ⟨hrd.2.1,(hrd.2.2.2 h2).1,(hrd.2.2.2 h2).2⟩ rfl)
   ·exact go tt [.t (by simp;omega),.t rfl,.r 73 (Dy (b:=((g-1:Nat):Int)) (by omega)),.f (by simp;omega)] rfl (by simp[U3,Hu] <;> omega) (rd (g-1,r+top) (by dsimp only;omega) ⟨hrd.2.2.1,hrd.2.1,by dsimp only;omega,by dsimp only;omega⟩ rfl)
  ·have hgn:=JZ (x:=g) (y:=nx) (by omega) hb.2.1;by_cases hc:r*2^32+x2<g*nx
   ·have hrd:=D.round j1 j2 (.inr hc);have e1:(g:Int)*(nx:Int)=((g*nx:Nat):Int):=by push_cast;rfl
    obtain⟨m,hm⟩:=nmE (g*nx);rw[<-hm]at e1 hgn hc;by_cases h2:4294967296<=r+top
    ·exact go tt [.f (by simp;omega),.r 60 (Dy (b:=(m:Int)) e1),.i 32,.r 62 (Dy (b:=((4294967296*r:Nat):Int)) (by omega)),.r 65 (eI (b:=((ly.length-2:Nat):Int)) (by omega)),.i (ly.length-2),.x (IX D.x2),.r 69 (Dy (b:=((4294967296*r+x2:Nat):Int)) (o64 hb.2.2.2.2 (by omega))),.t (by simp;omega),.r 73 (Dy (b:=((g-1:Nat):Int)) (by omega)),.t (by simp;omega)] rfl (by simp only[U3,Hu,e1,IntKind.bits];omega) (rc (g-1) ⟨hrd.2.1,(hrd.2.2.2 h2).1,(hrd.2.2.2 h2).2⟩ rfl)
    ·exact go tt [.f (by simp;omega),.r 60 (Dy (b:=(m:Int)) e1),.i 32,.r 62 (Dy (b:=((4294967296*r:Nat):Int)) (by omega)),.r 65 (eI (b:=((ly.length-2:Nat):Int)) (by omega)),.i (ly.length-2),.x (IX D.x2),.r 69 (Dy (b:=((4294967296*r+x2:Nat):Int)) (o64 hb.2.2.2.2 (by omega))),.t (by simp;omega),.r 73 (Dy (b:=((g-1:Nat):Int)) (by omega)),.f (by simp;omega)] rfl (by simp only[U3,Hu,e1,IntKind.bits];omega) (rd (g-1,r+top) (by dsimp only;omega) ⟨hrd.2.2.1,hrd.2.1,by dsimp only;omega,by dsimp only;omega⟩ rfl)
   ·have hf:=D.fin j1 (by omega) (by omega);have e1:(g:Int)*(nx:Int)=((g*nx:Nat):Int):=by push_cast;rfl
    obtain⟨m,hm⟩:=nmE (g*nx);rw[<-hm]at e1 hgn hc;exact go tt [.f (by simp;omega),.r 60 (Dy (b:=(m:Int)) e1),.i 32,.r 62 (Dy (b:=((4294967296*r:Nat):Int)) (by omega)),.r 65 (eI (b:=((ly.length-2:Nat):Int)) (by omega)),.i (ly.length-2),.x (IX D.x2),.r 69 (Dy (b:=((4294967296*r+x2:Nat):Int)) (o64 hb.2.2.2.2 (by omega))),.f (by simp;omega)] rfl (by simp only[U3,Hu,e1,IntKind.bits];omega) (rc g ⟨j2,hf,by omega⟩ rfl)
 ·intro g ⟨q1,q2,q3⟩;refine Ud [.r 80 (eI (b:=(ly.length:Int)) (by rw[U7]))] rfl ?_;refine lp (S:=Nat×Uo×Nat×Nat) 1 (λL1 s=>(81,.v (.oi (s.1:Int)))::(11,.v (.one (.int .u64 (s.2.2.1:Int))))::(12,.v (.one (.int .u64 (s.2.2.2:Int))))::L1) (λs=>[.row true 111 1 (lm (pre++s.2.1++post))]) (λs=>ly.length-s.1)
   (λs=>s.1<=ly.length/\s.2.1.length=ly.length+1/\Sm s.2.1/\s.2.2.2<=1/\s.2.2.1<4294967296/\val (s.2.1.take s.1)+g*val (ly.take s.1)=val (x.take s.1)+(s.2.2.1+s.2.2.2)*4294967296^s.1/\s.2.1.drop s.1=x.drop s.1) (0,x,0,0)
   ⟨Qh _,hxl,D.xb,Qh _,by simp,by simp[val],rfl⟩ rfl (λ_ _=>rfl) rfl λ⟨i,o,cy,bw⟩ ⟨j1,j2,j3,j4,j5,j6,j7⟩=>?_
  dsimp only at j1 j2 j3 j4 j5 j6 j7 ⊢;by_cases hi:i<ly.length
  ·obtain⟨w1,hw1⟩:=gxE (l:=ly) (i:=i) hi;obtain⟨u,hu⟩:=gxE (l:=x) (i:=i) (by omega);have wb:=D.lb w1 (Qc hw1);have ub:=D.xb u (Qc hu);have hou:=(UN j7).trans hu;have hgw:g*w1<=18446744069414584320:=by
    have:=Zc q3 (show w1<=4294967295 by omega);omega
   obtain⟨s,hs⟩:=nmE (((u+18446744073709551616-(g*w1+cy) % 4294967296) % 18446744073709551616+18446744073709551616-bw) % 18446744073709551616);have hstep:=yF (o:=o) (by omega) hu hw1 ub j4 j6 rfl hs;have e1:(g:Int)*(w1:Int)=((g*w1:Nat):Int):=by push_cast;rfl
   obtain⟨m,hm⟩:=nmE (g*w1);rw[<-hm]at e1 hgw hs hstep;obtain⟨p,hp⟩:=nmE (m+cy);rw[<-hp]at hs hstep;refine go tt [.t (by simp;omega),.x (G0 hw1),.r 89 (Dy (b:=(m:Int)) e1),.r 91 (Dy (b:=(p:Int)) (by omega)),.i 32,.r 93 (Dy (b:=((p / 2^32:Nat):Int)) (by simp)),.i i,.x (IX hou),.w 1,.r 100 (El (b:=((p % 4294967296:Nat):Int)) (by rw[zO];omega)),.w 1,.r 102 (Dy (b:=(((u+18446744073709551616-p % 4294967296) % 18446744073709551616:Nat):Int)) (by rw[w64];omega)),.w 0,.r 104 (Dy (b:=(s:Int)) (by rw[w64];omega)),
    .w 0,.r 108 (El (b:=((s % 4294967296:Nat):Int)) (by rw[zO];omega)),.i 63,.r 110 (Dy (b:=((s / 2^63:Nat):Int)) (by simp)),.i i] rfl (by simp only[U3,Hu,e1,IntKind.bits,U7,Qu];omega) ?_
   rw[Qll (by omega)];exact rd (i+1,o.set i (s % 4294967296),p / 2^32,s / 2^63) (by dsimp only;omega) ⟨hi,by simp[j2],Bs j3 _ _ (by omega),hstep.2,by dsimp only;omega,hstep.1,IA j7⟩ rfl
  ·obtain rfl:i=ly.length:=by omega
   have hon:=(UN j7).trans D.xn;rw[Qn (l:=ly) (Ql _)]at j6;obtain⟨s,hs⟩:=nmE (((xn+18446744073709551616-cy) % 18446744073709551616+18446744073709551616-bw) % 18446744073709551616);obtain⟨oa,hoa⟩:=nmE (o.set ly.length (s % 4294967296));have oal:oa.length=ly.length+1:=by rw[hoa,Xd];exact j2
   have oab:Sm oa:=hoa ▸ Bs j3 _ _ (by omega);by_cases AU:s / 2^63=0
   ·have hf:=D.fin0 j2 j5 j4 q1 j6 hs AU;refine go tt [.f (by simp),.i ly.length,.x (IX hon),.w 1,.r 119 (Dy (b:=(((xn+18446744073709551616-cy) % 18446744073709551616:Nat):Int)) (by rw[w64];omega)),.w 0,.r 121 (Dy (b:=(s:Int)) (by rw[w64];omega)),.w 0,.r 125 (El (b:=((s % 4294967296:Nat):Int)) (by rw[zO];omega)),.i ly.length,.i 63,.r 128 (Dy (b:=((s / 2^63:Nat):Int)) (by simp)),.t (by simp;omega),.w 0,.r 131 (El (b:=((val x / val ly:Nat):Int)) (by rw[zO];omega))] rfl (by simp only[U3,Hu,IntKind.bits,U7,Qu];omega) ?_;rw[Qll (by omega),<-mB (l:=o.set ly.length (s % 4294967296)) (k:=x.length) (hoa ▸ oab) (by rw[<-hoa,oal,hxl]) hf.2];exact Uh [] [0] [] rfl
   ·have hf:=D.fin1 j2 j3 j5 j4 q2 j6 hs AU;rw[<-hoa]at hf;obtain⟨v1,hv1⟩:=gxE (l:=oa) (i:=ly.length) (by omega);refine go tt [.f (by simp),.i ly.length,.x (IX hon),.w 1,.r 119 (Dy (b:=(((xn+18446744073709551616-cy) % 18446744073709551616:Nat):Int)) (by rw[w64];omega)),.w 0,.r 121 (Dy (b:=(s:Int)) (by rw[w64];omega)),.w 0,.r 125 (El (b:=((s % 4294967296:Nat):Int)) (by rw[zO];omega)),.i ly.length,.i 63,.r 128 (Dy (b:=((s / 2^63:Nat):Int)) (by simp)),.f (by simp;omega),.r 133 (eI (b:=(ly.length:Int)) (by rw[U7]))] rfl (by simp only[U3,Hu,IntKind.bits,U7,Qu];omega) ?_;rw[Qll (by omega),<-hoa];refine lp (S:=Nat×Uo×Nat) 1 (λL1 s=>(134,.v (.oi (s.1:Int)))::(18,.v (.one (.int .u64 (s.2.2:Int))))::L1) (λs=>[.row true 111 1 (lm (pre++s.2.1++post))]) (λs=>ly.length-s.1)
     (λs=>s.1<=ly.length/\s.2.1.length=ly.length+1/\Sm s.2.1/\s.2.2<=1/\val (s.2.1.take s.1)+s.2.2*4294967296^s.1=val (oa.take s.1)+val (ly.take s.1)/\s.2.1.drop s.1=oa.drop s.1) (0,oa,0)
     ⟨Qh _,oal,oab,Qh _,by simp[val],rfl⟩ rfl (λ_ _=>rfl) rfl λ⟨j,o2,bk⟩ ⟨r1,r2,r3,r4,r5,r6⟩=>?_
    dsimp only at r1 r2 r3 r4 r5 r6 ⊢;by_cases hj:j<ly.length
    ·obtain⟨w1,hw1⟩:=gxE (l:=ly) (i:=j) hj;obtain⟨u,hu⟩:=gxE (l:=oa) (i:=j) (by omega);have wb:=D.lb w1 (Qc hw1);have ub:=oab u (Qc hu);have hou:=(UN r6).trans hu;obtain⟨m,hm⟩:=nmE (u+bk+w1);have hstep:=kM (o:=o2) (by omega) hu (.inl hw1) r5 hm;refine go tt [.t (by simp;omega),.x (G0 hw1),.i j,.x (IX hou),.r 148 (Dy (b:=(m:Int)) (by omega)),.w 0,.r 152 (El (b:=((m % 4294967296:Nat):Int)) (by rw[zO];omega)),.i 32,.r 154 (Dy (b:=((m / 4294967296:Nat):Int)) (by simp)),.i j] rfl (by simp only[U3,Hu,IntKind.bits,U7,Qu];omega) ?_;rw[Qll (by omega)];exact rd (j+1,o2.set j (m % 4294967296),m / 4294967296) (by dsimp only;omega) ⟨hj,by simp[r2],Bs r3 _ _ (by omega),by dsimp only;omega,hstep,IA r6⟩ rfl
    ·obtain rfl:j=ly.length:=by omega
     have hon2:=(UN r6).trans hv1;have vb:=oab v1 (Qc hv1);rw[Qn (l:=ly) (Ql _)]at r5;have hf2:=D.fin2 oal oab r2 r3 hv1 r4 hf.2 r5;refine go tt [.f (by simp),.i ly.length,.x (IX hon2),.w 1,.r 165 (El (b:=(((v1+bk) % 4294967296:Nat):Int)) (by rw[zO];omega)),.i ly.length,.w 0,.r 168 (El (b:=((g % 4294967296:Nat):Int)) (by rw[zO];omega)),.w 0,.r 169 (El (b:=((val x / val ly:Nat):Int)) (Qy5 hf.1 D.qlt))] rfl (by simp only[U3,Hu,IntKind.bits,U7,Qu];omega) ?_;rw[Qll (by omega),<-mB (l:=o2.set ly.length ((v1+bk) % 4294967296)) (k:=x.length) (Bs r3 _ _ (by omega)) (by rw[Xd,r2,hxl]) hf2];exact Uh [] [0] [] rfl
theorem Qfu{o ly:Uo}{lo top nx xn x1 x2:Nat}(hlo:lo+(ly.length+1)<=o.length)(D:Dig (WA o lo ly.length) ly ly.length top nx xn x1 x2)(hn:ly.length<274877906944) :
 U6 prog 223 [.one (.orow 0 1 (some (lo,ly.length+1))),lr ly] [.row true 111 1 (lm o)] [.one (.int .u32 ((val (WA o lo ly.length) / val ly:Nat):Int))] [.row true 111 1 (lm (o.take lo++uK (ly.length+1) (val (WA o lo ly.length) % val ly)++o.drop (lo+ly.length+1)))]:=by
 have:=Qno (pre:=o.take lo) (post:=o.drop (lo+ly.length+1)) D hn;have e1:(o.take lo).length=lo:=by rw[Qq];omega
 have e2:=GI (o:=o) (i:=lo) (n:=ly.length) (by omega);rw[e1,e2,VW]at this;exact this
theorem wX{a b:Uo}(ha:Sm a)(hb:Sm b)(h1:sz (val a)<=4294967296)(h2:sz (val b)<=4294967296)(hy:0<val b):Uj 182 [lr a,lr b] [lr (Gb (val a / val b)),lr (Gb (val a % val b)),.oi 0]:=by
 refine Fv func182 rfl ?_;obtain⟨p,ca,np,vp,_,ep⟩:=HA ha;obtain⟨q,cb,nq,vq,_,eq⟩:=HA hb;have hp:=Rm h1;have hq:=Rm h2;rw[<-ep]at hp;rw[<-eq]at hq;rw[<-vp,<-vq];rw[<-vp]at h1;rw[<-vq]at h2 hy;have q0:q≠[]:=λe=>by rw[e]at hy;simp[val]at hy
 have qp:0<q.length:=J3.2 q0;have c1:¬((lm q).length:Int)=0:=by rw[U7];omega
 by_cases hlt:p.length<q.length
 ·have hv:=D5 np nq hlt;rw[V2 hv,Xu hv,Hb];exact Uf [.k ca,.k cb,.f (by simpa using c1),.t (by simp[U7];omega),.k (KU np.1 h1)] rfl rfl (by simp[U3,Hu])
 by_cases hone:q.length=1
 ·obtain⟨y,rfl⟩:∃y,q=[y]:=by
   match q,hone with
   | [y],_=>exact⟨y,rfl⟩
  have yb:=nq.1 y (.head _);have vy:val [y]=y:=by simp[val]
  rw[vy]at hy ⊢;have co:=Qxx np.1 (by omega) hy yb;have sm:Sm [val p % y]:=λz hz=>by
   simp at hz;subst hz;exact Nat.lt_trans (Z4 _ hy) yb
  have cc:=VL sm;rw[show val [val p % y]=val p % y from by simp[val]]at cc;exact Uf [.k ca,.k cb,.f (by simp[lm]),.f (by simp[U7];omega),.t (by simp[lm]),.x (G0 (l:=[y]) (i:=0) rfl),.k co,.k cc] rfl rfl (by simp[U3,Hu])
 ·have hle:q.length<=p.length:=J8 hlt;obtain⟨y1,hy1,hy10⟩:=nq.2 q0;have y1b:=nq.1 y1 (Qc hy1);have hszy:=dK nq hy1;have hsz1:sz y1<=32:=Nt.2 (by omega);have hsz0:0<sz y1:=Qwh (by omega);obtain⟨s,hs⟩:=nmE (32-sz y1);have hs31:s<=31:=by omega
  have El:(2:Nat)^32=4294967296:=by decide
  obtain⟨x,hx⟩:=nmE (val p);obtain⟨y,hyv⟩:=nmE (val q);have cl:=Qti y1b;rw[<-hs]at cl;have hvx:val p*2^s<4294967296^(p.length+1):=by
   have h1:=Bv p np.1;rw[Zr];exact Z6 (Xn h1 (show 0<2^s from Z2 (by decide))) (Zu _ (by rw[<-El];exact Zs (by decide) (by omega)))
  have hvy:val q*2^s<4294967296^q.length:=by
   have h1:=FR (val q);rw[<-El,<-Ks];have h2:val q*2^s<2^sz (val q)*2^s:=Xn h1 (Z2 (by decide));rw[<-Xf]at h2;rw[show 32*q.length=sz (val q)+s from by omega];exact h2
  have cx:=Qgl np.1 (show sz (val p)<=4294967400 by omega) hs31 (show p.length+1<274877906944 by omega) (by omega) hvx;have cy:=Qgl nq.1 (show sz (val q)<=4294967400 by omega) hs31 (show q.length<274877906944 by omega) qp hvy;obtain⟨hXl,hXb,hXv⟩:=jJ (k:=p.length+1) (v:=val p*2^s);obtain⟨hYl,hYb,hYv⟩:=jJ (k:=q.length) (v:=val q*2^s);have hXv:=hXv hvx;have hYv:=hYv hvy;obtain⟨X,hX⟩:=nmE (uK (p.length+1) (val p*2^s));obtain⟨Y,hY⟩:=nmE (uK q.length (val q*2^s));rw[<-hX]at hXl hXb hXv cx;rw[<-hY]at hYl hYb hYv cy;have hyB:4294967296^(q.length-1)<=val q:=FN nq q0;have hR:=cV hXv hYv hXl hXb hYl hYb (show 2<=q.length by omega) (Bv p np.1) hyB hle;refine go tt [.k ca,.k cb,.f (by simpa using c1),.f (by simp[U7];omega),.f (by simp[U7];omega),.r 49 (eI (b:=((q.length-1:Nat):Int)) (by rw[U7];omega)),.x (G0 hy1),.k cl,.r 57 (eI (b:=((p.length+1:Nat):Int)) (by rw[U7];omega)),.c [0] cx,.r 62 (eI (b:=(q.length:Int)) (by rw[U7])),.c [1] cy,.r 65 (eI (b:=(q.length:Int)) (by rw[U7,hYl])),.r 70 (eI (b:=((p.length-q.length+1:Nat):Int)) (by rw[U7];omega)),.i (p.length-q.length+1),.i (p.length-q.length+1),.r 73 (eI (b:=((p.length-q.length+1:Nat):Int)) (by simp))] rfl ?_ ?_
  ·simp only[U3,Hu,IntKind.bits,U7];omega
  ·rw[WR];refine pb 1 rfl rfl ?_;refine lp (S:=Int×Uo×Uo) 3 (λL1 s=>(13,.v (.oi s.1))::L1) (λs=>[.row false 111 1 (lm s.2.2),.gone,.row false 111 1 (lm s.2.1)]) (λs=>(s.1+1).toNat)
    (λs=>-1<=s.1/\s.1<p.length-q.length+1/\s.2.1.length=p.length-q.length+1/\Sm s.2.1/\Rest s.2.2 Y p.length q.length (s.1+1).toNat/\val (s.2.1.drop (s.1+1).toNat)*4294967296^(s.1+1).toNat*val Y+val s.2.2=val X) (((p.length-q.length+1:Nat):Int)-1,List.replicate (p.length-q.length+1) 0,X)
    ⟨by dsimp only;omega,by dsimp only;omega,by simp,λx hx=>by rw[List.eq_of_mem_replicate hx];decide,by simpa using hR,by simp[val]⟩ rfl (λ_ _=>rfl) rfl λ⟨i,oq,ox⟩ ⟨j1,j2,j3,j4,j5,j6⟩=>?_
   dsimp only at j1 j2 j3 j4 j5 j6 ⊢;rcases Kd i 0 with hi|hi
   ·obtain rfl:i=-1:=by omega
    simp only[show((-1:Int)+1).toNat=0 from rfl,Xy,Vd,Yw]at j5 j6;have hlt':val ox<val q*2^s:=by have:=j5.lt;rw[hYv]at this;simpa using this
    have hfin:=Qj8 (x:=val p) (y:=val q) (s:=s) (r:=val ox) (q:=oq) hy (by rw[<-hXv,<-hYv];exact j6) hlt';have hoxl:=j5.ol;have hox:=dU (o:=ox) (n:=q.length) (by omega) (Nat.lt_trans hlt' hvy);have hszm:sz (val (ox.take q.length))<=4294967400:=by
     rw[hox,hfin.2];have h1:=Qk7 (val p % val q) (2^s);have h2':=Rh (Yk (Z4 (val p) hy));have h3:sz (2^s)<=s+1:=Nt.2 (Nat.pow_lt_pow_right (by decide) (by omega));omega
    have cs:=Qxt (a:=ox.take q.length) (λu hu=>j5.ob u (Qo hu)) hszm hs31;rw[hox,hfin.2,Nat.mul_div_cancel _ (Z2 (by decide))]at cs;have cq:=VL j4;rw[hfin.1]at cq;exact Uf [.f (by decide),.p 2,.p 0,.k cq,.i q.length,.r 95 (v:=lr (ox.take q.length)) (by simp[lm]),.k cs] rfl rfl (by simp[U3,Hu,U7];omega)
   ·obtain⟨k,rfl⟩:=Kk hi;have e:((k:Int)+1).toNat=k+1:=by omega
    rw[e]at j5 j6;obtain⟨top,nx,xn,x1,x2,D⟩:=j5.dig;have hoxl:=j5.ol;have hm:=j5.hm;have cd:=Qfu (o:=ox) (lo:=k) (by omega) (hYl.symm ▸ D) (by omega);rw[hYl]at cd;have hwl:=GI (o:=ox) (i:=k) (n:=q.length) (by omega);have hwlt:val (WA ox k q.length) % val Y<4294967296^(q.length+1):=by
     have h3:=Bv (WA ox k q.length) D.xb;rw[hwl]at h3;exact Z3 (Nat.mod_le _ _) h3
    obtain⟨d1,d2,d3⟩:=jJ (k:=q.length+1) (v:=val (WA ox k q.length) % val Y);have hnx:=j5.next (w':=uK (q.length+1) (val (WA ox k q.length) % val Y)) (d1.trans hwl.symm) d2 (d3 hwlt) (q:=oq) (by omega) j6;have hdg:=D.qlt;refine go tt [.t (by simp),.i k,.i (k+q.length+1),.r 87 (v:=.one (.orow 0 1 (some (k,q.length+1)))) (by rw[show k+q.length+1-k=q.length+1 by omega]),.c [0] cd,.i k] rfl ?_ ?_
    ·simp only[U3,U7];omega
    ·rw[Cq];refine rd ((k:Int)-1,oq.set k (val (WA ox k q.length) / val Y),ox.take k++uK (q.length+1) (val (WA ox k q.length) % val Y)++ox.drop (k+q.length+1)) (by dsimp only;omega) ⟨by dsimp only;omega,by dsimp only;omega,by simp[j3],Bs j4 _ _ hdg,?_,?_⟩ rfl
     ·dsimp only;rw[show((k:Int)-1+1).toNat=k from by omega];exact hnx.1
     ·dsimp only;rw[show((k:Int)-1+1).toNat=k from by omega];exact hnx.2
def sg(z:Int):LV:=.bool (decide (z<0))
def mg(z:Int):LV:=.row (lm (Gb z.natAbs))
abbrev G8(z:Int):Ur:=[sg z,mg z]
def Gd(x y:LV)(z:Int):Prop:=∃b l,x=.bool b/\y=.row (lm l)/\Sm l/\z=Fb b (val l)
theorem U4(z:Int):Gd (sg z) (mg z) z:=by
 refine⟨_,_,rfl,rfl,Ls _,?_⟩;rw[G9];unfold Fb;by_cases h:z<0 <;> simp[h] <;> omega
theorem Qvo(b:Bool)(m:Nat):[LV.bool (b && decide (0<m)),LV.row (lm (Gb m))]=G8 (Fb b m):=by
 simp only[G8,sg,mg,LP,Ru]
theorem D2{m:Nat}:0<(Gb m).length↔0<m:=by
 rcases Q3 m with h|h
 ·subst h;rw[Hb];simp
 ·rw[E5 (by omega)];simp[h]
theorem P6(b:Bool)(m:Nat):Uj 134 [lr (Gb m),.one (.bool b)] [.agg (G8 (Fb b m))]:=by
 rw[<-Qvo];have e:=D2 (m:=m);cases b with
 |false=>exact Ug func134 rfl [.f rfl] rfl
 |true=>exact Ug func134 rfl [.t rfl] rfl (by simp[U7,e]) trivial
theorem Pz{b:Bool}{m:Nat}{k:Nat}(h:Fe (Fb b m)<=k):sz m<=k:=by
 unfold Fe at h;rwa[Ru]at h
theorem Mn{x y:LV}{z:Int}(hi:Gd x y z)(hs:Fe z<=4294967295):Uj 118 [.agg [x,y]] [.agg (G8 z)]:=by
 obtain⟨b,l,rfl,rfl,hl,rfl⟩:=hi;exact Ug func118 rfl [.k (KU hl (Qa (Pz hs) (by decide))),.k (P6 _ _)] rfl
theorem FQ(b:Bool)(m:Nat):Fb (!b) m=-(Fb b m):=by unfold Fb;cases b <;> simp
theorem BU{x y:LV}{z:Int}(hi:Gd x y z)(hs:Fe z<=4294967295):Uj 139 [.agg [x,y]] [.agg (G8 (-z))]:=by
 obtain⟨b,l,rfl,rfl,hl,rfl⟩:=hi;rw[<-FQ];exact Ug func139 rfl [.k (KU hl (Qa (Pz hs) (by decide))),.k (P6 _ _)] rfl
theorem P5{x y x' y':LV}{z z':Int}(hi:Gd x y z)(hi':Gd x' y' z')(hs:Fe z<=4294967295)(hs':Fe z'<=4294967295):Uj 143 [.agg [x,y],.agg [x',y']] [.agg (G8 (z*z'))]:=by
 obtain⟨b,l,rfl,rfl,hl,rfl⟩:=hi;obtain⟨b',l',rfl,rfl,hl',rfl⟩:=hi';have e:Fb b (val l)*Fb b' (val l')=Fb (b != b') (val l*val l'):=by
  unfold Fb;cases b <;> cases b' <;> simp[Int.neg_mul,Int.mul_neg]
 rw[e];exact Ug func143 rfl [.k (Qxn hl hl' (Qa (Pz hs) (by decide)) (Qa (Pz hs') (by decide))),.k (P6 _ _)] rfl
theorem BP{a b:Uo}(ha:Sm a)(hb:Sm b)(h1:sz (val a)<=4294967296)(h:val b<=val a):Uj 226 [lr a,lr b] [lr (Gb (val a-val b)),.one (.bool true)]:=by
 have:=Qrq ha hb h1;rwa[if_pos h]at this
theorem Qfj{a b:Uo}(ha:Sm a)(hb:Sm b)(h1:sz (val a)<=4294967296)(h:val a<val b):Uj 226 [lr a,lr b] [lr [],.one (.bool false)]:=by
 have:=Qrq ha hb h1;rwa[if_neg (by omega)]at this
theorem KH{x y x' y':LV}{z z':Int}(hi:Gd x y z)(hi':Gd x' y' z')(hs:Fe z<=4294967295)(hs':Fe z'<=4294967295):Uj 185 [.agg [x,y],.agg [x',y']] [.agg (G8 (z+z'))]:=by
 obtain⟨b,l,rfl,rfl,hl,rfl⟩:=hi;obtain⟨b',l',rfl,rfl,hl',rfl⟩:=hi';have s1:=Qa (Pz hs) (show 4294967295<=4294967296 by decide);have s2:=Qa (Pz hs') (show 4294967295<=4294967296 by decide);by_cases hb:b=b'
 ·subst hb;have e:Fb b (val l)+Fb b (val l')=Fb b (val l+val l'):=by unfold Fb;cases b <;> simp <;> omega
  rw[e];exact Ug func185 rfl [.t (by simp),.k (Qrm hl hl' s1 s2),.k (P6 _ _)] rfl
 ·by_cases hle:val l'<=val l
  ·have e:Fb b (val l)+Fb b' (val l')=Fb b (val l-val l'):=by unfold Fb;cases b <;> cases b' <;> simp at hb ⊢ <;> omega
   rw[e];exact Ug func185 rfl [.f (by simpa using hb),.k (BP hl hl' s1 hle),.t rfl,.k (P6 _ _)] rfl
  ·have e:Fb b (val l)+Fb b' (val l')=Fb b' (val l'-val l):=by unfold Fb;cases b <;> cases b' <;> simp at hb ⊢ <;> omega
   rw[e];exact Ug func185 rfl [.f (by simpa using hb),.k (Qfj hl hl' s1 (by omega)),.f rfl,.k (BP hl' hl s2 (by omega)),.k (P6 _ _)] rfl
theorem Qfr{x y x' y':LV}{z z':Int}(hi:Gd x y z)(hi':Gd x' y' z')(hs:Fe z<=4294967295)(hs':Fe z'<=4294967295):Uj 256 [.agg [x,y],.agg [x',y']] [.agg (G8 (z-z'))]:=by
 obtain⟨b',l',rfl,rfl,hl',rfl⟩:=hi';have hn:Gd (.bool (!b')) (.row (lm l')) (-(Fb b' (val l'))):=⟨_,_,rfl,rfl,hl',(FQ _ _).symm⟩;rw[Int.sub_eq_add_neg];have hi2:=hi;obtain⟨b,l,rfl,rfl,hl,_⟩:=hi;exact Ug func256 rfl [.k (KH hi2 hn hs (by rw[Hm];exact hs'))] rfl
theorem Qgd{x y:LV}{z:Int}(hi:Gd x y z)(hs:Fe z<=4294967295):Uj 154 [.agg [x,y]] [.oi (Int.sign z)]:=by
 obtain⟨b,l,rfl,rfl,hl,rfl⟩:=hi;have s1:=Qa (Pz hs) (show 4294967295<=4294967296 by decide);have cb:=pB hl s1;by_cases h0:val l=0
 ·have e:Fb b (val l)=0:=by unfold Fb;rw[h0];cases b <;> simp
  rw[e];exact Ug func154 rfl [.k cb,.t (by simp[EL,h0])] rfl
 ·have AU:sz (val l)≠0:=λh=>h0 (EL.1 h)
  cases b
  ·have e:(Fb false (val l)).sign=1:=Int.sign_eq_one_of_pos (by unfold Fb;simp;omega);rw[e];exact Ug func154 rfl [.k cb,.f (by simp;omega),.f rfl] rfl
  ·have e:(Fb true (val l)).sign=-1:=Int.sign_eq_neg_one_of_neg (by unfold Fb;simp;omega);rw[e];exact Ug func154 rfl [.k cb,.f (by simp;omega),.t rfl] rfl
theorem HN{x y x' y':LV}{z z':Int}(hi:Gd x y z)(hi':Gd x' y' z')(hs:Fe z<=4294967295)(hs':Fe z'<=4294967295):Uj 100 [.agg [x,y],.agg [x',y']] [.oi (La z z')]:=by
 have c1:=Qgd hi hs;have c2:=Qgd hi' hs';obtain⟨b,l,rfl,rfl,hl,hz⟩:=hi;obtain⟨b',l',rfl,rfl,hl',hz'⟩:=hi';have k1:=Az z;have k2:=Az z';have zl:z.natAbs=val l:=by rw[hz,Ru]
 have zl':z'.natAbs=val l':=by rw[hz',Ru]
 by_cases h1:z.sign<z'.sign
 ·have e:La z z'=-1:=by unfold La;rw[if_pos (by omega)]
  rw[e];exact Ug func100 rfl [.k c1,.k c2,.t (by simpa using h1)] rfl
 ·by_cases h2:z'.sign<z.sign
  ·have e:La z z'=1:=by unfold La;rw[if_neg (by omega),if_pos (by omega)]
   rw[e];exact Ug func100 rfl [.k c1,.k c2,.f (by simpa using h1),.t (by simpa using h2)] rfl
  ·by_cases h3:z.sign<0
   ·have e:ZT (val l') (val l)=La z z':=by unfold La ZT;rw[<-zl,<-zl'];split <;> split <;> (try split) <;> (try split) <;> omega
    have cc:=Qeh hl' hl;rw[e]at cc;exact Ug func100 rfl [.k c1,.k c2,.f (by simpa using h1),.f (by simpa using h2),.t (by simpa using h3),.k cc] rfl
   ·have e:ZT (val l) (val l')=La z z':=by unfold La ZT;rw[<-zl,<-zl'];split <;> split <;> (try split) <;> (try split) <;> omega
    have cc:=Qeh hl hl';rw[e]at cc;exact Ug func100 rfl [.k c1,.k c2,.f (by simpa using h1),.f (by simpa using h2),.f (by simpa using h3),.k cc] rfl
theorem Dl{z:Int}:Uj 136 [.agg (G8 z)] [.one (.bool (decide (z=0)))] :=
 Ug func136 rfl [] rfl (by simp only[U7];congr 3;have:=D2 (m:=z.natAbs);rw[decide_eq_decide];omega) trivial
theorem BF{z:Int}(h1:-9223372036854775808<=z/\z<=9223372036854775807):Uj 78 [.oi z] [.agg (G8 z)]:=by
 obtain⟨m,hm⟩:=nmE (z.natAbs);have sm:Sm [m % 4294967296,m / 4294967296]:=λx hx=>by
  simp at hx;rcases hx with rfl|rfl <;> omega
 have hv:val [m % 4294967296,m / 4294967296]=m:=by simp only[val];omega
 have cn:=KU sm (by rw[hv];exact Qa (Nt.2 (show m<2^64 by omega)) (show 64<=4294967296 by decide));rw[hv]at cn;by_cases hz:z<0
 ·have e:Fb true m=z:=by unfold Fb;simp;omega
  have cm:=P6 true m;rw[e]at cm;exact Ug func78 rfl [.w 0,.r 5 (Dy (b:=((18446744073709551616-m:Nat):Int)) (by rw[w64];omega)),.t (by simpa using hz),.w 0,.r 9 (Dy (b:=(m:Int)) (by rw[w64];omega)),.w 0,.r 11 (El (b:=((m % 4294967296:Nat):Int)) (by rw[zO];omega)),.i 32,.r 13 (Dy (b:=((m / 4294967296:Nat):Int)) (by simp)),.k cn,.r 18 (v:=.one (.bool true)) (by simp[hz]),.k cm] rfl rfl (by simp[U3,IntKind.bits] <;> omega)
 ·have e:Fb false m=z:=by unfold Fb;simp;omega
  have cm:=P6 false m;rw[e]at cm;exact Ug func78 rfl [.w 0,.r 5 (Dy (b:=(m:Int)) (by rw[w64];omega)),.f (by simpa using hz),.w 0,.r 11 (El (b:=((m % 4294967296:Nat):Int)) (by rw[zO];omega)),.i 32,.r 13 (Dy (b:=((m / 4294967296:Nat):Int)) (by simp)),.k cn,.r 18 (v:=.one (.bool false)) (by simp;omega),.k cm] rfl rfl (by simp[U3,IntKind.bits] <;> omega)
theorem pL{m n:Nat}(h1:sz m<=4294967296)(h2:sz n<=4294967296)(hn:0<n):Uj 182 [lr (Gb m),lr (Gb n)] [lr (Gb (m / n)),lr (Gb (m % n)),.oi 0]:=by
 have:=wX (Ls m) (Ls n) (by rw[G9];exact h1) (by rw[G9];exact h2) (by rw[G9];exact hn);rwa[G9,G9]at this
theorem Qbo{x y x' y':LV}{z z':Int}(hi:Gd x y z)(hi':Gd x' y' z')(hs:Fe z<=4294967295)(hs':Fe z'<=4294967295)(hz:z'≠0):Uj 183 [.agg [x,y],.agg [x',y']] [.agg (G8 (z / z')),.agg (G8 (z % z')),.oi 0]:=by
 obtain⟨b,l,rfl,rfl,hl,hz1⟩:=hi;obtain⟨b',l',rfl,rfl,hl',hz2⟩:=hi';have zl:z.natAbs=val l:=by rw[hz1,Ru]
 have zl':z'.natAbs=val l':=by rw[hz2,Ru]
 have s1:sz (val l)<=4294967296:=Qa (Pz (hz1 ▸ hs)) (by decide);have s2:sz (val l')<=4294967296:=Qa (Pz (hz2 ▸ hs')) (by decide);have hp:0<z'.natAbs:=by omega
 have e1:z=if b=true then -(z.natAbs:Int)else(z.natAbs:Int):=by rw[zl];exact hz1
 have e2:z'=if b'=true then -(z'.natAbs:Int)else(z'.natAbs:Int):=by rw[zl'];exact hz2
 have cd:=wX hl hl' s1 s2 (by omega);rw[<-zl,<-zl']at cd;have s0:sz (z.natAbs % z'.natAbs)<=4294967296:=Qa (Rh (Yk (Z4 _ hp))) (by rw[zl'];exact s2);cases b with
 |
  false =>
  obtain⟨d1,d2⟩:=CP e2 hp e1;rw[d1,d2];exact Ug func183 rfl [.k cd,.f rfl,.k (P6 _ _),.k (P6 _ _),.f rfl,.f rfl] rfl
 |
  true =>
  by_cases h0:z.natAbs % z'.natAbs=0
  ·obtain⟨d1,d2⟩:=PP e2 hp e1 h0;rw[d1,d2];exact Ug func183 rfl [.k cd,.f rfl,.k (P6 _ _),.k (P6 _ _),.t rfl,.f (by rw[h0,Hb];rfl)] rfl
  ·obtain⟨d1,d2⟩:=CS e2 hp e1 (by omega);rw[d1,d2];have ca:=Qrm (a:=Gb (z.natAbs / z'.natAbs)) (b:=[1]) (Ls _) (λx hx=>by simp at hx;subst hx;decide) (by rw[G9];exact Qa (Rh (Jq _ _)) (by rw[zl];exact s1)) (by decide);have cs:=BP (a:=l') (b:=Gb (z.natAbs % z'.natAbs)) hl' (Ls _) s2 (by rw[G9,<-zl'];exact Yk (Z4 _ hp));rw[G9]at ca cs;rw[<-zl']at cs;have hl0:=D2 (m:=z.natAbs % z'.natAbs);exact Ug func183 rfl [.k cd,.f rfl,.k (P6 _ _),.k (P6 _ _),.t rfl,.t (by simp[U7];omega),.k ca,.k cs,.k (P6 _ _),.k (P6 _ _)] rfl
theorem A8{x y x' y':LV}{z z':Int}(hi:Gd x y z)(hi':Gd x' y' z')(hs:Fe z<=4294967295)(hs':Fe z'<=4294967295)(hz:z'≠0)(hd:z % z'=0):Uj 140 [.agg [x,y],.agg [x',y']] [.agg (G8 (z / z')),.oi 0]:=by
 have cd:=Qbo hi hi' hs hs' hz;obtain⟨b,l,rfl,rfl,_⟩:=hi;obtain⟨b',l',rfl,rfl,_⟩:=hi';exact Ug func140 rfl [.k cd,.f rfl,.f (by rw[hd];simp[U7,Hb])] rfl
end Orr
namespace Orr
open Go
abbrev Q0x(l:Uo):LV:=.row (lm l)
def Rz(l:Um):Nat:=l.foldl (λg z=>Nat.gcd g z.natAbs) 0
theorem Qcj{l:Um}{i:Nat}{z:Int}(h:l[i]? = some z):Rz (l.take (i+1))=Nat.gcd (Rz (l.take i)) z.natAbs:=by
 unfold Rz;rw[Y7,h];simp[Vq]
theorem Qot(g x:Nat):Nat.gcd x (g % x)=Nat.gcd g x:=by
 rw[Nat.gcd_comm g x,Nat.gcd_rec x g,Nat.gcd_comm]
theorem AB(l:Um):l.foldl (λg z=>Nat.gcd g z.natAbs) 1=1:=by
 induction l with
 |nil=>rfl
 |cons z l ih=>simp[ih]
theorem Qhz{l:Um}{i:Nat}(h:Rz (l.take i)=1):Rz l=1:=by
 have e:l=l.take i++l.drop i:=(Zh i l).symm;unfold Rz at h ⊢;rw[e,Vq,h,AB]
def trim:Um->Um
 | []=>[]
 |
  x::l=>match trim l with
  | []=>if x=0 then []else [x]
  |y::k=>x::y::k
theorem WN:∀{l:Um},(∀x∈l,x=0)->trim l=[]
 | [],_=>rfl
 |
  x::l,h=>by
  have ih:=WN (l:=l) (λy hy=>h y (Qg _ hy));simp[trim,ih,h x (Qy ..)]
theorem zE:∀{l:Um} {m:Nat} {y:Int},(∀j x,m<j->l[j]? = some x->x=0)->l[m]? = some y->y≠0->trim l=l.take (m+1)
 | [],m,y,_,h,_=>by simp at h
 |
  x::l,0,y,h1,h2,h3=>by
  have h0:trim l=[]:=WN λz hz=>by
   obtain⟨j,hj⟩:=Zk.1 hz;exact h1 (j+1) z (by omega) (by simpa using hj)
  simp at h2;subst h2;simp[trim,h0,h3]
 |
  x::l,m+1,y,h1,h2,h3=>by
  have ih:=zE (l:=l) (m:=m) (y:=y) (λj z hj hz=>h1 (j+1) z (by omega) (by simpa using hz)) (by simpa using h2) h3;cases hl:l with
  |nil=>subst hl;simp at h2
  |
   cons u k =>
   subst hl;rw[Ve]at ih;simp only[trim]at ih ⊢;rw[ih];simp
def Ff(l:Um):Prop:=trim l=l
theorem Rq:∀(l:Um),Ff (trim l)
 | []=>rfl
 |
  x::l=>by
  have ih:=Rq l;unfold Ff at ih ⊢;cases h:trim l with
  |nil=>by_cases hx:x=0 <;> simp[trim,h,hx]
  |
   cons y k =>
   rw[h]at ih;simp only[trim,h]at ih ⊢;rw[ih]
theorem sX{l:Um}{m:Nat}(hm:m<=l.length)(h1:∀j x,m<=j->l[j]? = some x->x=0)(h2:0<m->∃y,l[m-1]? = some y/\y≠0):trim l=l.take m:=by
 rcases Q3 m with h0|h0
 ·subst h0;rw[WN λz hz=>?_];rfl;obtain⟨j,hj⟩:=Zk.1 hz;exact h1 j z (by omega) hj
 ·obtain⟨y,hy,hy0⟩:=h2 h0;have:=zE (l:=l) (m:=m-1) (y:=y) (λj x hj hx=>h1 j x (by omega) hx) hy hy0;rwa[show m-1+1=m from by omega]at this
def IsInts:Us->Um->Prop
 | [],[]=>True
 |x::l,z::p=>(∃a b,x=[a,b]/\Gd a b z)/\IsInts l p
 |_,_=>False
theorem IsInts.len:∀{l:Us} {p:Um},IsInts l p->l.length=p.length
 | [],[],_=>rfl
 |x::l,z::p,h=>by simp[h.2.len]
 | [],_::_,h=>h.elim
 |_::_,[],h=>h.elim
theorem IsInts.get:∀{l:Us} {p:Um},IsInts l p->∀{i:Nat} {z:Int},p[i]? = some z->∃a b,l[i]? = some [a,b]/\Gd a b z
 | [],[],_,i,z,h=>by simp at h
 |
  x::l,y::p,h,0,z,hz=>by
  simp at hz;subst hz;obtain⟨a,b,rfl,hi⟩:=h.1;exact⟨a,b,rfl,hi⟩
 |x::l,y::p,h,i+1,z,hz=>by simpa using h.2.get (i:=i) (by simpa using hz)
 | [],_::_,h,_,_,_=>h.elim
 |_::_,[],h,_,_,_=>h.elim
theorem Gg:∀(p:Um),IsInts (p.map G8) p
 | []=>trivial
 |z::p=>⟨⟨_,_,rfl,U4 z⟩,Gg p⟩
theorem IsInts.append:∀{l l':Us} {p p':Um},IsInts l p->IsInts l' p'->IsInts (l++l') (p++p')
 | [],_,[],_,_,h=>h
 |x::l,_,z::p,_,h,h'=>⟨h.1,h.2.append h'⟩
 | [],_,_::_,_,h,_=>h.elim
 |_::_,_,[],_,h,_=>h.elim
def pl(p:Um):LV:=.row (p.map G8)
def ids(l:Um):LV:=.row (l.map λ(x:Int)=>[.int .i64 x])
theorem QM:Gd (.bool false) (.row []) 0:=⟨false,[],rfl,rfl,(λx hx=>by cases hx),rfl⟩
theorem Qqh:sg 0=.bool false:=rfl
theorem Qcr{z:Int}:(Gb z.natAbs).length=0↔z=0:=by
 constructor
 ·intro h;have h0:=Qj h;have:=(FB (Do z.natAbs)).2 h0;rw[G9]at this;omega
 ·rintro rfl;rw[show(0:Int).natAbs=0 from rfl,Hb];rfl
theorem G5{α β:Type}{f:α->β}{l:List α}{i:Nat}{x:α}(h:l[i]? = some x):(l.map f)[i]? = some (f x):=by rw[Q9,h];rfl
theorem Qsc{α:Type}{f:α->Ur}{sz:Nat}(l:List α)(h:∀x,(f x).length=sz):∀c∈l.map f,c.length=sz:=λc hc=>by
 obtain⟨x,_,rfl⟩:=Za.1 hc;exact h x
theorem Qo5:mg 0=.row []:=by simp[mg,Hb,lm]
theorem Ll:G8 0=[LV.bool false,LV.row []]:=by simp[G8,Qqh,Qo5]
end Orr
namespace Orr
open Go Go.Proofs Tryz
set_option maxRecDepth 10000
theorem MB{p:Um}(hs:∀z∈p,Fe z≤4294967295):sz (Rz p)≤4294967295:=by
 have key:∀(p:Um) (g:Nat),sz g≤4294967295->(∀z∈p,Fe z≤4294967295)->sz (p.foldl (λg z=>Nat.gcd g z.natAbs) g)≤4294967295:=by
  intro p
  induction p with
  |nil=>exact λg h _=>h
  |
   cons z p ih =>
   intro g h hs;refine ih _ ?_ λy hy=>hs y (.tail _ hy)
   rcases Q3 g with h0|h0
   ·subst h0;show sz (Nat.gcd 0 z.natAbs)<=_;rw[Nat.gcd_zero_left];exact hs z (.head _)
   ·exact Qa (Rh (Nat.gcd_le_left _ h0)) h
 exact key p 0 (by decide) hs
theorem Qeq{l:Us}{p:Um}(hi:IsInts l p)(hs:∀z∈p,Fe z≤4294967295):Uj 138 [.one (.row l)] [.agg (G8 ((Rz p:Nat):Int))]:=by
 refine Fv func138 rfl (ln 0 rfl rfl λhl=>?_);have hlp:=hi.len;refine Ud [.z 3,.r 3 (v:=lr (Gb (Rz (p.take 0)))) (by simp[Rz,Hb,lm])] rfl ?_;refine ct 2 (S:=Unit) (λ_=>[(2,.v (.one (.ow 0 0))),(3,.v (lr (Gb (Rz p))))]) (λ_=>[.blk 37 [.bool false,.nils],.gone]) (λ_=>True) rfl ?_ ?_
 ·refine Ui (S:=Nat) 1 (λL1 i=>(12,.v (.oi i))::(3,.v (lr (Gb (Rz (p.take i)))))::L1) (λ_=>[.blk 37 [.bool false,.nils]]) (λi=>p.length-i) (λi=>i<=p.length) 0 (Qh _) rfl rfl λi hip=>?_
  by_cases h:i<p.length
  ·have hlt:i<l.length:=by omega
   obtain⟨c,hc⟩:=gxE (l:=l) (i:=i) hlt;obtain⟨z,hz⟩:=gxE (l:=p) (i:=i) h;obtain⟨x,y,hc',b,r,rfl,rfl,hr,hzz⟩:=hi.get hz;rw[hc]at hc';injection hc' with hc';subst hc'
   have hsz:=hs z (Qc hz);have hg0:sz (Rz (p.take i))<=4294967295:=MB λy hy=>hs y (Qo hy)
   have ezr:z.natAbs=val r:=by rw[hzz,Ru]
   have cn:=KU hr (by rw[<-ezr];exact Qa hsz (by decide));rw[<-ezr]at cn;refine Ud [.t (by simp;omega),.x hc,.k cn] rfl ?_;refine Ui (S:=Nat×Nat) 2 (λL1 s=>(3,.v (lr (Gb s.1)))::(6,.v (lr (Gb s.2)))::L1) (λ_=>[.blk 37 [.bool false,.nils],.blk 37 [.bool b,.row (lm r)]]) (λs=>s.2) (λs=>Nat.gcd s.1 s.2=Nat.gcd (Rz (p.take i)) z.natAbs/\sz s.1<=4294967295/\sz s.2<=4294967295) (Rz (p.take i),z.natAbs) ⟨rfl,hg0,hsz⟩ rfl rfl λ⟨g,u⟩ ⟨j1,j2,j3⟩=>?_
   dsimp only at j1 j2 j3 ⊢;have hul:=D2 (m:=u);by_cases hu:0<u
   ·have cd:=pL (m:=g) (n:=u) (by omega) (by omega) hu;refine Ud [.t (by simp[U7];omega),.k cd] rfl ?_;exact rd (u,g % u) (Z4 _ hu) ⟨(Qot g u).trans j1,j3,Qa (Rh (Yk (Z4 _ hu))) j3⟩ rfl
   ·obtain rfl:u=0:=by omega
    rw[Nat.gcd_zero_right,<-Qcj hz]at j1;subst j1;by_cases h1:Rz (p.take (i+1))=1
    ·have e1:Gb (Rz (p.take (i+1)))=[1]:=by rw[h1,E5 (by decide)];simp[Hb]
     refine Ud [.f (by simp[Hb,lm]),.t (by rw[e1];rfl),.x (G0 (i:=0) (x:=1) (by rw[e1];rfl)),.t rfl] rfl ?_;exact rc () trivial (by rw[h1,Qhz h1];rfl)
    ·obtain⟨g,hg⟩:=nmE (Rz (p.take (i+1)));rw[<-hg]at h1 j2 ⊢;by_cases h2:(Gb g).length=1
     ·obtain⟨v,hv⟩:∃v,Gb g=[v]:=by
       match hm:Gb g,h2 with
       | [v],_=>exact⟨v,rfl⟩
      have hv1:v≠1:=λe=>h1 (by rw[<-G9 g,hv,e];rfl)
      refine go tt [.f (by simp[Hb,lm]),.t (by simp[U7,h2]),.x (G0 (i:=0) (x:=v) (by rw[hv];rfl)),.f (by simp;omega)] rfl (by simp[U3] <;> omega) ?_;exact rd (i+1) (by omega) h (by rw[<-hg];rfl)
     ·refine go tt [.f (by simp[Hb,lm]),.f (by simp[U7];omega),.f rfl] rfl (by simp[U3] <;> omega) ?_;exact rd (i+1) (by omega) h (by rw[<-hg];rfl)
  ·obtain rfl:i=p.length:=by omega
   refine Ud [.f (by simp;omega)] rfl ?_;rw[Q6];exact rc () trivial rfl
 ·intro _ _;have cn:=KU (Ls (Rz p)) (by rw[G9];exact Qa (MB hs) (by decide));rw[G9]at cn;exact Uf [.k cn,.k (P6 false _)] rfl (by simp[Fb]) trivial
end Orr
namespace Orr
def Bd(s:Nat)(p:Um):Prop:=∀z∈p,Fe z≤s
theorem Ni:Fe 0=0:=rfl
theorem Qee{s:Nat}{p:Um}(h:Bd s p){i:Nat}{z:Int}(hz:p[i]? = some z):Fe z<=s:=h z (Qc hz)
theorem Ft{s:Nat}{p:Um}(h:Bd s p)(k:Nat):Fe (p.getD k 0)<=s:=by
 rw[Qi];cases hk:p[k]? with
 |none=>rw[Kx,Ni];exact Qh _
 |some z=>exact Qee h hk
theorem U5{s t:Nat}{p:Um}(h:Bd s p)(ht:s<=t):Bd t p:=λz hz=>Qa (h z hz) ht
theorem KV{s:Nat}:Bd s []:=λz hz=>by cases hz
theorem Qs2{s:Nat}{n:Nat}{g:Nat->Int}(h:∀k,k<n->Fe (g k)<=s):Bd s ((List.range n).map g):=λz hz=>by
 obtain⟨k,hk,rfl⟩:=Za.1 hz;exact h k (Kj.1 hk)
theorem sY:∀(l:Um),∀z∈trim l,z∈l
 | [],z,h=>by cases h
 |
  x::l,z,h=>by
  have ih:=sY l;cases hl:trim l with
  |
   nil =>
   simp only[trim,hl]at h
   split at h
   ·cases h
   ·rw[Qk]at h;rw[h];exact Qy ..
  |
   cons y k =>
   simp only[trim,hl]at h;rcases Qm.1 h with rfl|h
   ·exact Qy ..
   ·exact Qg _ (ih z (by rw[hl];exact h))
theorem H7(l:Um):(trim l).length<=l.length:=by
 induction l with
 |nil=>exact Ql _
 |
  cons x l ih =>
  cases hl:trim l with
  |nil=>simp only[trim,hl];split <;> simp
  |cons y k=>simp only[trim,hl];rw[hl]at ih;simp at ih ⊢;exact ih
theorem Tx{s:Nat}{p:Um}(h:Bd s p):Bd s (trim p):=λz hz=>h z (sY p z hz)
theorem VV:∀(l:Um) (k:Nat),(trim l).getD k 0=l.getD k 0
 | [],k=>rfl
 |
  x::l,k=>by
  have ih:=VV l;cases hl:trim l with
  |
   nil =>
   rw[hl]at ih;simp only[trim,hl]
   split
   ·rename_i hx;cases k with
    |zero=>simp[hx]
    |succ k=>have:=ih k;simp at this ⊢;exact this
   ·cases k with
    |zero=>simp
    |succ k=>have:=ih k;simp at this ⊢;exact this
  |
   cons y m =>
   rw[hl]at ih;simp only[trim,hl];cases k with
   |zero=>simp
   |succ k=>have:=ih k;simp at this ⊢;exact this
def A4(n:Nat)(g:Nat->Int):Um:=trim ((List.range n).map g)
theorem Fy(n:Nat)(g:Nat->Int):Ff (A4 n g):=Rq _
theorem I9(n:Nat)(g:Nat->Int):(A4 n g).length<=n:=Qa (H7 _) (by simp)
theorem Pd(n:Nat)(g:Nat->Int)(k:Nat):(A4 n g).getD k 0=if k<n then g k else 0:=by
 unfold A4;rw[VV,Qi,Q9]
 split
 ·rename_i h;rw[List.getElem?_range h];rfl
 ·rename_i h;rw[List.getElem?_eq_none (by simpa using h)];rfl
theorem YQ{s n:Nat}{g:Nat->Int}(h:∀k,k<n->Fe (g k)<=s):Bd s (A4 n g):=Tx (Qs2 h)
def A5(p q:Um):Um:=A4 (max p.length q.length) λk=>p.getD k 0+q.getD k 0
def Na(p q:Um):Um:=A4 (max p.length q.length) λk=>p.getD k 0-q.getD k 0
def Mv(p:Um):Um:=A4 p.length λk=>-(p.getD k 0)
def Fw(p:Um)(c:Int):Um:=A4 p.length λk=>p.getD k 0*c
def Gw(p:Um):Um:=A4 (p.length-1) λk=>p.getD (k+1) 0*((k+1:Nat):Int)
theorem YZ{s t:Nat}{p q:Um}(h:Bd s p)(h':Bd t q):Bd (max s t+1) (A5 p q):=YQ λk _=>Qa (QB _ _) (by have:=Ft h k;have:=Ft h' k;omega)
theorem Du{s t:Nat}{p q:Um}(h:Bd s p)(h':Bd t q):Bd (max s t+1) (Na p q):=YQ λk _=>Qa (jA _ _) (by have:=Ft h k;have:=Ft h' k;omega)
theorem MX{s:Nat}{p:Um}(h:Bd s p):Bd s (Mv p):=YQ λk _=>by rw[Hm];exact Ft h k
theorem Ge{s t:Nat}{p:Um}{c:Int}(h:Bd s p)(hc:Fe c<=t):Bd (s+t) (Fw p c):=YQ λk _=>Qa (Ga _ _) (by have:=Ft h k;omega)
theorem Of(p q:Um):(A5 p q).length<=max p.length q.length:=I9 _ _
theorem Nk(p q:Um):(Na p q).length<=max p.length q.length:=I9 _ _
theorem XD(p:Um):(Mv p).length<=p.length:=I9 _ _
theorem Fx(p:Um)(c:Int):(Fw p c).length<=p.length:=I9 _ _
theorem Nj(p:Um):(Gw p).length<=p.length-1:=I9 _ _
theorem jE{k t:Nat}(h:k<2^t):Fe (k:Int)<=t:=by rw[Sw];simpa using h
theorem Qco{k:Nat}(h:k<274877906944):Fe (k:Int)<=4294967295:=Qa (jE (t:=38) (Kh h (by decide))) (by omega)
theorem xU{s t:Nat}{p:Um}(h:Bd s p)(hl:p.length<=2^t):Bd (s+t) (Gw p):=YQ λk hk=>Qa (Ga _ _) (by
 have:=Ft h (k+1);have:=jE (k:=k+1) (t:=t) (by omega);omega)
def Oj(x:Int)(b:Um)(i:Nat)(o:Um):Nat->Um
 | 0=>o
 |k+1=>(Oj x b i o k).set (i+k) ((Oj x b i o k).getD (i+k) 0+x*b.getD k 0)
def Au(a b o:Um):Nat->Um
 | 0=>o
 |i+1=>Oj (a.getD i 0) b i (Au a b o i) b.length
def Gl(a b:Um):Um:=if a.length=0\/b.length=0 then []else trim (Au a b (List.replicate (a.length+b.length-1) 0) a.length)
theorem Ol(x:Int)(b:Um)(i:Nat)(o:Um)(k:Nat):(Oj x b i o k).length=o.length:=by
 induction k with
 |zero=>rfl
 |succ k ih=>simp[Oj,ih]
theorem Li(a b o:Um)(i:Nat):(Au a b o i).length=o.length:=by
 induction i with
 |zero=>rfl
 |succ i ih=>simp[Au,Ol,ih]
theorem Qh6(l:Um)(i m:Nat)(v:Int)(h:i<l.length):(l.set i v).getD m 0=if m=i then v else l.getD m 0:=by
 rw[Qi,Yn,Qi];by_cases e:i=m
 ·subst e;simp[h]
 ·rw[if_neg e,if_neg (λh=>e h.symm)]
theorem Qcv(x:Int)(b:Um)(i:Nat)(o:Um)(k m:Nat)(h:i+k<=o.length):(Oj x b i o k).getD m 0=if i<=m/\m<i+k then o.getD m 0+x*b.getD (m-i) 0 else o.getD m 0:=by
 induction k with
 |zero=>simp only[Oj];rw[if_neg (by omega)]
 |
  succ k ih =>
  have ih:=ih (by omega);simp only[Oj];rw[Qh6 _ _ _ _ (by rw[Ol];omega)];by_cases e:m=i+k
  ·subst e;rw[if_pos rfl,if_pos (by omega),show i+k-i=k from by omega];rw[ih,if_neg (by omega)]
  ·rw[if_neg e,ih];by_cases h1:i<=m/\m<i+k
   ·rw[if_pos h1,if_pos (by omega)]
   ·rw[if_neg h1,if_neg (by omega)]
theorem Nl{x y:Int}{s t:Nat}(hx:Fe x<=s)(hy:Fe y<=t):(x*y).natAbs<=2^(s+t):=by
 have h:=Qa (Ga x y) (show _<=s+t by omega);rw[Sw]at h;omega
theorem yU{x:Int}{b:Um}{i:Nat}{o:Um}{k M:Nat}(h:i+k<=o.length)(ho:∀m,(o.getD m 0).natAbs<=i*M)(hx:∀j,(x*b.getD j 0).natAbs<=M)(m:Nat):((Oj x b i o k).getD m 0).natAbs<=(i+1)*M:=by
 rw[Qcv x b i o k m h,Xa];have h1:=ho m
 split
 ·have h2:=hx (m-i);generalize i*M=q at *;omega
 ·omega
theorem yW{a b o:Um}{i M:Nat}(h:∀j,j<i->j+b.length<=o.length)(ho:∀m,o.getD m 0=0)(hx:∀i j,(a.getD i 0*b.getD j 0).natAbs<=M)(m:Nat):((Au a b o i).getD m 0).natAbs<=i*M:=by
 induction i generalizing m with
 |zero=>simp only[Au];rw[ho];simp
 |
  succ i ih =>
  simp only[Au];exact yU (by rw[Li];exact h i (by omega)) (ih λj hj=>h j (by omega)) (hx i) m
theorem Iv{z:Int}{i s t:Nat}(h:z.natAbs<=i*2^s)(hi:i<2^t):Fe z<=s+t:=by
 rw[Sw];have h1:i*2^s<2^t*2^s:=Xn hi (Z2 (by decide));rw[<-Xf,Ju t s]at h1;omega
theorem Cn(n m:Nat):(List.replicate n (0:Int)).getD m 0=0:=by
 rw[Qi,Jz];split <;> rfl
theorem NA{s:Nat}{p:Um}(h:∀m,Fe (p.getD m 0)<=s):Bd s p:=λz hz=>by
 obtain⟨i,hi⟩:=Zk.1 hz;have:=h i;rw[Qi,hi]at this;exact this
theorem Tw(a b:Um):(Gl a b).length<=a.length+b.length-1:=by
 unfold Gl
 split
 ·simp
 ·refine Qa (H7 _) ?_;rw[Li];simp
theorem Pm{s t u:Nat}{a b:Um}(ha:Bd s a)(hb:Bd t b)(hl:a.length<2^u):Bd (s+t+u) (Gl a b):=by
 unfold Gl
 split
 ·exact KV
 ·refine Tx (NA λm=>?_);exact Iv (yW (M:=2^(s+t)) (λj hj=>by simp;omega) (Cn _) (λi j=>Nl (Ft ha i) (Ft hb j)) m) hl
theorem Hz(a b:Um):Ff (Gl a b):=by
 unfold Gl
 split
 ·rfl
 ·exact Rq _
def Ec(a:Um)(n d:Int):Nat->Int×Int
 | 0=>(0,1)
 |k+1=>((Ec a n d k).1*n+a.getD (a.length-1-k) 0*(Ec a n d k).2,(Ec a n d k).2*d)
def Qvt(a:Um)(n d:Int):Int:=(Ec a n d a.length).1
theorem Qar{a:Um}{n d:Int}{s t k:Nat}(ha:Bd s a)(hn:Fe n<=t)(hd:Fe d<=t):Fe (Ec a n d k).1<=s+2+k*(t+1)/\Fe (Ec a n d k).2<=1+k*t:=by
 induction k with
 |zero=>exact⟨by simp[Ec,Ni],by simp[Ec];decide⟩
 |
  succ k ih =>
  obtain⟨h1,h2⟩:=ih;have h3:=Ft ha (a.length-1-k);have e1:k*(t+1)=k*t+k:=by rw[Xj,Yw]
  rw[Xa,Xa];refine⟨?_,?_⟩
  ·simp only[Ec];refine Qa (QB _ _) ?_;have h4:=Ga (Ec a n d k).1 n;have h5:=Ga (a.getD (a.length-1-k) 0) (Ec a n d k).2;generalize k*t=q at *;rw[e1]at h1 ⊢;omega
  ·simp only[Ec];have h4:=Ga (Ec a n d k).2 d;generalize k*t=q at *;omega
end Orr
namespace Orr
theorem jQ{x y:Int}:La x y=0↔x=y:=by
 unfold La;constructor
 ·intro h
  split at h
  ·omega
  ·split at h <;> omega
 ·rintro rfl;simp
theorem H8{p:Um}(h:Ff p)(h0:0<p.length):p.getD (p.length-1) 0≠0:=by
 induction p with
 |nil=>simp at h0
 |
  cons x l ih =>
  unfold Ff at h;cases hl:trim l with
  |
   nil =>
   simp only[trim,hl]at h
   split at h
   ·cases h
   ·rename_i hx;injection h with h1 h2;subst h2;simpa using hx
  |
   cons y k =>
   simp only[trim,hl]at h;injection h with h1 h2;rw[<-hl]at h2;have ih:=ih h2 (by rw[<-h2,hl];simp);have h3:0<l.length:=by rw[<-h2,hl];simp
   simp only[Q5,Yb];obtain⟨m,hm⟩:∃m,l.length=m+1:=⟨l.length-1,by omega⟩;rw[hm]at ih ⊢;simpa using ih
end Orr
namespace Orr
theorem fE(p:Um):(List.range p.length).map (λk=>p.getD k 0)=p:=by
 apply Xl;intro i;rw[Q9];rcases Zb i p.length with h|h
 ·rw[X3 h];simp[Qe h]
 ·rw[Qw (by simpa using h),Qw h];rfl
theorem CO{p q:Um}(hl:p.length=q.length)(h:∀j,j<p.length->p.getD j 0=q.getD j 0):p=q:=by
 rw[<-fE p,<-fE q,<-hl];exact Xq λj hj=>h j (Kj.1 hj)
end Orr
namespace Orr
abbrev rl(q:Rat):Ur:=[sg q.num,mg q.num,sg (q.den:Int),mg (q.den:Int)]
theorem Lc(n d:Int):Rz [n,d]=Int.gcd d n:=by
 unfold Rz;simp only[Z9,List.foldl_nil,Nat.gcd_zero_left];exact Nat.gcd_comm _ _
theorem fZ{n d:Int}(hd:d≠0):(0:Int)<((Rz [n,d]:Nat):Int):=by
 rw[Lc];have:=Int.gcd_pos_of_ne_zero_left n hd;omega
theorem DT(n d:Int):n % ((Rz [n,d]:Nat):Int)=0:=by
 rw[Lc];exact Jx (Wv ..)
theorem DN(n d:Int):d % ((Rz [n,d]:Nat):Int)=0:=by
 rw[Lc];exact Jx (Int.gcd_dvd_left ..)
theorem iT{n g:Int}(h:n % g=0):-n % g=0:=by
 exact Jx (Int.dvd_neg.2 (Vf h))
theorem aB{n d:Int}{s:Nat}(hd:d≠0)(h:Fe d<=s):Fe ((Rz [n,d]:Nat):Int)<=s:=by
 rw[Lc];refine Qa (Rh ?_) h;have:=Kv (by omega:0<d.natAbs) (show Int.gcd d n∣d.natAbs from W0 _ _);simpa using this
theorem iV{n d:Int}(hd:0<d):n / ((Rz [n,d]:Nat):Int)=(Rat.divInt n d).num/\d / ((Rz [n,d]:Nat):Int)=((Rat.divInt n d).den:Int):=by
 rw[Lc,Rat.num_divInt,Wm,if_neg (by omega),Yu hd,Kq];refine⟨rfl,?_⟩;rw[Int.natCast_ediv,Int.natAbs_of_nonneg (by omega)]
theorem Qo4{n d:Int}(hd:d<0):-n / ((Rz [n,d]:Nat):Int)=(Rat.divInt n d).num/\-d / ((Rz [n,d]:Nat):Int)=((Rat.divInt n d).den:Int):=by
 rw[Lc,Rat.num_divInt,Wm,if_neg (by omega),J7 hd,Ko,Kq];refine⟨rfl,?_⟩;rw[Int.natCast_ediv,Int.ofNat_natAbs_of_nonpos (by omega)]
theorem XM(u g:Int):Fe (u / g)<=Fe u:=by
 unfold Fe;exact Rh (Int.natAbs_ediv_le_natAbs u g)
theorem Pf{n d:Int}{s:Nat}(h:Fe n<=s):Fe (Rat.divInt n d).num<=s:=by
 rw[Rat.num_divInt];refine Qa (XM _ _) ?_;unfold Fe;rw[J9];refine Qa (Rh ?_) h;have:d.sign.natAbs<=1:=by rcases Az d with⟨_,e⟩|⟨_,e⟩|⟨_,e⟩ <;> rw[e] <;> decide
 calc d.sign.natAbs*n.natAbs<=1*n.natAbs:=Q0 _ this
  _=n.natAbs:=Wn _
theorem Pe{n d:Int}{s:Nat}(h:Fe d<=s)(h1:1<=s):Fe ((Rat.divInt n d).den:Int)<=s:=by
 rw[Wm]
 split
 ·exact h1
 ·refine Qa (Rh ?_) h;exact Jq _ _
def Qs(s:Nat)(q:Rat):Prop:=Fe q.num<=s/\Fe (q.den:Int)<=s
theorem Qs.mono{s t:Nat}{q:Rat}(h:Qs s q)(ht:s<=t):Qs t q:=⟨Qa h.1 ht,Qa h.2 ht⟩
theorem Qs.divInt{s:Nat}{n d:Int}(h:Fe n<=s)(h':Fe d<=s)(h1:1<=s):Qs s (Rat.divInt n d):=⟨Pf h,Pe h' h1⟩
theorem Dm(q:Rat):(q.den:Int)≠0:=by have:=q.den_nz;omega
theorem den_pos(q:Rat):(0:Int)<(q.den:Int):=by have:=q.den_nz;omega
def Gi(n d:Int):Rat:=Rat.divInt n (if d=0 then 1 else d)
theorem Su(q:Rat):Gi q.num q.den=q:=by
 unfold Gi;rw[if_neg (Dm q)];exact Z5 q
def He(a b:Rat):Int:=La (a.num*(b.den:Int)) (b.num*(a.den:Int))
theorem Ny{a b:Rat}:He a b<0↔a<b:=by
 rw[Rat.lt_iff];unfold He La;constructor
 ·intro h;split at h
  ·assumption
  ·split at h <;> omega
 ·intro h;rw[if_pos h];decide
theorem Ek{a b:Rat}:0<He a b↔b<a:=by
 rw[Rat.lt_iff];unfold He La;constructor
 ·intro h;split at h
  ·omega
  ·split at h
   ·assumption
   ·omega
 ·intro h;rw[if_neg (by omega),if_pos h];decide
theorem Ey(a:Rat):He a a=0:=by unfold He La;simp
structure Crv where
 x:List Int
 y:List Int
 d:Int
abbrev cl(k:Crv):Ur:=[pl k.x,pl k.y,sg k.d,mg k.d]
def Crv.d'(k:Crv):Int:=if k.d=0 then 1 else k.d
def Crv.g(k:Crv):Int:=if k.d'<0 then -((Rz (k.d'::(trim k.x++trim k.y)):Nat):Int)else(Rz (k.d'::(trim k.x++trim k.y)):Nat)
def Crv.norm(k:Crv):Crv:=⟨trim ((trim k.x).map (· / k.g)),trim ((trim k.y).map (· / k.g)),k.d' / k.g⟩
theorem XF{l:Um}:∀z∈l,((Rz l:Nat):Int)∣z:=by
 have key:∀(l:Um) (g:Nat),(l.foldl (λg z=>Nat.gcd g z.natAbs) g∣g)/\∀z∈l,l.foldl (λg z=>Nat.gcd g z.natAbs) g∣z.natAbs:=by
  intro l
  induction l with
  |nil=>intro g;exact⟨Nat.dvd_refl _,by simp⟩
  |
   cons u l ih =>
   intro g;obtain⟨h1,h2⟩:=ih (Nat.gcd g u.natAbs);refine⟨Nat.dvd_trans h1 (W0 _ _),λz hz=>?_⟩;rcases Qm.1 hz with rfl|hz
   ·exact Nat.dvd_trans h1 (Nat.gcd_dvd_right _ _)
   ·exact h2 z hz
 intro z hz;have:=(key l 0).2 z hz;exact Wp.2 this
theorem Crv.d'_ne(k:Crv):k.d'≠0:=by unfold Crv.d';split <;> omega
theorem Crv.gcd_ne(k:Crv):Rz (k.d'::(trim k.x++trim k.y))≠0:=by
 intro e;have h:=XF (l:=k.d'::(trim k.x++trim k.y)) k.d' (Qy ..);rw[e]at h;exact k.d'_ne (by simpa using h)
theorem Crv.g_ne(k:Crv):k.g≠0:=by
 have h0:=k.gcd_ne;unfold Crv.g
 split <;> omega
theorem Crv.g_dvd(k:Crv):∀z∈k.d'::(trim k.x++trim k.y),z % k.g=0:=by
 intro z hz;have h:=XF z hz;refine Jx ?_;unfold Crv.g
 split
 ·exact Uc.2 h
 ·exact h
theorem Crv.isz_g(k:Crv){s:Nat}(h:Fe k.d'<=s):Fe k.g<=s:=by
 have hd:=XF (l:=k.d'::(trim k.x++trim k.y)) k.d' (Qy ..);have hle:Rz (k.d'::(trim k.x++trim k.y))<=k.d'.natAbs:=Kv (by have:=k.d'_ne;omega) (Wp.1 hd);refine Qa (Rh ?_) h;unfold Crv.g
 split <;> simp <;> exact hle
structure Cs(s n:Nat)(k:Crv):Prop where
 x:Bd s k.x
 y:Bd s k.y
 d:Fe k.d<=s
 lx:k.x.length<=n
 ly:k.y.length<=n
theorem Qij{k:Crv}{s:Nat}(h:Fe k.d<=s)(h1:1<=s):Fe k.d'<=s:=by unfold Crv.d';split <;> first|exact h1|exact h
theorem HF{s:Nat}{p:Um}(h:Bd s p)(g:Int):Bd s (p.map (· / g)):=λz hz=>by
 obtain⟨u,hu,rfl⟩:=Za.1 hz;exact Qa (XM u g) (h u hu)
theorem Cs.norm{s n:Nat}{k:Crv}(h:Cs s n k)(h1:1<=s):Cs s n k.norm:=by
 refine⟨Tx (HF (Tx h.x) _),Tx (HF (Tx h.y) _),Qa (XM _ _) (Qij h.d h1),?_,?_⟩
 ·refine Qa (H7 _) ?_;rw[Q8];exact Qa (H7 _) h.lx
 ·refine Qa (H7 _) ?_;rw[Q8];exact Qa (H7 _) h.ly
theorem Cs.mono{s n t m:Nat}{k:Crv}(h:Cs s n k)(hs:s<=t)(hn:n<=m):Cs t m k:=⟨U5 h.x hs,U5 h.y hs,Qa h.d hs,Qa h.lx hn,Qa h.ly hn⟩
def ZL(k:Crv):Prop:=Ff k.x/\Ff k.y/\0<k.d/\Rz (k.d::(k.x++k.y))=1
theorem Crv.norm_of{k:Crv}(h:ZL k):k.norm=k:=by
 obtain⟨h1,h2,h3,h4⟩:=h;have hd:k.d'=k.d:=by unfold Crv.d';rw[if_neg (by omega)]
 have hx:trim k.x=k.x:=h1;have hy:trim k.y=k.y:=h2;have hg:k.g=1:=by unfold Crv.g;rw[hd,hx,hy,h4,if_neg (by omega)];rfl
 unfold Crv.norm;rw[hg,hd,hx,hy];simp[hx,hy]
theorem jM{l:Um}{g:Int}(hg:g≠0)(hga:g.natAbs=Rz l):Rz (l.map (· / g))=1:=by
 have key:∀(l:Um) (a:Nat),(∀z∈l,g∣z)->l.foldl (λa z=>Nat.gcd a z.natAbs) (a*g.natAbs)=((l.map (· / g)).foldl (λa z=>Nat.gcd a z.natAbs) a)*g.natAbs:=by
  intro l
  induction l with
  |nil=>intro a _;rfl
  |
   cons z l ih =>
   intro a h;simp only[Z0,Z9];have hz:z.natAbs=(z / g).natAbs*g.natAbs:=by
    obtain⟨q,rfl⟩:=h z (Qy ..);rw[Je _ hg,J9,Zq]
   rw[hz,Nat.gcd_mul_right];exact ih _ λu hu=>h u (Qg _ hu)
 have h:=key l 0 λz hz=>X4.1 (by rw[hga];exact X4.2 (XF z hz))
 rw[Yl]at h;have h':Rz l=Rz (l.map (· / g))*g.natAbs:=h;rw[<-hga]at h';have hp:0<g.natAbs:=by omega
 exact Nat.eq_of_mul_eq_mul_right hp (by rw[Wn];exact h'.symm)
theorem JD{l:Um}{g:Int}(ht:Ff l)(hg:g≠0)(hd:∀z∈l,g∣z):Ff (l.map (· / g)):=by
 induction l with
 |nil=>rfl
 |
  cons x l ih =>
  have hne:∀z∈x::l,z≠0->z / g≠0:=λz hz h0 h1=>by
   obtain⟨q,rfl⟩:=hd z hz;rw[Je _ hg]at h1;rw[h1]at h0;simp at h0
  unfold Ff at ht ih ⊢;cases hl:trim l with
  |
   nil =>
   simp only[trim,hl]at ht
   split at ht
   ·cases ht
   ·rename_i hx;injection ht with _ h2;subst h2;simp[trim,hne x (Qy ..) hx]
  |
   cons y k =>
   simp only[trim,hl]at ht;injection ht with _ h2;have hll:trim l=l:=by rw[hl];exact h2
   have ih:=ih hll λz hz=>hd z (Qg _ hz)
   rw[Z0];have hne2:l.map (· / g)≠[]:=by rw[<-hll,hl];simp
   cases hm:l.map (· / g)with
   |nil=>exact absurd hm hne2
   |
    cons u w =>
    rw[hm]at ih;have e:trim (x / g::u::w)=match trim (u::w)with| []=>if x / g=0 then []else [x / g]|y::k=>x / g::y::k:=rfl
    rw[e,ih]
theorem Crv.nml(k:Crv):ZL k.norm:=by
 have hg:=k.g_ne;have hdv:∀z∈k.d'::(trim k.x++trim k.y),k.g∣z:=λz hz=>Vf (k.g_dvd z hz)
 have hx:=JD (g:=k.g) (Rq k.x) hg λz hz=>hdv z (by simp[hz])
 have hy:=JD (g:=k.g) (Rq k.y) hg λz hz=>hdv z (by simp[hz])
 refine⟨Rq _,Rq _,?_,?_⟩
 ·show 0<k.d' / k.g;obtain⟨q,hq⟩:=hdv k.d' (Qy ..);have h0:=k.d'_ne;have hgc:=k.gcd_ne;have e:k.d' / k.g=q:=by rw[hq,Je _ hg]
  rw[e];unfold Crv.g at hq hg;have hq0:q≠0:=λe=>by rw[e,Wa]at hq;exact h0 hq
  split at hq
  ·rename_i hneg;rcases Wo hq0 with h|h
   ·have:=V9 (a:=-((Rz (k.d'::(trim k.x++trim k.y)):Nat):Int)) (b:=q) (by omega) h;omega
   ·exact h
  ·rename_i hneg;rcases Wo hq0 with h|h
   ·have:=V8 (a:=((Rz (k.d'::(trim k.x++trim k.y)):Nat):Int)) (b:=q) (by omega) h;omega
   ·exact h
 ·show Rz (k.d' / k.g::(trim ((trim k.x).map (· / k.g))++trim ((trim k.y).map (· / k.g))))=1;rw[show trim ((trim k.x).map (· / k.g))=(trim k.x).map (· / k.g) from hx,show trim ((trim k.y).map (· / k.g))=(trim k.y).map (· / k.g) from hy,<-Yh,<-Z0 (f:=(· / k.g))];refine jM hg ?_;unfold Crv.g
  split <;> omega
structure Pt where
 c:Crv
 id:Int
def Fc(p:Pt):Ur:=[pl p.c.x,pl p.c.y,sg p.c.d,mg p.c.d,.int .i64 p.id]
def pts(l:List Pt):LV:=.row (l.map Fc)
def Rw:List Pt->Int->Nat
 | [],_=>0
 |p::l,id=>if p.id<id then Rw l id+1 else 0
def has(l:List Pt)(id:Int):Bool:=match l[Rw l id]? with
 |some p=>decide (p.id=id)
 |none=>false
theorem yI(l:List Pt)(id:Int):Rw l id<=l.length:=by
 induction l with
 |nil=>exact Ql _
 |cons p l ih=>simp only[Rw];split <;> simp <;> omega
theorem EY:∀{l:List Pt} {id:Int} {k:Nat},(∀j p,j<k->l[j]? = some p->p.id<id)->(k=l.length\/∃p,l[k]? = some p/\¬p.id<id)->Rw l id=k
 |
  [],id,k,_,h=>by
  rcases h with h|⟨p,h,_⟩
  ·subst h;rfl
  ·simp at h
 |
  q::l,id,0,_,h=>by
  rcases h with h|⟨p,h,h2⟩
  ·simp at h
  ·simp at h;subst h;simp[Rw,h2]
 |
  q::l,id,k+1,h1,h=>by
  have hq:=h1 0 q (by omega) rfl;simp only[Rw,hq,if_true];rw[EY (k:=k) (λj p hj hp=>h1 (j+1) p (by omega) (by simpa using hp))];rcases h with h|⟨p,h,h2⟩
  ·left;simpa using h
  ·right;exact⟨p,by simpa using h,h2⟩
def put(l:List Pt)(q:Pt):List Pt:=l.take (Rw l q.id)++q::l.drop (Rw l q.id)
def WF(l:List Pt)(q:Pt):Int:=if has l q.id=true then 6 else if 6<=l.length then 9 else 0
def Qax(s n:Nat)(p:Pt):Prop:=ZL p.c/\Cs s n p.c
theorem oP(l:List Pt)(q:Pt):(put l q).length=l.length+1:=by
 have:=yI l q.id;simp[put];omega
theorem NJ{l:List Pt}{q p:Pt}(h:p∈put l q):p=q\/p∈l:=by
 unfold put at h;rcases Qr.1 h with h|h
 ·exact .inr (Qo h)
 ·rcases Qm.1 h with h|h
  ·exact .inl h
  ·exact .inr (Qz h)
def Ee(a b:Crv):Bool:=decide (a.x=b.x/\a.y=b.y/\a.d=b.d)
def B9(out:List Pt)(p:Pt):List Pt:=if out.any (λq=>Ee p.c q.c)=true then out else out++[p]
def Tp(l:List Pt):List Pt:=l.foldl B9 []
theorem Qds{out:List Pt}{p q:Pt}(h:q∈B9 out p):q∈out\/q=p:=by
 unfold B9 at h
 split at h
 ·exact .inl h
 ·rcases Qr.1 h with h|h
  ·exact .inl h
  ·exact .inr (by simpa using h)
theorem Qdr(out:List Pt)(p:Pt):(B9 out p).length<=out.length+1:=by
 unfold B9;split <;> simp
theorem Sf{α β:Type}(f:β->α->β)(b:β)(l:List α){i:Nat}{x:α}(h:l[i]? = some x):(l.take (i+1)).foldl f b=f ((l.take i).foldl f b) x:=by
 rw[Y7,h];simp[Vq]
theorem KY(l:List Pt)(i:Nat):∀q∈(l.take i).foldl B9 [],q∈l:=by
 induction i with
 |zero=>simp
 |
  succ i ih =>
  intro q hq;cases hi:l[i]? with
  |
   none =>
   rw[Qn (by have:=Jo.1 hi;omega)]at hq;rw[Qn (Jo.1 hi)]at ih;exact ih q hq
  |
   some x =>
   rw[Sf _ _ _ hi]at hq;rcases Qds hq with h|h
   ·exact ih q h
   ·subst h;exact Qc hi
theorem KJ(l:List Pt)(i:Nat):((l.take i).foldl B9 []).length<=i:=by
 induction i with
 |zero=>simp
 |
  succ i ih =>
  cases hi:l[i]? with
  |
   none =>
   rw[Qn (by have:=Jo.1 hi;omega)];rw[Qn (Jo.1 hi)]at ih;omega
  |
   some x =>
   rw[Sf _ _ _ hi];have:=Qdr ((l.take i).foldl B9 []) x;omega
theorem Nv{l:List Pt}{q:Pt}(h:q∈Tp l):q∈l:=by
 have:=KY l l.length q;rw[Q6]at this;exact this h
theorem O9(l:List Pt):(Tp l).length<=l.length:=by
 have:=KJ l l.length;rwa[Q6]at this
def Ra(p:Um)(q:Rat):Int:=La (Qvt p q.num q.den) 0
abbrev qa(q:Rat):Ur:=pl [-q.num,(q.den:Int)]::(rl q++rl q)
def Tv(sgn:Um->Int):Nat->Um->Int
 | 0,_=>0
 |k+1,p=>if p.length=0 then 0 else if sgn p=0 then Tv sgn k (Gw p)else sgn p
theorem XR(sgn:Um->Int):∀(k:Nat) (p:Um),p.length<=k->Tv sgn k p=Tv sgn p.length p
 |
  0,p,h=>by
  have:p.length=0:=by omega
  rw[this]
 |
  k+1,p,h=>by
  cases hp:p.length with
  |zero=>simp[Tv,hp]
  |
   succ m =>
   simp only[Tv];have h1:=Nj p;rw[XR sgn k (Gw p) (by omega),XR sgn m (Gw p) (by omega)]
theorem fV(sgn:Um->Int){p:Um}(h:p.length=0):Tv sgn p.length p=0:=by rw[h];rfl
theorem fJ(sgn:Um->Int){p:Um}(h:0<p.length)(hs:sgn p≠0):Tv sgn p.length p=sgn p:=by
 obtain⟨m,hm⟩:∃m,p.length=m+1:=⟨p.length-1,by omega⟩;rw[hm];simp only[Tv];rw[if_neg (by omega),if_neg hs]
theorem fY(sgn:Um->Int){p:Um}(h:0<p.length)(hs:sgn p=0):Tv sgn p.length p=Tv sgn (Gw p).length (Gw p):=by
 obtain⟨m,hm⟩:∃m,p.length=m+1:=⟨p.length-1,by omega⟩;rw[hm];simp only[Tv];rw[if_neg (by omega),if_pos hs];exact XR sgn m _ (by have:=Nj p;omega)
structure Tm where
 p:List Int
 lo:Rat
 hi:Rat
abbrev ta(t:Tm):Ur:=pl t.p::(rl t.lo++rl t.hi)
abbrev tq(q:Rat):Tm:=⟨[-q.num,(q.den:Int)],q,q⟩
def Hj(sg:Um->Int)(p:Um):Int:=Tv sg p.length p
structure Pb(p:List Int):Prop where
 t:Ff p
 l:p.length<=64
 b:Bd 16777216 p
abbrev Qb(q:Rat):Prop:=Qs 16777216 q
abbrev Cb(k:Crv):Prop:=Cs 1048576 16 k
def Gn(a b:Crv):Um:=Na (Fw b.x a.d) (Fw a.x b.d)
def Gm(a b:Crv):Um:=Na (Fw b.y a.d) (Fw a.y b.d)
theorem rJ{a b:Crv}(ha:Cb a)(hb:Cb b):Pb (Gn a b)/\(Gn a b).length<=16/\Bd 2097153 (Gn a b):=by
 have h1:Bd 2097153 (Gn a b):=U5 (Du (Ge hb.x ha.d) (Ge ha.x hb.d)) (by omega);have h2:(Gn a b).length<=16:=by
  refine Qa (Nk _ _) ?_;have:=Fx b.x a.d;have:=Fx a.x b.d;have:=ha.lx;have:=hb.lx;omega
 exact⟨⟨Fy _ _,by omega,U5 h1 (by omega)⟩,h2,h1⟩
theorem rZ{a b:Crv}(ha:Cb a)(hb:Cb b):Pb (Gm a b)/\(Gm a b).length<=16/\Bd 2097153 (Gm a b):=by
 have h1:Bd 2097153 (Gm a b):=U5 (Du (Ge hb.y ha.d) (Ge ha.y hb.d)) (by omega);have h2:(Gm a b).length<=16:=by
  refine Qa (Nk _ _) ?_;have:=Fx b.y a.d;have:=Fx a.y b.d;have:=ha.ly;have:=hb.ly;omega
 exact⟨⟨Fy _ _,by omega,U5 h1 (by omega)⟩,h2,h1⟩
def L6(sg:Um->Int)(a b:Pt):Un->Bool
 | []=>decide (a.id<b.id)
 |p::l=>if 0<p.length then decide (0<Hj sg p)else L6 sg a b l
def Cg(sg:Um->Int)(a b:Pt):Bool:=L6 sg a b [Gm b.c a.c,Gn b.c a.c]
def Tt(sg:Um->Int)(a b:Pt):Bool:=L6 sg a b [Gn a.c b.c,Gm a.c b.c]
end Orr
namespace Orr
open Go
structure Ct where
 kind:Int
 i0:Int
 i1:Int
 i2:Int
 i3:Int
 p:List Int
 want:Int
abbrev Dq(c:Ct):Ur:=[.int .i64 c.kind,.int .i64 c.i0,.int .i64 c.i1,.int .i64 c.i2,.int .i64 c.i3,pl c.p,.int .i64 c.want]
def Lv(p q:Um):Um:=if 0<p.length then p else q
def Dd:Um->Um->Bool
 |x::l,y::m=>if x=y then Dd l m else decide (x<y)
 |_,_=>false
def fM(a b:Ct):Bool:=Dd [a.kind,a.i0,a.i1,a.i2,a.i3] [b.kind,b.i0,b.i1,b.i2,b.i3]
def JF(out:List Ct)(c:Ct):Nat->Nat
 | 0=>0
 |
  k+1=>match out[k]? with
  |some x=>if fM c x=true then JF out c k else k+1
  |none=>k+1
theorem oY(out:List Ct)(c:Ct):∀k,JF out c k<=k
 | 0=>Ql _
 |
  k+1=>by
  simp only[JF]
  split
  ·split
   ·exact Nat.le_succ_of_le (oY out c k)
   ·exact Ql _
  ·exact Ql _
theorem Qpq{out:List Ct}{c x:Ct}{k:Nat}(hx:out[k]? = some x)(h:fM c x=true):JF out c (k+1)=JF out c k:=by
 simp only[JF,hx,h,if_true]
theorem Qju{out:List Ct}{c x:Ct}{k:Nat}(hx:out[k]? = some x)(h:fM c x=false):JF out c (k+1)=k+1:=by
 simp[JF,hx,h]
def KA(out:List Ct)(c:Ct):List Ct:=out.take (JF out c out.length)++c::out.drop (JF out c out.length)
theorem Qic(out:List Ct)(c:Ct):(KA out c).length=out.length+1:=by
 have:=oY out c out.length;simp[KA];omega
theorem Qid{out:List Ct}{c x:Ct}(h:x∈KA out c):x=c\/x∈out:=by
 simp only[KA,Qr,Qm]at h;rcases h with h|h|h
 ·exact .inr (Qo h)
 ·exact .inl h
 ·exact .inr (Qz h)
def Fo(l:List Ct):List Ct:=l.foldl KA []
theorem cE(l:List Ct)(c:Ct):Fo (l++[c])=KA (Fo l) c:=by simp[Fo,Vq]
theorem cA{l:List Ct}{i:Nat}{c:Ct}(h:l[i]? = some c):Fo (l.take (i+1))=KA (Fo (l.take i)) c:=by
 rw[Zv,h];exact cE _ _
theorem OR:∀(l acc:List Ct),(l.foldl KA acc).length=acc.length+l.length
 | [],acc=>by simp
 |c::l,acc=>by simp only[Z9];rw[OR l (KA acc c),Qic];simp;omega
theorem My(l:List Ct):(Fo l).length=l.length:=by unfold Fo;rw[OR];simp
theorem OT:∀(l acc:List Ct) {x:Ct},x∈l.foldl KA acc->x∈l\/x∈acc
 | [],acc,x,h=>.inr h
 |
  c::l,acc,x,h=>by
  simp only[Z9]at h;rcases OT l _ h with h|h
  ·exact .inl (Qg _ h)
  ·rcases Qid h with rfl|h
   ·exact .inl (Qy ..)
   ·exact .inr h
theorem Tc{l:List Ct}{x:Ct}(h:x∈Fo l):x∈l:=by
 rcases OT l [] h with h|h
 ·exact h
 ·cases h
theorem fF{α:Type}(l:List α)(z x:α){k m':Nat}(hk:k<=l.length)(hm:m'=l.length-k) :
 ((l++[z]).take (k+1)++((l++[z]).drop k).take m'++(l++[z]).drop (k+1+m')).set k x=l.take k++x::l.drop k:=by
 subst hm;have e1:((l++[z]).drop k).take (l.length-k)=l.drop k:=by
  rw[Wg hk,Vp (by simp),Qn (by simp)]
 have e2:(l++[z]).drop (k+1+(l.length-k))=[]:=Yv (by simp;omega);rw[e1,e2,Zw];have e3:(l++[z]).take (k+1)=(l++[z]).take k++[(l++[z])[k]'(by simp;omega)]:=by rw[List.take_succ_eq_append_getElem]
 rw[e3,Vp hk,Zd,List.set_append,if_neg (by simp;omega)];simp[Zy hk]
def Av(a b:Pt):Um:=Lv (Gn a.c b.c) (Gm a.c b.c)
def Ar(a b:Pt):Um:=Lv (Gm b.c a.c) (Gn b.c a.c)
def QA(sg:Um->Int)(a b:Pt):Ct:={ kind:=1,i0:=a.id,i1:=b.id,i2:=0,i3:=0,p:=Av a b,want:=Hj sg (Av a b) }
def D3(sg:Um->Int)(a b:Pt):Ct:={ kind:=2,i0:=a.id,i1:=b.id,i2:=0,i3:=0,p:=Ar a b,want:=Hj sg (Ar a b) }
end Orr
namespace Orr
open Go Go.Proofs Tryz
set_option maxRecDepth 10000
abbrev pr(p:Um):TV:=.one (pl p)
theorem Pg{p:Um}{i:Nat}{z:Int}(h:p[i]? = some z):(p.map G8)[i]? = some (G8 z):=G5 h
theorem BC(p:Um):Uj 79 [pr p] [pr (trim p)]:=by
 refine Fv func79 rfl (ln 0 rfl rfl λhl=>?_);rw[Q8]at hl;refine Ud [] rfl ?_;refine lp (S:=Nat) 0 (λL1 n=>(3,.v (.oi n))::L1) (λ_=>[]) id (λn=>n<=p.length/\∀j x,n<=j->p[j]? = some x->x=0) (p.map G8).length ⟨by simp,λj x h1 h2=>by
  have:=(Qf.1 h2).1;simp at h1;omega⟩ rfl (λ_ _=>rfl) rfl λn ⟨h1,h2⟩=>?_
 cases n with
 |zero=>exact Uf [.f (by simp),.f rfl,.i 0] rfl (by rw[sX h1 h2 (λh=>by omega)];simp[pl]) (by simp[U3])
 |
  succ n =>
  obtain⟨x,hx⟩:=gxE (l:=p) (i:=n) (by omega);by_cases h0:x=0
  ·refine Ue [.t (by simp),.r 11 (v:=.oi n) (by simp),.x (Pg hx),.k Dl,.t (by simp[h0]),.r 17 (v:=.oi n) (by simp)] rfl ?_;exact rd n (by simp) ⟨by omega,λj y h3 h4=>by
    rcases Vk h3 with rfl|h3
    ·rw[hx]at h4;injection h4 with h4;rw[<-h4,h0]
    ·exact h2 j y h3 h4⟩ rfl
  ·exact Uf [.t (by simp),.r 11 (v:=.oi n) (by simp),.x (Pg hx),.k Dl,.f (by simp[h0]),.i (n+1)] rfl (by rw[sX h1 h2 (λ_=>⟨x,hx,h0⟩)];simp[pl,Jv]) (by simp[U3] <;> omega)
theorem lD(p:Um)(k:Nat):Uj 219 [pr p,.oi k] [.agg (G8 (p.getD k 0))]:=by
 by_cases h:k<p.length
 ·have hx:=Qe h;have e:p.getD k 0=p[k]:=by simp[List.getD,hx]
  rw[e];exact Ug func219 rfl [.t (by simp;omega),.x (Pg hx)] rfl
 ·have e:p.getD k 0=0:=by simp[List.getD,Qw (J8 h)]
  rw[e,Ll];exact Ug func219 rfl [.f (by simp;omega)] rfl
def AY(f:Nat->Ur)(z:Ur)(n k:Nat):Us:=(List.range n).map λi=>if i<k then f i else z
theorem Ij(f:Nat->Ur)(z:Ur)(n k:Nat):(AY f z n k).length=n:=by simp[AY]
theorem Ak(f:Nat->Ur)(z:Ur)(n:Nat):List.replicate n z=AY f z n 0:=by
 refine Xl λi=>?_
 simp only[AY,Jz,Q9];by_cases h:i<n
 ·simp[h]
 ·simp[h]
theorem QS(f:Nat->Ur)(z:Ur)(n:Nat):AY f z n n=(List.range n).map f:=by
 refine Xq λi hi=>?_
 rw[if_pos (Kj.1 hi)]
theorem QP(f:Nat->Ur)(z:Ur){n k:Nat}(h:k<n):(AY f z n k).set k (f k)=AY f z n (k+1):=by
 refine Xl λi=>?_
 rw[Yn];simp only[AY,Q9,Q8,List.length_range,h,if_true];by_cases e:k=i
 ·subst e;simp[h]
 ·simp only[e,if_false];by_cases hi:i<n
  ·simp only[X3 hi,Ym];congr 1;by_cases h2:i<k
   ·rw[if_pos h2,if_pos (by omega)]
   ·rw[if_neg h2,if_neg (by omega)]
  ·simp[Qw,hi]
theorem xC{n fid:Nat}{l1 l2:Ur}{g:Nat->Int}(hn:n<274877906944)(h:∀k,k<n->AG prog fid [.oi k,.one (.sh l1),.one (.sh l2)] [.agg (G8 (g k))]):Uj 179 [.oi n,.one (.fn fid [] [.sh l1,.sh l2])] [pr (A4 n g)]:=by
 refine Fv func179 rfl ?_;refine Ue [.i n,.i n,.r 10 (eI (b:=(n:Int)) (by simp))] rfl ?_;rw[Ak λk=>G8 (g k)];refine Ui (S:=Nat) 1 (λL1 k=>(11,.v (.oi k))::L1) (λk=>[.row false 37 2 (AY (λk=>G8 (g k)) [.bool false,.nils] n k)]) (λk=>n-k) (λk=>k<=n) 0 (Qh _) rfl rfl λk hk=>?_
 by_cases hlt:k<n
 ·refine go tt [.t (by simp;omega),.k (h k hlt),.i k] rfl (by simp[U3,Ij];omega) ?_;have e:=QP (λk=>G8 (g k)) [.bool false,.nils] hlt;rw[e];exact rd (k+1) (by omega) hlt rfl
 ·obtain rfl:k=n:=by omega
  have e:AY (λk=>G8 (g k)) [.bool false,.nils] k k=((List.range k).map g).map G8:=by rw[QS];simp
  rw[e];exact Uf [.f (by simp),.k (BC _)] rfl
theorem lN{n fid:Nat}{l1:Ur}{g:Nat->Int}(hn:n<274877906944)(h:∀k,k<n->AG prog fid [.oi k,.one (.sh l1)] [.agg (G8 (g k))]):Uj 179 [.oi n,.one (.fn fid [] [.sh l1])] [pr (A4 n g)]:=by
 refine Fv func179 rfl ?_;refine Ue [.i n,.i n,.r 10 (eI (b:=(n:Int)) (by simp))] rfl ?_;rw[Ak λk=>G8 (g k)];refine Ui (S:=Nat) 1 (λL1 k=>(11,.v (.oi k))::L1) (λk=>[.row false 37 2 (AY (λk=>G8 (g k)) [.bool false,.nils] n k)]) (λk=>n-k) (λk=>k<=n) 0 (Qh _) rfl rfl λk hk=>?_
 by_cases hlt:k<n
 ·refine go tt [.t (by simp;omega),.k (h k hlt),.i k] rfl (by simp[U3,Ij];omega) ?_;have e:=QP (λk=>G8 (g k)) [.bool false,.nils] hlt;rw[e];exact rd (k+1) (by omega) hlt rfl
 ·obtain rfl:k=n:=by omega
  have e:AY (λk=>G8 (g k)) [.bool false,.nils] k k=((List.range k).map g).map G8:=by rw[QS];simp
  rw[e];exact Uf [.f (by simp),.k (BC _)] rfl
theorem Qs8{p q:Um}(k:Nat)(hp:Bd 4294967295 p)(hq:Bd 4294967295 q):Uj 218 [.oi k,.one (.sh [pl p]),.one (.sh [pl q])] [.agg (G8 (p.getD k 0+q.getD k 0))] :=
 Ug func218 rfl [.k (lD p k),.k (lD q k),.k (KH (U4 _) (U4 _) (Ft hp k) (Ft hq k))] rfl
theorem Qts{p q:Um}(k:Nat)(hp:Bd 4294967295 p)(hq:Bd 4294967295 q):Uj 255 [.oi k,.one (.sh [pl p]),.one (.sh [pl q])] [.agg (G8 (p.getD k 0-q.getD k 0))] :=
 Ug func255 rfl [.k (lD p k),.k (lD q k),.k (Qfr (U4 _) (U4 _) (Ft hp k) (Ft hq k))] rfl
theorem Ri{p:Um}{k:Nat}(h:k<p.length):p[k]? = some (p.getD k 0):=by simp[List.getD,Qe h]
theorem Qfi{p:Um}{c:Int}{k:Nat}(hk:k<p.length)(hp:Bd 4294967295 p)(hc:Fe c<=4294967295):Uj 180 [.oi k,.one (.sh [pl p]),.one (.sh (G8 c))] [.agg (G8 (p.getD k 0*c))] :=
 Ug func180 rfl [.x (Pg (Ri hk)),.k (P5 (U4 _) (U4 _) (Ft hp k) hc)] rfl
theorem Qtl{p:Um}{k:Nat}(hk:k<p.length)(hp:Bd 4294967295 p):Uj 304 [.oi k,.one (.sh [pl p])] [.agg (G8 (-(p.getD k 0)))] :=
 Ug func304 rfl [.x (Pg (Ri hk)),.k (BU (U4 _) (Ft hp k))] rfl
theorem Qba{p:Um}{k:Nat}(hk:k+1<p.length)(hl:p.length<274877906944)(hp:Bd 4294967295 p):Uj 280 [.oi k,.one (.sh [pl p])] [.agg (G8 (p.getD (k+1) 0*((k+1:Nat):Int)))] :=
 Ug func280 rfl [.x (Pg (Ri hk)),.r 10 (eI (b:=((k+1:Nat):Int)) (by omega)),.k (BF (by omega)),.k (P5 (U4 _) (U4 _) (Ft hp _) (Qco (show k+1<274877906944 by omega)))] rfl rfl (by simp[U3] <;> omega)
theorem BG{p q:Um}(hlp:p.length<274877906944)(hlq:q.length<274877906944)(hp:Bd 4294967295 p)(hq:Bd 4294967295 q):Uj 177 [pr p,pr q] [pr (A5 p q)] :=
 Ug func177 rfl [.r 9 (eI (b:=((max p.length q.length:Nat):Int)) (by simp;omega)),.k (xC (by omega) λk _=>Qs8 k hp hq)] rfl
theorem HT{p q:Um}(hlp:p.length<274877906944)(hlq:q.length<274877906944)(hp:Bd 4294967295 p)(hq:Bd 4294967295 q):Uj 216 [pr p,pr q] [pr (Na p q)] :=
 Ug func216 rfl [.r 9 (eI (b:=((max p.length q.length:Nat):Int)) (by simp;omega)),.k (xC (by omega) λk _=>Qts k hp hq)] rfl
theorem Qe4{p:Um}(hlp:p.length<274877906944)(hp:Bd 4294967295 p):Uj 283 [pr p] [pr (Mv p)] :=
 Ug func283 rfl [.r 4 (eI (b:=(p.length:Int)) (by simp)),.k (lN hlp λk hk=>Qtl hk hp)] rfl
theorem Pu{p:Um}{c:Int}(hlp:p.length<274877906944)(hp:Bd 4294967295 p)(hc:Fe c<=4294967295):Uj 132 [pr p,.agg (G8 c)] [pr (Fw p c)] :=
 Ug func132 rfl [.r 6 (eI (b:=(p.length:Int)) (by simp)),.k (xC hlp λk hk=>Qfi hk hp hc)] rfl
theorem I3{p:Um}(hlp:p.length<274877906944)(hp:Bd 4294967295 p):Uj 252 [pr p] [pr (Gw p)] :=
 Ug func252 rfl [.r 6 (eI (b:=((p.length-1:Nat):Int)) (by simp;omega)),.k (lN (by omega) λk hk=>Qba (by omega) hlp hp)] rfl rfl (by simp[U3];omega)
theorem Ch{ls:Us}{p:Um}(hi:IsInts ls p)(hl:p.length<274877906944)(hs:Bd 4294967295 p):Uj 128 [.one (.row ls)] [pr (trim p)]:=by
 refine Fv func128 rfl ?_;have hlen:=hi.len;refine Ue [.i ls.length,.i ls.length] rfl ?_;rw[Ak λk=>G8 (p.getD k 0)];refine Ui (S:=Nat) 1 (λL1 k=>(11,.v (.oi k))::L1) (λk=>[.row false 37 2 (AY (λk=>G8 (p.getD k 0)) [.bool false,.nils] ls.length k)]) (λk=>ls.length-k) (λk=>k<=ls.length) 0 (Qh _) rfl rfl λk hk=>?_
 by_cases hlt:k<ls.length
 ·obtain⟨x,y,hx,hxy⟩:=hi.get (Ri (p:=p) (k:=k) (by omega));have cn:=Mn hxy (Ft hs k);obtain⟨b,l,rfl,rfl,_⟩:=hxy;refine go tt [.t (by simp;omega),.x hx,.k cn,.i k] rfl (by simp[U3,Ij];omega) ?_;have e:=QP (λk=>G8 (p.getD k 0)) [.bool false,.nils] hlt;rw[e];exact rd (k+1) (by omega) hlt rfl
 ·obtain rfl:k=ls.length:=by omega
  have e:AY (λk=>G8 (p.getD k 0)) [.bool false,.nils] ls.length ls.length=p.map G8:=by
   rw[QS,hlen];refine Xl λi=>?_
   by_cases hi:i<p.length
   ·simp[X3 hi,List.getD,Qe hi]
   ·simp[Qw,hi]
  rw[e];exact Uf [.f (by simp),.k (BC _)] rfl
theorem Ht{p:Um}(ht:Ff p)(hl:p.length<274877906944)(hs:Bd 4294967295 p):Uj 128 [pr p] [pr p]:=by
 have:=Ch (Gg p) hl hs;rw[ht]at this;exact this
theorem Qou{p:Um}{i:Nat}{z:Int}(h:p[i]? = some z):(p.map λ(x:Int)=>[LV.int .i64 x])[i]? = some [.int .i64 z]:=G5 h
theorem lW{p:Um}(hl:p.length<274877906944)(hr:∀z∈p,-9223372036854775808≤z/\z≤9223372036854775807):Uj 30 [.one (ids p)] [pr (trim p)]:=by
 refine Fv func30 rfl ?_;refine Ue [.r 7 (eI (b:=(p.length:Int)) (by simp)),.i p.length,.i p.length,.r 10 (eI (b:=(p.length:Int)) (by simp))] rfl ?_;rw[Ak λk=>G8 (p.getD k 0)];refine Ui (S:=Nat) 1 (λL1 k=>(11,.v (.oi k))::L1) (λk=>[.row false 37 2 (AY (λk=>G8 (p.getD k 0)) [.bool false,.nils] p.length k)]) (λk=>p.length-k) (λk=>k<=p.length) 0 (Qh _) rfl rfl λk hk=>?_
 by_cases hlt:k<p.length
 ·have hg:=Ri hlt;refine go tt [.t (by simp;omega),.x (Qou hg),.k (BF (hr _ (Qc hg))),.i k] rfl (by simp[U3,Ij];omega) ?_;have e:=QP (λk=>G8 (p.getD k 0)) [.bool false,.nils] hlt;rw[e];exact rd (k+1) (by omega) hlt rfl
 ·obtain rfl:k=p.length:=by omega
  have e:AY (λk=>G8 (p.getD k 0)) [.bool false,.nils] p.length p.length=p.map G8:=by
   rw[QS];refine Xl λi=>?_
   by_cases hi:i<p.length
   ·simp[X3 hi,List.getD,Qe hi]
   ·simp[Qw,hi]
  rw[e];exact Uf [.f (by simp),.k (BC _)] rfl
theorem bR(l:Um)(i:Nat)(z:Int):(l.map G8).set i (G8 z)=(l.set i z).map G8:=by rw[Vs]
theorem NV(m:Nat):((List.replicate m [LV.bool false,LV.nils]).map λc=>c.map FP)=(List.replicate m (0:Int)).map G8:=by
 simp[Ll,FP]
theorem xR{p0 q:Um}{s t:Nat}(tq:Ff q)(hlp:p0.length<137438953472)(hlq:q.length<137438953472)(hp:Bd s p0)(hq:Bd t q)(hst:s+t<=4294967000):Uj 178 [pr p0,pr q] [pr (Gl (trim p0) q)]:=by
 have cp:=Ch (Gg p0) (by omega) (U5 hp (show s<=4294967295 by omega));have hp:=Tx hp;have hlp:=Z3 (H7 p0) hlp;obtain⟨p,ep⟩:=nmE (trim p0);rw[<-ep]at cp hp hlp ⊢;have cq:=Ht tq (by omega) (U5 hq (show t<=4294967295 by omega));by_cases h0:p.length=0
 ·have e:Gl p q=[]:=by unfold Gl;rw[if_pos (.inl h0)]
  rw[e];exact Ug func178 rfl [.k cp,.k cq,.t (by simp;exact Qj h0),.t rfl] rfl
 by_cases h1:q.length=0
 ·have e:Gl p q=[]:=by unfold Gl;rw[if_pos (.inr h1)]
  rw[e];exact Ug func178 rfl [.k cp,.k cq,.f (by simp;intro h;subst h;simp at h0),.t (by simp;exact Qj h1)] rfl
 refine Fv func178 rfl ?_;have e:Gl p q=trim (Au p q (List.replicate (p.length+q.length-1) 0) p.length):=by unfold Gl;rw[if_neg (by omega)]
 rw[e];obtain⟨N,hN⟩:=nmE (p.length+q.length-1);rw[<-hN];obtain⟨o,ho⟩:=nmE (List.replicate N (0:Int));rw[<-ho];have hol:o.length=N:=by rw[ho];simp
 have ho0:∀m,o.getD m 0=0:=λm=>by rw[ho];exact Cn N m
 refine Ue [.k cp,.k cq,.f (by simp;intro h;subst h;simp at h0),.f (by simp;intro h;subst h;simp at h1),.r 27 (eI (b:=(N:Int)) (by simp;omega)),.i N,.i N] rfl ?_;refine nl 0 rfl rfl rfl ?_;rw[NV,<-ho];refine Ui (S:=Nat) 1 (λL1 i=>(31,.v (.oi i))::L1) (λi=>[.row false 37 2 ((Au p q o i).map G8)]) (λi=>p.length-i) (λi=>i<=p.length) 0 (Qh _) rfl rfl λi hi=>?_
 by_cases hlt:i<p.length
 ·refine Ud [.t (by simp;omega),.x (Pg (Ri hlt))] rfl ?_;refine Ui (S:=Nat) 2 (λL1 k=>(38,.v (.oi k))::L1) (λk=>[.row false 37 2 ((Oj (p.getD i 0) q i (Au p q o i) k).map G8),.blk 37 (G8 (p.getD i 0))]) (λk=>q.length-k) (λk=>k<=q.length) 0 (Qh _) rfl rfl λk hk=>?_
  by_cases hk2:k<q.length
  ·have hm1:Fe ((Oj (p.getD i 0) q i (Au p q o i) k).getD (i+k) 0)<=4294967295:=Qa (Iv (t:=39) (yU (by rw[Li];omega) (yW (λj hj=>by omega) ho0 (λi j=>Nl (Ft hp i) (Ft hq j))) (λj=>Nl (Ft hp i) (Ft hq j)) (i+k)) (Kh (show i+1<549755813888 by omega) (by decide))) (by omega);have hm2:Fe (p.getD i 0*q.getD k 0)<=4294967295:=Qa (Ga _ _) (by have:=Ft hp i;have:=Ft hq k;omega);have hg:(Oj (p.getD i 0) q i (Au p q o i) k)[i+k]? = some ((Oj (p.getD i 0) q i (Au p q o i) k).getD (i+k) 0):=Ri (by rw[Ol,Li];omega);refine go tt [.t (by simp;omega),.x (Pg (Ri hk2)),.i (i+k),.x (Pg hg),.k (P5 (U4 _) (U4 _) (Qa (Ft hp i) (by omega)) (Qa (Ft hq k) (by omega))),.k (KH (U4 _) (U4 _) hm1 hm2),.i (i+k)] rfl (by simp[U3,Ol,Li] <;> omega) ?_;rw[bR];exact rd (k+1) (by omega) hk2 rfl
  ·obtain rfl:k=q.length:=by omega
   exact go tt [.f (by simp)] rfl (by simp[U3];omega) (rd (i+1) (by omega) hlt rfl)
 ·obtain rfl:i=p.length:=by omega
  exact Uf [.f (by simp),.k (BC _)] rfl
theorem KG{p q:Um}{s t:Nat}(tp:Ff p)(tq:Ff q)(hlp:p.length<137438953472)(hlq:q.length<137438953472)(hp:Bd s p)(hq:Bd t q)(hst:s+t<=4294967000):Uj 178 [pr p,pr q] [pr (Gl p q)]:=by
 have h:=xR tq hlp hlq hp hq hst;rw[show trim p=p from tp]at h;exact h
theorem MY{p q:Um}(hlp:p.length<274877906944)(hlq:q.length<274877906944)(hp:Bd 4294967295 p)(hq:Bd 4294967295 q):Uj 101 [pr p,pr q] [.one (.bool (decide (trim p=trim q)))]:=by
 refine Fv func101 rfl ?_;have cp:=Ch (Gg p) hlp hp;have cq:=Ch (Gg q) hlq hq;have bp:=Tx hp;have bq:=Tx hq;have l1:=H7 p;have l2:=H7 q;obtain⟨a,ha⟩:=nmE (trim p);obtain⟨b,hb⟩:=nmE (trim q);rw[<-ha]at cp bp l1 ⊢;rw[<-hb]at cq bq l2 ⊢;by_cases hl:a.length=b.length
 ·refine Ud [.k cp,.k cq,.f (by simp;omega)] rfl ?_;refine Ui (S:=Nat) 0 (λL1 i=>(18,.v (.oi i))::L1) (λ_=>[]) (λi=>a.length-i) (λi=>i<=a.length/\a.take i=b.take i) 0 ⟨Qh _,rfl⟩ rfl rfl λi ⟨hi,he⟩=>?_
  by_cases hlt:i<a.length
  ·have ga:=Ri hlt;have gb:=Ri (p:=b) (k:=i) (by omega);have cc:=HN (U4 (a.getD i 0)) (U4 (b.getD i 0)) (Ft bp i) (Ft bq i);by_cases hz:a.getD i 0=b.getD i 0
   ·refine Ue [.t (by simp;omega),.x (Pg ga),.x (Pg gb),.k cc,.f (by simpa using jQ.2 hz)] rfl ?_;exact rd (i+1) (by omega) ⟨hlt,by rw[Y7,Y7,he,ga,gb,hz]⟩ rfl
   ·exact Uf [.t (by simp;omega),.x (Pg ga),.x (Pg gb),.k cc,.t (by have:=mt jQ.1 hz;simpa using this)] rfl (by rw[decide_eq_false];intro h;exact hz (by rw[h])) trivial
  ·obtain rfl:i=a.length:=by omega
   rw[Q6,hl,Q6]at he;exact Uf [.f (by simp)] rfl (by rw[decide_eq_true he]) trivial
 ·exact Uf [.k cp,.k cq,.t (by simp;omega)] rfl (by rw[decide_eq_false];intro h;exact hl (by rw[h])) trivial
theorem Qe9{p:Um}{n d:Int}{s t:Nat}(hl:p.length<274877906944)(hp:Bd s p)(hn:Fe n<=t)(hd:Fe d<=t)(hst:s+p.length*(t+1)+2*t+10<=4294967295):Uj 146 [pr p,.agg (G8 n),.agg (G8 d)] [.agg (G8 (Qvt p n d))]:=by
 refine Fv func146 rfl ?_;refine Ue [.k (BF (z:=1) (by decide)),.r 13 (eI (b:=(p.length:Int)-1-((0:Nat):Int)) (by simp))] rfl ?_;refine nlb 3 rfl rfl rfl ?_;have e0:[LV.bool false,LV.nils].map FP=G8 (Ec p n d 0).1:=by simp[FP,Ec,Ll]
 rw[e0];refine Ui (S:=Nat) 5 (λL1 j=>(9,.v (.oi ((p.length:Int)-1-(j:Int))))::L1) (λj=>[.blk 37 (G8 n),.blk 37 (G8 d),.blk 37 [.bool false,.nils],.blk 37 (G8 (Ec p n d j).1),.blk 37 (G8 (Ec p n d j).2)]) (λj=>p.length-j) (λj=>j<=p.length) 0 (Qh _) rfl rfl λj hj=>?_
 have hv:=Qar (k:=j) hp hn hd;have hjl:j*(t+1)<=p.length*(t+1):=Q0 _ (by omega);have hjl2:j*t<=j*(t+1):=Zu _ (by omega);by_cases hlt:j<p.length
 ·have hc:=Ft hp (p.length-1-j);have hm1:Fe ((Ec p n d j).1*n)<=4294967295:=Qa (Ga _ _) (by omega);have hm2:Fe (p.getD (p.length-1-j) 0*(Ec p n d j).2)<=4294967295:=Qa (Ga _ _) (by omega);refine go tt [.t (by simp;omega),.k (P5 (U4 _) (U4 _) (by omega) (by omega)),.r 22 (eI (b:=((p.length-1-j:Nat):Int)) (by omega)),.x (Pg (Ri (p:=p) (k:=p.length-1-j) (by omega))),.k (P5 (U4 _) (U4 _) (by omega) (by omega)),.k (KH (U4 _) (U4 _) hm1 hm2),.k (P5 (U4 _) (U4 _) (by omega) (by omega)),.r 17 (eI (b:=(p.length:Int)-1-((j+1:Nat):Int)) (by omega))] rfl (by simp[U3] <;> omega) ?_;exact rd (j+1) (by omega) hlt rfl
 ·obtain rfl:j=p.length:=by omega
  exact Uf [.f (by simp;omega)] rfl
theorem Dv{p:Um}(tp:Ff p)(hl:p.length<274877906944)(hp:Bd 4294967295 p):Uj 299 [pr p] [.agg (G8 (p.getD (p.length-1) 0))]:=by
 have cn:=Ht tp hl hp;by_cases h0:p=[]
 ·subst h0;exact Ug func299 rfl [.k cn,.t (by simp)] rfl (by simp[Ll]) trivial
 ·have hpl:0<p.length:=J3.2 h0;exact Ug func299 rfl [.k cn,.f (by simpa using h0),.r 12 (eI (b:=((p.length-1:Nat):Int)) (by simp;omega)),.x (Pg (Ri (by omega)))] rfl rfl (by simp[U3];omega)
theorem Qsh{a b:Int}{q:Rat}(h1:a=q.num)(h2:b=(q.den:Int)):[sg a,mg a,sg b,mg b]=rl q:=by rw[h1,h2]
theorem ZI{n d:Int}(h0:d≠0)(hn:Fe n<=4294967295)(hd:Fe d<=4294967295):Uj 142 [.agg (G8 n),.agg (G8 d)] [.agg (rl (Rat.divInt n d))]:=by
 have cg:=Qeq (Gg [n,d]) (λz hz=>by simp at hz;rcases hz with rfl|rfl <;> assumption);have gp:=fZ (n:=n) h0;have gs:=aB (n:=n) h0 hd;have m1:=DT n d;have m2:=DN n d;obtain⟨g,hg⟩:=nmE (((Rz [n,d]:Nat):Int));rw[<-hg]at cg gp gs m1 m2;by_cases hneg:d<0
 ·obtain⟨e1,e2⟩:=Qo4 (n:=n) hneg;rw[<-hg]at e1 e2;rw[<-Qsh e1 e2];exact Ug func142 rfl [.k cg,.t (by simpa using hneg),.k (BU (U4 n) hn),.k (BU (U4 d) hd),.k (A8 (U4 _) (U4 _) (by rw[Hm];exact hn) gs (by omega) (iT m1)),.k (A8 (U4 _) (U4 _) (by rw[Hm];exact hd) gs (by omega) (iT m2))] rfl
 ·obtain⟨e1,e2⟩:=iV (n:=n) (d:=d) (by omega);rw[<-hg]at e1 e2;rw[<-Qsh e1 e2];exact Ug func142 rfl [.k cg,.f (by simpa using hneg),.k (A8 (U4 _) (U4 _) hn gs (by omega) m1),.k (A8 (U4 _) (U4 _) hd gs (by omega) m2)] rfl
theorem MW{x y x' y':LV}{n d:Int}(h1:Gd x y n)(h2:Gd x' y' d)(hn:Fe n<=4294967295)(hd:Fe d<=4294967295):Uj 110 [.agg [x,y,x',y']] [.agg (rl (Gi n d))]:=by
 have c1:=Mn h1 hn;have c2:=Mn h2 hd;obtain⟨b,l,rfl,rfl,_⟩:=h1;obtain⟨b',l',rfl,rfl,_⟩:=h2;by_cases h0:d=0
 ·have e:Gi n d=Rat.divInt n 1:=by unfold Gi;rw[if_pos h0]
  rw[e];exact Ug func110 rfl [.k c2,.k Dl,.t (by simpa using h0),.k (BF (z:=1) (by decide)),.k c1,.k (ZI (by decide) hn (by decide))] rfl
 ·have e:Gi n d=Rat.divInt n d:=by unfold Gi;rw[if_neg h0]
  rw[e];exact Ug func110 rfl [.k c2,.k Dl,.f (by simpa using h0),.k c1,.k (ZI h0 hn hd)] rfl
theorem BA{q:Rat}(hq:Qs 4294967295 q):Uj 110 [.agg (rl q)] [.agg (rl q)]:=by
 have:=MW (U4 q.num) (U4 (q.den:Int)) hq.1 hq.2;rwa[Su]at this
theorem Qt3{n:Int}(hn:Fe n<=4294967295):Uj 70 [.agg (G8 n)] [.agg (rl (n:Rat))] :=
 Ug func70 rfl [.k (Mn (U4 n) hn),.k (BF (z:=1) (by decide))] rfl (by simp[rl]) trivial
theorem xN{a b:Rat}(ha:Qs 2147483647 a)(hb:Qs 2147483647 b):Uj 99 [.agg (rl a),.agg (rl b)] [.agg (G8 (a.num*(b.den:Int))),.agg (G8 (b.num*(a.den:Int))),.agg (G8 ((a.den:Int)*(b.den:Int)))] :=
 Ug func99 rfl [.k (BA (ha.mono (by decide))),.k (BA (hb.mono (by decide))),.k (P5 (U4 _) (U4 _) (Qa ha.1 (by decide)) (Qa hb.2 (by decide))),.k (P5 (U4 _) (U4 _) (Qa hb.1 (by decide)) (Qa ha.2 (by decide))),.k (P5 (U4 _) (U4 _) (Qa ha.2 (by decide)) (Qa hb.2 (by decide)))] rfl
theorem Ci{a b:Rat}(ha:Qs 2147483647 a)(hb:Qs 2147483647 b):Uj 56 [.agg (rl a),.agg (rl b)] [.oi (He a b)] :=
 Ug func56 rfl [.k (xN ha hb),.k (HN (U4 _) (U4 _) (Qa (Ga _ _) (by have:=ha.1;have:=hb.2;omega)) (Qa (Ga _ _) (by have:=hb.1;have:=ha.2;omega)))] rfl
theorem BE{x y x' y':LV}{n d:Int}(h1:Gd x y n)(h2:Gd x' y' d)(hn:Fe n<=4294967295)(hd:Fe d<=4294967295):Uj 64 [.agg [x,y,x',y'],.one (.row [])] [.agg (rl (Gi n d))]:=by
 have c1:=MW h1 h2 hn hd;obtain⟨b,l,rfl,rfl,_⟩:=h1;obtain⟨b',l',rfl,rfl,_⟩:=h2;refine Fv func64 rfl ?_;refine Ud [.k c1] rfl ?_;refine Ui (S:=Unit) 3 (λL1 _=>(12,.v (.oi 0))::L1) (λ_=>[.blk 43 [.bool b,.row (lm l),.bool b',.row (lm l')],.blk 43 [.bool false,.nils,.bool false,.nils],.blk 43 (rl (Gi n d))]) (λ_=>0) (λ_=>True) () trivial rfl rfl λ_ _=>?_
 exact Uf [.f (by simp)] rfl
theorem Nx{q:Rat}(hq:Qs 4294967295 q):Uj 64 [.agg (rl q),.one (.row [])] [.agg (rl q)]:=by
 have:=BE (U4 q.num) (U4 (q.den:Int)) hq.1 hq.2;rwa[Su]at this
theorem Qnx{q:Rat}(hq:Qs 4294967295 q):Uj 144 [.agg (rl q)] [.agg (rl q)]:=Ug func144 rfl [.k (Nx hq)] rfl
theorem lU{p:Um}{q:Rat}{s t:Nat}(tp:Ff p)(hl:p.length<274877906944)(hp:Bd s p)(hq:Qs t q)(hst:s+p.length*(t+1)+2*t+10<=4294967295):Uj 241 [pr p,.agg (rl q)] [.oi (Ra p q)]:=by
 have cc:=HN (U4 (Qvt p q.num q.den)) QM (Qa (Qar hp hq.1 hq.2).1 (by omega)) (by decide);exact Ug func241 rfl [.k (Qnx (hq.mono (by omega))),.k (Ht tp hl (U5 hp (by omega))),.k (Qe9 hl hp hq.1 hq.2 hst),.k cc] rfl
theorem Qf2{p:Um}{g:Int}(hl:p.length<274877906944)(hp:Bd 4294967295 p)(hg:Fe g≤4294967295)(h0:g≠0)(hd:∀z∈p,z % g=0):Uj 141 [pr p,.agg (G8 g)] [pr (trim (p.map (· / g)))]:=by
 refine Fv func141 rfl ?_;refine Ue [.r 9 (eI (b:=(p.length:Int)) (by simp)),.i p.length,.i p.length,.r 12 (eI (b:=(p.length:Int)) (by simp))] rfl ?_;rw[Ak λk=>G8 (p.getD k 0 / g)];refine Ui (S:=Nat) 2 (λL1 k=>(13,.v (.oi k))::L1) (λk=>[.blk 37 (G8 g),.row false 37 2 (AY (λk=>G8 (p.getD k 0 / g)) [.bool false,.nils] p.length k)]) (λk=>p.length-k) (λk=>k<=p.length) 0 (Qh _) rfl rfl λk hk=>?_
 by_cases hlt:k<p.length
 ·have hg2:=Ri hlt;refine go tt [.t (by simp;omega),.x (Pg hg2),.k (A8 (U4 _) (U4 _) (Ft hp k) hg h0 (hd _ (Qc hg2))),.i k] rfl (by simp[U3,Ij];omega) ?_;have e:=QP (λk=>G8 (p.getD k 0 / g)) [.bool false,.nils] hlt;rw[e];exact rd (k+1) (by omega) hlt rfl
 ·obtain rfl:k=p.length:=by omega
  have e:AY (λk=>G8 (p.getD k 0 / g)) [.bool false,.nils] p.length p.length=(p.map (· / g)).map G8:=by
   rw[QS];refine Xl λi=>?_
   by_cases hi:i<p.length
   ·simp[X3 hi,List.getD,Qe hi]
   ·simp[Qw,hi]
  rw[e];exact Uf [.f (by simp),.k (Ch (Gg (p.map (· / g))) (by simp;exact hl) (HF hp g))] rfl
theorem LO(p:Um):∀c∈p.map G8,c.length=2:=Qsc p λ_=>rfl
theorem MV{lx ly:Us}{px py:Um}{x y:LV}{d:Int}(hx:IsInts lx px)(hy:IsInts ly py)(hd:Gd x y d)(hk:Cs 4294967294 1073741824 (Crv.mk px py d)):Uj 82 [.agg [.row lx,.row ly,x,y]] [.agg (cl (Crv.norm (Crv.mk px py d)))]:=by
 have hlx:=hk.lx;have hly:=hk.ly;simp only at hlx hly;have htx:=H7 px;have hty:=H7 py;have hd1:Fe (Crv.mk px py d).d'<=4294967295:=Qa (Qij hk.d (by omega)) (by omega);have hg1:=Crv.isz_g (Crv.mk px py d) hd1;have hg0:=Crv.g_ne (Crv.mk px py d);have hgd:=Crv.g_dvd (Crv.mk px py d);have cx:=Ch hx (by omega) (U5 hk.x (by omega));have cy:=Ch hy (by omega) (U5 hk.y (by omega));have cd:=Mn hd (Qa hk.d (by omega));have bx:Bd 4294967295 (trim px):=U5 (Tx hk.x) (by omega);have by_:Bd 4294967295 (trim py):=U5 (Tx hk.y) (by omega);obtain⟨b,l,rfl,rfl,_⟩:=hd;obtain⟨e,he⟩:=nmE ((Crv.mk px py d).d');obtain⟨g,hgg⟩:=nmE ((Crv.mk px py d).g);obtain⟨X,hX⟩:=nmE (trim px);obtain⟨Y,hY⟩:=nmE (trim py);have hnorm:(Crv.mk px py d).norm=⟨trim (X.map (· / g)),trim (Y.map (· / g)),e / g⟩:=by rw[he,hgg,hX,hY];rfl
 rw[hnorm];have hgdef:g=if e<0 then -((Rz (e::(X++Y)):Nat):Int)else(Rz (e::(X++Y)):Nat):=by rw[hgg,he,hX,hY];rfl
 have hde:e=if d=0 then 1 else d:=by rw[he];rfl
 simp only[<-he,<-hgg,<-hX,<-hY]at hd1 hg1 hg0 hgd htx hty cx cy bx by_;clear hnorm hgg he hX hY;refine Fv func82 rfl ?_;refine Ud [.k cx,.k cy,.k cd,.k Dl] rfl ?_;refine ct 1 (S:=Unit) (λ_=>[(2,.v (.one (.ow 1 0))),(3,.v (pr X)),(4,.v (pr Y)),(5,.v (.one (.ow 2 0)))]) (λ_=>[.blk 39 [.row lx,.row ly,.bool b,.row (lm l)],.blk 39 [.nils,.nils,.bool false,.nils],.blk 37 (G8 e)]) (λ_=>True) rfl ?_ ?_
 ·by_cases h0:d=0
  ·rw[hde,if_pos h0];exact go tt [.t (by simpa using h0),.k (BF (z:=1) (by decide))] rfl trivial (rc () trivial rfl)
  ·rw[hde,if_neg h0];exact go tt [.f (by simpa using h0)] rfl trivial (rc () trivial rfl)
 ·intro _ _;have hgi:IsInts ([G8 e]++X.map G8++Y.map G8) (e::(X++Y)):=by
   have:=Gg (e::(X++Y));simpa using this
  have hgs:∀z∈e::(X++Y),Fe z≤4294967295:=λz hz=>by
   rcases Qm.1 hz with rfl|hz
   ·exact hd1
   ·rcases Qr.1 hz with hz|hz
    ·exact bx z hz
    ·exact by_ z hz
  have cg:=Qeq hgi hgs;have co1:=Qf2 (p:=X) (by omega) bx hg1 hg0 λz hz=>hgd z (Qg _ (X9 _ hz))
  have co2:=Qf2 (p:=Y) (by omega) by_ hg1 hg0 λz hz=>hgd z (Qg _ (Jg _ hz))
  have ce:=A8 (U4 e) (U4 g) hd1 hg1 hg0 (hgd e (Qy ..));have hszg:=MB hgs;by_cases hneg:e<0
  ·rw[if_pos hneg]at hgdef;have cn:=BU (U4 ((Rz (e::(X++Y)):Nat):Int)) hszg;rw[<-hgdef]at cn;exact Uf [.lo,.s (LO X),.s (LO Y),.k cg,.t (by simpa using hneg),.k cn,.k ce,.k co1,.k co2] rfl rfl (by simp[U3];omega)
  ·rw[if_neg hneg]at hgdef;rw[<-hgdef]at cg;exact Uf [.lo,.s (LO X),.s (LO Y),.k cg,.f (by simpa using hneg),.k ce,.k co1,.k co2] rfl rfl (by simp[U3];omega)
theorem BN{k:Crv}(hn:ZL k)(hk:Cs 4294967294 1073741824 k):Uj 82 [.agg (cl k)] [.agg (cl k)]:=by
 have h:=MV (Gg k.x) (Gg k.y) (U4 k.d) hk;rw[Crv.norm_of hn]at h;exact h
theorem UK{lx ly:Us}{px py:Um}{x y:LV}{d:Int}(hx:IsInts lx px)(hy:IsInts ly py)(hd:Gd x y d)(hk:Cs 4294967294 1073741824 (Crv.mk px py d))(h0:d≠0):Uj 137 [.one (.row lx),.one (.row ly),.agg [x,y]] [.agg (cl (Crv.norm (Crv.mk px py d))),.oi 0]:=by
 have cd:=Mn hd (Qa hk.d (by omega));have cn:=MV hx hy hd hk;obtain⟨b,l,rfl,rfl,_⟩:=hd;exact Ug func137 rfl [.k cd,.k Dl,.f (by simpa using h0),.k cn] rfl
theorem Qrr{lx ly:Us}{px py:Um}(hx:IsInts lx px)(hy:IsInts ly py)(hk:Cs 4294967294 1073741824 (Crv.mk px py 0)):Uj 35 [.one (.row lx),.one (.row ly)] [.agg (cl (Crv.norm (Crv.mk px py 0)))] :=
 Ug func35 rfl [.k (MV hx hy QM hk)] rfl
def Td(x y:Int):Crv:=Crv.norm ⟨trim [x],trim [y],0⟩
theorem uQ{x y:Int}(hx:-9223372036854775808<=x/\x<=9223372036854775807)(hy:-9223372036854775808<=y/\y<=9223372036854775807):Cs 64 1 ⟨trim [x],trim [y],0⟩:=by
 have key:∀z:Int,-9223372036854775808<=z/\z<=9223372036854775807->Fe z<=64:=λz hz=>by
  rw[Sw];have:(2:Nat)^64=18446744073709551616:=by decide
  omega
 refine⟨Tx λz hz=>?_,Tx λz hz=>?_,Qh _,H7 [x],H7 [y]⟩
 ·rw[Qk]at hz;rw[hz];exact key x hx
 ·rw[Qk]at hz;rw[hz];exact key y hy
theorem lH{x y:Int}(hx:-9223372036854775808<=x/\x<=9223372036854775807)(hy:-9223372036854775808<=y/\y<=9223372036854775807):Uj 28 [.oi x,.oi y] [.agg (cl (Td x y))] :=
 Ug func28 rfl [.k (lW (p:=[x]) (show 1<274877906944 by decide) (by intro z hz;rw[Qk]at hz;rw[hz];exact hx)),.k (lW (p:=[y]) (show 1<274877906944 by decide) (by intro z hz;rw[Qk]at hz;rw[hz];exact hy)),.k (Qrr (Gg _) (Gg _) ((uQ hx hy).mono (by omega) (by omega)))] rfl
theorem lS{a b:Crv}(ha:ZL a)(hb:ZL b)(ca:Cs 4294967294 1073741824 a)(cb:Cs 4294967294 1073741824 b):Uj 57 [.agg (cl a),.agg (cl b)] [.one (.bool (Ee a b))]:=by
 have na:=BN ha ca;have nb:=BN hb cb;have alx:=ca.lx;have aly:=ca.ly;have blx:=cb.lx;have bly:=cb.ly;have sx:=MY (p:=a.x) (q:=b.x) (by omega) (by omega) (U5 ca.x (by omega)) (U5 cb.x (by omega));have sy:=MY (p:=a.y) (q:=b.y) (by omega) (by omega) (U5 ca.y (by omega)) (U5 cb.y (by omega));have sd:=HN (U4 a.d) (U4 b.d) (Qa ca.d (by omega)) (Qa cb.d (by omega));rw[ha.1,hb.1]at sx;rw[ha.2.1,hb.2.1]at sy;by_cases h1:a.x=b.x
 ·by_cases h2:a.y=b.y
  ·exact Ug func57 rfl [.k na,.k nb,.k sx,.t (by simpa using h1),.k sy,.t (by simpa using h2),.k sd] rfl (by simp[Ee,h1,h2,jQ]) trivial
  ·exact Ug func57 rfl [.k na,.k nb,.k sx,.t (by simpa using h1),.k sy,.f (by simpa using h2)] rfl (by simp[Ee,h1,h2]) trivial
 ·exact Ug func57 rfl [.k na,.k nb,.k sx,.f (by simpa using h1),.f rfl] rfl (by simp[Ee,h1]) trivial
end Orr
