/- Ntt L1 L2 L3 L4 L5 M1 P2 M2 PolyL RatL CrvL CrowdL PredL CertL Y1 Y2 Q1 C1 -/
import Derived.Test.YtbhhcpcpionelaaGreatPart03
import Derived.Laws.StructEq
import Derived.Test.YtbhhcpcpionelaaGreatProg
import Derived.Test.YtbhhcpcpionelaaGreatPart00
set_option linter.all false
namespace Orr
open Go Go.Proofs Tryz
theorem mM (d:Nat) (x y:Int) (w:World):(Op.equalIn (d+1) 3 (.int .i64 x) (.int .i64 y)).run prog w=.ok (decide (x=y)) w:=by
 simp [Op.equalIn,runUnderlying3];rfl
noncomputable def ti3:TI prog:=I0 3 isAgg3 sizeOf3 underlying3 zeroValue3 typeInfo3 8 rfl
noncomputable def ti4:TI prog:=I0 4 isAgg4 sizeOf4 underlying4 zeroValue4 typeInfo4 1 rfl
noncomputable def ti5:TI prog:=I0 5 isAgg5 sizeOf5 underlying5 zeroValue5 typeInfo5 1 rfl
noncomputable def ti9:TI prog:=I0 9 isAgg9 sizeOf9 underlying9 zeroValue9 typeInfo9 16 rfl
noncomputable def ti22:TI prog:=I0 22 isAgg22 sizeOf22 underlying22 zeroValue22 typeInfo22 24 rfl
noncomputable def ti23:TI prog:=I0 23 isAgg23 sizeOf23 underlying23 zeroValue23 typeInfo23 8 rfl
noncomputable def ti26:TI prog:=UX (ks:=[1,1,1]) (ag:=[false,false,false]) 26 isAgg26 sizeOf26 underlying26 zeroValue26 typeInfo26 24 rfl ⟨sizeOf23,sizeOf24,sizeOf3,trivial⟩ ⟨isAgg23,isAgg24,isAgg3,trivial⟩ rfl
set_option maxRecDepth 20000 in
theorem Qij (d:Nat) (x0 x1 x2 x3 x4 y0 y1 y2 y3 y4:Int) (w:World):(Op.equalIn (d+1+1) 29 (.agg #[.int .i64 x0,.int .i64 x1,.int .i64 x2,.int .i64 x3,.int .i64 x4]) (.agg #[.int .i64 y0,.int .i64 y1,.int .i64 y2,.int .i64 y3,.int .i64 y4])).run prog w=.ok (decide ([x0,x1,x2,x3,x4]=[y0,y1,y2,y3,y4])) w:=by
 rw [run_equalIn_array w (d+1) _ _ (n:=5) (e:=3) rfl rfl];rw [show List.range 5=[0,1,2,3,4] from rfl,show prog.cellsOf 3=1 from rfl];simp [Op.eqItems,Go.part,isAgg3,mM];by_cases h0:x0=y0 <;> by_cases h1:x1=y1 <;> by_cases h2:x2=y2 <;> by_cases h3:x3=y3 <;> by_cases h4:x4=y4 <;> simp [h0,h1,h2,h3,h4]
theorem Qn1 (a b:Ui) (ha:a.length=5) (hb:b.length=5) (w:World):(Op.equal 29 (.agg (a.map (Value.int .i64)).toArray) (.agg (b.map (Value.int .i64)).toArray)).run prog w=.ok (decide (a=b)) w:=by
 match a,ha,b,hb with
 | [x0,x1,x2,x3,x4],_,[y0,y1,y2,y3,y4],_=>exact Qij 9998 x0 x1 x2 x3 x4 y0 y1 y2 y3 y4 w
noncomputable def ti29:TI prog:={ tiA 29 isAgg29 sizeOf29 underlying29 zeroValue29 typeInfo29 40 rfl sizeOf3 with eqn:=some 5,heq:=λk h=>by injection h with h; subst h; exact ⟨eqGuardType29,Qn1⟩ }
noncomputable def ti31:TI prog:=I0 31 isAgg31 sizeOf31 underlying31 zeroValue31 typeInfo31 8 rfl
noncomputable def ti33:TI prog:=I0 33 isAgg33 sizeOf33 underlying33 zeroValue33 typeInfo33 24 rfl
noncomputable def ti34:TI prog:=I0 34 isAgg34 sizeOf34 underlying34 zeroValue34 typeInfo34 24 rfl
noncomputable def ti35:TI prog:=I0 35 isAgg35 sizeOf35 underlying35 zeroValue35 typeInfo35 24 rfl
noncomputable def ti37:TI prog:=UX (ks:=[1,1]) (ag:=[false,false]) 37 isAgg37 sizeOf37 underlying37 zeroValue37 typeInfo37 32 rfl ⟨sizeOf4,sizeOf35,trivial⟩ ⟨isAgg4,isAgg35,trivial⟩ rfl
noncomputable def ti39:TI prog:=UX (ks:=[1,1,2]) (ag:=[false,false,true]) 39 isAgg39 sizeOf39 underlying39 zeroValue39 typeInfo39 80 rfl ⟨sizeOf34,sizeOf34,sizeOf37,trivial⟩ ⟨isAgg34,isAgg34,isAgg37,trivial⟩ rfl
noncomputable def ti41:TI prog:=UX (ks:=[4,1]) (ag:=[true,false]) 41 isAgg41 sizeOf41 underlying41 zeroValue41 typeInfo41 88 rfl ⟨sizeOf39,sizeOf3,trivial⟩ ⟨isAgg39,isAgg3,trivial⟩ rfl
noncomputable def ti43:TI prog:=UX (ks:=[2,2]) (ag:=[true,true]) 43 isAgg43 sizeOf43 underlying43 zeroValue43 typeInfo43 64 rfl ⟨sizeOf37,sizeOf37,trivial⟩ ⟨isAgg37,isAgg37,trivial⟩ rfl
noncomputable def ti45:TI prog:=UX (ks:=[1,1,1,5,4]) (ag:=[false,false,false,true,true]) 45 isAgg45 sizeOf45 underlying45 zeroValue45 typeInfo45 176 rfl ⟨sizeOf3,sizeOf3,sizeOf3,sizeOf41,sizeOf43,trivial⟩ ⟨isAgg3,isAgg3,isAgg3,isAgg41,isAgg43,trivial⟩ rfl
noncomputable def ti52:TI prog:=I0 52 isAgg52 sizeOf52 underlying52 zeroValue52 typeInfo52 24 rfl
noncomputable def ti54:TI prog:=I0 54 isAgg54 sizeOf54 underlying54 zeroValue54 typeInfo54 24 rfl
noncomputable def ti55:TI prog:=I0 55 isAgg55 sizeOf55 underlying55 zeroValue55 typeInfo55 24 rfl
noncomputable def ti57:TI prog:=I0 57 isAgg57 sizeOf57 underlying57 zeroValue57 typeInfo57 24 rfl
noncomputable def ti59:TI prog:=UX (ks:=[1,1]) (ag:=[false,false]) 59 isAgg59 sizeOf59 underlying59 zeroValue59 typeInfo59 32 rfl ⟨sizeOf57,sizeOf4,trivial⟩ ⟨isAgg57,isAgg4,trivial⟩ rfl
noncomputable def ti61:TI prog:=UX (ks:=[2,2]) (ag:=[true,true]) 61 isAgg61 sizeOf61 underlying61 zeroValue61 typeInfo61 64 rfl ⟨sizeOf59,sizeOf59,trivial⟩ ⟨isAgg59,isAgg59,trivial⟩ rfl
noncomputable def ti66:TI prog:=I0 66 isAgg66 sizeOf66 underlying66 zeroValue66 typeInfo66 24 rfl
noncomputable def ti68:TI prog:=UX (ks:=[1,1,1,1,1]) (ag:=[false,false,false,false,false]) 68 isAgg68 sizeOf68 underlying68 zeroValue68 typeInfo68 120 rfl ⟨sizeOf55,sizeOf55,sizeOf55,sizeOf55,sizeOf66,trivial⟩ ⟨isAgg55,isAgg55,isAgg55,isAgg55,isAgg66,trivial⟩ rfl
noncomputable def ti81:TI prog:=I0 81 isAgg81 sizeOf81 underlying81 zeroValue81 typeInfo81 8 rfl
abbrev rZ:List (Nat×Nat×String):=[(365,0,"Advance"),(121,0,"Begin"),(366,0,"Certs"),(51,0,"Clone"),(367,0,"Drop"),(368,0,"Events"),(372,0,"Go"),(88,0,"Ids"),(377,0,"Next"),(376,0,"Now"),(369,0,"Put"),(370,0,"Turn")]
theorem Qos:∀ x∈rZ,∀ b o w,(method (prog.types.size+Made.depth) 82 (.pointer (some ⟨b,o,none⟩)) x.2.2).run prog w=.ok (x.1,.pointer (some ⟨b,o+x.2.1,none⟩)) w:=λx hx=>by
 simp only [rZ,Qm,Jq,or_false] at hx;rcases hx with rfl | rfl | rfl | rfl | rfl | rfl | rfl | rfl | rfl | rfl | rfl | rfl <;> first | exact Ev (E:=196) typeInfo82 rfl underlying82 | exact Df (S:=196) (i:=0) typeInfo82 rfl underlying196 rfl underlying192 (λ_ h=>by cases h) sizeOf192 (by decide)
noncomputable def ti82:TI prog:={ I0 82 isAgg82 sizeOf82 underlying82 zeroValue82 typeInfo82 8 rfl with ms:=rZ,hms:=Qos }
abbrev rX:List (Nat×Nat×String):=[(393,0,"Advance"),(121,0,"Begin"),(366,0,"Certs"),(52,0,"Clone"),(394,0,"Drop"),(368,0,"Events"),(372,0,"Go"),(377,0,"Next"),(376,0,"Now"),(395,0,"Put"),(396,0,"Turn"),(91,0,"Winner")]
theorem Qot:∀ x∈rX,∀ b o w,(method (prog.types.size+Made.depth) 83 (.pointer (some ⟨b,o,none⟩)) x.2.2).run prog w=.ok (x.1,.pointer (some ⟨b,o+x.2.1,none⟩)) w:=λx hx=>by
 simp only [rX,Qm,Jq,or_false] at hx;rcases hx with rfl | rfl | rfl | rfl | rfl | rfl | rfl | rfl | rfl | rfl | rfl | rfl <;> first | exact Ev (E:=199) typeInfo83 rfl underlying83 | exact Df (S:=199) (i:=0) typeInfo83 rfl underlying199 rfl underlying192 (λ_ h=>by cases h) sizeOf192 (by decide)
noncomputable def ti83:TI prog:={ I0 83 isAgg83 sizeOf83 underlying83 zeroValue83 typeInfo83 8 rfl with ms:=rX,hms:=Qot }
abbrev rJ:List (Nat×Nat×String):=[(398,0,"Advance"),(121,0,"Begin"),(366,0,"Certs"),(53,0,"Clone"),(399,0,"Drop"),(368,0,"Events"),(372,0,"Go"),(89,0,"Ids"),(377,0,"Next"),(376,0,"Now"),(400,0,"Put"),(401,0,"Turn")]
theorem Qou:∀ x∈rJ,∀ b o w,(method (prog.types.size+Made.depth) 84 (.pointer (some ⟨b,o,none⟩)) x.2.2).run prog w=.ok (x.1,.pointer (some ⟨b,o+x.2.1,none⟩)) w:=λx hx=>by
 simp only [rJ,Qm,Jq,or_false] at hx;rcases hx with rfl | rfl | rfl | rfl | rfl | rfl | rfl | rfl | rfl | rfl | rfl | rfl <;> first | exact Ev (E:=201) typeInfo84 rfl underlying84 | exact Df (S:=201) (i:=0) typeInfo84 rfl underlying201 rfl underlying192 (λ_ h=>by cases h) sizeOf192 (by decide)
noncomputable def ti84:TI prog:={ I0 84 isAgg84 sizeOf84 underlying84 zeroValue84 typeInfo84 8 rfl with ms:=rJ,hms:=Qou }
abbrev rY:List (Nat×Nat×String):=[(403,0,"Advance"),(121,0,"Begin"),(366,0,"Certs"),(54,0,"Clone"),(404,0,"Drop"),(368,0,"Events"),(372,0,"Go"),(92,0,"Ids"),(377,0,"Next"),(376,0,"Now"),(405,0,"Put"),(406,0,"Turn")]
theorem Qov:∀ x∈rY,∀ b o w,(method (prog.types.size+Made.depth) 85 (.pointer (some ⟨b,o,none⟩)) x.2.2).run prog w=.ok (x.1,.pointer (some ⟨b,o+x.2.1,none⟩)) w:=λx hx=>by
 simp only [rY,Qm,Jq,or_false] at hx;rcases hx with rfl | rfl | rfl | rfl | rfl | rfl | rfl | rfl | rfl | rfl | rfl | rfl <;> first | exact Ev (E:=203) typeInfo85 rfl underlying85 | exact Df (S:=203) (i:=0) typeInfo85 rfl underlying203 rfl underlying192 (λ_ h=>by cases h) sizeOf192 (by decide)
noncomputable def ti85:TI prog:={ I0 85 isAgg85 sizeOf85 underlying85 zeroValue85 typeInfo85 8 rfl with ms:=rY,hms:=Qov }
abbrev rV:List (Nat×Nat×String):=[(408,0,"Advance"),(121,0,"Begin"),(366,0,"Certs"),(55,0,"Clone"),(409,0,"Drop"),(368,0,"Events"),(372,0,"Go"),(377,0,"Next"),(376,0,"Now"),(410,0,"Put"),(90,0,"Triples"),(411,0,"Turn")]
theorem Qow:∀ x∈rV,∀ b o w,(method (prog.types.size+Made.depth) 86 (.pointer (some ⟨b,o,none⟩)) x.2.2).run prog w=.ok (x.1,.pointer (some ⟨b,o+x.2.1,none⟩)) w:=λx hx=>by
 simp only [rV,Qm,Jq,or_false] at hx;rcases hx with rfl | rfl | rfl | rfl | rfl | rfl | rfl | rfl | rfl | rfl | rfl | rfl <;> first | exact Ev (E:=205) typeInfo86 rfl underlying86 | exact Df (S:=205) (i:=0) typeInfo86 rfl underlying205 rfl underlying192 (λ_ h=>by cases h) sizeOf192 (by decide)
noncomputable def ti86:TI prog:={ I0 86 isAgg86 sizeOf86 underlying86 zeroValue86 typeInfo86 8 rfl with ms:=rV,hms:=Qow }
noncomputable def ti88:TI prog:=UX (ks:=[1,4,1,1,1,1,1]) (ag:=[false,true,false,false,false,false,false]) 88 isAgg88 sizeOf88 underlying88 zeroValue88 typeInfo88 112 rfl ⟨sizeOf81,sizeOf43,sizeOf82,sizeOf83,sizeOf84,sizeOf85,sizeOf86,trivial⟩ ⟨isAgg81,isAgg43,isAgg82,isAgg83,isAgg84,isAgg85,isAgg86,trivial⟩ rfl
set_option maxRecDepth 20000 in
theorem Qb7 (d:Nat) (x0 x1 x2 y0 y1 y2:Int) (w:World):(Op.equalIn (d+1+1) 101 (.agg #[.int .i64 x0,.int .i64 x1,.int .i64 x2]) (.agg #[.int .i64 y0,.int .i64 y1,.int .i64 y2])).run prog w=.ok (decide ([x0,x1,x2]=[y0,y1,y2])) w:=by
 rw [run_equalIn_array w (d+1) _ _ (n:=3) (e:=3) rfl rfl];rw [show List.range 3=[0,1,2] from rfl,show prog.cellsOf 3=1 from rfl];simp [Op.eqItems,Go.part,isAgg3,mM];by_cases h0:x0=y0 <;> by_cases h1:x1=y1 <;> by_cases h2:x2=y2 <;> simp [h0,h1,h2]
theorem ID (a b:Ui) (ha:a.length=3) (hb:b.length=3) (w:World):(Op.equal 101 (.agg (a.map (Value.int .i64)).toArray) (.agg (b.map (Value.int .i64)).toArray)).run prog w=.ok (decide (a=b)) w:=by
 match a,ha,b,hb with
 | [x0,x1,x2],_,[y0,y1,y2],_=>exact Qb7 9998 x0 x1 x2 y0 y1 y2 w
noncomputable def ti101:TI prog:={ tiA 101 isAgg101 sizeOf101 underlying101 zeroValue101 typeInfo101 24 rfl sizeOf3 with eqn:=some 3,heq:=λk h=>by injection h with h; subst h; exact ⟨eqGuardType101,ID⟩ }
noncomputable def ti105:TI prog:=I0 105 isAgg105 sizeOf105 underlying105 zeroValue105 typeInfo105 16 rfl
noncomputable def ti106:TI prog:=tiA 106 isAgg106 sizeOf106 underlying106 zeroValue106 typeInfo106 80 rfl sizeOf105
noncomputable def ti111:TI prog:=I0 111 isAgg111 sizeOf111 underlying111 zeroValue111 typeInfo111 4 rfl
set_option maxRecDepth 20000 in
theorem Qb8 (d:Nat) (x0 x1 x2 x3 y0 y1 y2 y3:Int) (w:World):(Op.equalIn (d+1+1) 122 (.agg #[.int .i64 x0,.int .i64 x1,.int .i64 x2,.int .i64 x3]) (.agg #[.int .i64 y0,.int .i64 y1,.int .i64 y2,.int .i64 y3])).run prog w=.ok (decide ([x0,x1,x2,x3]=[y0,y1,y2,y3])) w:=by
 rw [run_equalIn_array w (d+1) _ _ (n:=4) (e:=3) rfl rfl];rw [show List.range 4=[0,1,2,3] from rfl,show prog.cellsOf 3=1 from rfl];simp [Op.eqItems,Go.part,isAgg3,mM];by_cases h0:x0=y0 <;> by_cases h1:x1=y1 <;> by_cases h2:x2=y2 <;> by_cases h3:x3=y3 <;> simp [h0,h1,h2,h3]
noncomputable def ti122:TI prog:=tiA 122 isAgg122 sizeOf122 underlying122 zeroValue122 typeInfo122 32 rfl sizeOf3
set_option maxRecDepth 20000 in
theorem Qb9 (d:Nat) (x x0 x1 x2 x3 y y0 y1 y2 y3:Int) (w:World):(Op.equalIn (d+1+1+1) 124 (.agg #[.int .i64 x,.int .i64 x0,.int .i64 x1,.int .i64 x2,.int .i64 x3]) (.agg #[.int .i64 y,.int .i64 y0,.int .i64 y1,.int .i64 y2,.int .i64 y3])).run prog w=.ok (decide ([x,x0,x1,x2,x3]=[y,y0,y1,y2,y3])) w:=by
 rw [run_equalIn_struct w (d+1+1) 124 _ _ rfl Tryz.stoodInHeld124];have hf:(prog.fieldsOf 124).toList=[{ name := "Kind",type:=3,offset:=0,embedded:=false,tag := "",pkgPath := "",byteOffset:=0 },{ name := "Ids",type:=122,offset:=1,embedded:=false,tag := "",pkgPath := "",byteOffset:=8 }]:=by simp [Program.fieldsOf,underlying124]
 rw [hf];simp [Op.eqFields,Go.part,isAgg3,isAgg122,sizeOf122,sizeOf3,mM,Qb8];by_cases h:x=y <;> by_cases h0:x0=y0 <;> by_cases h1:x1=y1 <;> by_cases h2:x2=y2 <;> by_cases h3:x3=y3 <;> simp [h,h0,h1,h2,h3]
theorem Qii (a b:Ui) (ha:a.length=5) (hb:b.length=5) (w:World):(Op.equal 124 (.agg (a.map (Value.int .i64)).toArray) (.agg (b.map (Value.int .i64)).toArray)).run prog w=.ok (decide (a=b)) w:=by
 match a,ha,b,hb with
 | [x,x0,x1,x2,x3],_,[y,y0,y1,y2,y3],_=>exact Qb9 9997 x x0 x1 x2 x3 y y0 y1 y2 y3 w
noncomputable def ti124:TI prog:={ UX (ks:=[1,4]) (ag:=[false,true]) 124 isAgg124 sizeOf124 underlying124 zeroValue124 typeInfo124 40 rfl ⟨sizeOf3,sizeOf122,trivial⟩ ⟨isAgg3,isAgg122,trivial⟩ rfl with eqn:=some 5,heq:=λk h=>by injection h with h; subst h; exact ⟨eqGuardType124,Qii⟩ }
noncomputable def ti126:TI prog:=UX (ks:=[5,1,1]) (ag:=[true,false,false]) 126 isAgg126 sizeOf126 underlying126 zeroValue126 typeInfo126 72 rfl ⟨sizeOf124,sizeOf34,sizeOf3,trivial⟩ ⟨isAgg124,isAgg34,isAgg3,trivial⟩ rfl
noncomputable def ti158:TI prog:=UX (ks:=[1,1,1]) (ag:=[false,false,false]) 158 isAgg158 sizeOf158 underlying158 zeroValue158 typeInfo158 40 rfl ⟨sizeOf3,sizeOf3,sizeOf54,trivial⟩ ⟨isAgg3,isAgg3,isAgg54,trivial⟩ rfl
noncomputable def ti169:TI prog:=I0 169 isAgg169 sizeOf169 underlying169 zeroValue169 typeInfo169 24 rfl
noncomputable def ti171:TI prog:=I0 171 isAgg171 sizeOf171 underlying171 zeroValue171 typeInfo171 24 rfl
noncomputable def ti172:TI prog:=I0 172 isAgg172 sizeOf172 underlying172 zeroValue172 typeInfo172 24 rfl
noncomputable def ti174:TI prog:=UX (ks:=[1,1,4,4]) (ag:=[false,false,true,true]) 174 isAgg174 sizeOf174 underlying174 zeroValue174 typeInfo174 176 rfl ⟨sizeOf171,sizeOf172,sizeOf61,sizeOf61,trivial⟩ ⟨isAgg171,isAgg172,isAgg61,isAgg61,trivial⟩ rfl
noncomputable def ti175:TI prog:=I0 175 isAgg175 sizeOf175 underlying175 zeroValue175 typeInfo175 24 rfl
noncomputable def ti176:TI prog:=I0 176 isAgg176 sizeOf176 underlying176 zeroValue176 typeInfo176 24 rfl
noncomputable def ti178:TI prog:=UX (ks:=[10,1,1,1]) (ag:=[true,false,false,false]) 178 isAgg178 sizeOf178 underlying178 zeroValue178 typeInfo178 232 rfl ⟨sizeOf174,sizeOf175,sizeOf3,sizeOf176,trivial⟩ ⟨isAgg174,isAgg175,isAgg3,isAgg176,trivial⟩ rfl
noncomputable def ti179:TI prog:=tiA 179 isAgg179 sizeOf179 underlying179 zeroValue179 typeInfo179 1160 rfl sizeOf178
noncomputable def ti181:TI prog:=UX (ks:=[1,1,1,4,65]) (ag:=[false,false,false,true,true]) 181 isAgg181 sizeOf181 underlying181 zeroValue181 typeInfo181 1264 rfl ⟨sizeOf3,sizeOf3,sizeOf169,sizeOf61,sizeOf179,trivial⟩ ⟨isAgg3,isAgg3,isAgg169,isAgg61,isAgg179,trivial⟩ rfl
noncomputable def ti189:TI prog:=UX (ks:=[1,4,4]) (ag:=[false,true,true]) 189 isAgg189 sizeOf189 underlying189 zeroValue189 typeInfo189 152 rfl ⟨sizeOf34,sizeOf43,sizeOf43,trivial⟩ ⟨isAgg34,isAgg43,isAgg43,trivial⟩ rfl
noncomputable def ti190:TI prog:=I0 190 isAgg190 sizeOf190 underlying190 zeroValue190 typeInfo190 24 rfl
noncomputable def ti192:TI prog:=UX (ks:=[1,9,1,1]) (ag:=[false,true,false,false]) 192 isAgg192 sizeOf192 underlying192 zeroValue192 typeInfo192 192 rfl ⟨sizeOf4,sizeOf189,sizeOf190,sizeOf3,trivial⟩ ⟨isAgg4,isAgg189,isAgg190,isAgg3,trivial⟩ rfl
noncomputable def ti194:TI prog:=UX (ks:=[1]) (ag:=[false]) 194 isAgg194 sizeOf194 underlying194 zeroValue194 typeInfo194 24 rfl ⟨sizeOf54,trivial⟩ ⟨isAgg54,trivial⟩ rfl
noncomputable def ti196:TI prog:=UX (ks:=[12,1,1]) (ag:=[true,true,false]) 196 isAgg196 sizeOf196 underlying196 zeroValue196 typeInfo196 240 rfl ⟨sizeOf192,sizeOf194,sizeOf54,trivial⟩ ⟨isAgg192,isAgg194,isAgg54,trivial⟩ rfl
noncomputable def ti197:TI prog:=I0 197 isAgg197 sizeOf197 underlying197 zeroValue197 typeInfo197 24 rfl
noncomputable def ti199:TI prog:=UX (ks:=[12,1,1,1]) (ag:=[true,true,false,false]) 199 isAgg199 sizeOf199 underlying199 zeroValue199 typeInfo199 264 rfl ⟨sizeOf192,sizeOf194,sizeOf54,sizeOf197,trivial⟩ ⟨isAgg192,isAgg194,isAgg54,isAgg197,trivial⟩ rfl
noncomputable def ti201:TI prog:=UX (ks:=[12,1,1]) (ag:=[true,true,false]) 201 isAgg201 sizeOf201 underlying201 zeroValue201 typeInfo201 240 rfl ⟨sizeOf192,sizeOf194,sizeOf54,trivial⟩ ⟨isAgg192,isAgg194,isAgg54,trivial⟩ rfl
noncomputable def ti203:TI prog:=UX (ks:=[12,1,1]) (ag:=[true,true,false]) 203 isAgg203 sizeOf203 underlying203 zeroValue203 typeInfo203 240 rfl ⟨sizeOf192,sizeOf194,sizeOf54,trivial⟩ ⟨isAgg192,isAgg194,isAgg54,trivial⟩ rfl
noncomputable def ti205:TI prog:=UX (ks:=[12,1,1]) (ag:=[true,true,false]) 205 isAgg205 sizeOf205 underlying205 zeroValue205 typeInfo205 240 rfl ⟨sizeOf192,sizeOf194,sizeOf66,trivial⟩ ⟨isAgg192,isAgg194,isAgg66,trivial⟩ rfl
noncomputable def ti215:TI prog:=I0 215 isAgg215 sizeOf215 underlying215 zeroValue215 typeInfo215 24 rfl
noncomputable def ti231:TI prog:=I0 231 isAgg231 sizeOf231 underlying231 zeroValue231 typeInfo231 8 rfl
noncomputable def ti234:TI prog:=I0 234 isAgg234 sizeOf234 underlying234 zeroValue234 typeInfo234 8 rfl
noncomputable def ti264:TI prog:=tiA 264 isAgg264 sizeOf264 underlying264 zeroValue264 typeInfo264 176 rfl sizeOf41
theorem lS (em:Bool) (n:Nat) (v:Int) (w:World):(Instr.checkKey em (n+1) 3 (.int .i64 v)).run prog w=.ok () w:=by
 rw [Instr.checkKey];simp [runUnderlying3]
theorem IG (em:Bool) (n:Nat) (a b c:Int) (w:World):(Instr.checkKey em (n+1+1) 101 (.agg #[.int .i64 a,.int .i64 b,.int .i64 c])).run prog w=.ok () w:=by
 rw [Instr.checkKey];simp [runUnderlying101];rw [show List.range' 0 3=[0,1,2] from rfl];simp [Go.part,isAgg3,sizeOf3,lS]
theorem KL (em:Bool) (ks:Ui) (hk:ks.length=3) (w:World):(Instr.checkKey em 10000 101 (Eo ks)).run prog w=.ok () w:=by
 match ks,hk with
 | [a,b,c],_=>exact IG em 9998 a b c w
theorem Qdi:MapT prog 271 101 3 (.int .i64 0):=⟨runUnderlying271,⟨_,runUnderlying101,λ_ _=>rfl⟩,KL,λx y hx hy w=>ID x y hx hy w,zeroValue3,rfl⟩
noncomputable def ti271:TI prog:={ I0 271 isAgg271 sizeOf271 underlying271 zeroValue271 typeInfo271 8 rfl with md:=some (.int .i64 0),hmd:=λd h=>by injection h with h; subst h; exact ⟨101,3,Qdi⟩ }
theorem Qdj:MapT prog 272 101 4 (.bool false):=⟨runUnderlying272,⟨_,runUnderlying101,λ_ _=>rfl⟩,KL,λx y hx hy w=>ID x y hx hy w,zeroValue4,rfl⟩
noncomputable def ti272:TI prog:={ I0 272 isAgg272 sizeOf272 underlying272 zeroValue272 typeInfo272 8 rfl with md:=some (.bool false),hmd:=λd h=>by injection h with h; subst h; exact ⟨101,4,Qdj⟩ }
noncomputable def ti285:TI prog:=UX (ks:=[5,1,1,1,1]) (ag:=[true,false,false,false,false]) 285 isAgg285 sizeOf285 underlying285 zeroValue285 typeInfo285 104 rfl ⟨sizeOf124,sizeOf171,sizeOf3,sizeOf176,sizeOf4,trivial⟩ ⟨isAgg124,isAgg171,isAgg3,isAgg176,isAgg4,trivial⟩ rfl
noncomputable def ti291:TI prog:=UX (ks:=[7,1,1,9]) (ag:=[true,false,false,true]) 291 isAgg291 sizeOf291 underlying291 zeroValue291 typeInfo291 232 rfl ⟨sizeOf126,sizeOf4,sizeOf4,sizeOf189,trivial⟩ ⟨isAgg126,isAgg4,isAgg4,isAgg189,trivial⟩ rfl
noncomputable def ti308:TI prog:=tiA 308 isAgg308 sizeOf308 underlying308 zeroValue308 typeInfo308 72 rfl sizeOf33
noncomputable def ti320:TI prog:=I0 320 isAgg320 sizeOf320 underlying320 zeroValue320 typeInfo320 24 rfl
noncomputable def ti322:TI prog:=I0 322 isAgg322 sizeOf322 underlying322 zeroValue322 typeInfo322 24 rfl
noncomputable def ti339:TI prog:=UX (ks:=[1,1,4]) (ag:=[false,false,true]) 339 isAgg339 sizeOf339 underlying339 zeroValue339 typeInfo339 128 rfl ⟨sizeOf171,sizeOf171,sizeOf39,trivial⟩ ⟨isAgg171,isAgg171,isAgg39,trivial⟩ rfl
noncomputable def ti341:TI prog:=UX (ks:=[6,1]) (ag:=[true,false]) 341 isAgg341 sizeOf341 underlying341 zeroValue341 typeInfo341 136 rfl ⟨sizeOf339,sizeOf3,trivial⟩ ⟨isAgg339,isAgg3,trivial⟩ rfl
noncomputable def ti343:TI prog:=I0 343 isAgg343 sizeOf343 underlying343 zeroValue343 typeInfo343 24 rfl
noncomputable def ti347:TI prog:=tiA 347 isAgg347 sizeOf347 underlying347 zeroValue347 typeInfo347 272 rfl sizeOf341
noncomputable def ti351:TI prog:=I0 351 isAgg351 sizeOf351 underlying351 zeroValue351 typeInfo351 24 rfl
noncomputable def ti355:TI prog:=UX (ks:=[1]) (ag:=[false]) 355 isAgg355 sizeOf355 underlying355 zeroValue355 typeInfo355 24 rfl ⟨sizeOf322,trivial⟩ ⟨isAgg322,trivial⟩ rfl
noncomputable def ti379:TI prog:=I0 379 isAgg379 sizeOf379 underlying379 zeroValue379 typeInfo379 24 rfl
noncomputable def ti380:TI prog:=I0 380 isAgg380 sizeOf380 underlying380 zeroValue380 typeInfo380 24 rfl
noncomputable def tt:TT prog:=(.nd (.nd (.nd (.nd (.nd (.nd (.nd .nil ti3 .nil) ti4 .nil) ti5 (.nd .nil ti9 .nil)) ti22 (.nd (.nd (.nd .nil ti23 .nil) ti26 .nil) ti29 (.nd .nil ti31 .nil))) ti33 (.nd (.nd (.nd (.nd .nil ti34 .nil) ti35 .nil) ti37 (.nd .nil ti39 .nil)) ti41 (.nd (.nd (.nd .nil ti43 .nil) ti45 .nil) ti52 (.nd .nil ti54 .nil)))) ti55 (.nd (.nd (.nd (.nd (.nd .nil ti57 .nil) ti59 .nil) ti61 (.nd .nil ti66 .nil)) ti68 (.nd (.nd (.nd .nil ti81 .nil) ti82 .nil) ti83 (.nd .nil ti84 .nil))) ti85 (.nd (.nd (.nd (.nd .nil ti86 .nil) ti88 .nil) ti101 (.nd .nil ti105 .nil)) ti106 (.nd (.nd (.nd .nil ti111 .nil) ti122 .nil) ti124 (.nd .nil ti126 .nil))))) ti158 (.nd (.nd (.nd (.nd (.nd (.nd .nil ti169 .nil) ti171 .nil) ti172 (.nd .nil ti174 .nil)) ti175 (.nd (.nd (.nd .nil ti176 .nil) ti178 .nil) ti179 (.nd .nil ti181 .nil))) ti189 (.nd (.nd (.nd (.nd .nil ti190 .nil) ti192 .nil) ti194 (.nd .nil ti196 .nil)) ti197 (.nd (.nd (.nd .nil ti199 .nil) ti201 .nil) ti203 (.nd .nil ti205 .nil)))) ti215 (.nd (.nd (.nd (.nd (.nd .nil ti231 .nil) ti234 .nil) ti264 (.nd .nil ti271 .nil)) ti272 (.nd (.nd (.nd .nil ti285 .nil) ti291 .nil) ti308 (.nd .nil ti320 .nil))) ti322 (.nd (.nd (.nd (.nd .nil ti339 .nil) ti341 .nil) ti343 (.nd .nil ti347 .nil)) ti351 (.nd (.nd .nil ti355 .nil) ti379 (.nd .nil ti380 .nil))))))
instance:Mo prog:=⟨rfl⟩
theorem W9 {n : Nat} {Q : Exit -> Sg -> List OB -> Prop} {L L' : Sg} {B B' : List OB} {it it' : List It} {as0 : List Qv} {ob : List Prop} (hs : List (H Tryz.prog)) (h : (match run tt n 100000 it L B hs [] [] with
 | some (it, L, B, q, ob) => (match CG ob with
  | some ob => some (it, L, B, q.map (·.1), q.map (·.2), ob)
  | none => none)
 | none => none) = some (it', L', B', as0, as0, ob)) (k : AK Tryz.prog n Q it' L' B') (ho : Uw ob := by exact trivial) : AK Tryz.prog n Q it L B := go tt hs h ho k
theorem Ua {n : Nat} {Q : Exit -> Sg -> List OB -> Prop} {L L' : Sg} {B B' : List OB} {it it' : List It} {as0 : List Qv} {ob : List Prop} (hs : List (H Tryz.prog)) (h : (match run tt n 100000 it L B hs [] [] with
 | some (it, L, B, q, ob) => (match CG ob with
  | some ob => some (it, L, B, q.map (·.1), q.map (·.2), ob)
  | none => none)
 | none => none) = some (it', L', B', as0, as0, ob)) (k : AK Tryz.prog n Q it' L' B') (ho : Uw ob := by simp [Uw]; omega) : AK Tryz.prog n Q it L B := go tt hs h ho k
theorem Uc {n : Nat} {f : FuncId} {fn : Func} {c : Code} {args res us : List TV} {as0 : List Qv} {ob : List Prop} (hf : Tryz.prog.funcs[f]? = some fn) (hh : (fn.body, fn.ntmps, (fn.name == "runtime.NumGoroutine"), Nat.ble args.length n) = (some c, n, false, true)) (hs : List (H Tryz.prog))
 (h : wE tt n c fn.results.toList args hs = some (us, as0, as0, ob)) (he : us = res := by exact rfl) (ho : Uw ob := by exact trivial) : BI Tryz.prog f args res := w tt hf hh hs h he ho
theorem Ub {n : Nat} {L : Sg} {B : List OB} {fn : Func} {res us : List TV} {it : List It} {as0 : List Qv} {ob : List Prop} (hs : List (H Tryz.prog)) (h : enE tt n fn.results.toList it L B hs = some (us, as0, as0, ob)) (he : us = res := by exact rfl) (ho : Uw ob := by exact trivial) : AK Tryz.prog n (RQ Tryz.prog fn n 0 λu B => u = res /\ B = []) it L B := en tt hs h he ho
theorem Ud {n : Nat} {L : Sg} {B : List OB} {fn : Func} {k : Nat} {res : List TV} {Bout : List OB} {it : List It} {as0 : List Qv} {ob : List Prop} (ps is : List Nat) (hs : List (H Tryz.prog)) (h : edE tt n k fn.results.toList it L B hs res Bout ps is = some (as0, as0, ob)) (ho : Uw ob := by exact trivial) : AK Tryz.prog n (RQ Tryz.prog fn n k λu B => u = res /\ B = Bout) it L B := ed tt ps is hs h ho
theorem Ue {n : Nat} {Q : Exit -> Sg -> List OB -> Prop} {L : Sg} {B : List OB} {S : Type} {c : Code} {r : List It} {L1 : Sg} (k : Nat) (st : Sg -> S -> Sg) (bs : S -> List OB) (μ : S -> Nat) (I : S -> Prop) (s0 : S) (h0 : I s0) (hL : prn (zW c []) L = some L1) {as0 : List Qv} (hs : two (sQ none L B (st L1 s0) (bs s0)) = some (as0, as0))
 (round : ∀ s, I s -> AK Tryz.prog n Q (.code c :: .rnd (some k) (λL B => ∃ s', μ s' < μ s /\ I s' /\ L = st L1 s' /\ B = bs s') :: r) (st L1 s) (bs s)) (hk : ∀ s, I s -> (bs s).length = k := by exact λ_ _ => rfl) : AK Tryz.prog n Q (.code (.loop c) :: r) L B := lp k st bs μ I s0 h0 hL hk hs round
abbrev Uf (f : Nat) (a r : List TV) : Prop := BI Tryz.prog f a r
end Orr
namespace Orr
open Go Go.Proofs Tryz
set_option maxRecDepth 10000
def lm (l:Uk):Uo:=l.map λ(x:Nat)=>[.int .u32 (x:Int)]
abbrev lr (l:Uk):TV:=.one (.row (lm l))
theorem Ux (l:Uk):(lm l).length=l.length:=by simp [lm]
theorem Gq {l:Uk} {i x:Nat} (h:l[i]? = some x):(lm l)[i]? = some [.int .u32 (x:Int)]:=by simp [lm,h]
def qL:Uk->Uk
 | []=>[]
 |
  x::l=>match qL l with
  | []=>if x=0 then [] else [x]
  | r=>x::r
theorem Qkl {l:Uk}:qL l=[]↔∀ x∈l,x=0:=by
 induction l with
 | nil=>simp [qL]
 |
  cons x l ih =>
  simp only [qL]
  split
  ·rename_i e;have h1:=ih.1 e;by_cases h:x=0
   ·simp [h]; exact h1
   ·simp [h]
  ·rename_i r hne;simp only [reduceCtorEq,Qm,forall_eq_or_imp,false_iff,not_and];exact λ_ h=>hne (ih.2 h)
theorem UJ:∀ {l:Uk} {n:Nat},n<=l.length->(∀ j,n<=j->j<l.length->l[j]? = some 0)->(n=0\/∃ x,l[n-1]? = some x/\x≠0)->l.take n=qL l
 | [],n,h,_,_=>by simp at h; subst h; rfl
 |
  x::l,0,h,hz,_=>by
  rw [Vo];refine (Qkl.2 λy hy=>?_).symm;obtain ⟨j,hj⟩:=Zm.1 hy;have:=hz j (Qi _) (Qe.1 hj).1;rw [hj] at this; injection this
 |
  x::l,n+1,h,hz,ht=>by
  simp only [Q4,Nat.add_le_add_iff_right] at h;have hz':∀ j,n<=j->j<l.length->l[j]? = some 0:=λj h1 h2=>by simpa using hz (j+1) (by omega) (by simpa using h2)
  cases n with
  |
   zero =>
   have e:qL l=[]:=(UJ (n:=0) h hz' (.inl rfl)).symm;rcases ht with h | ⟨y,h1,h2⟩
   ·omega
   ·simp at h1; subst h1; simp [qL,e,h2]
  |
   succ n =>
   have ih:=UJ (n:=n+1) h hz' (.inr (by rcases ht with h | ⟨y,h1,h2⟩; (· omega); exact ⟨y,by simpa using h1,h2⟩));simp only [V0,qL];rw [<-ih];cases hl:l with
   | nil=>rw [hl] at h; simp at h
   | cons y l'=>simp [V0]
theorem Qse (l:Uk):Uf 181 [lr l] [lr (qL l)]:=by
 refine Gb func181 rfl (ln 0 rfl rfl λhl=>?_);rw [Ux] at hl;refine W9 [] rfl ?_;refine Ue (S:=Nat) 0 (λL1 n=>(3,.v (.oi n))::L1) (λ_=>[]) id (λn=>n<=l.length/\∀ j,n<=j->j<l.length->l[j]? = some 0) (lm l).length ⟨by rw [Ux]; exact Ql _,λj h1 h2=>by rw [Ux] at h1; omega⟩ rfl rfl λn ⟨h1,h2⟩=>?_
 cases n with
 | zero=>exact Ub [.f (by simp),.f rfl,.i 0] rfl (by rw [<-UJ h1 h2 (.inl rfl)]; simp [lm]) (by simp [Uw,Hi])
 |
  succ n =>
  obtain ⟨x,hx⟩:=gxE (l:=l) (i:=n) (by omega);by_cases h0:x=0
  ·refine go tt [.t (by simp),.r 11 (v:=.oi n) (by simp),.x (Gq hx),.t (by simp [h0]),.r 17 (v:=.oi n) (by simp)] rfl (by simp [Uw,Hi]; omega) ?_;exact rd n (by simp) ⟨by omega,λj h3 h4=>by
    rcases Kc h3 with rfl | h3
    ·rw [hx,h0]
    ·exact h2 j h3 h4⟩ rfl
  ·exact Ub [.t (by simp),.r 11 (v:=.oi n) (by simp),.x (Gq hx),.f (by simp [h0]),.i (n+1)] rfl (by rw [<-UJ h1 h2 (.inr ⟨x,hx,h0⟩)]; simp [lm]) (by simp [Uw,Hi,Ux] <;> omega)
def Sm (l:Uk):Prop:=∀ x∈l,x<4294967296
theorem qE:∀ l:Uk,Cut l (qL l).length/\l.take (qL l).length=qL l
 | []=>⟨⟨Ql _,λj _ h=>by simp at h,λh=>by simp [qL] at h⟩,rfl⟩
 |
  x::l=>by
  obtain ⟨⟨h1,h2,h3⟩,h4⟩:=qE l;simp only [qL]
  split
  ·rename_i e;rw [e] at h2 h3;by_cases h:x=0
   ·rw [if_pos h];refine ⟨⟨Qi _,λj _ hj=>?_,λh=>by simp at h⟩,rfl⟩;cases j with
    | zero=>simp [h]
    | succ j=>simpa using h2 j (Qi _) (by simpa using hj)
   ·rw [if_neg h];refine ⟨⟨by simp,λj h5 hj=>?_,λ_=>⟨x,rfl,h⟩⟩,rfl⟩;cases j with
    | zero=>simp at h5
    | succ j=>simpa using h2 j (Qi _) (by simpa using hj)
  ·rename_i r hne;refine ⟨⟨by simp [h1],λj h5 hj=>?_,λ_=>?_⟩,by simp [h4]⟩
   ·cases j with
    | zero=>simp at h5
    | succ j=>simpa using h2 j (by simpa using h5) (by simpa using hj)
   ·have hp:0<(qL l).length:=by
     cases e:qL l with
     | nil=>exact absurd e hne
     | cons=>simp
    obtain ⟨y,h5,h6⟩:=h3 hp;refine ⟨y,?_,h6⟩;rw [Q4,show (qL l).length+1-1=((qL l).length-1)+1 from by omega];simpa using h5
theorem AT {l:Uk} (h:Sm l):qL l=Fo (val l):=by
 obtain ⟨h1,h2⟩:=qE l;refine Qdd ?_ ?_
 ·rw [<-h2]; exact Qia h1 h
 ·rw [<-h2]; exact Qib h1
theorem Du (x:Nat):Sm (Fo x):=(Cg x).1
theorem Rk {x k:Nat} (h:sz x<=k):32*(Fo x).length<=k+31:=by
 have:=Qi6 (Cg x);rw [Gu] at this; omega
theorem JP {l:Uk} (h:Sm l):Uf 181 [lr l] [lr (Fo (val l))]:=AT h ▸ Qse l
theorem Qde (l:Uk):∀ c∈lm l,c.length=1:=λc hc=>by
 obtain ⟨x,_,rfl⟩:=Zg.1 hc; rfl
theorem YX {l:Uk} (h:Sm l) (hs:sz (val l)<=4294967296):Uf 135 [lr l] [lr (Fo (val l))] :=
 Uc func135 rfl [.k (JP h),.s (Qde (Fo (val l)))] rfl rfl (by have:=Rk hs; simp [Uw,Hi,Ux]; omega)
theorem UO {a:Uk} (ha:Sm a):∃ p,Uf 181 [lr a] [lr p]/\zB p/\val p=val a/\p.length<=a.length/\p=Fo (val a) :=
 ⟨_,JP ha,Cg _,Gu _,by rw [<-AT ha]; exact (qE a).1.1,rfl⟩
theorem oJ {a b:Uk} (ha:Sm a) (hb:Sm b):Uf 155 [lr a,lr b] [.oi (O9 (val a) (val b))]:=by
 refine Gb func155 rfl (ln 0 rfl rfl λhl=>ln 1 rfl rfl λhl'=>?_);rw [Ux] at hl hl';obtain ⟨p,ca,np,vp,lp',_⟩:=UO ha;obtain ⟨q,cb,nq,vq,lq,_⟩:=UO hb;rw [<-vp,<-vq];by_cases h:p.length=q.length
 ·refine go tt [.k ca,.k cb,.f (by simp [Ux,h])] rfl (by simp [Uw,Hi,Ux] <;> omega) ?_;refine Ue (S:=Int) 0 (λL1 i=>(5,.v (.oi i))::L1) (λ_=>[]) (λi=>(i+1).toNat) (λi=>-1<=i/\i<p.length/\p.drop (i+1).toNat=q.drop (i+1).toNat) (((lm p).length:Int)-1) ⟨by omega,by simp [Ux]; omega,by simp [Ux,h]⟩ rfl rfl λi ⟨h1,h2,h3⟩=>?_
  rcases Kx i 0 with hi | hi
  ·obtain rfl:i=-1:=by omega
   exact Ub [.f (by decide)] rfl (by rw [mX]; exact congrArg val (by simpa using h3)) trivial
  ·obtain ⟨k,rfl⟩:=Ke hi;have e:((k:Int)+1).toNat=k+1:=by omega
   rw [e] at h3;obtain ⟨x,hx⟩:=gxE (l:=p) (i:=k) (by omega);obtain ⟨y,hy⟩:=gxE (l:=q) (i:=k) (by omega);rcases Kh x y with hxy | rfl | hxy
   ·exact Ub [.t (by simp),.x (Gq hx),.x (Gq hy),.t (by simp; omega)] rfl (by rw [TJ (dF np.1 h3 hx hy hxy)]) (by simp [Uw,Hi,Ux] <;> omega)
   ·refine go tt [.t (by simp),.x (Gq hx),.x (Gq hy),.f (by simp),.x (Gq hx),.x (Gq hy),.f (by simp)] rfl (by simp [Uw,Hi,Ux] <;> omega) ?_;exact rd ((k:Int)-1) (by omega) ⟨by omega,by omega,by rw [show ((k:Int)-1+1).toNat=k from by omega]; exact eQ h3 hx hy⟩ rfl
   ·exact Ub [.t (by simp),.x (Gq hx),.x (Gq hy),.f (by simp; omega),.x (Gq hx),.x (Gq hy),.t (by simp; omega)] rfl (by rw [TX (dF nq.1 h3.symm hy hx hxy)]) (by simp [Uw,Hi,Ux] <;> omega)
 ·by_cases h2:p.length<q.length
  ·exact Ub [.k ca,.k cb,.t (by simp [Ux]; omega),.t (by simp [Ux]; omega)] rfl (by rw [TJ (Cz np nq h2)]) (by simp [Uw,Hi])
  ·exact Ub [.k ca,.k cb,.t (by simp [Ux]; omega),.f (by simp [Ux]; omega)] rfl (by rw [TX (Cz nq np (by omega))]) (by simp [Uw,Hi])
theorem VJ (m:Nat):List.replicate m [LV.int .u32 0]=lm (List.replicate m 0):=by simp [lm]
theorem Bb (l:Uk) (i x:Nat):(lm l).set i [.int .u32 (x:Int)]=lm (l.set i x):=by simp [lm,Ka]
theorem Cu {a b:Int} (h:a=b):TV.one (LV.int .u64 a)=.one (.int .u64 b):=h ▸ rfl
theorem Ee {a b:Int} (h:a=b):TV.one (LV.int .u32 a)=.one (.int .u32 b):=h ▸ rfl
theorem eI {a b:Int} (h:a=b):TV.one (LV.int .i64 a)=.oi b:=h ▸ rfl
theorem AP (z:Int):IntKind.u32.wrap z=z % 4294967296:=by simp [IntKind.wrap,IntKind.bits,IntKind.signed]
theorem iQ (z:Int):IntKind.u64.wrap z=z % 18446744073709551616:=by simp [IntKind.wrap,IntKind.bits,IntKind.signed]
theorem Qla {a b:Uk} (ha:Sm a) (hb:Sm b) (h1:sz (val a)<=4294967296) (h2:sz (val b)<=4294967296):Uf 225 [lr a,lr b] [lr (Fo (val a+val b))]:=by
 refine Gb func225 rfl ?_;obtain ⟨p,ca,np,vp,_,ep⟩:=UO ha;obtain ⟨q,cb,nq,vq,_,eq⟩:=UO hb;have lp':=Rk h1;have lq:=Rk h2;rw [<-ep] at lp';rw [<-eq] at lq;rw [<-vp,<-vq];refine W9 [.k ca,.k cb] rfl ?_;refine ct 1 (S:=Uk×Uk) (λs=>[(0,.v (lr s.1)),(1,.v (lr s.2))]) (λ_=>[]) (λs=>zB s.1/\zB s.2/\32*s.1.length<=4294967327/\s.2.length<=s.1.length/\val s.1+val s.2=val p+val q) rfl ?_ ?_
 ·by_cases h:p.length<q.length
  ·exact go tt [.t (by simp [Ux]; omega)] rfl trivial (rc (q,p) ⟨nq,np,lq,Yg h,Jr _ _⟩ rfl)
  ·exact go tt [.f (by simp [Ux]; omega)] rfl trivial (rc (p,q) ⟨np,nq,lp',J5 h,rfl⟩ rfl)
 ·intro ⟨p',q'⟩ ⟨np,nq,hp,hq,e⟩;dsimp only at np nq hp hq e;rw [<-e];clear ca cb e vp vq ep eq;refine go tt [.i ((lm p').length+1),.i ((lm p').length+1)] rfl (by simp [Uw,Hi,Ux] <;> omega) ?_;rw [VJ];refine lp (S:=Nat×Uk×Nat) 1 (λL1 s=>(27,.v (.oi (s.1:Int)))::(6,.v (.one (.int .u64 (s.2.2:Int))))::L1) (λs=>[.row false 111 1 (lm s.2.1)]) (λs=>p'.length-s.1)
   (λs=>s.1<=p'.length/\s.2.1.length=p'.length+1/\Sm s.2.1/\s.2.2<=1/\val (s.2.1.take s.1)+s.2.2*4294967296^s.1=val (p'.take s.1)+val (q'.take s.1)) (0,List.replicate ((lm p').length+1) 0,0)
   ⟨Qi _,by simp [Ux],λx hx=>by rw [Z0 hx]; decide,Qi _,by simp [val]⟩ rfl (λ_ _=>rfl) rfl λ⟨i,o,c⟩ ⟨j1,j2,j3,j4,j5⟩=>?_
  dsimp only at j1 j2 j3 j4 j5 ⊢;by_cases hi:i<p'.length
  ·obtain ⟨x,hx⟩:=gxE (l:=p') (i:=i) hi;have xb:=np.1 x (Qa hx);have fin:∀ y s,(q'[i]? = some y\/q'.length<=i/\y=0)->y<4294967296->s=x+c+y->p'.length-(i+1)<p'.length-i/\i+1<=p'.length/\(o.set i (s % 4294967296)).length=p'.length+1/\Sm (o.set i (s % 4294967296))/\s / 4294967296<=1 /\
    val ((o.set i (s % 4294967296)).take (i+1))+s / 4294967296*4294967296^(i+1)=val (p'.take (i+1))+val (q'.take (i+1)):=λy s hy hyb hs =>
    ⟨by omega,hi,by simp [j2],M9 j3 i _ (by omega),by omega,zC (by omega) hx hy j5 hs⟩
   by_cases hi2:i<q'.length
   ·obtain ⟨y,hy⟩:=gxE (l:=q') (i:=i) hi2;have yb:=nq.1 y (Qa hy);refine go tt [.t (by simp [Ux]; omega),.x (Gq hx),.t (by simp [Ux]; omega),.x (Gq hy),.w 2,.r 50 (v:=.one (.int .u32 (((x+c+y) % 4294967296:Nat):Int))) (by simp [IntKind.wrap,IntKind.bits,IntKind.signed]),.i 32,.r 52 (v:=.one (.int .u64 (((x+c+y) / 4294967296:Nat):Int))) (by simp),.i i] rfl (by simp [Uw,Hi,Ux,IntKind.bits] <;> omega) ?_;rw [Bb];exact rd (i+1,o.set i ((x+c+y) % 4294967296),(x+c+y) / 4294967296) (fin y _ (.inl hy) yb rfl).1 (fin y _ (.inl hy) yb rfl).2 rfl
   ·refine go tt [.t (by simp [Ux]; omega),.x (Gq hx),.f (by simp [Ux]; omega),.w 0,.r 50 (v:=.one (.int .u32 (((x+c+0) % 4294967296:Nat):Int))) (by simp [IntKind.wrap,IntKind.bits,IntKind.signed]),.i 32,.r 52 (v:=.one (.int .u64 (((x+c+0) / 4294967296:Nat):Int))) (by simp),.i i] rfl (by simp [Uw,Hi,Ux,IntKind.bits] <;> omega) ?_;rw [Bb];exact rd (i+1,o.set i ((x+c+0) % 4294967296),(x+c+0) / 4294967296) (fin 0 _ (.inr ⟨by omega,rfl⟩) (by decide) rfl).1 (fin 0 _ (.inr ⟨by omega,rfl⟩) (by decide) rfl).2 rfl
  ·obtain rfl:i=p'.length:=by omega
   refine go tt [.f (by simp [Ux]),.w 0,.r 59 (v:=.one (.int .u32 (c:Int))) (by simp [IntKind.wrap,IntKind.bits,IntKind.signed]; omega),.i (lm p').length] rfl (by simp [Uw,Hi,Ux,j2]) ?_;rw [Ux,Bb];have e:val (o.set p'.length c)=val p'+val q':=by
    have h1:=O2 o p'.length c (by omega);rw [Qo (by simp; omega)] at h1;rw [Qo (Ql _),Qo hq] at j5;rw [h1,<-j5,Zn]
   rw [<-e];exact Ub [.k (JP (M9 j3 _ c (by omega)))] rfl
theorem jQ {x y:Nat}:O9 x y<0↔x<y:=by unfold O9; split <;> (try split) <;> omega
theorem Qlf {a b:Uk} (ha:Sm a) (hb:Sm b) (h1:sz (val a)<=4294967296):Uf 226 [lr a,lr b] (if val b<=val a then [lr (Fo (val a-val b)),.one (.bool true)] else [lr [],.one (.bool false)]):=by
 refine Gb func226 rfl ?_;obtain ⟨p,ca,np,vp,_,ep⟩:=UO ha;obtain ⟨q,cb,nq,vq,_,_⟩:=UO hb;have hp:=Rk h1;rw [<-ep] at hp;rw [<-vp,<-vq];have cc:=oJ np.1 nq.1;by_cases hlt:val p<val q
 ·rw [if_neg (by omega)];exact Ub [.k ca,.k cb,.k cc,.t (by simpa using jQ.2 hlt)] rfl
 rw [if_pos (by omega)];have hq:q.length<=p.length:=J5 λh=>hlt (Cz np nq h)
 refine go tt [.k ca,.k cb,.k cc,.f (by have:=mt jQ.1 hlt; simpa using this),.i (lm p).length,.i (lm p).length] rfl (by simp [Uw,Hi,Ux] <;> omega) ?_;rw [VJ];refine lp (S:=Nat×Uk×Nat) 1 (λL1 s=>(24,.v (.oi (s.1:Int)))::(7,.v (.one (.int .u64 (s.2.2:Int))))::L1) (λs=>[.row false 111 1 (lm s.2.1)]) (λs=>p.length-s.1)
  (λs=>s.1<=p.length/\s.2.1.length=p.length/\Sm s.2.1/\s.2.2<=1/\val (s.2.1.take s.1)+val (q.take s.1)=val (p.take s.1)+s.2.2*4294967296^s.1) (0,List.replicate (lm p).length 0,0)
  ⟨Qi _,by simp [Ux],λx hx=>by rw [Z0 hx]; decide,Qi _,by simp [val]⟩ rfl (λ_ _=>rfl) rfl λ⟨i,o,c⟩ ⟨j1,j2,j3,j4,j5⟩=>?_
 dsimp only at j1 j2 j3 j4 j5 ⊢;by_cases hi:i<p.length
 ·obtain ⟨x,hx⟩:=gxE (l:=p) (i:=i) hi;have xb:=np.1 x (Qa hx);have fin:∀ y s,(q[i]? = some y\/q.length<=i/\y=0)->y<4294967296->s=(x+18446744073709551616-c-y) % 18446744073709551616->p.length-(i+1)<p.length-i/\i+1<=p.length/\(o.set i (s % 4294967296)).length=p.length/\Sm (o.set i (s % 4294967296))/\s / 9223372036854775808<=1 /\
   val ((o.set i (s % 4294967296)).take (i+1))+val (q.take (i+1))=val (p.take (i+1))+s / 9223372036854775808*4294967296^(i+1):=λy s hy hyb hs=>by
   obtain ⟨h1,h2⟩:=Qfq (o:=o) (by omega) hx hy xb hyb j4 j5 hs;exact ⟨by omega,hi,by simp [j2],M9 j3 i _ (by omega),h2,h1⟩
  by_cases hi2:i<q.length
  ·obtain ⟨y,hy⟩:=gxE (l:=q) (i:=i) hi2;have yb:=nq.1 y (Qa hy);obtain ⟨s,hs⟩:=nmE ((x+18446744073709551616-c-y) % 18446744073709551616);refine go tt [.t (by simp [Ux]; omega),.x (Gq hx),.w 1,.r 32 (Cu (b:=(((x+18446744073709551616-c) % 18446744073709551616:Nat):Int)) (by rw [iQ]; omega)),.t (by simp [Ux]; omega),.x (Gq hy),.w 1,.r 43 (Cu (b:=(s:Int)) (by rw [iQ]; omega)),.w 0,.r 47 (Ee (b:=((s % 4294967296:Nat):Int)) (by rw [AP]; omega)),.i 63,.r 49 (Cu (b:=((s / 9223372036854775808:Nat):Int)) (by simp)),.i i] rfl (by simp [Uw,Hi,Ux,IntKind.bits] <;> omega) ?_;rw [Bb];exact rd (i+1,o.set i (s % 4294967296),s / 9223372036854775808) (fin y _ (.inl hy) yb hs).1 (fin y _ (.inl hy) yb hs).2 rfl
  ·obtain ⟨s,hs⟩:=nmE ((x+18446744073709551616-c-0) % 18446744073709551616);have hf:=fin 0 _ (.inr ⟨by omega,rfl⟩) (by decide) hs;refine go tt [.t (by simp [Ux]; omega),.x (Gq hx),.w 1,.r 32 (Cu (b:=(s:Int)) (by rw [iQ]; omega)),.f (by simp [Ux]; omega),.w 0,.r 47 (Ee (b:=((s % 4294967296:Nat):Int)) (by rw [AP]; omega)),.i 63,.r 49 (Cu (b:=((s / 9223372036854775808:Nat):Int)) (by simp)),.i i] rfl (by simp [Uw,Hi,Ux,IntKind.bits] <;> omega) ?_;rw [Bb];exact rd (i+1,o.set i (s % 4294967296),s / 9223372036854775808) hf.1 hf.2 rfl
 ·obtain rfl:i=p.length:=by omega
  have e:val o=val p-val q:=by
   rw [Qo (Nat.le_of_eq j2),Qo hq,Qo (Ql _)] at j5;have h1:=Cm o j3;rw [j2] at h1;rcases Nat.le_one_iff_eq_zero_or_eq_one.1 j4 with rfl | rfl <;> omega
  rw [<-e];exact Ub [.f (by simp [Ux]),.k (JP j3)] rfl
theorem Qqx {a b:Uk} (ha:Sm a) (hb:Sm b) (h1:sz (val a)<=4294967296) (h2:sz (val b)<=4294967296):Uf 184 [lr a,lr b] [lr (Fo (val a*val b))]:=by
 refine Gb func184 rfl ?_;obtain ⟨p,ca,np,vp,_,ep⟩:=UO ha;obtain ⟨q,cb,nq,vq,_,eq⟩:=UO hb;have hp:=Rk h1;have hq:=Rk h2;rw [<-ep] at hp;rw [<-eq] at hq;rw [<-vp,<-vq];refine go tt [.k ca,.k cb,.i ((lm p).length+(lm q).length),.i ((lm p).length+(lm q).length)] rfl (by simp [Uw,Hi,Ux] <;> omega) ?_;rw [VJ];refine lp (S:=Nat×Uk) 1 (λL1 s=>(24,.v (.oi (s.1:Int)))::L1) (λs=>[.row false 111 1 (lm s.2)]) (λs=>p.length-s.1)
  (λs=>s.1<=p.length/\s.2.length=p.length+q.length/\Sm s.2/\(∀ j,s.1+q.length<=j->j<s.2.length->s.2[j]? = some 0)/\val s.2=val (p.take s.1)*val q) (0,List.replicate ((lm p).length+(lm q).length) 0)
  ⟨Qi _,by simp [Ux],λx hx=>by rw [Z0 hx]; decide,λj _ hj=>by rw [Jv,if_pos (by simpa using hj)],by simp [val,GL]⟩ rfl (λ_ _=>rfl) rfl λ⟨i,o⟩ ⟨j1,j2,j3,j4,j5⟩=>?_
 dsimp only at j1 j2 j3 j4 j5 ⊢;by_cases hi:i<p.length
 ·obtain ⟨x,hx⟩:=gxE (l:=p) (i:=i) hi;have xb:=np.1 x (Qa hx);refine W9 [.t (by simp [Ux]; omega),.x (Gq hx)] rfl ?_;refine lp (S:=Nat×Uk×Nat) 1 (λL1 s=>(31,.v (.oi (s.1:Int)))::(8,.v (.one (.int .u64 (s.2.2:Int))))::L1) (λs=>[.row false 111 1 (lm s.2.1)]) (λs=>q.length-s.1)
   (λs=>s.1<=q.length/\s.2.1.length=p.length+q.length/\Sm s.2.1/\(∀ j,i+q.length<=j->j<s.2.1.length->s.2.1[j]? = some 0)/\s.2.2<4294967296/\val s.2.1+s.2.2*4294967296^(i+s.1)=val (p.take i)*val q+4294967296^i*x*val (q.take s.1)) (0,o,0)
   ⟨Qi _,j2,j3,j4,by simp,by simp [val,j5]⟩ rfl (λ_ _=>rfl) rfl λ⟨k,o',c⟩ ⟨k1,k2,k3,k4,k5,k6⟩=>?_
  dsimp only at k1 k2 k3 k4 k5 k6 ⊢;by_cases hk:k<q.length
  ·obtain ⟨y,hy⟩:=gxE (l:=q) (i:=k) hk;have yb:=nq.1 y (Qa hy);obtain ⟨z,hz⟩:=gxE (l:=o') (i:=i+k) (by omega);have zb:=k3 z (Qa hz);have hm:=ZJ xb yb;have hm2:(x:Int)*(y:Int)=((x*y:Nat):Int):=by push_cast; rfl
   obtain ⟨s,hs⟩:=nmE (x*y+z+c);refine go tt [.t (by simp [Ux]; omega),.x (Gq hy),.r 40 (Cu (b:=((x*y:Nat):Int)) (by push_cast; rfl)),.i (i+k),.x (Gq hz),.r 50 (Cu (b:=(s:Int)) (by omega)),.w 1,.r 56 (Ee (b:=((s % 4294967296:Nat):Int)) (by rw [AP]; omega)),.i 32,.r 58 (Cu (b:=((s / 4294967296:Nat):Int)) (by simp)),.i (i+k)] rfl ?_ ?_
   ·simp [Uw,Hi,Ux,IntKind.bits] <;> omega
   ·rw [Bb];exact rd (k+1,o'.set (i+k) (s % 4294967296),s / 4294967296) (show q.length-(k+1)<q.length-k by omega) ⟨hk,by simp [k2],M9 k3 _ _ (by omega),λj h3 h4=>by
     rw [Yc (by omega)]; exact k4 j h3 (by simpa using h4),(show s / 4294967296<4294967296 from by omega),Qdr hz hy k6 hs⟩ rfl
  ·obtain rfl:k=q.length:=by omega
   by_cases hq0:0<q.length
   ·refine go tt [.f (by simp [Ux]),.t (by simp [Ux]; omega),.w 1,.r 70 (Ee (b:=((c % 4294967296:Nat):Int)) (by rw [AP]; omega)),.i (i+(lm q).length)] rfl (by simp [Uw,Hi,Ux,IntKind.bits] <;> omega) ?_;rw [Bb];refine rd (i+1,o'.set (i+(lm q).length) (c % 4294967296)) (show p.length-(i+1)<p.length-i by omega) ⟨hi,by simp [k2],M9 k3 _ _ (by omega),λj h3 h4=>?_,?_⟩ rfl
    ·rw [Ux,List.getElem?_set_ne (by dsimp only at h3; omega)];exact k4 j (by dsimp only at h3; omega) (by simpa using h4)
    ·rw [Ux];exact Qdq (k4 _ (Ql _) (by omega)) hx k5 rfl k6
   ·have q0:q=[]:=Qh (by omega);refine go tt [.f (by simp [Ux]),.f (by simp [Ux,q0])] rfl (by simp [Uw,Hi,Ux,IntKind.bits] <;> omega) ?_;refine rd (i+1,o') (show p.length-(i+1)<p.length-i by omega) ⟨hi,k2,k3,λj h3 h4=>k4 j (by dsimp only at h3; omega) h4,?_⟩ rfl;have c0:c*4294967296^(i+q.length)=0/\val o'=0:=by
     subst q0;simp only [val,List.take_nil,Yy] at k6;omega
    rw [c0.2,q0]; rfl
 ·obtain rfl:i=p.length:=by omega
  rw [Qo (Ql _)] at j5;rw [<-j5];exact Ub [.f (by simp [Ux]),.k (JP j3)] rfl
theorem o64 {k q:Nat} (hq:q<4294967296) (hb:4294967296*k+q<18446744073709551616):orI .u64 ((4294967296*k:Nat):Int) (q:Int)=((4294967296*k+q:Nat):Int):=by
 have e1:(BitVec.ofInt 64 ((4294967296*k:Nat):Int)).toNat=4294967296*k:=by rw [BitVec.toNat_ofInt]; omega
 have e2:(BitVec.ofInt 64 (q:Int)).toNat=q:=by rw [BitVec.toNat_ofInt]; omega
 show IntKind.u64.wrap ((BitVec.ofInt 64 ((4294967296*k:Nat):Int) ||| BitVec.ofInt 64 (q:Int)).toNat:Int)=_;rw [BitVec.toNat_or,e1,e2,Qo4 hq,iQ]; omega
theorem oM {k p:Nat} (hp:p<4294967296) (hb:4294967296*k+p<18446744073709551616):orI .u64 (p:Int) ((4294967296*k:Nat):Int)=((4294967296*k+p:Nat):Int):=by
 have:=o64 hp hb;unfold orI at this ⊢;rw [BitVec.or_comm]; exact this
theorem o32 {s k p:Nat} (hp:p<2^s) (h1:p<4294967296) (h2:2^s*k<4294967296) (hb:p+2^s*k<4294967296):orI .u32 (p:Int) ((2^s*k:Nat):Int)=((p+2^s*k:Nat):Int):=by
 have e1:(BitVec.ofInt 32 ((2^s*k:Nat):Int)).toNat=2^s*k:=by rw [BitVec.toNat_ofInt]; omega
 have e2:(BitVec.ofInt 32 (p:Int)).toNat=p:=by rw [BitVec.toNat_ofInt]; omega
 have e3:p ||| 2^s*k=p+2^s*k:=by
  have:=Wl (i:=s) (b:=p) hp k;rw [Nat.or_comm,<-this,Jr]
 show IntKind.u32.wrap ((BitVec.ofInt 32 (p:Int) ||| BitVec.ofInt 32 ((2^s*k:Nat):Int)).toNat:Int)=_;rw [BitVec.toNat_or,e1,e2,e3,AP]; omega
theorem Qq7 {l:Uk} {v:Nat} (hl:Sm l) (hn:l.length<274877906944) (h0:0<v) (hv:v<4294967296):Uf 220 [lr l,.one (.int .u32 (v:Int))] [lr (Fo (val l / v)),.one (.int .u32 ((val l % v:Nat):Int))]:=by
 refine Gb func220 rfl ?_;refine go tt [.i (lm l).length,.i (lm l).length] rfl (by simp [Uw,Hi,Ux] <;> omega) ?_;rw [VJ];refine lp (S:=Int×Uk×Nat) 1 (λL1 s=>(8,.v (.oi s.1))::(7,.v (.one (.int .u64 (s.2.2:Int))))::L1) (λs=>[.row false 111 1 (lm s.2.1)]) (λs=>(s.1+1).toNat)
  (λs=>-1<=s.1/\s.1<l.length/\s.2.1.length=l.length/\Sm s.2.1/\s.2.2<v/\val (l.drop (s.1+1).toNat)=v*val (s.2.1.drop (s.1+1).toNat)+s.2.2) (((lm l).length:Int)-1,List.replicate (lm l).length 0,0)
  ⟨by simp [Ux]; omega,by simp [Ux]; omega,by simp [Ux],λx hx=>by rw [Z0 hx]; decide,h0,by simp [Ux,val]⟩ rfl (λ_ _=>rfl) rfl λ⟨i,o,r⟩ ⟨j1,j2,j3,j4,j5,j6⟩=>?_
 dsimp only at j1 j2 j3 j4 j5 j6 ⊢;rcases Kx i 0 with hi | hi
 ·obtain rfl:i=-1:=by omega
  simp only [show ((-1:Int)+1).toNat=0 from rfl,Xw] at j6;have e1:val l / v=val o:=by rw [j6,W5 h0,Vw j5,Xk]
  have e2:val l % v=r:=by rw [j6,W6,Xs j5]
  rw [e1,e2];exact Ub [.f (by decide),.k (JP j4)] rfl rfl (by simp [Uw,Hi,Ux,IntKind.bits] <;> omega)
 ·obtain ⟨k,rfl⟩:=Ke hi;have e:((k:Int)+1).toNat=k+1:=by omega
  rw [e] at j6;obtain ⟨x,hx⟩:=gxE (l:=l) (i:=k) (by omega);have xb:=hl x (Qa hx);obtain ⟨s,hs⟩:=nmE (r*4294967296+x);obtain ⟨k1,k2,k3⟩:=Qd3 hx xb (show k<o.length by omega) h0 j5 j6 hs;obtain ⟨q,hq⟩:=nmE (s / v);obtain ⟨u,hu⟩:=nmE (s % v);have hqi:(s:Int).tdiv v=(q:Int):=by rw [Vy (by omega),hq]; rfl
  have hui:(s:Int).tmod v=(u:Int):=by rw [Vz (by omega),hu]; rfl
  rw [<-hq,<-hu] at k3;rw [<-hq] at k1;rw [<-hu] at k2;refine go tt [.t (by simp),.i 32,.r 21 (Cu (b:=((4294967296*r:Nat):Int)) (by omega)),.x (Gq hx),.r 27 (Cu (b:=(s:Int)) (by rw [o64 xb (by omega)]; omega)),
   .r 33 (Cu (b:=(q:Int)) hqi),.w 0,.r 34 (Ee (b:=((q % 4294967296:Nat):Int)) (by rw [AP]; omega)),.r 38 (Cu (b:=(u:Int)) hui),.i k] rfl (by simp [Uw,Hi,Ux,IntKind.bits,hqi] <;> omega) ?_
  rw [Bb];exact rd ((k:Int)-1,o.set k (q % 4294967296),u) (by dsimp only; omega) ⟨by dsimp only; omega,by dsimp only; omega,by simp [j3],M9 j4 _ _ (by omega),k2,by dsimp only; rw [show ((k:Int)-1+1).toNat=k from by omega]; exact k3⟩ rfl
theorem VD {i:Nat} {s:ByteArray} (h:∀ i,i<256->(s[i]?).map (·.toNat)=some (sz i)) (hi:i<256):(s[i]?).map (·.toNat)=some (sz i):=h i hi
set_option maxRecDepth 100000 in
theorem sA {x:Nat} (hx:x<4294967296):Uf 238 [.one (.int .u32 (x:Int))] [.oi (sz x:Int)]:=by
 refine Gb func238 rfl ?_;have h31:sz x<=32:=Nj.2 (by omega);by_cases h1:65536<=x
 ·have e1:sz x=16+sz (x / 2^16):=WO (by omega);obtain ⟨y,hy⟩:=nmE (x / 2^16);rw [<-hy] at e1;by_cases h2:256<=y
  ·have e2:sz y=8+sz (y / 2^8):=WO (by omega);obtain ⟨z,hz⟩:=nmE (y / 2^8);rw [<-hz] at e2;exact Ub [.t (by simp; omega),.i 16,.r 6 (Ee (b:=(y:Int)) (by simp [hy])),.t (by simp; omega),.i 8,.r 10 (Ee (b:=(z:Int)) (by simp [hz])),.y (VD (i:=z) (by decide) (by omega))] rfl (by rw [e1,e2]; simp; omega) (by simp [Uw,Hi,IntKind.bits] <;> omega)
  ·exact Ub [.t (by simp; omega),.i 16,.r 6 (Ee (b:=(y:Int)) (by simp [hy])),.f (by simp; omega),.y (VD (i:=y) (by decide) (by omega))] rfl (by rw [e1]; simp) (by simp [Uw,Hi,IntKind.bits] <;> omega)
 ·by_cases h2:256<=x
  ·have e2:sz x=8+sz (x / 2^8):=WO (by omega);obtain ⟨z,hz⟩:=nmE (x / 2^8);rw [<-hz] at e2;exact Ub [.f (by simp; omega),.t (by simp; omega),.i 8,.r 10 (Ee (b:=(z:Int)) (by simp [hz])),.y (VD (i:=z) (by decide) (by omega))] rfl (by rw [e2]; simp) (by simp [Uw,Hi,IntKind.bits] <;> omega)
  ·exact Ub [.f (by simp; omega),.f (by simp; omega),.y (VD (i:=x) (by decide) (by omega))] rfl (by simp) (by simp [Uw,Hi,IntKind.bits] <;> omega)
theorem Qm8 {x:Nat} (hx:x<4294967296):Uf 221 [.one (.int .u32 (x:Int))] [.oi ((32-sz x:Nat):Int)]:=by
 have h31:sz x<=32:=Nj.2 (by omega);exact Uc func221 rfl [.k (sA hx)] rfl (by simp; omega) (by simp [Uw,Hi] <;> omega)
theorem uC {l:Uk} (hl:Sm l) (hs:sz (val l)<=4294967296):Uf 191 [lr l] [.oi (sz (val l):Int)]:=by
 refine Gb func191 rfl ?_;obtain ⟨p,ca,np,vp,_,ep⟩:=UO hl;have hp:=Rk hs;rw [<-ep] at hp;rw [<-vp] at hs ⊢;by_cases h0:p=[]
 ·subst h0;exact Ub [.k ca,.t (by simp [lm])] rfl rfl (by simp [Uw,Hi])
 ·have hpl:0<p.length:=J0.2 h0;obtain ⟨x,hx,hx0⟩:=np.2 h0;have xb:=np.1 x (Qa hx);have e:=sZ np hx;have h31:sz x<=32:=Nj.2 (by omega);have hn:(lm p).length≠0:=by rw [Ux]; omega
  refine Ub [.k ca,.f (by simp [Ux]; omega),.r 15 (eI (b:=((p.length-1:Nat):Int)) (by rw [Ux]; omega)),.x (Gq hx),.k (sA xb)] rfl (by rw [e,Ux]; simp; omega) (by simp [Uw,Hi,Ux] <;> omega)
theorem kU {s:Nat} (h:s<=31):((s:Nat):Int).tdiv 32=((0:Nat):Int):=by
 rw [Vy (by omega)]; omega
theorem Qeu {s:Nat} (h:s<=31):((s:Nat):Int).tmod 32=(s:Int):=Int.tmod_eq_of_lt (by omega) (by omega)
theorem Qor {s:Nat} (h:s<=31):max 0 (min (s:Int) 65536)=(s:Int):=by omega
theorem Qq2 {a:Uk} {s:Nat} (ha:Sm a) (h1:sz (val a)<=4294967400) (hs:s<=31):Uf 257 [lr a,.oi s] [lr (Fo (val a*2^s))]:=by
 refine Gb func257 rfl ?_;obtain ⟨p,ca,np,vp,_,ep⟩:=UO ha;have hp:=Rk h1;rw [<-ep] at hp;rw [<-vp];have hq:((s:Nat):Int).tdiv 32=0:=kU hs;by_cases h0:p=[]
 ·subst h0;exact Ub [.k ca,.t (by simp [lm])] rfl (by simp [val,Gw,lm]) (by simp [Uw,Hi])
 have hpl:0<p.length:=J0.2 h0;refine go tt [.k ca,.r 15 (eI (b:=(s:Int)) (Qor hs)),.f (by simp [Ux]; omega),.r 20 (eI (b:=((0:Nat):Int)) (kU hs)),.r 22 (eI (b:=(s:Int)) (Qeu hs)),.r 28 (eI (b:=(((lm p).length+1:Nat):Int)) (by omega)),.i ((lm p).length+1),.i ((lm p).length+1)] rfl (by have e:=Ux p; simp only [Uw,Hi]; omega) ?_;rw [VJ];refine lp (S:=Nat×Uk) 1 (λL1 s=>(32,.v (.oi (s.1:Int)))::L1) (λs=>[.row false 111 1 (lm s.2)]) (λs=>p.length-s.1)
  (λr=>r.1<=p.length/\r.2.length=p.length+1/\Sm r.2/\(∃ z,r.2[r.1]? = some z/\z<2^s)/\val (r.2.take (r.1+1))=val (p.take r.1)*2^s) (0,List.replicate ((lm p).length+1) 0)
  ⟨Qi _,by simp [Ux],λx hx=>by rw [Z0 hx]; decide,⟨0,by simp,Z2 (by decide)⟩,by simp [val,Yp]⟩ rfl (λ_ _=>rfl) rfl λ⟨i,o⟩ ⟨j1,j2,j3,⟨z,hz,hzs⟩,j5⟩=>?_
 dsimp only at j1 j2 j3 hz hzs j5 ⊢;by_cases hi:i<p.length
 ·obtain ⟨x,hx⟩:=gxE (l:=p) (i:=i) hi;have xb:=np.1 x (Qa hx);have zb:=j3 z (Qa hz);obtain ⟨k1,k2,k3,k4⟩:=Qfe hs hx xb hz hzs (by omega) j5;have hxs:=Qpo hs xb;have h31:2^s<=2^31:=Zt (by decide) hs;have ec:(x:Int)*2^s=((x*2^s:Nat):Int):=by push_cast; rfl
  obtain ⟨m,hm⟩:=nmE (x*2^s);rw [<-hm] at k1 k2 k3 k4 hxs ec;refine go tt [.t (by simp [Ux]; omega),.x (Gq hx),.i s,.r 40 (Cu (b:=(m:Int)) ec),.i i,.x (Gq hz),.w 0,.r 52 (Ee (b:=((m % 4294967296:Nat):Int)) (by rw [AP]; omega)),.r 53 (Ee (b:=((z+m % 4294967296:Nat):Int)) (by rw [k4,o32 hzs zb (by omega) (by omega)])),.i i,
   .i 32,.r 61 (Cu (b:=((m / 2^32:Nat):Int)) (by simp)),.w 0,.r 62 (Ee (b:=((m / 2^32 % 4294967296:Nat):Int)) (by rw [AP]; omega)),.i (i+1)] rfl (by simp [Uw,Hi,Ux,IntKind.bits,ec] <;> omega) ?_
  rw [Bb,Bb];exact rd (i+1,(o.set i (z+m % 4294967296)).set (i+1) (m / 2^32 % 4294967296)) (show p.length-(i+1)<p.length-i by omega) ⟨hi,by simp [j2],M9 (M9 j3 _ _ (by omega)) _ _ (by omega),⟨_,by rw [X8 (by simp; omega)],by omega⟩,k3⟩ rfl
 ·obtain rfl:i=p.length:=by omega
  rw [Qo (by omega),Qo (Ql _)] at j5;rw [<-j5];exact Ub [.f (by simp [Ux]),.k (JP j3)] rfl
theorem Qq3 {a:Uk} {s:Nat} (ha:Sm a) (h1:sz (val a)<=4294967400) (hs:s<=31):Uf 224 [lr a,.oi s] [lr (Fo (val a / 2^s))]:=by
 refine Gb func224 rfl ?_;obtain ⟨p,ca,np,vp,_,ep⟩:=UO ha;have hp:=Rk h1;rw [<-ep] at hp;rw [<-vp];have hq:((s:Nat):Int).tdiv 32=0:=kU hs;by_cases h0:p=[]
 ·subst h0;exact Ub [.k ca,.r 14 (eI (b:=(s:Int)) (Qor hs)),.r 16 (eI (b:=((0:Nat):Int)) (kU hs)),.r 18 (eI (b:=(s:Int)) (Qeu hs)),.t (by simp [lm])] rfl (by simp [val,Gw,lm]) (by simp only [Uw,Hi]; omega)
 have hpl:0<p.length:=J0.2 h0;refine go tt [.k ca,.r 14 (eI (b:=(s:Int)) (Qor hs)),.r 16 (eI (b:=((0:Nat):Int)) (kU hs)),.r 18 (eI (b:=(s:Int)) (Qeu hs)),.f (by simp [Ux]; omega),.r 27 (eI (b:=((lm p).length:Int)) (by omega)),.i (lm p).length,.i (lm p).length] rfl (by have e:=Ux p; simp only [Uw,Hi]; omega) ?_;rw [VJ];refine lp (S:=Nat×Uk) 1 (λL1 s=>(31,.v (.oi (s.1:Int)))::L1) (λs=>[.row false 111 1 (lm s.2)]) (λs=>p.length-s.1)
  (λr=>r.1<=p.length/\r.2.length=p.length/\Sm r.2/\val (r.2.take r.1)=val p / 2^s % 4294967296^r.1) (0,List.replicate (lm p).length 0)
  ⟨Qi _,by simp [Ux],λx hx=>by rw [Z0 hx]; decide,by simp [val]; omega⟩ rfl (λ_ _=>rfl) rfl λ⟨i,o⟩ ⟨j1,j2,j3,j5⟩=>?_
 dsimp only at j1 j2 j3 j5 ⊢;by_cases hi:i<p.length
 ·obtain ⟨x,hx⟩:=gxE (l:=p) (i:=i) hi;have xb:=np.1 x (Qa hx);have fin:∀ y m,(p[i+1]? = some y\/p.length<=i+1/\y=0)->m=(x+y*2^32) / 2^s->p.length-(i+1)<p.length-i/\i+1<=p.length/\(o.set i (m % 4294967296)).length=p.length/\Sm (o.set i (m % 4294967296))/\val ((o.set i (m % 4294967296)).take (i+1))=val p / 2^s % 4294967296^(i+1):=λy m hy hm =>
   ⟨by omega,hi,by simp [j2],M9 j3 _ _ (by omega),by subst hm; exact Qff hs hx hy (by omega) np.1 j5⟩
  have hsp:0<2^s:=Z2 (by decide);by_cases hy0:i+1<p.length
  ·obtain ⟨y,hy⟩:=gxE (l:=p) (i:=i+1) hy0;have yb:=np.1 y (Qa hy);obtain ⟨v,hv⟩:=nmE (4294967296*y+x);obtain ⟨m,hm⟩:=nmE (v / 2^s);have hml:m<=v:=hm ▸ Jz _ _;have hf:=fin y m (.inl hy) (by rw [hm,hv]; congr 1; omega);refine go tt [.t (by simp [Ux]; omega),.x (Gq hx),.t (by simp [Ux]; omega),.x (Gq hy),.i 32,.r 57 (Cu (b:=((4294967296*y:Nat):Int)) (by omega)),.r 58 (Cu (b:=(v:Int)) (by rw [oM xb (by omega)]; omega)),
    .i s,.r 63 (Cu (b:=(m:Int)) (by rw [hm]; push_cast; rfl)),.w 0,.r 64 (Ee (b:=((m % 4294967296:Nat):Int)) (by rw [AP]; omega)),.i i] rfl (by simp [Uw,Hi,Ux,IntKind.bits] <;> omega) ?_
   rw [Bb];exact rd (i+1,o.set i (m % 4294967296)) hf.1 hf.2 rfl
  ·obtain ⟨m,hm⟩:=nmE (x / 2^s);have hml:m<=x:=hm ▸ Jz _ _;have hf:=fin 0 m (.inr ⟨by omega,rfl⟩) (by rw [hm]; simp);refine go tt [.t (by simp [Ux]; omega),.x (Gq hx),.f (by simp [Ux]; omega),
    .i s,.r 63 (Cu (b:=(m:Int)) (by rw [hm]; push_cast; rfl)),.w 0,.r 64 (Ee (b:=((m % 4294967296:Nat):Int)) (by rw [AP]; omega)),.i i] rfl (by simp [Uw,Hi,Ux,IntKind.bits] <;> omega) ?_
   rw [Bb];exact rd (i+1,o.set i (m % 4294967296)) hf.1 hf.2 rfl
 ·obtain rfl:i=p.length:=by omega
  have hvl:=Cm p np.1;rw [Qo (by omega),Xs (Z3 (Jz _ _) hvl)] at j5;rw [<-j5];exact Ub [.f (by simp [Ux,j2]),.k (JP j3)] rfl
def jF:Nat->Nat->Uk
 | 0,_=>[]
 | k+1,v=>v % 4294967296::jF k (v / 4294967296)
theorem Qbw:∀ {l:Uk},Sm l->l=jF l.length (val l)
 | [],_=>rfl
 |
  x::l,h=>by
  have hx:=h x (.head _);have ih:=Qbw (l:=l) λy hy=>h y (.tail _ hy)
  simp only [Q4,jF,val];rw [show (x+4294967296*val l) % 4294967296=x by omega,show (x+4294967296*val l) / 4294967296=val l by omega,<-ih]
theorem fR {l:Uk} {k v:Nat} (h:Sm l) (hk:l.length=k) (hv:val l=v):jF k v=l:=by
 rw [<-hk,<-hv]; exact (Qbw h).symm
theorem IT:∀ {k v:Nat},(jF k v).length=k/\Sm (jF k v)/\(v<4294967296^k->val (jF k v)=v)
 | 0,v=>⟨rfl,λx hx=>by (cases hx),λh=>by simp at h; subst h; rfl⟩
 |
  k+1,v=>by
  obtain ⟨h1,h2,h3⟩:=IT (k:=k) (v:=v / 4294967296);refine ⟨by simp [jF,h1],λx hx=>?_,λh=>?_⟩
  ·rcases Qm.1 hx with rfl | hx
   ·exact Z6 _ (by decide)
   ·exact h2 x hx
  ·simp only [jF,val];rw [h3 (by rw [Zo] at h; exact X6 (by rw [Zn]; exact h))];omega
theorem Qbe {a:Uk} {s n:Nat} (ha:Sm a) (h1:sz (val a)<=4294967400) (hs:s<=31) (hn:n<274877906944) (h0:0<n) (hv:val a*2^s<4294967296^n) :
 Uz prog 222 [lr a,.oi s,.oi n] [] [.one (.orow 0 1 none)] [.row false 111 1 (lm (jF n (val a*2^s)))]:=by
 refine Gb func222 rfl ?_;obtain ⟨v,hvv⟩:=nmE (val a*2^s);have cs:=Qq2 ha h1 hs;rw [<-hvv] at cs hv ⊢;have hl:(Fo v).length<=n:=by
  apply Classical.byContradiction;intro hh;have h2:=WJ (Cg v) (λe=>by rw [e] at hh; simp at hh);rw [Gu] at h2;have h3:4294967296^n<=4294967296^((Fo v).length-1):=Zt (by decide) (by omega);omega
 refine go tt [.i n,.i n,.k cs,.s (Qde (Fo v)),.i (Fo v).length] rfl (by simp [Uw,Hi,Ux] <;> omega) ?_;have e:List.take 0 (List.replicate n [LV.int .u32 0])++(List.take (Fo v).length (lm (Fo v))++List.drop (0+(Fo v).length) (List.replicate n [LV.int .u32 0]))=lm (jF n v):=by
  rw [fR (l:=Fo v++List.replicate (n-(Fo v).length) 0) (λx hx=>?_) (by simp; omega) (by rw [Nb,GL,Gu]; simp)]
  ·rw [Vo,Yf,Qo (by rw [Ux]; exact Ql _)];simp [lm]
  ·rcases Qr.1 hx with hx | hx
   ·exact Du v x hx
   ·rw [Z0 hx]; decide
 rw [e];exact Ud [] [0] [] rfl
theorem CC {pre x post:Uk} {i u:Nat} (h:x[i]? = some u):(lm (pre++x++post))[pre.length+i]? = some [.int .u32 (u:Int)]:=Gq (by
 have hi:=(Qe.1 h).1;rw [Q9,Xq (by omega),Jh,Zq hi]; exact h)
theorem Qf4 {pre x post:Uk} {i v:Nat} (h:i<x.length):(lm (pre++x++post)).set (pre.length+i) [.int .u32 (v:Int)]=lm (pre++x.set i v++post):=by
 rw [Bb,Q9,List.set_append_right _ _ (by omega),Jh,List.set_append_left _ _ h,<-Q9]
theorem Qhx {pre x post ly:Uk} {top nx xn x1 x2:Nat} (D:Dig x ly ly.length top nx xn x1 x2) (hn:ly.length<274877906944) :
 Uz prog 223 [.one (.orow 0 1 (some (pre.length,x.length))),lr ly] [.row true 111 1 (lm (pre++x++post))] [.one (.int .u32 ((val x / val ly:Nat):Int))] [.row true 111 1 (lm (pre++jF x.length (val x % val ly)++post))]:=by
 refine Gb func223 rfl ?_;have hxl:=D.hx;have hn2:=D.hn;have hb:=D.bnd;obtain ⟨head,hh⟩:=nmE (xn*2^32+x1);obtain ⟨g0,hg0⟩:=nmE (head / top);obtain ⟨r0,hr0⟩:=nmE (head % top);have hst:=D.start;rw [<-hh,<-hg0] at hst;have ht0:=D.top0;have hg0l:g0<=head:=hg0 ▸ Jz _ _;have hr0l:r0<top:=hr0 ▸ Z6 _ ht0;have htd:(head:Int).tdiv top=(g0:Int):=by rw [Vy (by omega),hg0]; rfl
 have htm:(head:Int).tmod top=(r0:Int):=by rw [Vz (by omega),hr0]; rfl
 refine go tt [.r 23 (eI (b:=(ly.length:Int)) (by rw [Ux])),.r 26 (eI (b:=((ly.length-1:Nat):Int)) (by omega)),.x (Gq D.ltop),.r 32 (eI (b:=((ly.length-2:Nat):Int)) (by omega)),.x (Gq D.lnx),
  .i ly.length,.x (CC D.xn),.i 32,.r 41 (Cu (b:=((4294967296*xn:Nat):Int)) (by omega)),.r 44 (eI (b:=((ly.length-1:Nat):Int)) (by omega)),.i (ly.length-1),.x (CC D.x1),.r 48 (Cu (b:=(head:Int)) (by rw [o64 hb.2.2.2.1 (by omega)]; omega)),
  .r 51 (Cu (b:=(g0:Int)) htd),.r 54 (Cu (b:=(r0:Int)) htm)] rfl ?_ ?_
 ·simp only [Uw,Hi,htd,IntKind.bits]; omega
 refine ct 2 (S:=Nat) (λg=>[(0,.v (.one (.orow 0 1 (some (pre.length,x.length))))),(1,.v (lr ly)),(5,.v (.oi (ly.length:Int))),(9,.v (.one (.int .u64 (g:Int))))]) (λ_=>[.row true 111 1 (lm (pre++x++post))]) (λg=>val x / val ly<=g/\(g-1)*val ly<=val x/\g<=4294967296) rfl ?_ ?_
 ·refine lp (S:=Nat×Nat) 1 (λL1 s=>(9,.v (.one (.int .u64 (s.1:Int))))::(10,.v (.one (.int .u64 (s.2:Int))))::L1) (λ_=>[.row true 111 1 (lm (pre++x++post))]) (λs=>4294967296-s.2)
   (λs=>s.1*top+s.2=xn*2^32+x1/\val x / val ly<=s.1/\s.2<4294967296/\s.1<18446744073709551616) (g0,r0)
   ⟨by rw [<-hh,hg0,hr0,Nat.mul_comm]; exact Nat.div_add_mod _ _,hst,by dsimp only; omega,by dsimp only; omega⟩ rfl (λ_ _=>rfl) rfl λ⟨g,r⟩ ⟨j1,j2,j3,j4⟩=>?_
  dsimp only at j1 j2 j3 j4 ⊢;by_cases hge:4294967296<=g
  ·have hrd:=D.round j1 j2 (.inl hge);by_cases h2:4294967296<=r+top
   ·exact go tt [.t (by simp; omega),.t rfl,.r 73 (Cu (b:=((g-1:Nat):Int)) (by omega)),.t (by simp; omega)] rfl (by simp [Uw,Hi] <;> omega) (rc (g-1) ⟨hrd.2.1,(hrd.2.2.2 h2).1,(hrd.2.2.2 h2).2⟩ rfl)
   ·exact go tt [.t (by simp; omega),.t rfl,.r 73 (Cu (b:=((g-1:Nat):Int)) (by omega)),.f (by simp; omega)] rfl (by simp [Uw,Hi] <;> omega) (rd (g-1,r+top) (by dsimp only; omega) ⟨hrd.2.2.1,hrd.2.1,by dsimp only; omega,by dsimp only; omega⟩ rfl)
  ·have hgn:=ZJ (x:=g) (y:=nx) (by omega) hb.2.1;by_cases hc:r*2^32+x2<g*nx
   ·have hrd:=D.round j1 j2 (.inr hc);have e1:(g:Int)*(nx:Int)=((g*nx:Nat):Int):=by push_cast; rfl
    obtain ⟨m,hm⟩:=nmE (g*nx);rw [<-hm] at e1 hgn hc;by_cases h2:4294967296<=r+top
    ·exact go tt [.f (by simp; omega),.r 60 (Cu (b:=(m:Int)) e1),.i 32,.r 62 (Cu (b:=((4294967296*r:Nat):Int)) (by omega)),.r 65 (eI (b:=((ly.length-2:Nat):Int)) (by omega)),.i (ly.length-2),.x (CC D.x2),.r 69 (Cu (b:=((4294967296*r+x2:Nat):Int)) (o64 hb.2.2.2.2 (by omega))),.t (by simp; omega),.r 73 (Cu (b:=((g-1:Nat):Int)) (by omega)),.t (by simp; omega)] rfl (by simp only [Uw,Hi,e1,IntKind.bits]; omega) (rc (g-1) ⟨hrd.2.1,(hrd.2.2.2 h2).1,(hrd.2.2.2 h2).2⟩ rfl)
    ·exact go tt [.f (by simp; omega),.r 60 (Cu (b:=(m:Int)) e1),.i 32,.r 62 (Cu (b:=((4294967296*r:Nat):Int)) (by omega)),.r 65 (eI (b:=((ly.length-2:Nat):Int)) (by omega)),.i (ly.length-2),.x (CC D.x2),.r 69 (Cu (b:=((4294967296*r+x2:Nat):Int)) (o64 hb.2.2.2.2 (by omega))),.t (by simp; omega),.r 73 (Cu (b:=((g-1:Nat):Int)) (by omega)),.f (by simp; omega)] rfl (by simp only [Uw,Hi,e1,IntKind.bits]; omega) (rd (g-1,r+top) (by dsimp only; omega) ⟨hrd.2.2.1,hrd.2.1,by dsimp only; omega,by dsimp only; omega⟩ rfl)
   ·have hf:=D.fin j1 (by omega) (by omega);have e1:(g:Int)*(nx:Int)=((g*nx:Nat):Int):=by push_cast; rfl
    obtain ⟨m,hm⟩:=nmE (g*nx);rw [<-hm] at e1 hgn hc;exact go tt [.f (by simp; omega),.r 60 (Cu (b:=(m:Int)) e1),.i 32,.r 62 (Cu (b:=((4294967296*r:Nat):Int)) (by omega)),.r 65 (eI (b:=((ly.length-2:Nat):Int)) (by omega)),.i (ly.length-2),.x (CC D.x2),.r 69 (Cu (b:=((4294967296*r+x2:Nat):Int)) (o64 hb.2.2.2.2 (by omega))),.f (by simp; omega)] rfl (by simp only [Uw,Hi,e1,IntKind.bits]; omega) (rc g ⟨j2,hf,by omega⟩ rfl)
 ·intro g ⟨q1,q2,q3⟩;refine W9 [.r 80 (eI (b:=(ly.length:Int)) (by rw [Ux]))] rfl ?_;refine lp (S:=Nat×Uk×Nat×Nat) 1 (λL1 s=>(81,.v (.oi (s.1:Int)))::(11,.v (.one (.int .u64 (s.2.2.1:Int))))::(12,.v (.one (.int .u64 (s.2.2.2:Int))))::L1) (λs=>[.row true 111 1 (lm (pre++s.2.1++post))]) (λs=>ly.length-s.1)
   (λs=>s.1<=ly.length/\s.2.1.length=ly.length+1/\Sm s.2.1/\s.2.2.2<=1/\s.2.2.1<4294967296/\val (s.2.1.take s.1)+g*val (ly.take s.1)=val (x.take s.1)+(s.2.2.1+s.2.2.2)*4294967296^s.1/\s.2.1.drop s.1=x.drop s.1) (0,x,0,0)
   ⟨Qi _,hxl,D.xb,Qi _,by simp,by simp [val],rfl⟩ rfl (λ_ _=>rfl) rfl λ⟨i,o,cy,bw⟩ ⟨j1,j2,j3,j4,j5,j6,j7⟩=>?_
  dsimp only at j1 j2 j3 j4 j5 j6 j7 ⊢;by_cases hi:i<ly.length
  ·obtain ⟨w1,hw1⟩:=gxE (l:=ly) (i:=i) hi;obtain ⟨u,hu⟩:=gxE (l:=x) (i:=i) (by omega);have wb:=D.lb w1 (Qa hw1);have ub:=D.xb u (Qa hu);have hou:=(KV j7).trans hu;have hgw:g*w1<=18446744069414584320:=by
    have:=Q7 q3 (show w1<=4294967295 by omega);omega
   obtain ⟨s,hs⟩:=nmE (((u+18446744073709551616-(g*w1+cy) % 4294967296) % 18446744073709551616+18446744073709551616-bw) % 18446744073709551616);have hstep:=OR (o:=o) (by omega) hu hw1 ub j4 j6 rfl hs;have e1:(g:Int)*(w1:Int)=((g*w1:Nat):Int):=by push_cast; rfl
   obtain ⟨m,hm⟩:=nmE (g*w1);rw [<-hm] at e1 hgw hs hstep;obtain ⟨p,hp⟩:=nmE (m+cy);rw [<-hp] at hs hstep;refine go tt [.t (by simp; omega),.x (Gq hw1),.r 89 (Cu (b:=(m:Int)) e1),.r 91 (Cu (b:=(p:Int)) (by omega)),.i 32,.r 93 (Cu (b:=((p / 2^32:Nat):Int)) (by simp)),.i i,.x (CC hou),.w 1,.r 100 (Ee (b:=((p % 4294967296:Nat):Int)) (by rw [AP]; omega)),.w 1,.r 102 (Cu (b:=(((u+18446744073709551616-p % 4294967296) % 18446744073709551616:Nat):Int)) (by rw [iQ]; omega)),.w 0,.r 104 (Cu (b:=(s:Int)) (by rw [iQ]; omega)),
    .w 0,.r 108 (Ee (b:=((s % 4294967296:Nat):Int)) (by rw [AP]; omega)),.i 63,.r 110 (Cu (b:=((s / 2^63:Nat):Int)) (by simp)),.i i] rfl (by simp only [Uw,Hi,e1,IntKind.bits,Ux,Q0]; omega) ?_
   rw [Qf4 (by omega)];exact rd (i+1,o.set i (s % 4294967296),p / 2^32,s / 2^63) (by dsimp only; omega) ⟨hi,by simp [j2],M9 j3 _ _ (by omega),hstep.2,by dsimp only; omega,hstep.1,DI j7⟩ rfl
  ·obtain rfl:i=ly.length:=by omega
   have hon:=(KV j7).trans D.xn;rw [Qo (l:=ly) (Ql _)] at j6;obtain ⟨s,hs⟩:=nmE (((xn+18446744073709551616-cy) % 18446744073709551616+18446744073709551616-bw) % 18446744073709551616);obtain ⟨oa,hoa⟩:=nmE (o.set ly.length (s % 4294967296));have oal:oa.length=ly.length+1:=by rw [hoa,Xf]; exact j2
   have oab:Sm oa:=hoa ▸ M9 j3 _ _ (by omega);by_cases BA:s / 2^63=0
   ·have hf:=D.fin0 j2 j5 j4 q1 j6 hs BA;refine go tt [.f (by simp),.i ly.length,.x (CC hon),.w 1,.r 119 (Cu (b:=(((xn+18446744073709551616-cy) % 18446744073709551616:Nat):Int)) (by rw [iQ]; omega)),.w 0,.r 121 (Cu (b:=(s:Int)) (by rw [iQ]; omega)),.w 0,.r 125 (Ee (b:=((s % 4294967296:Nat):Int)) (by rw [AP]; omega)),.i ly.length,.i 63,.r 128 (Cu (b:=((s / 2^63:Nat):Int)) (by simp)),.t (by simp; omega),.w 0,.r 131 (Ee (b:=((val x / val ly:Nat):Int)) (by rw [AP]; omega))] rfl (by simp only [Uw,Hi,IntKind.bits,Ux,Q0]; omega) ?_;rw [Qf4 (by omega),<-fR (l:=o.set ly.length (s % 4294967296)) (k:=x.length) (hoa ▸ oab) (by rw [<-hoa,oal,hxl]) hf.2];exact Ud [] [0] [] rfl
   ·have hf:=D.fin1 j2 j3 j5 j4 q2 j6 hs BA;rw [<-hoa] at hf;obtain ⟨v1,hv1⟩:=gxE (l:=oa) (i:=ly.length) (by omega);refine go tt [.f (by simp),.i ly.length,.x (CC hon),.w 1,.r 119 (Cu (b:=(((xn+18446744073709551616-cy) % 18446744073709551616:Nat):Int)) (by rw [iQ]; omega)),.w 0,.r 121 (Cu (b:=(s:Int)) (by rw [iQ]; omega)),.w 0,.r 125 (Ee (b:=((s % 4294967296:Nat):Int)) (by rw [AP]; omega)),.i ly.length,.i 63,.r 128 (Cu (b:=((s / 2^63:Nat):Int)) (by simp)),.f (by simp; omega),.r 133 (eI (b:=(ly.length:Int)) (by rw [Ux]))] rfl (by simp only [Uw,Hi,IntKind.bits,Ux,Q0]; omega) ?_;rw [Qf4 (by omega),<-hoa];refine lp (S:=Nat×Uk×Nat) 1 (λL1 s=>(134,.v (.oi (s.1:Int)))::(18,.v (.one (.int .u64 (s.2.2:Int))))::L1) (λs=>[.row true 111 1 (lm (pre++s.2.1++post))]) (λs=>ly.length-s.1)
     (λs=>s.1<=ly.length/\s.2.1.length=ly.length+1/\Sm s.2.1/\s.2.2<=1/\val (s.2.1.take s.1)+s.2.2*4294967296^s.1=val (oa.take s.1)+val (ly.take s.1)/\s.2.1.drop s.1=oa.drop s.1) (0,oa,0)
     ⟨Qi _,oal,oab,Qi _,by simp [val],rfl⟩ rfl (λ_ _=>rfl) rfl λ⟨j,o2,bk⟩ ⟨r1,r2,r3,r4,r5,r6⟩=>?_
    dsimp only at r1 r2 r3 r4 r5 r6 ⊢;by_cases hj:j<ly.length
    ·obtain ⟨w1,hw1⟩:=gxE (l:=ly) (i:=j) hj;obtain ⟨u,hu⟩:=gxE (l:=oa) (i:=j) (by omega);have wb:=D.lb w1 (Qa hw1);have ub:=oab u (Qa hu);have hou:=(KV r6).trans hu;obtain ⟨m,hm⟩:=nmE (u+bk+w1);have hstep:=zC (o:=o2) (by omega) hu (.inl hw1) r5 hm;refine go tt [.t (by simp; omega),.x (Gq hw1),.i j,.x (CC hou),.r 148 (Cu (b:=(m:Int)) (by omega)),.w 0,.r 152 (Ee (b:=((m % 4294967296:Nat):Int)) (by rw [AP]; omega)),.i 32,.r 154 (Cu (b:=((m / 4294967296:Nat):Int)) (by simp)),.i j] rfl (by simp only [Uw,Hi,IntKind.bits,Ux,Q0]; omega) ?_;rw [Qf4 (by omega)];exact rd (j+1,o2.set j (m % 4294967296),m / 4294967296) (by dsimp only; omega) ⟨hj,by simp [r2],M9 r3 _ _ (by omega),by dsimp only; omega,hstep,DI r6⟩ rfl
    ·obtain rfl:j=ly.length:=by omega
     have hon2:=(KV r6).trans hv1;have vb:=oab v1 (Qa hv1);rw [Qo (l:=ly) (Ql _)] at r5;have hf2:=D.fin2 oal oab r2 r3 hv1 r4 hf.2 r5;refine go tt [.f (by simp),.i ly.length,.x (CC hon2),.w 1,.r 165 (Ee (b:=(((v1+bk) % 4294967296:Nat):Int)) (by rw [AP]; omega)),.i ly.length,.w 0,.r 168 (Ee (b:=((g % 4294967296:Nat):Int)) (by rw [AP]; omega)),.w 0,.r 169 (Ee (b:=((val x / val ly:Nat):Int)) (Qsc hf.1 D.qlt))] rfl (by simp only [Uw,Hi,IntKind.bits,Ux,Q0]; omega) ?_;rw [Qf4 (by omega),<-fR (l:=o2.set ly.length ((v1+bk) % 4294967296)) (k:=x.length) (M9 r3 _ _ (by omega)) (by rw [Xf,r2,hxl]) hf2];exact Ud [] [0] [] rfl
theorem Qat {o ly:Uk} {lo top nx xn x1 x2:Nat} (hlo:lo+(ly.length+1)<=o.length) (D:Dig (VM o lo ly.length) ly ly.length top nx xn x1 x2) (hn:ly.length<274877906944) :
 Uz prog 223 [.one (.orow 0 1 (some (lo,ly.length+1))),lr ly] [.row true 111 1 (lm o)] [.one (.int .u32 ((val (VM o lo ly.length) / val ly:Nat):Int))] [.row true 111 1 (lm (o.take lo++jF (ly.length+1) (val (VM o lo ly.length) % val ly)++o.drop (lo+ly.length+1)))]:=by
 have:=Qhx (pre:=o.take lo) (post:=o.drop (lo+ly.length+1)) D hn;have e1:(o.take lo).length=lo:=by rw [Qu]; omega
 have e2:=UK (o:=o) (i:=lo) (n:=ly.length) (by omega);rw [e1,e2,JJ] at this;exact this
theorem xY {a b:Uk} (ha:Sm a) (hb:Sm b) (h1:sz (val a)<=4294967296) (h2:sz (val b)<=4294967296) (hy:0<val b):Uf 182 [lr a,lr b] [lr (Fo (val a / val b)),lr (Fo (val a % val b)),.oi 0]:=by
 refine Gb func182 rfl ?_;obtain ⟨p,ca,np,vp,_,ep⟩:=UO ha;obtain ⟨q,cb,nq,vq,_,eq⟩:=UO hb;have hp:=Rk h1;have hq:=Rk h2;rw [<-ep] at hp;rw [<-eq] at hq;rw [<-vp,<-vq];rw [<-vp] at h1;rw [<-vq] at h2 hy;have q0:q≠[]:=λe=>by rw [e] at hy; simp [val] at hy
 have qp:0<q.length:=J0.2 q0;have c1:¬((lm q).length:Int)=0:=by rw [Ux]; omega
 by_cases hlt:p.length<q.length
 ·have hv:=Cz np nq hlt;rw [Vw hv,Xs hv,Gw];exact Ub [.k ca,.k cb,.f (by simpa using c1),.t (by simp [Ux]; omega),.k (YX np.1 h1)] rfl rfl (by simp [Uw,Hi])
 by_cases hone:q.length=1
 ·obtain ⟨y,rfl⟩:∃ y,q=[y]:=by
   match q,hone with
   | [y],_=>exact ⟨y,rfl⟩
  have yb:=nq.1 y (.head _);have vy:val [y]=y:=by simp [val]
  rw [vy] at hy ⊢;have co:=Qq7 np.1 (by omega) hy yb;have sm:Sm [val p % y]:=λz hz=>by
   simp at hz; subst hz; exact Nat.lt_trans (Z6 _ hy) yb
  have cc:=JP sm;rw [show val [val p % y]=val p % y from by simp [val]] at cc;exact Ub [.k ca,.k cb,.f (by simp [lm]),.f (by simp [Ux]; omega),.t (by simp [lm]),.x (Gq (l:=[y]) (i:=0) rfl),.k co,.k cc] rfl rfl (by simp [Uw,Hi])
 ·have hle:q.length<=p.length:=J5 hlt;obtain ⟨y1,hy1,hy10⟩:=nq.2 q0;have y1b:=nq.1 y1 (Qa hy1);have hszy:=sZ nq hy1;have hsz1:sz y1<=32:=Nj.2 (by omega);have hsz0:0<sz y1:=Qpy (by omega);obtain ⟨s,hs⟩:=nmE (32-sz y1);have hs31:s<=31:=by omega
  have Ee:(2:Nat)^32=4294967296:=by decide
  obtain ⟨x,hx⟩:=nmE (val p);obtain ⟨y,hyv⟩:=nmE (val q);have cl:=Qm8 y1b;rw [<-hs] at cl;have hvx:val p*2^s<4294967296^(p.length+1):=by
   have h1:=Cm p np.1;rw [Zo];exact Xc (Xm h1 (show 0<2^s from Z2 (by decide))) (Zs _ (by rw [<-Ee]; exact Zt (by decide) (by omega)))
  have hvy:val q*2^s<4294967296^q.length:=by
   have h1:=KO (val q);rw [<-Ee,<-W8];have h2:val q*2^s<2^sz (val q)*2^s:=Xm h1 (Z2 (by decide));rw [<-Xe] at h2;rw [show 32*q.length=sz (val q)+s from by omega];exact h2
  have cx:=Qbe np.1 (show sz (val p)<=4294967400 by omega) hs31 (show p.length+1<274877906944 by omega) (by omega) hvx;have cy:=Qbe nq.1 (show sz (val q)<=4294967400 by omega) hs31 (show q.length<274877906944 by omega) qp hvy;obtain ⟨hXl,hXb,hXv⟩:=IT (k:=p.length+1) (v:=val p*2^s);obtain ⟨hYl,hYb,hYv⟩:=IT (k:=q.length) (v:=val q*2^s);have hXv:=hXv hvx;have hYv:=hYv hvy;obtain ⟨X,hX⟩:=nmE (jF (p.length+1) (val p*2^s));obtain ⟨Y,hY⟩:=nmE (jF q.length (val q*2^s));rw [<-hX] at hXl hXb hXv cx;rw [<-hY] at hYl hYb hYv cy;have hyB:4294967296^(q.length-1)<=val q:=WJ nq q0;have hR:=rA hXv hYv hXl hXb hYl hYb (show 2<=q.length by omega) (Cm p np.1) hyB hle;refine go tt [.k ca,.k cb,.f (by simpa using c1),.f (by simp [Ux]; omega),.f (by simp [Ux]; omega),.r 49 (eI (b:=((q.length-1:Nat):Int)) (by rw [Ux]; omega)),.x (Gq hy1),.k cl,.r 57 (eI (b:=((p.length+1:Nat):Int)) (by rw [Ux]; omega)),.c [0] cx,.r 62 (eI (b:=(q.length:Int)) (by rw [Ux])),.c [1] cy,.r 65 (eI (b:=(q.length:Int)) (by rw [Ux,hYl])),.r 70 (eI (b:=((p.length-q.length+1:Nat):Int)) (by rw [Ux]; omega)),.i (p.length-q.length+1),.i (p.length-q.length+1),.r 73 (eI (b:=((p.length-q.length+1:Nat):Int)) (by simp))] rfl ?_ ?_
  ·simp only [Uw,Hi,IntKind.bits,Ux];omega
  ·rw [VJ];refine pb 1 rfl rfl ?_;refine lp (S:=Int×Uk×Uk) 3 (λL1 s=>(13,.v (.oi s.1))::L1) (λs=>[.row false 111 1 (lm s.2.2),.gone,.row false 111 1 (lm s.2.1)]) (λs=>(s.1+1).toNat)
    (λs=>-1<=s.1/\s.1<p.length-q.length+1/\s.2.1.length=p.length-q.length+1/\Sm s.2.1/\Rest s.2.2 Y p.length q.length (s.1+1).toNat/\val (s.2.1.drop (s.1+1).toNat)*4294967296^(s.1+1).toNat*val Y+val s.2.2=val X) (((p.length-q.length+1:Nat):Int)-1,List.replicate (p.length-q.length+1) 0,X)
    ⟨by dsimp only; omega,by dsimp only; omega,by simp,λx hx=>by rw [List.eq_of_mem_replicate hx]; decide,by simpa using hR,by simp [val]⟩ rfl (λ_ _=>rfl) rfl λ⟨i,oq,ox⟩ ⟨j1,j2,j3,j4,j5,j6⟩=>?_
   dsimp only at j1 j2 j3 j4 j5 j6 ⊢;rcases Kx i 0 with hi | hi
   ·obtain rfl:i=-1:=by omega
    simp only [show ((-1:Int)+1).toNat=0 from rfl,Xw,Ve,Yv] at j5 j6;have hlt':val ox<val q*2^s:=by have:=j5.lt; rw [hYv] at this; simpa using this
    have hfin:=Qev (x:=val p) (y:=val q) (s:=s) (r:=val ox) (q:=oq) hy (by rw [<-hXv,<-hYv]; exact j6) hlt';have hoxl:=j5.ol;have hox:=sJ (o:=ox) (n:=q.length) (by omega) (Nat.lt_trans hlt' hvy);have hszm:sz (val (ox.take q.length))<=4294967400:=by
     rw [hox,hfin.2];have h1:=Qfr (val p % val q) (2^s);have h2':=Sf (Yg (Z6 (val p) hy));have h3:sz (2^s)<=s+1:=Nj.2 (Nat.pow_lt_pow_right (by decide) (by omega));omega
    have cs:=Qq3 (a:=ox.take q.length) (λu hu=>j5.ob u (Qn hu)) hszm hs31;rw [hox,hfin.2,Nat.mul_div_cancel _ (Z2 (by decide))] at cs;have cq:=JP j4;rw [hfin.1] at cq;exact Ub [.f (by decide),.p 2,.p 0,.k cq,.i q.length,.r 95 (v:=lr (ox.take q.length)) (by simp [lm]),.k cs] rfl rfl (by simp [Uw,Hi,Ux]; omega)
   ·obtain ⟨k,rfl⟩:=Ke hi;have e:((k:Int)+1).toNat=k+1:=by omega
    rw [e] at j5 j6;obtain ⟨top,nx,xn,x1,x2,D⟩:=j5.dig;have hoxl:=j5.ol;have hm:=j5.hm;have cd:=Qat (o:=ox) (lo:=k) (by omega) (hYl.symm ▸ D) (by omega);rw [hYl] at cd;have hwl:=UK (o:=ox) (i:=k) (n:=q.length) (by omega);have hwlt:val (VM ox k q.length) % val Y<4294967296^(q.length+1):=by
     have h3:=Cm (VM ox k q.length) D.xb;rw [hwl] at h3;exact Z3 (Nat.mod_le _ _) h3
    obtain ⟨d1,d2,d3⟩:=IT (k:=q.length+1) (v:=val (VM ox k q.length) % val Y);have hnx:=j5.next (w':=jF (q.length+1) (val (VM ox k q.length) % val Y)) (d1.trans hwl.symm) d2 (d3 hwlt) (q:=oq) (by omega) j6;have hdg:=D.qlt;refine go tt [.t (by simp),.i k,.i (k+q.length+1),.r 87 (v:=.one (.orow 0 1 (some (k,q.length+1)))) (by rw [show k+q.length+1-k=q.length+1 by omega]),.c [0] cd,.i k] rfl ?_ ?_
    ·simp only [Uw,Ux]; omega
    ·rw [Bb];refine rd ((k:Int)-1,oq.set k (val (VM ox k q.length) / val Y),ox.take k++jF (q.length+1) (val (VM ox k q.length) % val Y)++ox.drop (k+q.length+1)) (by dsimp only; omega) ⟨by dsimp only; omega,by dsimp only; omega,by simp [j3],M9 j4 _ _ hdg,?_,?_⟩ rfl
     ·dsimp only; rw [show ((k:Int)-1+1).toNat=k from by omega]; exact hnx.1
     ·dsimp only; rw [show ((k:Int)-1+1).toNat=k from by omega]; exact hnx.2
def sg (z:Int):LV:=.bool (decide (z<0))
def mg (z:Int):LV:=.row (lm (Fo z.natAbs))
abbrev G6 (z:Int):Un:=[sg z,mg z]
def Gk (x y:LV) (z:Int):Prop:=∃ b l,x=.bool b/\y=.row (lm l)/\Sm l/\z=U6 b (val l)
theorem Uu (z:Int):Gk (sg z) (mg z) z:=by
 refine ⟨_,_,rfl,rfl,Du _,?_⟩;rw [Gu];unfold U6;by_cases h:z<0 <;> simp [h] <;> omega
theorem Qo2 (b:Bool) (m:Nat):[LV.bool (b && decide (0<m)),LV.row (lm (Fo m))]=G6 (U6 b m):=by
 simp only [G6,sg,mg,NT,Ra]
theorem Cw {m:Nat}:0<(Fo m).length↔0<m:=by
 rcases Q5 m with h | h
 ·subst h; rw [Gw]; simp
 ·rw [Lv (by omega)]; simp [h]
theorem Pa (b:Bool) (m:Nat):Uf 134 [lr (Fo m),.one (.bool b)] [.agg (G6 (U6 b m))]:=by
 rw [<-Qo2];have e:=Cw (m:=m);cases b with
 | false=>exact Uc func134 rfl [.f rfl] rfl
 | true=>exact Uc func134 rfl [.t rfl] rfl (by simp [Ux,e]) trivial
theorem S8 {b:Bool} {m:Nat} {k:Nat} (h:U5 (U6 b m)<=k):sz m<=k:=by
 unfold U5 at h; rwa [Ra] at h
theorem Pw {x y:LV} {z:Int} (hi:Gk x y z) (hs:U5 z<=4294967295):Uf 118 [.agg [x,y]] [.agg (G6 z)]:=by
 obtain ⟨b,l,rfl,rfl,hl,rfl⟩:=hi;exact Uc func118 rfl [.k (YX hl (Qc (S8 hs) (by decide))),.k (Pa _ _)] rfl
theorem KR (b:Bool) (m:Nat):U6 (!b) m=-(U6 b m):=by unfold U6; cases b <;> simp
theorem PX {x y:LV} {z:Int} (hi:Gk x y z) (hs:U5 z<=4294967295):Uf 139 [.agg [x,y]] [.agg (G6 (-z))]:=by
 obtain ⟨b,l,rfl,rfl,hl,rfl⟩:=hi;rw [<-KR];exact Uc func139 rfl [.k (YX hl (Qc (S8 hs) (by decide))),.k (Pa _ _)] rfl
theorem Sk {x y x' y':LV} {z z':Int} (hi:Gk x y z) (hi':Gk x' y' z') (hs:U5 z<=4294967295) (hs':U5 z'<=4294967295):Uf 143 [.agg [x,y],.agg [x',y']] [.agg (G6 (z*z'))]:=by
 obtain ⟨b,l,rfl,rfl,hl,rfl⟩:=hi;obtain ⟨b',l',rfl,rfl,hl',rfl⟩:=hi';have e:U6 b (val l)*U6 b' (val l')=U6 (b != b') (val l*val l'):=by
  unfold U6; cases b <;> cases b' <;> simp [Int.neg_mul,Int.mul_neg]
 rw [e];exact Uc func143 rfl [.k (Qqx hl hl' (Qc (S8 hs) (by decide)) (Qc (S8 hs') (by decide))),.k (Pa _ _)] rfl
theorem PU {a b:Uk} (ha:Sm a) (hb:Sm b) (h1:sz (val a)<=4294967296) (h:val b<=val a):Uf 226 [lr a,lr b] [lr (Fo (val a-val b)),.one (.bool true)]:=by
 have:=Qlf ha hb h1; rwa [if_pos h] at this
theorem Qaj {a b:Uk} (ha:Sm a) (hb:Sm b) (h1:sz (val a)<=4294967296) (h:val a<val b):Uf 226 [lr a,lr b] [lr [],.one (.bool false)]:=by
 have:=Qlf ha hb h1; rwa [if_neg (by omega)] at this
theorem YY {x y x' y':LV} {z z':Int} (hi:Gk x y z) (hi':Gk x' y' z') (hs:U5 z<=4294967295) (hs':U5 z'<=4294967295):Uf 185 [.agg [x,y],.agg [x',y']] [.agg (G6 (z+z'))]:=by
 obtain ⟨b,l,rfl,rfl,hl,rfl⟩:=hi;obtain ⟨b',l',rfl,rfl,hl',rfl⟩:=hi';have s1:=Qc (S8 hs) (show 4294967295<=4294967296 by decide);have s2:=Qc (S8 hs') (show 4294967295<=4294967296 by decide);by_cases hb:b=b'
 ·subst hb;have e:U6 b (val l)+U6 b (val l')=U6 b (val l+val l'):=by unfold U6; cases b <;> simp <;> omega
  rw [e];exact Uc func185 rfl [.t (by simp),.k (Qla hl hl' s1 s2),.k (Pa _ _)] rfl
 ·by_cases hle:val l'<=val l
  ·have e:U6 b (val l)+U6 b' (val l')=U6 b (val l-val l'):=by unfold U6; cases b <;> cases b' <;> simp at hb ⊢ <;> omega
   rw [e];exact Uc func185 rfl [.f (by simpa using hb),.k (PU hl hl' s1 hle),.t rfl,.k (Pa _ _)] rfl
  ·have e:U6 b (val l)+U6 b' (val l')=U6 b' (val l'-val l):=by unfold U6; cases b <;> cases b' <;> simp at hb ⊢ <;> omega
   rw [e];exact Uc func185 rfl [.f (by simpa using hb),.k (Qaj hl hl' s1 (by omega)),.f rfl,.k (PU hl' hl s2 (by omega)),.k (Pa _ _)] rfl
theorem Qar {x y x' y':LV} {z z':Int} (hi:Gk x y z) (hi':Gk x' y' z') (hs:U5 z<=4294967295) (hs':U5 z'<=4294967295):Uf 256 [.agg [x,y],.agg [x',y']] [.agg (G6 (z-z'))]:=by
 obtain ⟨b',l',rfl,rfl,hl',rfl⟩:=hi';have hn:Gk (.bool (!b')) (.row (lm l')) (-(U6 b' (val l'))):=⟨_,_,rfl,rfl,hl',(KR _ _).symm⟩;rw [Int.sub_eq_add_neg];have hi2:=hi;obtain ⟨b,l,rfl,rfl,hl,_⟩:=hi;exact Uc func256 rfl [.k (YY hi2 hn hs (by rw [Hu]; exact hs'))] rfl
theorem Qa8 {x y:LV} {z:Int} (hi:Gk x y z) (hs:U5 z<=4294967295):Uf 154 [.agg [x,y]] [.oi (Int.sign z)]:=by
 obtain ⟨b,l,rfl,rfl,hl,rfl⟩:=hi;have s1:=Qc (S8 hs) (show 4294967295<=4294967296 by decide);have cb:=uC hl s1;by_cases h0:val l=0
 ·have e:U6 b (val l)=0:=by unfold U6; rw [h0]; cases b <;> simp
  rw [e];exact Uc func154 rfl [.k cb,.t (by simp [BN,h0])] rfl
 ·have BA:sz (val l)≠0:=λh=>h0 (BN.1 h)
  cases b
  ·have e:(U6 false (val l)).sign=1:=Int.sign_eq_one_of_pos (by unfold U6; simp; omega);rw [e];exact Uc func154 rfl [.k cb,.f (by simp; omega),.f rfl] rfl
  ·have e:(U6 true (val l)).sign=-1:=Int.sign_eq_neg_one_of_neg (by unfold U6; simp; omega);rw [e];exact Uc func154 rfl [.k cb,.f (by simp; omega),.t rfl] rfl
theorem UB {x y x' y':LV} {z z':Int} (hi:Gk x y z) (hi':Gk x' y' z') (hs:U5 z<=4294967295) (hs':U5 z'<=4294967295):Uf 100 [.agg [x,y],.agg [x',y']] [.oi (C9 z z')]:=by
 have c1:=Qa8 hi hs;have c2:=Qa8 hi' hs';obtain ⟨b,l,rfl,rfl,hl,hz⟩:=hi;obtain ⟨b',l',rfl,rfl,hl',hz'⟩:=hi';have k1:=E5 z;have k2:=E5 z';have zl:z.natAbs=val l:=by rw [hz,Ra]
 have zl':z'.natAbs=val l':=by rw [hz',Ra]
 by_cases h1:z.sign<z'.sign
 ·have e:C9 z z'=-1:=by unfold C9; rw [if_pos (by omega)]
  rw [e];exact Uc func100 rfl [.k c1,.k c2,.t (by simpa using h1)] rfl
 ·by_cases h2:z'.sign<z.sign
  ·have e:C9 z z'=1:=by unfold C9; rw [if_neg (by omega),if_pos (by omega)]
   rw [e];exact Uc func100 rfl [.k c1,.k c2,.f (by simpa using h1),.t (by simpa using h2)] rfl
  ·by_cases h3:z.sign<0
   ·have e:O9 (val l') (val l)=C9 z z':=by unfold C9 O9; rw [<-zl,<-zl']; split <;> split <;> (try split) <;> (try split) <;> omega
    have cc:=oJ hl' hl;rw [e] at cc;exact Uc func100 rfl [.k c1,.k c2,.f (by simpa using h1),.f (by simpa using h2),.t (by simpa using h3),.k cc] rfl
   ·have e:O9 (val l) (val l')=C9 z z':=by unfold C9 O9; rw [<-zl,<-zl']; split <;> split <;> (try split) <;> (try split) <;> omega
    have cc:=oJ hl hl';rw [e] at cc;exact Uc func100 rfl [.k c1,.k c2,.f (by simpa using h1),.f (by simpa using h2),.f (by simpa using h3),.k cc] rfl
theorem Nv {z:Int}:Uf 136 [.agg (G6 z)] [.one (.bool (decide (z=0)))] :=
 Uc func136 rfl [] rfl (by simp only [Ux]; congr 3; have:=Cw (m:=z.natAbs); rw [decide_eq_decide]; omega) trivial
theorem RJ {z:Int} (h1:-9223372036854775808<=z/\z<=9223372036854775807):Uf 78 [.oi z] [.agg (G6 z)]:=by
 obtain ⟨m,hm⟩:=nmE (z.natAbs);have sm:Sm [m % 4294967296,m / 4294967296]:=λx hx=>by
  simp at hx; rcases hx with rfl | rfl <;> omega
 have hv:val [m % 4294967296,m / 4294967296]=m:=by simp only [val]; omega
 have cn:=YX sm (by rw [hv]; exact Qc (Nj.2 (show m<2^64 by omega)) (show 64<=4294967296 by decide));rw [hv] at cn;by_cases hz:z<0
 ·have e:U6 true m=z:=by unfold U6; simp; omega
  have cm:=Pa true m;rw [e] at cm;exact Uc func78 rfl [.w 0,.r 5 (Cu (b:=((18446744073709551616-m:Nat):Int)) (by rw [iQ]; omega)),.t (by simpa using hz),.w 0,.r 9 (Cu (b:=(m:Int)) (by rw [iQ]; omega)),.w 0,.r 11 (Ee (b:=((m % 4294967296:Nat):Int)) (by rw [AP]; omega)),.i 32,.r 13 (Cu (b:=((m / 4294967296:Nat):Int)) (by simp)),.k cn,.r 18 (v:=.one (.bool true)) (by simp [hz]),.k cm] rfl rfl (by simp [Uw,IntKind.bits] <;> omega)
 ·have e:U6 false m=z:=by unfold U6; simp; omega
  have cm:=Pa false m;rw [e] at cm;exact Uc func78 rfl [.w 0,.r 5 (Cu (b:=(m:Int)) (by rw [iQ]; omega)),.f (by simpa using hz),.w 0,.r 11 (Ee (b:=((m % 4294967296:Nat):Int)) (by rw [AP]; omega)),.i 32,.r 13 (Cu (b:=((m / 4294967296:Nat):Int)) (by simp)),.k cn,.r 18 (v:=.one (.bool false)) (by simp; omega),.k cm] rfl rfl (by simp [Uw,IntKind.bits] <;> omega)
theorem uE {m n:Nat} (h1:sz m<=4294967296) (h2:sz n<=4294967296) (hn:0<n):Uf 182 [lr (Fo m),lr (Fo n)] [lr (Fo (m / n)),lr (Fo (m % n)),.oi 0]:=by
 have:=xY (Du m) (Du n) (by rw [Gu]; exact h1) (by rw [Gu]; exact h2) (by rw [Gu]; exact hn);rwa [Gu,Gu] at this
theorem lW {x y x' y':LV} {z z':Int} (hi:Gk x y z) (hi':Gk x' y' z') (hs:U5 z<=4294967295) (hs':U5 z'<=4294967295) (hz:z'≠0):Uf 183 [.agg [x,y],.agg [x',y']] [.agg (G6 (z / z')),.agg (G6 (z % z')),.oi 0]:=by
 obtain ⟨b,l,rfl,rfl,hl,hz1⟩:=hi;obtain ⟨b',l',rfl,rfl,hl',hz2⟩:=hi';have zl:z.natAbs=val l:=by rw [hz1,Ra]
 have zl':z'.natAbs=val l':=by rw [hz2,Ra]
 have s1:sz (val l)<=4294967296:=Qc (S8 (hz1 ▸ hs)) (by decide);have s2:sz (val l')<=4294967296:=Qc (S8 (hz2 ▸ hs')) (by decide);have hp:0<z'.natAbs:=by omega
 have e1:z=if b=true then -(z.natAbs:Int) else (z.natAbs:Int):=by rw [zl]; exact hz1
 have e2:z'=if b'=true then -(z'.natAbs:Int) else (z'.natAbs:Int):=by rw [zl']; exact hz2
 have cd:=xY hl hl' s1 s2 (by omega);rw [<-zl,<-zl'] at cd;have s0:sz (z.natAbs % z'.natAbs)<=4294967296:=Qc (Sf (Yg (Z6 _ hp))) (by rw [zl']; exact s2);cases b with
 |
  false =>
  obtain ⟨d1,d2⟩:=MZ e2 hp e1;rw [d1,d2];exact Uc func183 rfl [.k cd,.f rfl,.k (Pa _ _),.k (Pa _ _),.f rfl,.f rfl] rfl
 |
  true =>
  by_cases h0:z.natAbs % z'.natAbs=0
  ·obtain ⟨d1,d2⟩:=RV e2 hp e1 h0;rw [d1,d2];exact Uc func183 rfl [.k cd,.f rfl,.k (Pa _ _),.k (Pa _ _),.t rfl,.f (by rw [h0,Gw]; rfl)] rfl
  ·obtain ⟨d1,d2⟩:=MQ e2 hp e1 (by omega);rw [d1,d2];have ca:=Qla (a:=Fo (z.natAbs / z'.natAbs)) (b:=[1]) (Du _) (λx hx=>by simp at hx; subst hx; decide) (by rw [Gu]; exact Qc (Sf (Jz _ _)) (by rw [zl]; exact s1)) (by decide);have cs:=PU (a:=l') (b:=Fo (z.natAbs % z'.natAbs)) hl' (Du _) s2 (by rw [Gu,<-zl']; exact Yg (Z6 _ hp));rw [Gu] at ca cs;rw [<-zl'] at cs;have hl0:=Cw (m:=z.natAbs % z'.natAbs);exact Uc func183 rfl [.k cd,.f rfl,.k (Pa _ _),.k (Pa _ _),.t rfl,.t (by simp [Ux]; omega),.k ca,.k cs,.k (Pa _ _),.k (Pa _ _)] rfl
theorem Ac {x y x' y':LV} {z z':Int} (hi:Gk x y z) (hi':Gk x' y' z') (hs:U5 z<=4294967295) (hs':U5 z'<=4294967295) (hz:z'≠0) (hd:z % z'=0):Uf 140 [.agg [x,y],.agg [x',y']] [.agg (G6 (z / z')),.oi 0]:=by
 have cd:=lW hi hi' hs hs' hz;obtain ⟨b,l,rfl,rfl,_⟩:=hi;obtain ⟨b',l',rfl,rfl,_⟩:=hi';exact Uc func140 rfl [.k cd,.f rfl,.f (by rw [hd]; simp [Ux,Gw])] rfl
end Orr
namespace Orr
open Go
def Rj (l:Ui):Nat:=l.foldl (λg z=>Nat.gcd g z.natAbs) 0
theorem eW {l:Ui} {i:Nat} {z:Int} (h:l[i]? = some z):Rj (l.take (i+1))=Nat.gcd (Rj (l.take i)) z.natAbs:=by
 unfold Rj;rw [Y6,h];simp [Vn]
theorem Qip (g x:Nat):Nat.gcd x (g % x)=Nat.gcd g x:=by
 rw [Nat.gcd_comm g x,Nat.gcd_rec x g,Nat.gcd_comm]
theorem CV (l:Ui):l.foldl (λg z=>Nat.gcd g z.natAbs) 1=1:=by
 induction l with
 | nil=>rfl
 | cons z l ih=>simp [ih]
theorem Qcn {l:Ui} {i:Nat} (h:Rj (l.take i)=1):Rj l=1:=by
 have e:l=l.take i++l.drop i:=(Zf i l).symm;unfold Rj at h ⊢;rw [e,Vn,h,CV]
def trim:Ui->Ui
 | []=>[]
 |
  x::l=>match trim l with
  | []=>if x=0 then [] else [x]
  | y::k=>x::y::k
theorem VU:∀ {l:Ui},(∀ x∈l,x=0)->trim l=[]
 | [],_=>rfl
 |
  x::l,h=>by
  have ih:=VU (l:=l) (λy hy=>h y (Qg _ hy));simp [trim,ih,h x (Qw ..)]
theorem AH:∀ {l:Ui} {m:Nat} {y:Int},(∀ j x,m<j->l[j]? = some x->x=0)->l[m]? = some y->y≠0->trim l=l.take (m+1)
 | [],m,y,_,h,_=>by simp at h
 |
  x::l,0,y,h1,h2,h3=>by
  have h0:trim l=[]:=VU λz hz=>by
   obtain ⟨j,hj⟩:=Zm.1 hz;exact h1 (j+1) z (by omega) (by simpa using hj)
  simp at h2;subst h2;simp [trim,h0,h3]
 |
  x::l,m+1,y,h1,h2,h3=>by
  have ih:=AH (l:=l) (m:=m) (y:=y) (λj z hj hz=>h1 (j+1) z (by omega) (by simpa using hz)) (by simpa using h2) h3;cases hl:l with
  | nil=>subst hl; simp at h2
  |
   cons u k =>
   subst hl;rw [V0] at ih;simp only [trim] at ih ⊢;rw [ih];simp
def U7 (l:Ui):Prop:=trim l=l
theorem H6:∀ (l:Ui),U7 (trim l)
 | []=>rfl
 |
  x::l=>by
  have ih:=H6 l;unfold U7 at ih ⊢;cases h:trim l with
  | nil=>by_cases hx:x=0 <;> simp [trim,h,hx]
  |
   cons y k =>
   rw [h] at ih;simp only [trim,h] at ih ⊢;rw [ih]
theorem wU {l:Ui} {m:Nat} (hm:m<=l.length) (h1:∀ j x,m<=j->l[j]? = some x->x=0) (h2:0<m->∃ y,l[m-1]? = some y/\y≠0):trim l=l.take m:=by
 rcases Q5 m with h0 | h0
 ·subst h0;rw [VU λz hz=>?_]; rfl;obtain ⟨j,hj⟩:=Zm.1 hz;exact h1 j z (by omega) hj
 ·obtain ⟨y,hy,hy0⟩:=h2 h0;have:=AH (l:=l) (m:=m-1) (y:=y) (λj x hj hx=>h1 j x (by omega) hx) hy hy0;rwa [show m-1+1=m from by omega] at this
def IsInts:Uo->Ui->Prop
 | [],[]=>True
 | x::l,z::p=>(∃ a b,x=[a,b]/\Gk a b z)/\IsInts l p
 | _,_=>False
theorem IsInts.len:∀ {l:Uo} {p:Ui},IsInts l p->l.length=p.length
 | [],[],_=>rfl
 | x::l,z::p,h=>by simp [h.2.len]
 | [],_::_,h=>h.elim
 | _::_,[],h=>h.elim
theorem IsInts.get:∀ {l:Uo} {p:Ui},IsInts l p->∀ {i:Nat} {z:Int},p[i]? = some z->∃ a b,l[i]? = some [a,b]/\Gk a b z
 | [],[],_,i,z,h=>by simp at h
 |
  x::l,y::p,h,0,z,hz=>by
  simp at hz; subst hz;obtain ⟨a,b,rfl,hi⟩:=h.1;exact ⟨a,b,rfl,hi⟩
 | x::l,y::p,h,i+1,z,hz=>by simpa using h.2.get (i:=i) (by simpa using hz)
 | [],_::_,h,_,_,_=>h.elim
 | _::_,[],h,_,_,_=>h.elim
theorem Ga:∀ (p:Ui),IsInts (p.map G6) p
 | []=>trivial
 | z::p=>⟨⟨_,_,rfl,Uu z⟩,Ga p⟩
theorem IsInts.append:∀ {l l':Uo} {p p':Ui},IsInts l p->IsInts l' p'->IsInts (l++l') (p++p')
 | [],_,[],_,_,h=>h
 | x::l,_,z::p,_,h,h'=>⟨h.1,h.2.append h'⟩
 | [],_,_::_,_,h,_=>h.elim
 | _::_,_,[],_,h,_=>h.elim
def pl (p:Ui):LV:=.row (p.map G6)
def ids (l:Ui):LV:=.row (l.map λ(x:Int)=>[.int .i64 x])
theorem Ol:Gk (.bool false) (.row []) 0:=⟨false,[],rfl,rfl,(λx hx=>by cases hx),rfl⟩
theorem Qj5:sg 0=.bool false:=rfl
theorem eD {z:Int}:(Fo z.natAbs).length=0↔z=0:=by
 constructor
 ·intro h;have h0:=Qh h;have:=(WY (Cg z.natAbs)).2 h0;rw [Gu] at this; omega
 ·rintro rfl; rw [show (0:Int).natAbs=0 from rfl,Gw]; rfl
theorem H9 {α β:Type} {f:α->β} {l:List α} {i:Nat} {x:α} (h:l[i]? = some x):(l.map f)[i]? = some (f x):=by rw [Zw,h]; rfl
theorem Ql3 {α:Type} {f:α->Un} {sz:Nat} (l:List α) (h:∀ x,(f x).length=sz):∀ c∈l.map f,c.length=sz:=λc hc=>by
 obtain ⟨x,_,rfl⟩:=Zg.1 hc;exact h x
theorem Qiz:mg 0=.row []:=by simp [mg,Gw,lm]
theorem Ew:G6 0=[LV.bool false,LV.row []]:=by simp [G6,Qj5,Qiz]
end Orr
namespace Orr
open Go Go.Proofs Tryz
set_option maxRecDepth 10000
theorem TS {p:Ui} (hs:∀ z∈p,U5 z≤4294967295):sz (Rj p)≤4294967295:=by
 have key:∀ (p:Ui) (g:Nat),sz g≤4294967295->(∀ z∈p,U5 z≤4294967295)->sz (p.foldl (λg z=>Nat.gcd g z.natAbs) g)≤4294967295:=by
  intro p
  induction p with
  | nil=>exact λg h _=>h
  |
   cons z p ih =>
   intro g h hs;refine ih _ ?_ λy hy=>hs y (.tail _ hy)
   rcases Q5 g with h0 | h0
   ·subst h0; show sz (Nat.gcd 0 z.natAbs)<=_; rw [Nat.gcd_zero_left]; exact hs z (.head _)
   ·exact Qc (Sf (Nat.gcd_le_left _ h0)) h
 exact key p 0 (by decide) hs
theorem oH {l:Uo} {p:Ui} (hi:IsInts l p) (hs:∀ z∈p,U5 z≤4294967295):Uf 138 [.one (.row l)] [.agg (G6 ((Rj p:Nat):Int))]:=by
 refine Gb func138 rfl (ln 0 rfl rfl λhl=>?_);have hlp:=hi.len;refine W9 [.z 3,.r 3 (v:=lr (Fo (Rj (p.take 0)))) (by simp [Rj,Gw,lm])] rfl ?_;refine ct 2 (S:=Unit) (λ_=>[(2,.v (.one (.ow 0 0))),(3,.v (lr (Fo (Rj p))))]) (λ_=>[.blk 37 [.bool false,.nils],.gone]) (λ_=>True) rfl ?_ ?_
 ·refine Ue (S:=Nat) 1 (λL1 i=>(12,.v (.oi i))::(3,.v (lr (Fo (Rj (p.take i)))))::L1) (λ_=>[.blk 37 [.bool false,.nils]]) (λi=>p.length-i) (λi=>i<=p.length) 0 (Qi _) rfl rfl λi hip=>?_
  by_cases h:i<p.length
  ·have hlt:i<l.length:=by omega
   obtain ⟨c,hc⟩:=gxE (l:=l) (i:=i) hlt;obtain ⟨z,hz⟩:=gxE (l:=p) (i:=i) h;obtain ⟨x,y,hc',b,r,rfl,rfl,hr,hzz⟩:=hi.get hz;rw [hc] at hc'; injection hc' with hc'; subst hc'
   have hsz:=hs z (Qa hz);have hg0:sz (Rj (p.take i))<=4294967295:=TS λy hy=>hs y (Qn hy)
   have ezr:z.natAbs=val r:=by rw [hzz,Ra]
   have cn:=YX hr (by rw [<-ezr]; exact Qc hsz (by decide));rw [<-ezr] at cn;refine W9 [.t (by simp; omega),.x hc,.k cn] rfl ?_;refine Ue (S:=Nat×Nat) 2 (λL1 s=>(3,.v (lr (Fo s.1)))::(6,.v (lr (Fo s.2)))::L1) (λ_=>[.blk 37 [.bool false,.nils],.blk 37 [.bool b,.row (lm r)]]) (λs=>s.2) (λs=>Nat.gcd s.1 s.2=Nat.gcd (Rj (p.take i)) z.natAbs/\sz s.1<=4294967295/\sz s.2<=4294967295) (Rj (p.take i),z.natAbs) ⟨rfl,hg0,hsz⟩ rfl rfl λ⟨g,u⟩ ⟨j1,j2,j3⟩=>?_
   dsimp only at j1 j2 j3 ⊢;have hul:=Cw (m:=u);by_cases hu:0<u
   ·have cd:=uE (m:=g) (n:=u) (by omega) (by omega) hu;refine W9 [.t (by simp [Ux]; omega),.k cd] rfl ?_;exact rd (u,g % u) (Z6 _ hu) ⟨(Qip g u).trans j1,j3,Qc (Sf (Yg (Z6 _ hu))) j3⟩ rfl
   ·obtain rfl:u=0:=by omega
    rw [Nat.gcd_zero_right,<-eW hz] at j1;subst j1;by_cases h1:Rj (p.take (i+1))=1
    ·have e1:Fo (Rj (p.take (i+1)))=[1]:=by rw [h1,Lv (by decide)]; simp [Gw]
     refine W9 [.f (by simp [Gw,lm]),.t (by rw [e1]; rfl),.x (Gq (i:=0) (x:=1) (by rw [e1]; rfl)),.t rfl] rfl ?_;exact rc () trivial (by rw [h1,Qcn h1]; rfl)
    ·obtain ⟨g,hg⟩:=nmE (Rj (p.take (i+1)));rw [<-hg] at h1 j2 ⊢;by_cases h2:(Fo g).length=1
     ·obtain ⟨v,hv⟩:∃ v,Fo g=[v]:=by
       match hm:Fo g,h2 with
       | [v],_=>exact ⟨v,rfl⟩
      have hv1:v≠1:=λe=>h1 (by rw [<-Gu g,hv,e]; rfl)
      refine go tt [.f (by simp [Gw,lm]),.t (by simp [Ux,h2]),.x (Gq (i:=0) (x:=v) (by rw [hv]; rfl)),.f (by simp; omega)] rfl (by simp [Uw] <;> omega) ?_;exact rd (i+1) (by omega) h (by rw [<-hg]; rfl)
     ·refine go tt [.f (by simp [Gw,lm]),.f (by simp [Ux]; omega),.f rfl] rfl (by simp [Uw] <;> omega) ?_;exact rd (i+1) (by omega) h (by rw [<-hg]; rfl)
  ·obtain rfl:i=p.length:=by omega
   refine W9 [.f (by simp; omega)] rfl ?_;rw [Q6];exact rc () trivial rfl
 ·intro _ _;have cn:=YX (Du (Rj p)) (by rw [Gu]; exact Qc (TS hs) (by decide));rw [Gu] at cn;exact Ub [.k cn,.k (Pa false _)] rfl (by simp [U6]) trivial
end Orr
namespace Orr
def Bd (s:Nat) (p:Ui):Prop:=∀ z∈p,U5 z≤s
theorem Dc:U5 0=0:=rfl
theorem iI {s:Nat} {p:Ui} (h:Bd s p) {i:Nat} {z:Int} (hz:p[i]? = some z):U5 z<=s:=h z (Qa hz)
theorem Gj {s:Nat} {p:Ui} (h:Bd s p) (k:Nat):U5 (p.getD k 0)<=s:=by
 rw [Qk];cases hk:p[k]? with
 | none=>rw [Ko,Dc]; exact Qi _
 | some z=>exact iI h hk
theorem Uv {s t:Nat} {p:Ui} (h:Bd s p) (ht:s<=t):Bd t p:=λz hz=>Qc (h z hz) ht
theorem I5 {s:Nat}:Bd s []:=λz hz=>by cases hz
theorem Qmu {s:Nat} {n:Nat} {g:Nat->Int} (h:∀ k,k<n->U5 (g k)<=s):Bd s ((List.range n).map g):=λz hz=>by
 obtain ⟨k,hk,rfl⟩:=Zg.1 hz;exact h k (List.mem_range.1 hk)
theorem wG:∀ (l:Ui),∀ z∈trim l,z∈l
 | [],z,h=>by cases h
 |
  x::l,z,h=>by
  have ih:=wG l;cases hl:trim l with
  |
   nil =>
   simp only [trim,hl] at h
   split at h
   ·cases h
   ·rw [Qj] at h; rw [h]; exact Qw ..
  |
   cons y k =>
   simp only [trim,hl] at h;rcases Qm.1 h with rfl | h
   ·exact Qw ..
   ·exact Qg _ (ih z (by rw [hl]; exact h))
theorem Ha (l:Ui):(trim l).length<=l.length:=by
 induction l with
 | nil=>exact Ql _
 |
  cons x l ih =>
  cases hl:trim l with
  | nil=>simp only [trim,hl]; split <;> simp
  | cons y k=>simp only [trim,hl]; rw [hl] at ih; simp at ih ⊢; exact ih
theorem H7 {s:Nat} {p:Ui} (h:Bd s p):Bd s (trim p):=λz hz=>h z (wG p z hz)
theorem JZ:∀ (l:Ui) (k:Nat),(trim l).getD k 0=l.getD k 0
 | [],k=>rfl
 |
  x::l,k=>by
  have ih:=JZ l;cases hl:trim l with
  |
   nil =>
   rw [hl] at ih;simp only [trim,hl]
   split
   ·rename_i hx;cases k with
    | zero=>simp [hx]
    | succ k=>have:=ih k; simp at this ⊢; exact this
   ·cases k with
    | zero=>simp
    | succ k=>have:=ih k; simp at this ⊢; exact this
  |
   cons y m =>
   rw [hl] at ih;simp only [trim,hl];cases k with
   | zero=>simp
   | succ k=>have:=ih k; simp at this ⊢; exact this
def KU (n:Nat) (g:Nat->Int):Ui:=trim ((List.range n).map g)
theorem Fq (n:Nat) (g:Nat->Int):U7 (KU n g):=H6 _
theorem QT (n:Nat) (g:Nat->Int):(KU n g).length<=n:=Qc (Ha _) (by simp)
theorem Cf (n:Nat) (g:Nat->Int) (k:Nat):(KU n g).getD k 0=if k<n then g k else 0:=by
 unfold KU;rw [JZ,Qk,Zw]
 split
 ·rename_i h; rw [List.getElem?_range h]; rfl
 ·rename_i h; rw [List.getElem?_eq_none (by simpa using h)]; rfl
theorem VC {s n:Nat} {g:Nat->Int} (h:∀ k,k<n->U5 (g k)<=s):Bd s (KU n g):=H7 (Qmu h)
def A0 (p q:Ui):Ui:=KU (max p.length q.length) λk=>p.getD k 0+q.getD k 0
def Bz (p q:Ui):Ui:=KU (max p.length q.length) λk=>p.getD k 0-q.getD k 0
def D5 (p:Ui):Ui:=KU p.length λk=>-(p.getD k 0)
def Fl (p:Ui) (c:Int):Ui:=KU p.length λk=>p.getD k 0*c
def Gz (p:Ui):Ui:=KU (p.length-1) λk=>p.getD (k+1) 0*((k+1:Nat):Int)
theorem I6 {s t:Nat} {p q:Ui} (h:Bd s p) (h':Bd t q):Bd (max s t+1) (A0 p q):=VC λk _=>Qc (On _ _) (by have:=Gj h k; have:=Gj h' k; omega)
theorem Cn {s t:Nat} {p q:Ui} (h:Bd s p) (h':Bd t q):Bd (max s t+1) (Bz p q):=VC λk _=>Qc (OV _ _) (by have:=Gj h k; have:=Gj h' k; omega)
theorem AA {s:Nat} {p:Ui} (h:Bd s p):Bd s (D5 p):=VC λk _=>by rw [Hu]; exact Gj h k
theorem Fp {s t:Nat} {p:Ui} {c:Int} (h:Bd s p) (hc:U5 c<=t):Bd (s+t) (Fl p c):=VC λk _=>Qc (Ft _ _) (by have:=Gj h k; omega)
theorem Ep (p q:Ui):(A0 p q).length<=max p.length q.length:=QT _ _
theorem Mg (p q:Ui):(Bz p q).length<=max p.length q.length:=QT _ _
theorem NV (p:Ui):(D5 p).length<=p.length:=QT _ _
theorem Fh (p:Ui) (c:Int):(Fl p c).length<=p.length:=QT _ _
theorem De (p:Ui):(Gz p).length<=p.length-1:=QT _ _
theorem nK {k t:Nat} (h:k<2^t):U5 (k:Int)<=t:=by rw [Tu]; simpa using h
theorem eM {k:Nat} (h:k<274877906944):U5 (k:Int)<=4294967295:=Qc (nK (t:=38) (Nat.lt_of_lt_of_eq h (by decide))) (by omega)
theorem sL {s t:Nat} {p:Ui} (h:Bd s p) (hl:p.length<=2^t):Bd (s+t) (Gz p):=VC λk hk=>Qc (Ft _ _) (by
 have:=Gj h (k+1);have:=nK (k:=k+1) (t:=t) (by omega);omega)
def YB (x:Int) (b:Ui) (i:Nat) (o:Ui):Nat->Ui
 | 0=>o
 | k+1=>(YB x b i o k).set (i+k) ((YB x b i o k).getD (i+k) 0+x*b.getD k 0)
def YN (a b o:Ui):Nat->Ui
 | 0=>o
 | i+1=>YB (a.getD i 0) b i (YN a b o i) b.length
def Ge (a b:Ui):Ui:=if a.length=0\/b.length=0 then [] else trim (YN a b (List.replicate (a.length+b.length-1) 0) a.length)
theorem ZY (x:Int) (b:Ui) (i:Nat) (o:Ui) (k:Nat):(YB x b i o k).length=o.length:=by
 induction k with
 | zero=>rfl
 | succ k ih=>simp [YB,ih]
theorem Ik (a b o:Ui) (i:Nat):(YN a b o i).length=o.length:=by
 induction i with
 | zero=>rfl
 | succ i ih=>simp [YN,ZY,ih]
theorem Qcu (l:Ui) (i m:Nat) (v:Int) (h:i<l.length):(l.set i v).getD m 0=if m=i then v else l.getD m 0:=by
 rw [Qk,Yj,Qk];by_cases e:i=m
 ·subst e; simp [h]
 ·rw [if_neg e,if_neg (λh=>e h.symm)]
theorem aX (x:Int) (b:Ui) (i:Nat) (o:Ui) (k m:Nat) (h:i+k<=o.length):(YB x b i o k).getD m 0=if i<=m/\m<i+k then o.getD m 0+x*b.getD (m-i) 0 else o.getD m 0:=by
 induction k with
 | zero=>simp only [YB]; rw [if_neg (by omega)]
 |
  succ k ih =>
  have ih:=ih (by omega);simp only [YB];rw [Qcu _ _ _ _ (by rw [ZY]; omega)];by_cases e:m=i+k
  ·subst e;rw [if_pos rfl,if_pos (by omega),show i+k-i=k from by omega];rw [ih,if_neg (by omega)]
  ·rw [if_neg e,ih];by_cases h1:i<=m/\m<i+k
   ·rw [if_pos h1,if_pos (by omega)]
   ·rw [if_neg h1,if_neg (by omega)]
theorem Az {x y:Int} {s t:Nat} (hx:U5 x<=s) (hy:U5 y<=t):(x*y).natAbs<=2^(s+t):=by
 have h:=Qc (Ft x y) (show _<=s+t by omega);rw [Tu] at h; omega
theorem bX {x:Int} {b:Ui} {i:Nat} {o:Ui} {k M:Nat} (h:i+k<=o.length) (ho:∀ m,(o.getD m 0).natAbs<=i*M) (hx:∀ j,(x*b.getD j 0).natAbs<=M) (m:Nat):((YB x b i o k).getD m 0).natAbs<=(i+1)*M:=by
 rw [aX x b i o k m h,Z8];have h1:=ho m
 split
 ·have h2:=hx (m-i);generalize i*M=q at *;omega
 ·omega
theorem bZ {a b o:Ui} {i M:Nat} (h:∀ j,j<i->j+b.length<=o.length) (ho:∀ m,o.getD m 0=0) (hx:∀ i j,(a.getD i 0*b.getD j 0).natAbs<=M) (m:Nat):((YN a b o i).getD m 0).natAbs<=i*M:=by
 induction i generalizing m with
 | zero=>simp only [YN]; rw [ho]; simp
 |
  succ i ih =>
  simp only [YN];exact bX (by rw [Ik]; exact h i (by omega)) (ih λj hj=>h j (by omega)) (hx i) m
theorem JB {z:Int} {i s t:Nat} (h:z.natAbs<=i*2^s) (hi:i<2^t):U5 z<=s+t:=by
 rw [Tu];have h1:i*2^s<2^t*2^s:=Xm hi (Z2 (by decide));rw [<-Xe,Jr t s] at h1;omega
theorem Ei (n m:Nat):(List.replicate n (0:Int)).getD m 0=0:=by
 rw [Qk,Jv]; split <;> rfl
theorem SL {s:Nat} {p:Ui} (h:∀ m,U5 (p.getD m 0)<=s):Bd s p:=λz hz=>by
 obtain ⟨i,hi⟩:=Zm.1 hz;have:=h i;rw [Qk,hi] at this;exact this
theorem Ru (a b:Ui):(Ge a b).length<=a.length+b.length-1:=by
 unfold Ge
 split
 ·simp
 ·refine Qc (Ha _) ?_;rw [Ik]; simp
theorem Se {s t u:Nat} {a b:Ui} (ha:Bd s a) (hb:Bd t b) (hl:a.length<2^u):Bd (s+t+u) (Ge a b):=by
 unfold Ge
 split
 ·exact I5
 ·refine H7 (SL λm=>?_);exact JB (bZ (M:=2^(s+t)) (λj hj=>by simp; omega) (Ei _) (λi j=>Az (Gj ha i) (Gj hb j)) m) hl
theorem Hm (a b:Ui):U7 (Ge a b):=by
 unfold Ge
 split
 ·rfl
 ·exact H6 _
def D9 (a:Ui) (n d:Int):Nat->Int×Int
 | 0=>(0,1)
 | k+1=>((D9 a n d k).1*n+a.getD (a.length-1-k) 0*(D9 a n d k).2,(D9 a n d k).2*d)
def BW (a:Ui) (n d:Int):Int:=(D9 a n d a.length).1
theorem zJ {a:Ui} {n d:Int} {s t k:Nat} (ha:Bd s a) (hn:U5 n<=t) (hd:U5 d<=t):U5 (D9 a n d k).1<=s+2+k*(t+1)/\U5 (D9 a n d k).2<=1+k*t:=by
 induction k with
 | zero=>exact ⟨by simp [D9,Dc],by simp [D9]; decide⟩
 |
  succ k ih =>
  obtain ⟨h1,h2⟩:=ih;have h3:=Gj ha (a.length-1-k);have e1:k*(t+1)=k*t+k:=by rw [Xj,Yv]
  rw [Z8,Z8];refine ⟨?_,?_⟩
  ·simp only [D9];refine Qc (On _ _) ?_;have h4:=Ft (D9 a n d k).1 n;have h5:=Ft (a.getD (a.length-1-k) 0) (D9 a n d k).2;generalize k*t=q at *;rw [e1] at h1 ⊢;omega
  ·simp only [D9];have h4:=Ft (D9 a n d k).2 d;generalize k*t=q at *;omega
end Orr
namespace Orr
theorem IH {x y:Int}:C9 x y=0↔x=y:=by
 unfold C9;constructor
 ·intro h
  split at h
  ·omega
  ·split at h <;> omega
 ·rintro rfl; simp
theorem Rm {p:Ui} (h:U7 p) (h0:0<p.length):p.getD (p.length-1) 0≠0:=by
 induction p with
 | nil=>simp at h0
 |
  cons x l ih =>
  unfold U7 at h;cases hl:trim l with
  |
   nil =>
   simp only [trim,hl] at h
   split at h
   ·cases h
   ·rename_i hx;injection h with h1 h2;subst h2;simpa using hx
  |
   cons y k =>
   simp only [trim,hl] at h;injection h with h1 h2;rw [<-hl] at h2;have ih:=ih h2 (by rw [<-h2,hl]; simp);have h3:0<l.length:=by rw [<-h2,hl]; simp
   simp only [Q4,Js];obtain ⟨m,hm⟩:∃ m,l.length=m+1:=⟨l.length-1,by omega⟩;rw [hm] at ih ⊢;simpa using ih
end Orr
namespace Orr
theorem yC (p:Ui):(List.range p.length).map (λk=>p.getD k 0)=p:=by
 apply Xl;intro i;rw [Zw];rcases Zd i p.length with h | h
 ·rw [Jl h];simp [Qf h]
 ·rw [Qz (by simpa using h),Qz h]; rfl
theorem fM {p q:Ui} (hl:p.length=q.length) (h:∀ j,j<p.length->p.getD j 0=q.getD j 0):p=q:=by
 rw [<-yC p,<-yC q,<-hl];exact Xz λj hj=>h j (List.mem_range.1 hj)
end Orr
namespace Orr
abbrev rl (q:Rat):Un:=[sg q.num,mg q.num,sg (q.den:Int),mg (q.den:Int)]
theorem Db (n d:Int):Rj [n,d]=Int.gcd d n:=by
 unfold Rj;simp only [Z7,List.foldl_nil,Nat.gcd_zero_left];exact Nat.gcd_comm _ _
theorem jI {n d:Int} (hd:d≠0):(0:Int)<((Rj [n,d]:Nat):Int):=by
 rw [Db];have:=Int.gcd_pos_of_ne_zero_left n hd;omega
theorem MC (n d:Int):n % ((Rj [n,d]:Nat):Int)=0:=by
 rw [Db]; exact Yn (Int.gcd_dvd_right ..)
theorem MD (n d:Int):d % ((Rj [n,d]:Nat):Int)=0:=by
 rw [Db]; exact Yn (Int.gcd_dvd_left ..)
theorem bV {n g:Int} (h:n % g=0):-n % g=0:=by
 exact Yn (Int.dvd_neg.2 (Jt h))
theorem nV {n d:Int} {s:Nat} (hd:d≠0) (h:U5 d<=s):U5 ((Rj [n,d]:Nat):Int)<=s:=by
 rw [Db];refine Qc (Sf ?_) h;have:=Wm (by omega:0<d.natAbs) (show Int.gcd d n∣d.natAbs from Wu _ _);simpa using this
theorem nC {n d:Int} (hd:0<d):n / ((Rj [n,d]:Nat):Int)=(Rat.divInt n d).num/\d / ((Rj [n,d]:Nat):Int)=((Rat.divInt n d).den:Int):=by
 rw [Db,Rat.num_divInt,We,if_neg (by omega),Yt hd,Wg];refine ⟨rfl,?_⟩;rw [Int.natCast_ediv,Int.natAbs_of_nonneg (by omega)]
theorem Qiy {n d:Int} (hd:d<0):-n / ((Rj [n,d]:Nat):Int)=(Rat.divInt n d).num/\-d / ((Rj [n,d]:Nat):Int)=((Rat.divInt n d).den:Int):=by
 rw [Db,Rat.num_divInt,We,if_neg (by omega),J3 hd,Kj,Wg];refine ⟨rfl,?_⟩;rw [Int.natCast_ediv,Int.ofNat_natAbs_of_nonpos (by omega)]
theorem MI (u g:Int):U5 (u / g)<=U5 u:=by
 unfold U5;exact Sf (Int.natAbs_ediv_le_natAbs u g)
theorem El {n d:Int} {s:Nat} (h:U5 n<=s):U5 (Rat.divInt n d).num<=s:=by
 rw [Rat.num_divInt];refine Qc (MI _ _) ?_;unfold U5;rw [J6];refine Qc (Sf ?_) h;have:d.sign.natAbs<=1:=by rcases E5 d with ⟨_,e⟩ | ⟨_,e⟩ | ⟨_,e⟩ <;> rw [e] <;> decide
 calc d.sign.natAbs*n.natAbs<=1*n.natAbs:=Qx _ this
  _=n.natAbs:=Wh _
theorem Ek {n d:Int} {s:Nat} (h:U5 d<=s) (h1:1<=s):U5 ((Rat.divInt n d).den:Int)<=s:=by
 rw [We]
 split
 ·exact h1
 ·refine Qc (Sf ?_) h;exact Jz _ _
def Qs (s:Nat) (q:Rat):Prop:=U5 q.num<=s/\U5 (q.den:Int)<=s
theorem Qs.mono {s t:Nat} {q:Rat} (h:Qs s q) (ht:s<=t):Qs t q:=⟨Qc h.1 ht,Qc h.2 ht⟩
theorem Qs.divInt {s:Nat} {n d:Int} (h:U5 n<=s) (h':U5 d<=s) (h1:1<=s):Qs s (Rat.divInt n d):=⟨El h,Ek h' h1⟩
theorem YG (q:Rat):(q.den:Int)≠0:=by have:=q.den_nz; omega
theorem den_pos (q:Rat):(0:Int)<(q.den:Int):=by have:=q.den_nz; omega
def Hg (n d:Int):Rat:=Rat.divInt n (if d=0 then 1 else d)
theorem Sw (q:Rat):Hg q.num q.den=q:=by
 unfold Hg;rw [if_neg (YG q)]; exact Xd q
def G7 (a b:Rat):Int:=C9 (a.num*(b.den:Int)) (b.num*(a.den:Int))
theorem Mq {a b:Rat}:G7 a b<0↔a<b:=by
 rw [Rat.lt_iff]; unfold G7 C9;constructor
 ·intro h; split at h
  ·assumption
  ·split at h <;> omega
 ·intro h; rw [if_pos h]; decide
theorem Lj {a b:Rat}:0<G7 a b↔b<a:=by
 rw [Rat.lt_iff]; unfold G7 C9;constructor
 ·intro h; split at h
  ·omega
  ·split at h
   ·assumption
   ·omega
 ·intro h; rw [if_neg (by omega),if_pos h]; decide
theorem Ls (a:Rat):G7 a a=0:=by unfold G7 C9; simp
structure Crv where
 x:List Int
 y:List Int
 d:Int
abbrev cl (k:Crv):Un:=[pl k.x,pl k.y,sg k.d,mg k.d]
def Crv.d' (k:Crv):Int:=if k.d=0 then 1 else k.d
def Crv.g (k:Crv):Int:=if k.d'<0 then -((Rj (k.d'::(trim k.x++trim k.y)):Nat):Int) else (Rj (k.d'::(trim k.x++trim k.y)):Nat)
def Crv.norm (k:Crv):Crv:=⟨trim ((trim k.x).map (· / k.g)),trim ((trim k.y).map (· / k.g)),k.d' / k.g⟩
theorem QM {l:Ui}:∀ z∈l,((Rj l:Nat):Int)∣z:=by
 have key:∀ (l:Ui) (g:Nat),(l.foldl (λg z=>Nat.gcd g z.natAbs) g∣g)/\∀ z∈l,l.foldl (λg z=>Nat.gcd g z.natAbs) g∣z.natAbs:=by
  intro l
  induction l with
  | nil=>intro g; exact ⟨Nat.dvd_refl _,by simp⟩
  |
   cons u l ih =>
   intro g;obtain ⟨h1,h2⟩:=ih (Nat.gcd g u.natAbs);refine ⟨Nat.dvd_trans h1 (Wu _ _),λz hz=>?_⟩;rcases Qm.1 hz with rfl | hz
   ·exact Nat.dvd_trans h1 (Nat.gcd_dvd_right _ _)
   ·exact h2 z hz
 intro z hz;have:=(key l 0).2 z hz;exact Wj.2 this
theorem Crv.d'_ne (k:Crv):k.d'≠0:=by unfold Crv.d'; split <;> omega
theorem Crv.gcd_ne (k:Crv):Rj (k.d'::(trim k.x++trim k.y))≠0:=by
 intro e;have h:=QM (l:=k.d'::(trim k.x++trim k.y)) k.d' (Qw ..);rw [e] at h;exact k.d'_ne (by simpa using h)
theorem Crv.g_ne (k:Crv):k.g≠0:=by
 have h0:=k.gcd_ne;unfold Crv.g
 split <;> omega
theorem Crv.g_dvd (k:Crv):∀ z∈k.d'::(trim k.x++trim k.y),z % k.g=0:=by
 intro z hz;have h:=QM z hz;refine Yn ?_;unfold Crv.g
 split
 ·exact Int.neg_dvd.2 h
 ·exact h
theorem Crv.isz_g (k:Crv) {s:Nat} (h:U5 k.d'<=s):U5 k.g<=s:=by
 have hd:=QM (l:=k.d'::(trim k.x++trim k.y)) k.d' (Qw ..);have hle:Rj (k.d'::(trim k.x++trim k.y))<=k.d'.natAbs:=Wm (by have:=k.d'_ne; omega) (Wj.1 hd);refine Qc (Sf ?_) h;unfold Crv.g
 split <;> simp <;> exact hle
structure Cs (s n:Nat) (k:Crv):Prop where
 x:Bd s k.x
 y:Bd s k.y
 d:U5 k.d<=s
 lx:k.x.length<=n
 ly:k.y.length<=n
theorem Qc6 {k:Crv} {s:Nat} (h:U5 k.d<=s) (h1:1<=s):U5 k.d'<=s:=by unfold Crv.d'; split <;> first | exact h1 | exact h
theorem US {s:Nat} {p:Ui} (h:Bd s p) (g:Int):Bd s (p.map (· / g)):=λz hz=>by
 obtain ⟨u,hu,rfl⟩:=Zg.1 hz;exact Qc (MI u g) (h u hu)
theorem Cs.norm {s n:Nat} {k:Crv} (h:Cs s n k) (h1:1<=s):Cs s n k.norm:=by
 refine ⟨H7 (US (H7 h.x) _),H7 (US (H7 h.y) _),Qc (MI _ _) (Qc6 h.d h1),?_,?_⟩
 ·refine Qc (Ha _) ?_; rw [Zl]; exact Qc (Ha _) h.lx
 ·refine Qc (Ha _) ?_; rw [Zl]; exact Qc (Ha _) h.ly
theorem Cs.mono {s n t m:Nat} {k:Crv} (h:Cs s n k) (hs:s<=t) (hn:n<=m):Cs t m k:=⟨Uv h.x hs,Uv h.y hs,Qc h.d hs,Qc h.lx hn,Qc h.ly hn⟩
def QK (k:Crv):Prop:=U7 k.x/\U7 k.y/\0<k.d/\Rj (k.d::(k.x++k.y))=1
theorem Crv.norm_of {k:Crv} (h:QK k):k.norm=k:=by
 obtain ⟨h1,h2,h3,h4⟩:=h;have hd:k.d'=k.d:=by unfold Crv.d'; rw [if_neg (by omega)]
 have hx:trim k.x=k.x:=h1;have hy:trim k.y=k.y:=h2;have hg:k.g=1:=by unfold Crv.g; rw [hd,hx,hy,h4,if_neg (by omega)]; rfl
 unfold Crv.norm;rw [hg,hd,hx,hy];simp [hx,hy]
theorem II {l:Ui} {g:Int} (hg:g≠0) (hga:g.natAbs=Rj l):Rj (l.map (· / g))=1:=by
 have key:∀ (l:Ui) (a:Nat),(∀ z∈l,g∣z)->l.foldl (λa z=>Nat.gcd a z.natAbs) (a*g.natAbs)=((l.map (· / g)).foldl (λa z=>Nat.gcd a z.natAbs) a)*g.natAbs:=by
  intro l
  induction l with
  | nil=>intro a _; rfl
  |
   cons z l ih =>
   intro a h;simp only [Zz,Z7];have hz:z.natAbs=(z / g).natAbs*g.natAbs:=by
    obtain ⟨q,rfl⟩:=h z (Qw ..);rw [Jp _ hg,J6,Zn]
   rw [hz,Nat.gcd_mul_right];exact ih _ λu hu=>h u (Qg _ hu)
 have h:=key l 0 λz hz=>Jb.1 (by rw [hga]; exact Jb.2 (QM z hz))
 rw [Yh] at h;have h':Rj l=Rj (l.map (· / g))*g.natAbs:=h;rw [<-hga] at h';have hp:0<g.natAbs:=by omega
 exact Nat.eq_of_mul_eq_mul_right hp (by rw [Wh]; exact h'.symm)
theorem ZE {l:Ui} {g:Int} (ht:U7 l) (hg:g≠0) (hd:∀ z∈l,g∣z):U7 (l.map (· / g)):=by
 induction l with
 | nil=>rfl
 |
  cons x l ih =>
  have hne:∀ z∈x::l,z≠0->z / g≠0:=λz hz h0 h1=>by
   obtain ⟨q,rfl⟩:=hd z hz;rw [Jp _ hg] at h1;rw [h1] at h0; simp at h0
  unfold U7 at ht ih ⊢;cases hl:trim l with
  |
   nil =>
   simp only [trim,hl] at ht
   split at ht
   ·cases ht
   ·rename_i hx;injection ht with _ h2;subst h2;simp [trim,hne x (Qw ..) hx]
  |
   cons y k =>
   simp only [trim,hl] at ht;injection ht with _ h2;have hll:trim l=l:=by rw [hl]; exact h2
   have ih:=ih hll λz hz=>hd z (Qg _ hz)
   rw [Zz];have hne2:l.map (· / g)≠[]:=by rw [<-hll,hl]; simp
   cases hm:l.map (· / g) with
   | nil=>exact absurd hm hne2
   |
    cons u w =>
    rw [hm] at ih;have e:trim (x / g::u::w)=match trim (u::w) with | []=>if x / g=0 then [] else [x / g] | y::k=>x / g::y::k:=rfl
    rw [e,ih]
theorem Crv.nml (k:Crv):QK k.norm:=by
 have hg:=k.g_ne;have hdv:∀ z∈k.d'::(trim k.x++trim k.y),k.g∣z:=λz hz=>Jt (k.g_dvd z hz)
 have hx:=ZE (g:=k.g) (H6 k.x) hg λz hz=>hdv z (by simp [hz])
 have hy:=ZE (g:=k.g) (H6 k.y) hg λz hz=>hdv z (by simp [hz])
 refine ⟨H6 _,H6 _,?_,?_⟩
 ·show 0<k.d' / k.g;obtain ⟨q,hq⟩:=hdv k.d' (Qw ..);have h0:=k.d'_ne;have hgc:=k.gcd_ne;have e:k.d' / k.g=q:=by rw [hq,Jp _ hg]
  rw [e];unfold Crv.g at hq hg;have hq0:q≠0:=λe=>by rw [e,K0] at hq; exact h0 hq
  split at hq
  ·rename_i hneg;rcases Wi hq0 with h | h
   ·have:=V2 (a:=-((Rj (k.d'::(trim k.x++trim k.y)):Nat):Int)) (b:=q) (by omega) h;omega
   ·exact h
  ·rename_i hneg;rcases Wi hq0 with h | h
   ·have:=V1 (a:=((Rj (k.d'::(trim k.x++trim k.y)):Nat):Int)) (b:=q) (by omega) h;omega
   ·exact h
 ·show Rj (k.d' / k.g::(trim ((trim k.x).map (· / k.g))++trim ((trim k.y).map (· / k.g))))=1;rw [show trim ((trim k.x).map (· / k.g))=(trim k.x).map (· / k.g) from hx,show trim ((trim k.y).map (· / k.g))=(trim k.y).map (· / k.g) from hy,<-Yd,<-Zz (f:=(· / k.g))];refine II hg ?_;unfold Crv.g
  split <;> omega
structure Pt where
 c:Crv
 id:Int
def U3 (p:Pt):Un:=[pl p.c.x,pl p.c.y,sg p.c.d,mg p.c.d,.int .i64 p.id]
def pts (l:List Pt):LV:=.row (l.map U3)
def P6:List Pt->Int->Nat
 | [],_=>0
 | p::l,id=>if p.id<id then P6 l id+1 else 0
def has (l:List Pt) (id:Int):Bool:=match l[P6 l id]? with
 | some p=>decide (p.id=id)
 | none=>false
theorem qY (l:List Pt) (id:Int):P6 l id<=l.length:=by
 induction l with
 | nil=>exact Ql _
 | cons p l ih=>simp only [P6]; split <;> simp <;> omega
theorem BX:∀ {l:List Pt} {id:Int} {k:Nat},(∀ j p,j<k->l[j]? = some p->p.id<id)->(k=l.length\/∃ p,l[k]? = some p/\¬p.id<id)->P6 l id=k
 |
  [],id,k,_,h=>by
  rcases h with h | ⟨p,h,_⟩
  ·subst h; rfl
  ·simp at h
 |
  q::l,id,0,_,h=>by
  rcases h with h | ⟨p,h,h2⟩
  ·simp at h
  ·simp at h; subst h; simp [P6,h2]
 |
  q::l,id,k+1,h1,h=>by
  have hq:=h1 0 q (by omega) rfl;simp only [P6,hq,if_true];rw [BX (k:=k) (λj p hj hp=>h1 (j+1) p (by omega) (by simpa using hp))];rcases h with h | ⟨p,h,h2⟩
  ·left; simpa using h
  ·right; exact ⟨p,by simpa using h,h2⟩
def put (l:List Pt) (q:Pt):List Pt:=l.take (P6 l q.id)++q::l.drop (P6 l q.id)
def VQ (l:List Pt) (q:Pt):Int:=if has l q.id=true then 6 else if 6<=l.length then 9 else 0
def Qmn (s n:Nat) (p:Pt):Prop:=QK p.c/\Cs s n p.c
theorem cR (l:List Pt) (q:Pt):(put l q).length=l.length+1:=by
 have:=qY l q.id;simp [put]; omega
theorem TA {l:List Pt} {q p:Pt} (h:p∈put l q):p=q\/p∈l:=by
 unfold put at h;rcases Qr.1 h with h | h
 ·exact .inr (Qn h)
 ·rcases Qm.1 h with h | h
  ·exact .inl h
  ·exact .inr (Qy h)
def Ai (a b:Crv):Bool:=decide (a.x=b.x/\a.y=b.y/\a.d=b.d)
def Nm (out:List Pt) (p:Pt):List Pt:=if out.any (λq=>Ai p.c q.c)=true then out else out++[p]
def Rw (l:List Pt):List Pt:=l.foldl Nm []
theorem iJ {out:List Pt} {p q:Pt} (h:q∈Nm out p):q∈out\/q=p:=by
 unfold Nm at h
 split at h
 ·exact .inl h
 ·rcases Qr.1 h with h | h
  ·exact .inl h
  ·exact .inr (by simpa using h)
theorem iZ (out:List Pt) (p:Pt):(Nm out p).length<=out.length+1:=by
 unfold Nm; split <;> simp
theorem Ti {α β:Type} (f:β->α->β) (b:β) (l:List α) {i:Nat} {x:α} (h:l[i]? = some x):(l.take (i+1)).foldl f b=f ((l.take i).foldl f b) x:=by
 rw [Y6,h]; simp [Vn]
theorem YQ (l:List Pt) (i:Nat):∀ q∈(l.take i).foldl Nm [],q∈l:=by
 induction i with
 | zero=>simp
 |
  succ i ih =>
  intro q hq;cases hi:l[i]? with
  |
   none =>
   rw [Qo (by have:=Jm.1 hi; omega)] at hq;rw [Qo (Jm.1 hi)] at ih;exact ih q hq
  |
   some x =>
   rw [Ti _ _ _ hi] at hq;rcases iJ hq with h | h
   ·exact ih q h
   ·subst h; exact Qa hi
theorem JO (l:List Pt) (i:Nat):((l.take i).foldl Nm []).length<=i:=by
 induction i with
 | zero=>simp
 |
  succ i ih =>
  cases hi:l[i]? with
  |
   none =>
   rw [Qo (by have:=Jm.1 hi; omega)];rw [Qo (Jm.1 hi)] at ih;omega
  |
   some x =>
   rw [Ti _ _ _ hi];have:=iZ ((l.take i).foldl Nm []) x;omega
theorem Mn {l:List Pt} {q:Pt} (h:q∈Rw l):q∈l:=by
 have:=YQ l l.length q;rw [Q6] at this;exact this h
theorem I2 (l:List Pt):(Rw l).length<=l.length:=by
 have:=JO l l.length;rwa [Q6] at this
def Hr (p:Ui) (q:Rat):Int:=C9 (BW p q.num q.den) 0
abbrev qa (q:Rat):Un:=pl [-q.num,(q.den:Int)]::(rl q++rl q)
def Tc (sgn:Ui->Int):Nat->Ui->Int
 | 0,_=>0
 | k+1,p=>if p.length=0 then 0 else if sgn p=0 then Tc sgn k (Gz p) else sgn p
theorem QC (sgn:Ui->Int):∀ (k:Nat) (p:Ui),p.length<=k->Tc sgn k p=Tc sgn p.length p
 |
  0,p,h=>by
  have:p.length=0:=by omega
  rw [this]
 |
  k+1,p,h=>by
  cases hp:p.length with
  | zero=>simp [Tc,hp]
  |
   succ m =>
   simp only [Tc];have h1:=De p;rw [QC sgn k (Gz p) (by omega),QC sgn m (Gz p) (by omega)]
theorem yX (sgn:Ui->Int) {p:Ui} (h:p.length=0):Tc sgn p.length p=0:=by rw [h]; rfl
theorem yQ (sgn:Ui->Int) {p:Ui} (h:0<p.length) (hs:sgn p≠0):Tc sgn p.length p=sgn p:=by
 obtain ⟨m,hm⟩:∃ m,p.length=m+1:=⟨p.length-1,by omega⟩;rw [hm]; simp only [Tc]; rw [if_neg (by omega),if_neg hs]
theorem yZ (sgn:Ui->Int) {p:Ui} (h:0<p.length) (hs:sgn p=0):Tc sgn p.length p=Tc sgn (Gz p).length (Gz p):=by
 obtain ⟨m,hm⟩:∃ m,p.length=m+1:=⟨p.length-1,by omega⟩;rw [hm]; simp only [Tc]; rw [if_neg (by omega),if_pos hs];exact QC sgn m _ (by have:=De p; omega)
structure Tm where
 p:List Int
 lo:Rat
 hi:Rat
abbrev ta (t:Tm):Un:=pl t.p::(rl t.lo++rl t.hi)
abbrev tq (q:Rat):Tm:=⟨[-q.num,(q.den:Int)],q,q⟩
def G8 (sg:Ui->Int) (p:Ui):Int:=Tc sg p.length p
structure Pb (p:List Int):Prop where
 t:U7 p
 l:p.length<=64
 b:Bd 16777216 p
abbrev Qb (q:Rat):Prop:=Qs 16777216 q
abbrev Cb (k:Crv):Prop:=Cs 1048576 16 k
def Fz (a b:Crv):Ui:=Bz (Fl b.x a.d) (Fl a.x b.d)
def Fy (a b:Crv):Ui:=Bz (Fl b.y a.d) (Fl a.y b.d)
theorem vP {a b:Crv} (ha:Cb a) (hb:Cb b):Pb (Fz a b)/\(Fz a b).length<=16/\Bd 2097153 (Fz a b):=by
 have h1:Bd 2097153 (Fz a b):=Uv (Cn (Fp hb.x ha.d) (Fp ha.x hb.d)) (by omega);have h2:(Fz a b).length<=16:=by
  refine Qc (Mg _ _) ?_;have:=Fh b.x a.d; have:=Fh a.x b.d; have:=ha.lx; have:=hb.lx;omega
 exact ⟨⟨Fq _ _,by omega,Uv h1 (by omega)⟩,h2,h1⟩
theorem vT {a b:Crv} (ha:Cb a) (hb:Cb b):Pb (Fy a b)/\(Fy a b).length<=16/\Bd 2097153 (Fy a b):=by
 have h1:Bd 2097153 (Fy a b):=Uv (Cn (Fp hb.y ha.d) (Fp ha.y hb.d)) (by omega);have h2:(Fy a b).length<=16:=by
  refine Qc (Mg _ _) ?_;have:=Fh b.y a.d; have:=Fh a.y b.d; have:=ha.ly; have:=hb.ly;omega
 exact ⟨⟨Fq _ _,by omega,Uv h1 (by omega)⟩,h2,h1⟩
def D4 (sg:Ui->Int) (a b:Pt):Uj->Bool
 | []=>decide (a.id<b.id)
 | p::l=>if 0<p.length then decide (0<G8 sg p) else D4 sg a b l
def Nt (sg:Ui->Int) (a b:Pt):Bool:=D4 sg a b [Fy b.c a.c,Fz b.c a.c]
def Rz (sg:Ui->Int) (a b:Pt):Bool:=D4 sg a b [Fz a.c b.c,Fy a.c b.c]
end Orr
namespace Orr
open Go
structure Ct where
 kind:Int
 i0:Int
 i1:Int
 i2:Int
 i3:Int
 p:List Int
 want:Int
abbrev D3 (c:Ct):Un:=[.int .i64 c.kind,.int .i64 c.i0,.int .i64 c.i1,.int .i64 c.i2,.int .i64 c.i3,pl c.p,.int .i64 c.want]
def Dx (p q:Ui):Ui:=if 0<p.length then p else q
def B8:Ui->Ui->Bool
 | x::l,y::m=>if x=y then B8 l m else decide (x<y)
 | _,_=>false
def yR (a b:Ct):Bool:=B8 [a.kind,a.i0,a.i1,a.i2,a.i3] [b.kind,b.i0,b.i1,b.i2,b.i3]
def ZT (out:List Ct) (c:Ct):Nat->Nat
 | 0=>0
 |
  k+1=>match out[k]? with
  | some x=>if yR c x=true then ZT out c k else k+1
  | none=>k+1
theorem cQ (out:List Ct) (c:Ct):∀ k,ZT out c k<=k
 | 0=>Ql _
 |
  k+1=>by
  simp only [ZT]
  split
  ·split
   ·exact Nat.le_succ_of_le (cQ out c k)
   ·exact Ql _
  ·exact Ql _
theorem Qji {out:List Ct} {c x:Ct} {k:Nat} (hx:out[k]? = some x) (h:yR c x=true):ZT out c (k+1)=ZT out c k:=by
 simp only [ZT,hx,h,if_true]
theorem Qei {out:List Ct} {c x:Ct} {k:Nat} (hx:out[k]? = some x) (h:yR c x=false):ZT out c (k+1)=k+1:=by
 simp [ZT,hx,h]
def YP (out:List Ct) (c:Ct):List Ct:=out.take (ZT out c out.length)++c::out.drop (ZT out c out.length)
theorem Qcz (out:List Ct) (c:Ct):(YP out c).length=out.length+1:=by
 have:=cQ out c out.length;simp [YP]; omega
theorem Qc0 {out:List Ct} {c x:Ct} (h:x∈YP out c):x=c\/x∈out:=by
 simp only [YP,Qr,Qm] at h;rcases h with h | h | h
 ·exact .inr (Qn h)
 ·exact .inl h
 ·exact .inr (Qy h)
def Fj (l:List Ct):List Ct:=l.foldl YP []
theorem tR (l:List Ct) (c:Ct):Fj (l++[c])=YP (Fj l) c:=by simp [Fj,Vn]
theorem tP {l:List Ct} {i:Nat} {c:Ct} (h:l[i]? = some c):Fj (l.take (i+1))=YP (Fj (l.take i)) c:=by
 rw [Z5,h]; exact tR _ _
theorem LP:∀ (l acc:List Ct),(l.foldl YP acc).length=acc.length+l.length
 | [],acc=>by simp
 | c::l,acc=>by simp only [Z7]; rw [LP l (YP acc c),Qcz]; simp; omega
theorem Ck (l:List Ct):(Fj l).length=l.length:=by unfold Fj; rw [LP]; simp
theorem LM:∀ (l acc:List Ct) {x:Ct},x∈l.foldl YP acc->x∈l\/x∈acc
 | [],acc,x,h=>.inr h
 |
  c::l,acc,x,h=>by
  simp only [Z7] at h;rcases LM l _ h with h | h
  ·exact .inl (Qg _ h)
  ·rcases Qc0 h with rfl | h
   ·exact .inl (Qw ..)
   ·exact .inr h
theorem XA {l:List Ct} {x:Ct} (h:x∈Fj l):x∈l:=by
 rcases LM l [] h with h | h
 ·exact h
 ·cases h
theorem yK {α:Type} (l:List α) (z x:α) {k m':Nat} (hk:k<=l.length) (hm:m'=l.length-k) :
 ((l++[z]).take (k+1)++((l++[z]).drop k).take m'++(l++[z]).drop (k+1+m')).set k x=l.take k++x::l.drop k:=by
 subst hm;have e1:((l++[z]).drop k).take (l.length-k)=l.drop k:=by
  rw [Wa hk,Vm (by simp),Qo (by simp)]
 have e2:(l++[z]).drop (k+1+(l.length-k))=[]:=Yu (by simp; omega);rw [e1,e2,Zy];have e3:(l++[z]).take (k+1)=(l++[z]).take k++[(l++[z])[k]'(by simp; omega)]:=by rw [List.take_succ_eq_append_getElem]
 rw [e3,Vm hk,Q9,List.set_append,if_neg (by simp; omega)];simp [Z1 hk]
def Ex (a b:Pt):Ui:=Dx (Fz a.c b.c) (Fy a.c b.c)
def Eu (a b:Pt):Ui:=Dx (Fy b.c a.c) (Fz b.c a.c)
def Ow (sg:Ui->Int) (a b:Pt):Ct:={ kind:=1,i0:=a.id,i1:=b.id,i2:=0,i3:=0,p:=Ex a b,want:=G8 sg (Ex a b) }
def Cx (sg:Ui->Int) (a b:Pt):Ct:={ kind:=2,i0:=a.id,i1:=b.id,i2:=0,i3:=0,p:=Eu a b,want:=G8 sg (Eu a b) }
end Orr
namespace Orr
open Go Go.Proofs Tryz
set_option maxRecDepth 10000
abbrev pr (p:Ui):TV:=.one (pl p)
theorem Su {p:Ui} {i:Nat} {z:Int} (h:p[i]? = some z):(p.map G6)[i]? = some (G6 z):=H9 h
theorem PG (p:Ui):Uf 79 [pr p] [pr (trim p)]:=by
 refine Gb func79 rfl (ln 0 rfl rfl λhl=>?_);rw [Zl] at hl;refine W9 [] rfl ?_;refine lp (S:=Nat) 0 (λL1 n=>(3,.v (.oi n))::L1) (λ_=>[]) id (λn=>n<=p.length/\∀ j x,n<=j->p[j]? = some x->x=0) (p.map G6).length ⟨by simp,λj x h1 h2=>by
  have:=(Qe.1 h2).1; simp at h1; omega⟩ rfl (λ_ _=>rfl) rfl λn ⟨h1,h2⟩=>?_
 cases n with
 | zero=>exact Ub [.f (by simp),.f rfl,.i 0] rfl (by rw [wU h1 h2 (λh=>by omega)]; simp [pl]) (by simp [Uw])
 |
  succ n =>
  obtain ⟨x,hx⟩:=gxE (l:=p) (i:=n) (by omega);by_cases h0:x=0
  ·refine Ua [.t (by simp),.r 11 (v:=.oi n) (by simp),.x (Su hx),.k Nv,.t (by simp [h0]),.r 17 (v:=.oi n) (by simp)] rfl ?_;exact rd n (by simp) ⟨by omega,λj y h3 h4=>by
    rcases Kc h3 with rfl | h3
    ·rw [hx] at h4; injection h4 with h4; rw [<-h4,h0]
    ·exact h2 j y h3 h4⟩ rfl
  ·exact Ub [.t (by simp),.r 11 (v:=.oi n) (by simp),.x (Su hx),.k Nv,.f (by simp [h0]),.i (n+1)] rfl (by rw [wU h1 h2 (λ_=>⟨x,hx,h0⟩)]; simp [pl,Yl]) (by simp [Uw] <;> omega)
theorem pB (p:Ui) (k:Nat):Uf 219 [pr p,.oi k] [.agg (G6 (p.getD k 0))]:=by
 by_cases h:k<p.length
 ·have hx:=Qf h;have e:p.getD k 0=p[k]:=by simp [List.getD,hx]
  rw [e];exact Uc func219 rfl [.t (by simp; omega),.x (Su hx)] rfl
 ·have e:p.getD k 0=0:=by simp [List.getD,Qz (J5 h)]
  rw [e,Ew];exact Uc func219 rfl [.f (by simp; omega)] rfl
def BE (f:Nat->Un) (z:Un) (n k:Nat):Uo:=(List.range n).map λi=>if i<k then f i else z
theorem An (f:Nat->Un) (z:Un) (n k:Nat):(BE f z n k).length=n:=by simp [BE]
theorem Eg (f:Nat->Un) (z:Un) (n:Nat):List.replicate n z=BE f z n 0:=by
 refine Xl λi=>?_
 simp only [BE,Jv,Zw];by_cases h:i<n
 ·simp [h]
 ·simp [h]
theorem Oi (f:Nat->Un) (z:Un) (n:Nat):BE f z n n=(List.range n).map f:=by
 refine Xz λi hi=>?_
 rw [if_pos (List.mem_range.1 hi)]
theorem Oj (f:Nat->Un) (z:Un) {n k:Nat} (h:k<n):(BE f z n k).set k (f k)=BE f z n (k+1):=by
 refine Xl λi=>?_
 rw [Yj];simp only [BE,Zw,Zl,List.length_range,h,if_true];by_cases e:k=i
 ·subst e; simp [h]
 ·simp only [e,if_false];by_cases hi:i<n
  ·simp only [Jl hi,Yi];congr 1;by_cases h2:i<k
   ·rw [if_pos h2,if_pos (by omega)]
   ·rw [if_neg h2,if_neg (by omega)]
  ·simp [Qz,hi]
theorem IV {n fid:Nat} {l1 l2:Un} {g:Nat->Int} (hn:n<274877906944) (h:∀ k,k<n->BI prog fid [.oi k,.one (.sh l1),.one (.sh l2)] [.agg (G6 (g k))]):Uf 179 [.oi n,.one (.fn fid [] [.sh l1,.sh l2])] [pr (KU n g)]:=by
 refine Gb func179 rfl ?_;refine Ua [.i n,.i n,.r 10 (eI (b:=(n:Int)) (by simp))] rfl ?_;rw [Eg λk=>G6 (g k)];refine Ue (S:=Nat) 1 (λL1 k=>(11,.v (.oi k))::L1) (λk=>[.row false 37 2 (BE (λk=>G6 (g k)) [.bool false,.nils] n k)]) (λk=>n-k) (λk=>k<=n) 0 (Qi _) rfl rfl λk hk=>?_
 by_cases hlt:k<n
 ·refine go tt [.t (by simp; omega),.k (h k hlt),.i k] rfl (by simp [Uw,An]; omega) ?_;have e:=Oj (λk=>G6 (g k)) [.bool false,.nils] hlt;rw [e];exact rd (k+1) (by omega) hlt rfl
 ·obtain rfl:k=n:=by omega
  have e:BE (λk=>G6 (g k)) [.bool false,.nils] k k=((List.range k).map g).map G6:=by rw [Oi]; simp
  rw [e];exact Ub [.f (by simp),.k (PG _)] rfl
theorem pS {n fid:Nat} {l1:Un} {g:Nat->Int} (hn:n<274877906944) (h:∀ k,k<n->BI prog fid [.oi k,.one (.sh l1)] [.agg (G6 (g k))]):Uf 179 [.oi n,.one (.fn fid [] [.sh l1])] [pr (KU n g)]:=by
 refine Gb func179 rfl ?_;refine Ua [.i n,.i n,.r 10 (eI (b:=(n:Int)) (by simp))] rfl ?_;rw [Eg λk=>G6 (g k)];refine Ue (S:=Nat) 1 (λL1 k=>(11,.v (.oi k))::L1) (λk=>[.row false 37 2 (BE (λk=>G6 (g k)) [.bool false,.nils] n k)]) (λk=>n-k) (λk=>k<=n) 0 (Qi _) rfl rfl λk hk=>?_
 by_cases hlt:k<n
 ·refine go tt [.t (by simp; omega),.k (h k hlt),.i k] rfl (by simp [Uw,An]; omega) ?_;have e:=Oj (λk=>G6 (g k)) [.bool false,.nils] hlt;rw [e];exact rd (k+1) (by omega) hlt rfl
 ·obtain rfl:k=n:=by omega
  have e:BE (λk=>G6 (g k)) [.bool false,.nils] k k=((List.range k).map g).map G6:=by rw [Oi]; simp
  rw [e];exact Ub [.f (by simp),.k (PG _)] rfl
theorem Qmz {p q:Ui} (k:Nat) (hp:Bd 4294967295 p) (hq:Bd 4294967295 q):Uf 218 [.oi k,.one (.sh [pl p]),.one (.sh [pl q])] [.agg (G6 (p.getD k 0+q.getD k 0))] :=
 Uc func218 rfl [.k (pB p k),.k (pB q k),.k (YY (Uu _) (Uu _) (Gj hp k) (Gj hq k))] rfl
theorem Qng {p q:Ui} (k:Nat) (hp:Bd 4294967295 p) (hq:Bd 4294967295 q):Uf 255 [.oi k,.one (.sh [pl p]),.one (.sh [pl q])] [.agg (G6 (p.getD k 0-q.getD k 0))] :=
 Uc func255 rfl [.k (pB p k),.k (pB q k),.k (Qar (Uu _) (Uu _) (Gj hp k) (Gj hq k))] rfl
theorem Rt {p:Ui} {k:Nat} (h:k<p.length):p[k]? = some (p.getD k 0):=by simp [List.getD,Qf h]
theorem Qai {p:Ui} {c:Int} {k:Nat} (hk:k<p.length) (hp:Bd 4294967295 p) (hc:U5 c<=4294967295):Uf 180 [.oi k,.one (.sh [pl p]),.one (.sh (G6 c))] [.agg (G6 (p.getD k 0*c))] :=
 Uc func180 rfl [.x (Su (Rt hk)),.k (Sk (Uu _) (Uu _) (Gj hp k) hc)] rfl
theorem Qna {p:Ui} {k:Nat} (hk:k<p.length) (hp:Bd 4294967295 p):Uf 304 [.oi k,.one (.sh [pl p])] [.agg (G6 (-(p.getD k 0)))] :=
 Uc func304 rfl [.x (Su (Rt hk)),.k (PX (Uu _) (Gj hp k))] rfl
theorem dE {p:Ui} {k:Nat} (hk:k+1<p.length) (hl:p.length<274877906944) (hp:Bd 4294967295 p):Uf 280 [.oi k,.one (.sh [pl p])] [.agg (G6 (p.getD (k+1) 0*((k+1:Nat):Int)))] :=
 Uc func280 rfl [.x (Su (Rt hk)),.r 10 (eI (b:=((k+1:Nat):Int)) (by omega)),.k (RJ (by omega)),.k (Sk (Uu _) (Uu _) (Gj hp _) (eM (show k+1<274877906944 by omega)))] rfl rfl (by simp [Uw] <;> omega)
theorem PY {p q:Ui} (hlp:p.length<274877906944) (hlq:q.length<274877906944) (hp:Bd 4294967295 p) (hq:Bd 4294967295 q):Uf 177 [pr p,pr q] [pr (A0 p q)] :=
 Uc func177 rfl [.r 9 (eI (b:=((max p.length q.length:Nat):Int)) (by simp; omega)),.k (IV (by omega) λk _=>Qmz k hp hq)] rfl
theorem UN {p q:Ui} (hlp:p.length<274877906944) (hlq:q.length<274877906944) (hp:Bd 4294967295 p) (hq:Bd 4294967295 q):Uf 216 [pr p,pr q] [pr (Bz p q)] :=
 Uc func216 rfl [.r 9 (eI (b:=((max p.length q.length:Nat):Int)) (by simp; omega)),.k (IV (by omega) λk _=>Qng k hp hq)] rfl
theorem oO {p:Ui} (hlp:p.length<274877906944) (hp:Bd 4294967295 p):Uf 283 [pr p] [pr (D5 p)] :=
 Uc func283 rfl [.r 4 (eI (b:=(p.length:Int)) (by simp)),.k (pS hlp λk hk=>Qna hk hp)] rfl
theorem Sy {p:Ui} {c:Int} (hlp:p.length<274877906944) (hp:Bd 4294967295 p) (hc:U5 c<=4294967295):Uf 132 [pr p,.agg (G6 c)] [pr (Fl p c)] :=
 Uc func132 rfl [.r 6 (eI (b:=(p.length:Int)) (by simp)),.k (IV hlp λk hk=>Qai hk hp hc)] rfl
theorem A7 {p:Ui} (hlp:p.length<274877906944) (hp:Bd 4294967295 p):Uf 252 [pr p] [pr (Gz p)] :=
 Uc func252 rfl [.r 6 (eI (b:=((p.length-1:Nat):Int)) (by simp; omega)),.k (pS (by omega) λk hk=>dE (by omega) hlp hp)] rfl rfl (by simp [Uw]; omega)
theorem Nu {ls:Uo} {p:Ui} (hi:IsInts ls p) (hl:p.length<274877906944) (hs:Bd 4294967295 p):Uf 128 [.one (.row ls)] [pr (trim p)]:=by
 refine Gb func128 rfl ?_;have hlen:=hi.len;refine Ua [.i ls.length,.i ls.length] rfl ?_;rw [Eg λk=>G6 (p.getD k 0)];refine Ue (S:=Nat) 1 (λL1 k=>(11,.v (.oi k))::L1) (λk=>[.row false 37 2 (BE (λk=>G6 (p.getD k 0)) [.bool false,.nils] ls.length k)]) (λk=>ls.length-k) (λk=>k<=ls.length) 0 (Qi _) rfl rfl λk hk=>?_
 by_cases hlt:k<ls.length
 ·obtain ⟨x,y,hx,hxy⟩:=hi.get (Rt (p:=p) (k:=k) (by omega));have cn:=Pw hxy (Gj hs k);obtain ⟨b,l,rfl,rfl,_⟩:=hxy;refine go tt [.t (by simp; omega),.x hx,.k cn,.i k] rfl (by simp [Uw,An]; omega) ?_;have e:=Oj (λk=>G6 (p.getD k 0)) [.bool false,.nils] hlt;rw [e];exact rd (k+1) (by omega) hlt rfl
 ·obtain rfl:k=ls.length:=by omega
  have e:BE (λk=>G6 (p.getD k 0)) [.bool false,.nils] ls.length ls.length=p.map G6:=by
   rw [Oi,hlen];refine Xl λi=>?_
   by_cases hi:i<p.length
   ·simp [Jl hi,List.getD,Qf hi]
   ·simp [Qz,hi]
  rw [e];exact Ub [.f (by simp),.k (PG _)] rfl
theorem Hd {p:Ui} (ht:U7 p) (hl:p.length<274877906944) (hs:Bd 4294967295 p):Uf 128 [pr p] [pr p]:=by
 have:=Nu (Ga p) hl hs;rw [ht] at this; exact this
theorem Qiq {p:Ui} {i:Nat} {z:Int} (h:p[i]? = some z):(p.map λ(x:Int)=>[LV.int .i64 x])[i]? = some [.int .i64 z]:=H9 h
theorem DY {p:Ui} (hl:p.length<274877906944) (hr:∀ z∈p,-9223372036854775808≤z/\z≤9223372036854775807):Uf 30 [.one (ids p)] [pr (trim p)]:=by
 refine Gb func30 rfl ?_;refine Ua [.r 7 (eI (b:=(p.length:Int)) (by simp)),.i p.length,.i p.length,.r 10 (eI (b:=(p.length:Int)) (by simp))] rfl ?_;rw [Eg λk=>G6 (p.getD k 0)];refine Ue (S:=Nat) 1 (λL1 k=>(11,.v (.oi k))::L1) (λk=>[.row false 37 2 (BE (λk=>G6 (p.getD k 0)) [.bool false,.nils] p.length k)]) (λk=>p.length-k) (λk=>k<=p.length) 0 (Qi _) rfl rfl λk hk=>?_
 by_cases hlt:k<p.length
 ·have hg:=Rt hlt;refine go tt [.t (by simp; omega),.x (Qiq hg),.k (RJ (hr _ (Qa hg))),.i k] rfl (by simp [Uw,An]; omega) ?_;have e:=Oj (λk=>G6 (p.getD k 0)) [.bool false,.nils] hlt;rw [e];exact rd (k+1) (by omega) hlt rfl
 ·obtain rfl:k=p.length:=by omega
  have e:BE (λk=>G6 (p.getD k 0)) [.bool false,.nils] p.length p.length=p.map G6:=by
   rw [Oi];refine Xl λi=>?_
   by_cases hi:i<p.length
   ·simp [Jl hi,List.getD,Qf hi]
   ·simp [Qz,hi]
  rw [e];exact Ub [.f (by simp),.k (PG _)] rfl
theorem rR (l:Ui) (i:Nat) (z:Int):(l.map G6).set i (G6 z)=(l.set i z).map G6:=by rw [Ka]
theorem SZ (m:Nat):((List.replicate m [LV.bool false,LV.nils]).map λc=>c.map FA)=(List.replicate m (0:Int)).map G6:=by
 simp [Ew,FA]
theorem IQ {p0 q:Ui} {s t:Nat} (tq:U7 q) (hlp:p0.length<137438953472) (hlq:q.length<137438953472) (hp:Bd s p0) (hq:Bd t q) (hst:s+t<=4294967000):Uf 178 [pr p0,pr q] [pr (Ge (trim p0) q)]:=by
 have cp:=Nu (Ga p0) (by omega) (Uv hp (show s<=4294967295 by omega));have hp:=H7 hp;have hlp:=Z3 (Ha p0) hlp;obtain ⟨p,ep⟩:=nmE (trim p0);rw [<-ep] at cp hp hlp ⊢;have cq:=Hd tq (by omega) (Uv hq (show t<=4294967295 by omega));by_cases h0:p.length=0
 ·have e:Ge p q=[]:=by unfold Ge; rw [if_pos (.inl h0)]
  rw [e];exact Uc func178 rfl [.k cp,.k cq,.t (by simp; exact Qh h0),.t rfl] rfl
 by_cases h1:q.length=0
 ·have e:Ge p q=[]:=by unfold Ge; rw [if_pos (.inr h1)]
  rw [e];exact Uc func178 rfl [.k cp,.k cq,.f (by simp; intro h; subst h; simp at h0),.t (by simp; exact Qh h1)] rfl
 refine Gb func178 rfl ?_;have e:Ge p q=trim (YN p q (List.replicate (p.length+q.length-1) 0) p.length):=by unfold Ge; rw [if_neg (by omega)]
 rw [e];obtain ⟨N,hN⟩:=nmE (p.length+q.length-1);rw [<-hN];obtain ⟨o,ho⟩:=nmE (List.replicate N (0:Int));rw [<-ho];have hol:o.length=N:=by rw [ho]; simp
 have ho0:∀ m,o.getD m 0=0:=λm=>by rw [ho]; exact Ei N m
 refine Ua [.k cp,.k cq,.f (by simp; intro h; subst h; simp at h0),.f (by simp; intro h; subst h; simp at h1),.r 27 (eI (b:=(N:Int)) (by simp; omega)),.i N,.i N] rfl ?_;refine nl 0 rfl rfl rfl ?_;rw [SZ,<-ho];refine Ue (S:=Nat) 1 (λL1 i=>(31,.v (.oi i))::L1) (λi=>[.row false 37 2 ((YN p q o i).map G6)]) (λi=>p.length-i) (λi=>i<=p.length) 0 (Qi _) rfl rfl λi hi=>?_
 by_cases hlt:i<p.length
 ·refine W9 [.t (by simp; omega),.x (Su (Rt hlt))] rfl ?_;refine Ue (S:=Nat) 2 (λL1 k=>(38,.v (.oi k))::L1) (λk=>[.row false 37 2 ((YB (p.getD i 0) q i (YN p q o i) k).map G6),.blk 37 (G6 (p.getD i 0))]) (λk=>q.length-k) (λk=>k<=q.length) 0 (Qi _) rfl rfl λk hk=>?_
  by_cases hk2:k<q.length
  ·have hm1:U5 ((YB (p.getD i 0) q i (YN p q o i) k).getD (i+k) 0)<=4294967295:=Qc (JB (t:=39) (bX (by rw [Ik]; omega) (bZ (λj hj=>by omega) ho0 (λi j=>Az (Gj hp i) (Gj hq j))) (λj=>Az (Gj hp i) (Gj hq j)) (i+k)) (Nat.lt_of_lt_of_eq (show i+1<549755813888 by omega) (by decide))) (by omega);have hm2:U5 (p.getD i 0*q.getD k 0)<=4294967295:=Qc (Ft _ _) (by have:=Gj hp i; have:=Gj hq k; omega);have hg:(YB (p.getD i 0) q i (YN p q o i) k)[i+k]? = some ((YB (p.getD i 0) q i (YN p q o i) k).getD (i+k) 0):=Rt (by rw [ZY,Ik]; omega);refine go tt [.t (by simp; omega),.x (Su (Rt hk2)),.i (i+k),.x (Su hg),.k (Sk (Uu _) (Uu _) (Qc (Gj hp i) (by omega)) (Qc (Gj hq k) (by omega))),.k (YY (Uu _) (Uu _) hm1 hm2),.i (i+k)] rfl (by simp [Uw,ZY,Ik] <;> omega) ?_;rw [rR];exact rd (k+1) (by omega) hk2 rfl
  ·obtain rfl:k=q.length:=by omega
   exact go tt [.f (by simp)] rfl (by simp [Uw]; omega) (rd (i+1) (by omega) hlt rfl)
 ·obtain rfl:i=p.length:=by omega
  exact Ub [.f (by simp),.k (PG _)] rfl
theorem YJ {p q:Ui} {s t:Nat} (tp:U7 p) (tq:U7 q) (hlp:p.length<137438953472) (hlq:q.length<137438953472) (hp:Bd s p) (hq:Bd t q) (hst:s+t<=4294967000):Uf 178 [pr p,pr q] [pr (Ge p q)]:=by
 have h:=IQ tq hlp hlq hp hq hst;rw [show trim p=p from tp] at h;exact h
theorem RA {p q:Ui} (hlp:p.length<274877906944) (hlq:q.length<274877906944) (hp:Bd 4294967295 p) (hq:Bd 4294967295 q):Uf 101 [pr p,pr q] [.one (.bool (decide (trim p=trim q)))]:=by
 refine Gb func101 rfl ?_;have cp:=Nu (Ga p) hlp hp;have cq:=Nu (Ga q) hlq hq;have bp:=H7 hp;have bq:=H7 hq;have l1:=Ha p;have l2:=Ha q;obtain ⟨a,ha⟩:=nmE (trim p);obtain ⟨b,hb⟩:=nmE (trim q);rw [<-ha] at cp bp l1 ⊢;rw [<-hb] at cq bq l2 ⊢;by_cases hl:a.length=b.length
 ·refine W9 [.k cp,.k cq,.f (by simp; omega)] rfl ?_;refine Ue (S:=Nat) 0 (λL1 i=>(18,.v (.oi i))::L1) (λ_=>[]) (λi=>a.length-i) (λi=>i<=a.length/\a.take i=b.take i) 0 ⟨Qi _,rfl⟩ rfl rfl λi ⟨hi,he⟩=>?_
  by_cases hlt:i<a.length
  ·have ga:=Rt hlt;have gb:=Rt (p:=b) (k:=i) (by omega);have cc:=UB (Uu (a.getD i 0)) (Uu (b.getD i 0)) (Gj bp i) (Gj bq i);by_cases hz:a.getD i 0=b.getD i 0
   ·refine Ua [.t (by simp; omega),.x (Su ga),.x (Su gb),.k cc,.f (by simpa using IH.2 hz)] rfl ?_;exact rd (i+1) (by omega) ⟨hlt,by rw [Y6,Y6,he,ga,gb,hz]⟩ rfl
   ·exact Ub [.t (by simp; omega),.x (Su ga),.x (Su gb),.k cc,.t (by have:=mt IH.1 hz; simpa using this)] rfl (by rw [decide_eq_false]; intro h; exact hz (by rw [h])) trivial
  ·obtain rfl:i=a.length:=by omega
   rw [Q6,hl,Q6] at he;exact Ub [.f (by simp)] rfl (by rw [decide_eq_true he]) trivial
 ·exact Ub [.k cp,.k cq,.t (by simp; omega)] rfl (by rw [decide_eq_false]; intro h; exact hl (by rw [h])) trivial
theorem xT {p:Ui} {n d:Int} {s t:Nat} (hl:p.length<274877906944) (hp:Bd s p) (hn:U5 n<=t) (hd:U5 d<=t) (hst:s+p.length*(t+1)+2*t+10<=4294967295):Uf 146 [pr p,.agg (G6 n),.agg (G6 d)] [.agg (G6 (BW p n d))]:=by
 refine Gb func146 rfl ?_;refine Ua [.k (RJ (z:=1) (by decide)),.r 13 (eI (b:=(p.length:Int)-1-((0:Nat):Int)) (by simp))] rfl ?_;refine nlb 3 rfl rfl rfl ?_;have e0:[LV.bool false,LV.nils].map FA=G6 (D9 p n d 0).1:=by simp [FA,D9,Ew]
 rw [e0];refine Ue (S:=Nat) 5 (λL1 j=>(9,.v (.oi ((p.length:Int)-1-(j:Int))))::L1) (λj=>[.blk 37 (G6 n),.blk 37 (G6 d),.blk 37 [.bool false,.nils],.blk 37 (G6 (D9 p n d j).1),.blk 37 (G6 (D9 p n d j).2)]) (λj=>p.length-j) (λj=>j<=p.length) 0 (Qi _) rfl rfl λj hj=>?_
 have hv:=zJ (k:=j) hp hn hd;have hjl:j*(t+1)<=p.length*(t+1):=Qx _ (by omega);have hjl2:j*t<=j*(t+1):=Zs _ (by omega);by_cases hlt:j<p.length
 ·have hc:=Gj hp (p.length-1-j);have hm1:U5 ((D9 p n d j).1*n)<=4294967295:=Qc (Ft _ _) (by omega);have hm2:U5 (p.getD (p.length-1-j) 0*(D9 p n d j).2)<=4294967295:=Qc (Ft _ _) (by omega);refine go tt [.t (by simp; omega),.k (Sk (Uu _) (Uu _) (by omega) (by omega)),.r 22 (eI (b:=((p.length-1-j:Nat):Int)) (by omega)),.x (Su (Rt (p:=p) (k:=p.length-1-j) (by omega))),.k (Sk (Uu _) (Uu _) (by omega) (by omega)),.k (YY (Uu _) (Uu _) hm1 hm2),.k (Sk (Uu _) (Uu _) (by omega) (by omega)),.r 17 (eI (b:=(p.length:Int)-1-((j+1:Nat):Int)) (by omega))] rfl (by simp [Uw] <;> omega) ?_;exact rd (j+1) (by omega) hlt rfl
 ·obtain rfl:j=p.length:=by omega
  exact Ub [.f (by simp; omega)] rfl
theorem Co {p:Ui} (tp:U7 p) (hl:p.length<274877906944) (hp:Bd 4294967295 p):Uf 299 [pr p] [.agg (G6 (p.getD (p.length-1) 0))]:=by
 have cn:=Hd tp hl hp;by_cases h0:p=[]
 ·subst h0;exact Uc func299 rfl [.k cn,.t (by simp)] rfl (by simp [Ew]) trivial
 ·have hpl:0<p.length:=J0.2 h0;exact Uc func299 rfl [.k cn,.f (by simpa using h0),.r 12 (eI (b:=((p.length-1:Nat):Int)) (by simp; omega)),.x (Su (Rt (by omega)))] rfl rfl (by simp [Uw]; omega)
theorem Ql8 {a b:Int} {q:Rat} (h1:a=q.num) (h2:b=(q.den:Int)):[sg a,mg a,sg b,mg b]=rl q:=by rw [h1,h2]
theorem A8 {n d:Int} (h0:d≠0) (hn:U5 n<=4294967295) (hd:U5 d<=4294967295):Uf 142 [.agg (G6 n),.agg (G6 d)] [.agg (rl (Rat.divInt n d))]:=by
 have cg:=oH (Ga [n,d]) (λz hz=>by simp at hz; rcases hz with rfl | rfl <;> assumption);have gp:=jI (n:=n) h0;have gs:=nV (n:=n) h0 hd;have m1:=MC n d;have m2:=MD n d;obtain ⟨g,hg⟩:=nmE (((Rj [n,d]:Nat):Int));rw [<-hg] at cg gp gs m1 m2;by_cases hneg:d<0
 ·obtain ⟨e1,e2⟩:=Qiy (n:=n) hneg;rw [<-hg] at e1 e2;rw [<-Ql8 e1 e2];exact Uc func142 rfl [.k cg,.t (by simpa using hneg),.k (PX (Uu n) hn),.k (PX (Uu d) hd),.k (Ac (Uu _) (Uu _) (by rw [Hu]; exact hn) gs (by omega) (bV m1)),.k (Ac (Uu _) (Uu _) (by rw [Hu]; exact hd) gs (by omega) (bV m2))] rfl
 ·obtain ⟨e1,e2⟩:=nC (n:=n) (d:=d) (by omega);rw [<-hg] at e1 e2;rw [<-Ql8 e1 e2];exact Uc func142 rfl [.k cg,.f (by simpa using hneg),.k (Ac (Uu _) (Uu _) hn gs (by omega) m1),.k (Ac (Uu _) (Uu _) hd gs (by omega) m2)] rfl
theorem TQ {x y x' y':LV} {n d:Int} (h1:Gk x y n) (h2:Gk x' y' d) (hn:U5 n<=4294967295) (hd:U5 d<=4294967295):Uf 110 [.agg [x,y,x',y']] [.agg (rl (Hg n d))]:=by
 have c1:=Pw h1 hn;have c2:=Pw h2 hd;obtain ⟨b,l,rfl,rfl,_⟩:=h1;obtain ⟨b',l',rfl,rfl,_⟩:=h2;by_cases h0:d=0
 ·have e:Hg n d=Rat.divInt n 1:=by unfold Hg; rw [if_pos h0]
  rw [e];exact Uc func110 rfl [.k c2,.k Nv,.t (by simpa using h0),.k (RJ (z:=1) (by decide)),.k c1,.k (A8 (by decide) hn (by decide))] rfl
 ·have e:Hg n d=Rat.divInt n d:=by unfold Hg; rw [if_neg h0]
  rw [e];exact Uc func110 rfl [.k c2,.k Nv,.f (by simpa using h0),.k c1,.k (A8 h0 hn hd)] rfl
theorem QU {q:Rat} (hq:Qs 4294967295 q):Uf 110 [.agg (rl q)] [.agg (rl q)]:=by
 have:=TQ (Uu q.num) (Uu (q.den:Int)) hq.1 hq.2;rwa [Sw] at this
theorem Qa5 {n:Int} (hn:U5 n<=4294967295):Uf 70 [.agg (G6 n)] [.agg (rl (n:Rat))] :=
 Uc func70 rfl [.k (Pw (Uu n) hn),.k (RJ (z:=1) (by decide))] rfl (by simp [rl]) trivial
theorem IJ {a b:Rat} (ha:Qs 2147483647 a) (hb:Qs 2147483647 b):Uf 99 [.agg (rl a),.agg (rl b)] [.agg (G6 (a.num*(b.den:Int))),.agg (G6 (b.num*(a.den:Int))),.agg (G6 ((a.den:Int)*(b.den:Int)))] :=
 Uc func99 rfl [.k (QU (ha.mono (by decide))),.k (QU (hb.mono (by decide))),.k (Sk (Uu _) (Uu _) (Qc ha.1 (by decide)) (Qc hb.2 (by decide))),.k (Sk (Uu _) (Uu _) (Qc hb.1 (by decide)) (Qc ha.2 (by decide))),.k (Sk (Uu _) (Uu _) (Qc ha.2 (by decide)) (Qc hb.2 (by decide)))] rfl
theorem Cd {a b:Rat} (ha:Qs 2147483647 a) (hb:Qs 2147483647 b):Uf 56 [.agg (rl a),.agg (rl b)] [.oi (G7 a b)] :=
 Uc func56 rfl [.k (IJ ha hb),.k (UB (Uu _) (Uu _) (Qc (Ft _ _) (by have:=ha.1; have:=hb.2; omega)) (Qc (Ft _ _) (by have:=hb.1; have:=ha.2; omega)))] rfl
theorem PH {x y x' y':LV} {n d:Int} (h1:Gk x y n) (h2:Gk x' y' d) (hn:U5 n<=4294967295) (hd:U5 d<=4294967295):Uf 64 [.agg [x,y,x',y'],.one (.row [])] [.agg (rl (Hg n d))]:=by
 have c1:=TQ h1 h2 hn hd;obtain ⟨b,l,rfl,rfl,_⟩:=h1;obtain ⟨b',l',rfl,rfl,_⟩:=h2;refine Gb func64 rfl ?_;refine W9 [.k c1] rfl ?_;refine Ue (S:=Unit) 3 (λL1 _=>(12,.v (.oi 0))::L1) (λ_=>[.blk 43 [.bool b,.row (lm l),.bool b',.row (lm l')],.blk 43 [.bool false,.nils,.bool false,.nils],.blk 43 (rl (Hg n d))]) (λ_=>0) (λ_=>True) () trivial rfl rfl λ_ _=>?_
 exact Ub [.f (by simp)] rfl
theorem Nw {q:Rat} (hq:Qs 4294967295 q):Uf 64 [.agg (rl q),.one (.row [])] [.agg (rl q)]:=by
 have:=PH (Uu q.num) (Uu (q.den:Int)) hq.1 hq.2;rwa [Sw] at this
theorem pC {q:Rat} (hq:Qs 4294967295 q):Uf 144 [.agg (rl q)] [.agg (rl q)]:=Uc func144 rfl [.k (Nw hq)] rfl
theorem pZ {p:Ui} {q:Rat} {s t:Nat} (tp:U7 p) (hl:p.length<274877906944) (hp:Bd s p) (hq:Qs t q) (hst:s+p.length*(t+1)+2*t+10<=4294967295):Uf 241 [pr p,.agg (rl q)] [.oi (Hr p q)]:=by
 have cc:=UB (Uu (BW p q.num q.den)) Ol (Qc (zJ hp hq.1 hq.2).1 (by omega)) (by decide);exact Uc func241 rfl [.k (pC (hq.mono (by omega))),.k (Hd tp hl (Uv hp (by omega))),.k (xT hl hp hq.1 hq.2 hst),.k cc] rfl
theorem Qa0 {p:Ui} {g:Int} (hl:p.length<274877906944) (hp:Bd 4294967295 p) (hg:U5 g≤4294967295) (h0:g≠0) (hd:∀ z∈p,z % g=0):Uf 141 [pr p,.agg (G6 g)] [pr (trim (p.map (· / g)))]:=by
 refine Gb func141 rfl ?_;refine Ua [.r 9 (eI (b:=(p.length:Int)) (by simp)),.i p.length,.i p.length,.r 12 (eI (b:=(p.length:Int)) (by simp))] rfl ?_;rw [Eg λk=>G6 (p.getD k 0 / g)];refine Ue (S:=Nat) 2 (λL1 k=>(13,.v (.oi k))::L1) (λk=>[.blk 37 (G6 g),.row false 37 2 (BE (λk=>G6 (p.getD k 0 / g)) [.bool false,.nils] p.length k)]) (λk=>p.length-k) (λk=>k<=p.length) 0 (Qi _) rfl rfl λk hk=>?_
 by_cases hlt:k<p.length
 ·have hg2:=Rt hlt;refine go tt [.t (by simp; omega),.x (Su hg2),.k (Ac (Uu _) (Uu _) (Gj hp k) hg h0 (hd _ (Qa hg2))),.i k] rfl (by simp [Uw,An]; omega) ?_;have e:=Oj (λk=>G6 (p.getD k 0 / g)) [.bool false,.nils] hlt;rw [e];exact rd (k+1) (by omega) hlt rfl
 ·obtain rfl:k=p.length:=by omega
  have e:BE (λk=>G6 (p.getD k 0 / g)) [.bool false,.nils] p.length p.length=(p.map (· / g)).map G6:=by
   rw [Oi];refine Xl λi=>?_
   by_cases hi:i<p.length
   ·simp [Jl hi,List.getD,Qf hi]
   ·simp [Qz,hi]
  rw [e];exact Ub [.f (by simp),.k (Nu (Ga (p.map (· / g))) (by simp; exact hl) (US hp g))] rfl
theorem NL (p:Ui):∀ c∈p.map G6,c.length=2:=Ql3 p λ_=>rfl
theorem RO {lx ly:Uo} {px py:Ui} {x y:LV} {d:Int} (hx:IsInts lx px) (hy:IsInts ly py) (hd:Gk x y d) (hk:Cs 4294967294 1073741824 (Crv.mk px py d)):Uf 82 [.agg [.row lx,.row ly,x,y]] [.agg (cl (Crv.norm (Crv.mk px py d)))]:=by
 have hlx:=hk.lx;have hly:=hk.ly;simp only at hlx hly;have htx:=Ha px;have hty:=Ha py;have hd1:U5 (Crv.mk px py d).d'<=4294967295:=Qc (Qc6 hk.d (by omega)) (by omega);have hg1:=Crv.isz_g (Crv.mk px py d) hd1;have hg0:=Crv.g_ne (Crv.mk px py d);have hgd:=Crv.g_dvd (Crv.mk px py d);have cx:=Nu hx (by omega) (Uv hk.x (by omega));have cy:=Nu hy (by omega) (Uv hk.y (by omega));have cd:=Pw hd (Qc hk.d (by omega));have bx:Bd 4294967295 (trim px):=Uv (H7 hk.x) (by omega);have by_:Bd 4294967295 (trim py):=Uv (H7 hk.y) (by omega);obtain ⟨b,l,rfl,rfl,_⟩:=hd;obtain ⟨e,he⟩:=nmE ((Crv.mk px py d).d');obtain ⟨g,hgg⟩:=nmE ((Crv.mk px py d).g);obtain ⟨X,hX⟩:=nmE (trim px);obtain ⟨Y,hY⟩:=nmE (trim py);have hnorm:(Crv.mk px py d).norm=⟨trim (X.map (· / g)),trim (Y.map (· / g)),e / g⟩:=by rw [he,hgg,hX,hY]; rfl
 rw [hnorm];have hgdef:g=if e<0 then -((Rj (e::(X++Y)):Nat):Int) else (Rj (e::(X++Y)):Nat):=by rw [hgg,he,hX,hY]; rfl
 have hde:e=if d=0 then 1 else d:=by rw [he]; rfl
 simp only [<-he,<-hgg,<-hX,<-hY] at hd1 hg1 hg0 hgd htx hty cx cy bx by_;clear hnorm hgg he hX hY;refine Gb func82 rfl ?_;refine W9 [.k cx,.k cy,.k cd,.k Nv] rfl ?_;refine ct 1 (S:=Unit) (λ_=>[(2,.v (.one (.ow 1 0))),(3,.v (pr X)),(4,.v (pr Y)),(5,.v (.one (.ow 2 0)))]) (λ_=>[.blk 39 [.row lx,.row ly,.bool b,.row (lm l)],.blk 39 [.nils,.nils,.bool false,.nils],.blk 37 (G6 e)]) (λ_=>True) rfl ?_ ?_
 ·by_cases h0:d=0
  ·rw [hde,if_pos h0];exact go tt [.t (by simpa using h0),.k (RJ (z:=1) (by decide))] rfl trivial (rc () trivial rfl)
  ·rw [hde,if_neg h0];exact go tt [.f (by simpa using h0)] rfl trivial (rc () trivial rfl)
 ·intro _ _;have hgi:IsInts ([G6 e]++X.map G6++Y.map G6) (e::(X++Y)):=by
   have:=Ga (e::(X++Y));simpa using this
  have hgs:∀ z∈e::(X++Y),U5 z≤4294967295:=λz hz=>by
   rcases Qm.1 hz with rfl | hz
   ·exact hd1
   ·rcases Qr.1 hz with hz | hz
    ·exact bx z hz
    ·exact by_ z hz
  have cg:=oH hgi hgs;have co1:=Qa0 (p:=X) (by omega) bx hg1 hg0 λz hz=>hgd z (Qg _ (Xu _ hz))
  have co2:=Qa0 (p:=Y) (by omega) by_ hg1 hg0 λz hz=>hgd z (Qg _ (X1 _ hz))
  have ce:=Ac (Uu e) (Uu g) hd1 hg1 hg0 (hgd e (Qw ..));have hszg:=TS hgs;by_cases hneg:e<0
  ·rw [if_pos hneg] at hgdef;have cn:=PX (Uu ((Rj (e::(X++Y)):Nat):Int)) hszg;rw [<-hgdef] at cn;exact Ub [.lo,.s (NL X),.s (NL Y),.k cg,.t (by simpa using hneg),.k cn,.k ce,.k co1,.k co2] rfl rfl (by simp [Uw]; omega)
  ·rw [if_neg hneg] at hgdef;rw [<-hgdef] at cg;exact Ub [.lo,.s (NL X),.s (NL Y),.k cg,.f (by simpa using hneg),.k ce,.k co1,.k co2] rfl rfl (by simp [Uw]; omega)
theorem KQ {k:Crv} (hn:QK k) (hk:Cs 4294967294 1073741824 k):Uf 82 [.agg (cl k)] [.agg (cl k)]:=by
 have h:=RO (Ga k.x) (Ga k.y) (Uu k.d) hk;rw [Crv.norm_of hn] at h; exact h
theorem VI {lx ly:Uo} {px py:Ui} {x y:LV} {d:Int} (hx:IsInts lx px) (hy:IsInts ly py) (hd:Gk x y d) (hk:Cs 4294967294 1073741824 (Crv.mk px py d)) (h0:d≠0):Uf 137 [.one (.row lx),.one (.row ly),.agg [x,y]] [.agg (cl (Crv.norm (Crv.mk px py d))),.oi 0]:=by
 have cd:=Pw hd (Qc hk.d (by omega));have cn:=RO hx hy hd hk;obtain ⟨b,l,rfl,rfl,_⟩:=hd;exact Uc func137 rfl [.k cd,.k Nv,.f (by simpa using h0),.k cn] rfl
theorem Qlh {lx ly:Uo} {px py:Ui} (hx:IsInts lx px) (hy:IsInts ly py) (hk:Cs 4294967294 1073741824 (Crv.mk px py 0)):Uf 35 [.one (.row lx),.one (.row ly)] [.agg (cl (Crv.norm (Crv.mk px py 0)))] :=
 Uc func35 rfl [.k (RO hx hy Ol hk)] rfl
def Bt (x y:Int):Crv:=Crv.norm ⟨trim [x],trim [y],0⟩
theorem PD {x y:Int} (hx:-9223372036854775808<=x/\x<=9223372036854775807) (hy:-9223372036854775808<=y/\y<=9223372036854775807):Cs 64 1 ⟨trim [x],trim [y],0⟩:=by
 have key:∀ z:Int,-9223372036854775808<=z/\z<=9223372036854775807->U5 z<=64:=λz hz=>by
  rw [Tu];have:(2:Nat)^64=18446744073709551616:=by decide
  omega
 refine ⟨H7 λz hz=>?_,H7 λz hz=>?_,Qi _,Ha [x],Ha [y]⟩
 ·rw [Qj] at hz; rw [hz]; exact key x hx
 ·rw [Qj] at hz; rw [hz]; exact key y hy
theorem pU {x y:Int} (hx:-9223372036854775808<=x/\x<=9223372036854775807) (hy:-9223372036854775808<=y/\y<=9223372036854775807):Uf 28 [.oi x,.oi y] [.agg (cl (Bt x y))] :=
 Uc func28 rfl [.k (DY (p:=[x]) (show 1<274877906944 by decide) (by intro z hz; rw [Qj] at hz; rw [hz]; exact hx)),.k (DY (p:=[y]) (show 1<274877906944 by decide) (by intro z hz; rw [Qj] at hz; rw [hz]; exact hy)),.k (Qlh (Ga _) (Ga _) ((PD hx hy).mono (by omega) (by omega)))] rfl
theorem Qhw {a b:Crv} (ha:QK a) (hb:QK b) (ca:Cs 4294967294 1073741824 a) (cb:Cs 4294967294 1073741824 b):Uf 57 [.agg (cl a),.agg (cl b)] [.one (.bool (Ai a b))]:=by
 have na:=KQ ha ca;have nb:=KQ hb cb;have alx:=ca.lx;have aly:=ca.ly;have blx:=cb.lx;have bly:=cb.ly;have sx:=RA (p:=a.x) (q:=b.x) (by omega) (by omega) (Uv ca.x (by omega)) (Uv cb.x (by omega));have sy:=RA (p:=a.y) (q:=b.y) (by omega) (by omega) (Uv ca.y (by omega)) (Uv cb.y (by omega));have sd:=UB (Uu a.d) (Uu b.d) (Qc ca.d (by omega)) (Qc cb.d (by omega));rw [ha.1,hb.1] at sx;rw [ha.2.1,hb.2.1] at sy;by_cases h1:a.x=b.x
 ·by_cases h2:a.y=b.y
  ·exact Uc func57 rfl [.k na,.k nb,.k sx,.t (by simpa using h1),.k sy,.t (by simpa using h2),.k sd] rfl (by simp [Ai,h1,h2,IH]) trivial
  ·exact Uc func57 rfl [.k na,.k nb,.k sx,.t (by simpa using h1),.k sy,.f (by simpa using h2)] rfl (by simp [Ai,h1,h2]) trivial
 ·exact Uc func57 rfl [.k na,.k nb,.k sx,.f (by simpa using h1),.f rfl] rfl (by simp [Ai,h1]) trivial
end Orr
