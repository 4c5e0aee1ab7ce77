/- Ntt L1 L2 L3 L4 L5 M1 P2 M2 PolyL RatL CrvL CrowdL PredL CertL Y1 Y2 Q1 C1 -/
import Derived.Test.YtbhhcpcpionelaaGreatPart03
import Derived.Laws.StructEq
import Derived.Test.YtbhhcpcpionelaaGreatProg
import Derived.Test.YtbhhcpcpionelaaGreatPart00
set_option linter.all false
namespace Orr
open Go Go.Proofs Tryz
theorem sR (d:Nat) (x y:Int) (w:World):(Op.equalIn (d+1) 3 (.int .i64 x) (.int .i64 y)).run prog w=.ok (decide (x=y)) w:=by
 simp [Op.equalIn,runUnderlying3];rfl
noncomputable def ti3:TI prog:=A0 3 isAgg3 sizeOf3 underlying3 zeroValue3 typeInfo3 8 rfl
noncomputable def ti4:TI prog:=A0 4 isAgg4 sizeOf4 underlying4 zeroValue4 typeInfo4 1 rfl
noncomputable def ti5:TI prog:=A0 5 isAgg5 sizeOf5 underlying5 zeroValue5 typeInfo5 1 rfl
noncomputable def ti9:TI prog:=A0 9 isAgg9 sizeOf9 underlying9 zeroValue9 typeInfo9 16 rfl
noncomputable def ti22:TI prog:=A0 22 isAgg22 sizeOf22 underlying22 zeroValue22 typeInfo22 24 rfl
noncomputable def ti23:TI prog:=A0 23 isAgg23 sizeOf23 underlying23 zeroValue23 typeInfo23 8 rfl
noncomputable def ti26:TI prog:=KU (ks:=[1,1,1]) (ag:=[false,false,false]) 26 isAgg26 sizeOf26 underlying26 zeroValue26 typeInfo26 24 rfl ⟨sizeOf23,sizeOf24,sizeOf3,trivial⟩ ⟨isAgg23,isAgg24,isAgg3,trivial⟩ rfl
set_option maxRecDepth 20000 in
theorem Qg3 (d:Nat) (x0 x1 x2 x3 x4 y0 y1 y2 y3 y4:Int) (w:World):(Op.equalIn (d+1+1) 29 (.agg #[.int .i64 x0,.int .i64 x1,.int .i64 x2,.int .i64 x3,.int .i64 x4]) (.agg #[.int .i64 y0,.int .i64 y1,.int .i64 y2,.int .i64 y3,.int .i64 y4])).run prog w=.ok (decide ([x0,x1,x2,x3,x4]=[y0,y1,y2,y3,y4])) w:=by
 rw [run_equalIn_array w (d+1) _ _ (n:=5) (e:=3) rfl rfl];rw [show List.range 5=[0,1,2,3,4] from rfl,show prog.cellsOf 3=1 from rfl];simp [Op.eqItems,Go.part,isAgg3,sR];by_cases h0:x0=y0 <;> by_cases h1:x1=y1 <;> by_cases h2:x2=y2 <;> by_cases h3:x3=y3 <;> by_cases h4:x4=y4 <;> simp [h0,h1,h2,h3,h4]
theorem Qmg (a b:W9) (ha:a.length=5) (hb:b.length=5) (w:World):(Op.equal 29 (.agg (a.map (Value.int .i64)).toArray) (.agg (b.map (Value.int .i64)).toArray)).run prog w=.ok (decide (a=b)) w:=by
 match a,ha,b,hb with
 | [x0,x1,x2,x3,x4],_,[y0,y1,y2,y3,y4],_=>exact Qg3 9998 x0 x1 x2 x3 x4 y0 y1 y2 y3 y4 w
noncomputable def ti29:TI prog:={ tiA 29 isAgg29 sizeOf29 underlying29 zeroValue29 typeInfo29 40 rfl sizeOf3 with eqn:=some 5,heq:=λk h=>by injection h with h; subst h; exact ⟨eqGuardType29,Qmg⟩ }
noncomputable def ti31:TI prog:=A0 31 isAgg31 sizeOf31 underlying31 zeroValue31 typeInfo31 8 rfl
noncomputable def ti33:TI prog:=A0 33 isAgg33 sizeOf33 underlying33 zeroValue33 typeInfo33 24 rfl
noncomputable def ti34:TI prog:=A0 34 isAgg34 sizeOf34 underlying34 zeroValue34 typeInfo34 24 rfl
noncomputable def ti35:TI prog:=A0 35 isAgg35 sizeOf35 underlying35 zeroValue35 typeInfo35 24 rfl
noncomputable def ti37:TI prog:=KU (ks:=[1,1]) (ag:=[false,false]) 37 isAgg37 sizeOf37 underlying37 zeroValue37 typeInfo37 32 rfl ⟨sizeOf4,sizeOf35,trivial⟩ ⟨isAgg4,isAgg35,trivial⟩ rfl
noncomputable def ti39:TI prog:=KU (ks:=[1,1,2]) (ag:=[false,false,true]) 39 isAgg39 sizeOf39 underlying39 zeroValue39 typeInfo39 80 rfl ⟨sizeOf34,sizeOf34,sizeOf37,trivial⟩ ⟨isAgg34,isAgg34,isAgg37,trivial⟩ rfl
noncomputable def ti41:TI prog:=KU (ks:=[4,1]) (ag:=[true,false]) 41 isAgg41 sizeOf41 underlying41 zeroValue41 typeInfo41 88 rfl ⟨sizeOf39,sizeOf3,trivial⟩ ⟨isAgg39,isAgg3,trivial⟩ rfl
noncomputable def ti43:TI prog:=KU (ks:=[2,2]) (ag:=[true,true]) 43 isAgg43 sizeOf43 underlying43 zeroValue43 typeInfo43 64 rfl ⟨sizeOf37,sizeOf37,trivial⟩ ⟨isAgg37,isAgg37,trivial⟩ rfl
noncomputable def ti45:TI prog:=KU (ks:=[1,1,1,5,4]) (ag:=[false,false,false,true,true]) 45 isAgg45 sizeOf45 underlying45 zeroValue45 typeInfo45 176 rfl ⟨sizeOf3,sizeOf3,sizeOf3,sizeOf41,sizeOf43,trivial⟩ ⟨isAgg3,isAgg3,isAgg3,isAgg41,isAgg43,trivial⟩ rfl
noncomputable def ti52:TI prog:=A0 52 isAgg52 sizeOf52 underlying52 zeroValue52 typeInfo52 24 rfl
noncomputable def ti54:TI prog:=A0 54 isAgg54 sizeOf54 underlying54 zeroValue54 typeInfo54 24 rfl
noncomputable def ti55:TI prog:=A0 55 isAgg55 sizeOf55 underlying55 zeroValue55 typeInfo55 24 rfl
noncomputable def ti57:TI prog:=A0 57 isAgg57 sizeOf57 underlying57 zeroValue57 typeInfo57 24 rfl
noncomputable def ti59:TI prog:=KU (ks:=[1,1]) (ag:=[false,false]) 59 isAgg59 sizeOf59 underlying59 zeroValue59 typeInfo59 32 rfl ⟨sizeOf57,sizeOf4,trivial⟩ ⟨isAgg57,isAgg4,trivial⟩ rfl
noncomputable def ti61:TI prog:=KU (ks:=[2,2]) (ag:=[true,true]) 61 isAgg61 sizeOf61 underlying61 zeroValue61 typeInfo61 64 rfl ⟨sizeOf59,sizeOf59,trivial⟩ ⟨isAgg59,isAgg59,trivial⟩ rfl
noncomputable def ti66:TI prog:=A0 66 isAgg66 sizeOf66 underlying66 zeroValue66 typeInfo66 24 rfl
noncomputable def ti68:TI prog:=KU (ks:=[1,1,1,1,1]) (ag:=[false,false,false,false,false]) 68 isAgg68 sizeOf68 underlying68 zeroValue68 typeInfo68 120 rfl ⟨sizeOf55,sizeOf55,sizeOf55,sizeOf55,sizeOf66,trivial⟩ ⟨isAgg55,isAgg55,isAgg55,isAgg55,isAgg66,trivial⟩ rfl
noncomputable def ti81:TI prog:=A0 81 isAgg81 sizeOf81 underlying81 zeroValue81 typeInfo81 8 rfl
abbrev uN:List (Nat×Nat×String):=[(365,0,"Advance"),(121,0,"Begin"),(366,0,"Certs"),(51,0,"Clone"),(367,0,"Drop"),(368,0,"Events"),(372,0,"Go"),(88,0,"Ids"),(377,0,"Next"),(376,0,"Now"),(369,0,"Put"),(370,0,"Turn")]
theorem Qm7:∀ x∈uN,∀ b o w,(method (prog.types.size+Made.depth) 82 (.pointer (some ⟨b,o,none⟩)) x.2.2).run prog w=.ok (x.1,.pointer (some ⟨b,o+x.2.1,none⟩)) w:=λx hx=>by
 simp only [uN,Qk,Jw,or_false] at hx;rcases hx with rfl | rfl | rfl | rfl | rfl | rfl | rfl | rfl | rfl | rfl | rfl | rfl <;> first | exact Ls (E:=196) typeInfo82 rfl underlying82 | exact Ch (S:=196) (i:=0) typeInfo82 rfl underlying196 rfl underlying192 (λ_ h=>by cases h) sizeOf192 (by decide)
noncomputable def ti82:TI prog:={ A0 82 isAgg82 sizeOf82 underlying82 zeroValue82 typeInfo82 8 rfl with ms:=uN,hms:=Qm7 }
abbrev uB:List (Nat×Nat×String):=[(393,0,"Advance"),(121,0,"Begin"),(366,0,"Certs"),(52,0,"Clone"),(394,0,"Drop"),(368,0,"Events"),(372,0,"Go"),(377,0,"Next"),(376,0,"Now"),(395,0,"Put"),(396,0,"Turn"),(91,0,"Winner")]
theorem Qm8:∀ x∈uB,∀ b o w,(method (prog.types.size+Made.depth) 83 (.pointer (some ⟨b,o,none⟩)) x.2.2).run prog w=.ok (x.1,.pointer (some ⟨b,o+x.2.1,none⟩)) w:=λx hx=>by
 simp only [uB,Qk,Jw,or_false] at hx;rcases hx with rfl | rfl | rfl | rfl | rfl | rfl | rfl | rfl | rfl | rfl | rfl | rfl <;> first | exact Ls (E:=199) typeInfo83 rfl underlying83 | exact Ch (S:=199) (i:=0) typeInfo83 rfl underlying199 rfl underlying192 (λ_ h=>by cases h) sizeOf192 (by decide)
noncomputable def ti83:TI prog:={ A0 83 isAgg83 sizeOf83 underlying83 zeroValue83 typeInfo83 8 rfl with ms:=uB,hms:=Qm8 }
abbrev uC:List (Nat×Nat×String):=[(398,0,"Advance"),(121,0,"Begin"),(366,0,"Certs"),(53,0,"Clone"),(399,0,"Drop"),(368,0,"Events"),(372,0,"Go"),(89,0,"Ids"),(377,0,"Next"),(376,0,"Now"),(400,0,"Put"),(401,0,"Turn")]
theorem Qm9:∀ x∈uC,∀ b o w,(method (prog.types.size+Made.depth) 84 (.pointer (some ⟨b,o,none⟩)) x.2.2).run prog w=.ok (x.1,.pointer (some ⟨b,o+x.2.1,none⟩)) w:=λx hx=>by
 simp only [uC,Qk,Jw,or_false] at hx;rcases hx with rfl | rfl | rfl | rfl | rfl | rfl | rfl | rfl | rfl | rfl | rfl | rfl <;> first | exact Ls (E:=201) typeInfo84 rfl underlying84 | exact Ch (S:=201) (i:=0) typeInfo84 rfl underlying201 rfl underlying192 (λ_ h=>by cases h) sizeOf192 (by decide)
noncomputable def ti84:TI prog:={ A0 84 isAgg84 sizeOf84 underlying84 zeroValue84 typeInfo84 8 rfl with ms:=uC,hms:=Qm9 }
abbrev uD:List (Nat×Nat×String):=[(403,0,"Advance"),(121,0,"Begin"),(366,0,"Certs"),(54,0,"Clone"),(404,0,"Drop"),(368,0,"Events"),(372,0,"Go"),(92,0,"Ids"),(377,0,"Next"),(376,0,"Now"),(405,0,"Put"),(406,0,"Turn")]
theorem Qna:∀ x∈uD,∀ b o w,(method (prog.types.size+Made.depth) 85 (.pointer (some ⟨b,o,none⟩)) x.2.2).run prog w=.ok (x.1,.pointer (some ⟨b,o+x.2.1,none⟩)) w:=λx hx=>by
 simp only [uD,Qk,Jw,or_false] at hx;rcases hx with rfl | rfl | rfl | rfl | rfl | rfl | rfl | rfl | rfl | rfl | rfl | rfl <;> first | exact Ls (E:=203) typeInfo85 rfl underlying85 | exact Ch (S:=203) (i:=0) typeInfo85 rfl underlying203 rfl underlying192 (λ_ h=>by cases h) sizeOf192 (by decide)
noncomputable def ti85:TI prog:={ A0 85 isAgg85 sizeOf85 underlying85 zeroValue85 typeInfo85 8 rfl with ms:=uD,hms:=Qna }
abbrev uL:List (Nat×Nat×String):=[(408,0,"Advance"),(121,0,"Begin"),(366,0,"Certs"),(55,0,"Clone"),(409,0,"Drop"),(368,0,"Events"),(372,0,"Go"),(377,0,"Next"),(376,0,"Now"),(410,0,"Put"),(90,0,"Triples"),(411,0,"Turn")]
theorem Qnb:∀ x∈uL,∀ b o w,(method (prog.types.size+Made.depth) 86 (.pointer (some ⟨b,o,none⟩)) x.2.2).run prog w=.ok (x.1,.pointer (some ⟨b,o+x.2.1,none⟩)) w:=λx hx=>by
 simp only [uL,Qk,Jw,or_false] at hx;rcases hx with rfl | rfl | rfl | rfl | rfl | rfl | rfl | rfl | rfl | rfl | rfl | rfl <;> first | exact Ls (E:=205) typeInfo86 rfl underlying86 | exact Ch (S:=205) (i:=0) typeInfo86 rfl underlying205 rfl underlying192 (λ_ h=>by cases h) sizeOf192 (by decide)
noncomputable def ti86:TI prog:={ A0 86 isAgg86 sizeOf86 underlying86 zeroValue86 typeInfo86 8 rfl with ms:=uL,hms:=Qnb }
noncomputable def ti88:TI prog:=KU (ks:=[1,4,1,1,1,1,1]) (ag:=[false,true,false,false,false,false,false]) 88 isAgg88 sizeOf88 underlying88 zeroValue88 typeInfo88 112 rfl ⟨sizeOf81,sizeOf43,sizeOf82,sizeOf83,sizeOf84,sizeOf85,sizeOf86,trivial⟩ ⟨isAgg81,isAgg43,isAgg82,isAgg83,isAgg84,isAgg85,isAgg86,trivial⟩ rfl
set_option maxRecDepth 20000 in
theorem Qak (d:Nat) (x0 x1 x2 y0 y1 y2:Int) (w:World):(Op.equalIn (d+1+1) 101 (.agg #[.int .i64 x0,.int .i64 x1,.int .i64 x2]) (.agg #[.int .i64 y0,.int .i64 y1,.int .i64 y2])).run prog w=.ok (decide ([x0,x1,x2]=[y0,y1,y2])) w:=by
 rw [run_equalIn_array w (d+1) _ _ (n:=3) (e:=3) rfl rfl];rw [show List.range 3=[0,1,2] from rfl,show prog.cellsOf 3=1 from rfl];simp [Op.eqItems,Go.part,isAgg3,sR];by_cases h0:x0=y0 <;> by_cases h1:x1=y1 <;> by_cases h2:x2=y2 <;> simp [h0,h1,h2]
theorem EA (a b:W9) (ha:a.length=3) (hb:b.length=3) (w:World):(Op.equal 101 (.agg (a.map (Value.int .i64)).toArray) (.agg (b.map (Value.int .i64)).toArray)).run prog w=.ok (decide (a=b)) w:=by
 match a,ha,b,hb with
 | [x0,x1,x2],_,[y0,y1,y2],_=>exact Qak 9998 x0 x1 x2 y0 y1 y2 w
noncomputable def ti101:TI prog:={ tiA 101 isAgg101 sizeOf101 underlying101 zeroValue101 typeInfo101 24 rfl sizeOf3 with eqn:=some 3,heq:=λk h=>by injection h with h; subst h; exact ⟨eqGuardType101,EA⟩ }
noncomputable def ti105:TI prog:=A0 105 isAgg105 sizeOf105 underlying105 zeroValue105 typeInfo105 16 rfl
noncomputable def ti106:TI prog:=tiA 106 isAgg106 sizeOf106 underlying106 zeroValue106 typeInfo106 80 rfl sizeOf105
noncomputable def ti111:TI prog:=A0 111 isAgg111 sizeOf111 underlying111 zeroValue111 typeInfo111 4 rfl
set_option maxRecDepth 20000 in
theorem Qal (d:Nat) (x0 x1 x2 x3 y0 y1 y2 y3:Int) (w:World):(Op.equalIn (d+1+1) 122 (.agg #[.int .i64 x0,.int .i64 x1,.int .i64 x2,.int .i64 x3]) (.agg #[.int .i64 y0,.int .i64 y1,.int .i64 y2,.int .i64 y3])).run prog w=.ok (decide ([x0,x1,x2,x3]=[y0,y1,y2,y3])) w:=by
 rw [run_equalIn_array w (d+1) _ _ (n:=4) (e:=3) rfl rfl];rw [show List.range 4=[0,1,2,3] from rfl,show prog.cellsOf 3=1 from rfl];simp [Op.eqItems,Go.part,isAgg3,sR];by_cases h0:x0=y0 <;> by_cases h1:x1=y1 <;> by_cases h2:x2=y2 <;> by_cases h3:x3=y3 <;> simp [h0,h1,h2,h3]
noncomputable def ti122:TI prog:=tiA 122 isAgg122 sizeOf122 underlying122 zeroValue122 typeInfo122 32 rfl sizeOf3
set_option maxRecDepth 20000 in
theorem Qam (d:Nat) (x x0 x1 x2 x3 y y0 y1 y2 y3:Int) (w:World):(Op.equalIn (d+1+1+1) 124 (.agg #[.int .i64 x,.int .i64 x0,.int .i64 x1,.int .i64 x2,.int .i64 x3]) (.agg #[.int .i64 y,.int .i64 y0,.int .i64 y1,.int .i64 y2,.int .i64 y3])).run prog w=.ok (decide ([x,x0,x1,x2,x3]=[y,y0,y1,y2,y3])) w:=by
 rw [run_equalIn_struct w (d+1+1) 124 _ _ rfl Tryz.stoodInHeld124];have hf:(prog.fieldsOf 124).toList=[{ name := "Kind",type:=3,offset:=0,embedded:=false,tag := "",pkgPath := "",byteOffset:=0 },{ name := "Ids",type:=122,offset:=1,embedded:=false,tag := "",pkgPath := "",byteOffset:=8 }]:=by simp [Program.fieldsOf,underlying124]
 rw [hf];simp [Op.eqFields,Go.part,isAgg3,isAgg122,sizeOf122,sizeOf3,sR,Qal];by_cases h:x=y <;> by_cases h0:x0=y0 <;> by_cases h1:x1=y1 <;> by_cases h2:x2=y2 <;> by_cases h3:x3=y3 <;> simp [h,h0,h1,h2,h3]
theorem Qg2 (a b:W9) (ha:a.length=5) (hb:b.length=5) (w:World):(Op.equal 124 (.agg (a.map (Value.int .i64)).toArray) (.agg (b.map (Value.int .i64)).toArray)).run prog w=.ok (decide (a=b)) w:=by
 match a,ha,b,hb with
 | [x,x0,x1,x2,x3],_,[y,y0,y1,y2,y3],_=>exact Qam 9997 x x0 x1 x2 x3 y y0 y1 y2 y3 w
noncomputable def ti124:TI prog:={ KU (ks:=[1,4]) (ag:=[false,true]) 124 isAgg124 sizeOf124 underlying124 zeroValue124 typeInfo124 40 rfl ⟨sizeOf3,sizeOf122,trivial⟩ ⟨isAgg3,isAgg122,trivial⟩ rfl with eqn:=some 5,heq:=λk h=>by injection h with h; subst h; exact ⟨eqGuardType124,Qg2⟩ }
noncomputable def ti126:TI prog:=KU (ks:=[5,1,1]) (ag:=[true,false,false]) 126 isAgg126 sizeOf126 underlying126 zeroValue126 typeInfo126 72 rfl ⟨sizeOf124,sizeOf34,sizeOf3,trivial⟩ ⟨isAgg124,isAgg34,isAgg3,trivial⟩ rfl
noncomputable def ti158:TI prog:=KU (ks:=[1,1,1]) (ag:=[false,false,false]) 158 isAgg158 sizeOf158 underlying158 zeroValue158 typeInfo158 40 rfl ⟨sizeOf3,sizeOf3,sizeOf54,trivial⟩ ⟨isAgg3,isAgg3,isAgg54,trivial⟩ rfl
noncomputable def ti169:TI prog:=A0 169 isAgg169 sizeOf169 underlying169 zeroValue169 typeInfo169 24 rfl
noncomputable def ti171:TI prog:=A0 171 isAgg171 sizeOf171 underlying171 zeroValue171 typeInfo171 24 rfl
noncomputable def ti172:TI prog:=A0 172 isAgg172 sizeOf172 underlying172 zeroValue172 typeInfo172 24 rfl
noncomputable def ti174:TI prog:=KU (ks:=[1,1,4,4]) (ag:=[false,false,true,true]) 174 isAgg174 sizeOf174 underlying174 zeroValue174 typeInfo174 176 rfl ⟨sizeOf171,sizeOf172,sizeOf61,sizeOf61,trivial⟩ ⟨isAgg171,isAgg172,isAgg61,isAgg61,trivial⟩ rfl
noncomputable def ti175:TI prog:=A0 175 isAgg175 sizeOf175 underlying175 zeroValue175 typeInfo175 24 rfl
noncomputable def ti176:TI prog:=A0 176 isAgg176 sizeOf176 underlying176 zeroValue176 typeInfo176 24 rfl
noncomputable def ti178:TI prog:=KU (ks:=[10,1,1,1]) (ag:=[true,false,false,false]) 178 isAgg178 sizeOf178 underlying178 zeroValue178 typeInfo178 232 rfl ⟨sizeOf174,sizeOf175,sizeOf3,sizeOf176,trivial⟩ ⟨isAgg174,isAgg175,isAgg3,isAgg176,trivial⟩ rfl
noncomputable def ti179:TI prog:=tiA 179 isAgg179 sizeOf179 underlying179 zeroValue179 typeInfo179 1160 rfl sizeOf178
noncomputable def ti181:TI prog:=KU (ks:=[1,1,1,4,65]) (ag:=[false,false,false,true,true]) 181 isAgg181 sizeOf181 underlying181 zeroValue181 typeInfo181 1264 rfl ⟨sizeOf3,sizeOf3,sizeOf169,sizeOf61,sizeOf179,trivial⟩ ⟨isAgg3,isAgg3,isAgg169,isAgg61,isAgg179,trivial⟩ rfl
noncomputable def ti189:TI prog:=KU (ks:=[1,4,4]) (ag:=[false,true,true]) 189 isAgg189 sizeOf189 underlying189 zeroValue189 typeInfo189 152 rfl ⟨sizeOf34,sizeOf43,sizeOf43,trivial⟩ ⟨isAgg34,isAgg43,isAgg43,trivial⟩ rfl
noncomputable def ti190:TI prog:=A0 190 isAgg190 sizeOf190 underlying190 zeroValue190 typeInfo190 24 rfl
noncomputable def ti192:TI prog:=KU (ks:=[1,9,1,1]) (ag:=[false,true,false,false]) 192 isAgg192 sizeOf192 underlying192 zeroValue192 typeInfo192 192 rfl ⟨sizeOf4,sizeOf189,sizeOf190,sizeOf3,trivial⟩ ⟨isAgg4,isAgg189,isAgg190,isAgg3,trivial⟩ rfl
noncomputable def ti194:TI prog:=KU (ks:=[1]) (ag:=[false]) 194 isAgg194 sizeOf194 underlying194 zeroValue194 typeInfo194 24 rfl ⟨sizeOf54,trivial⟩ ⟨isAgg54,trivial⟩ rfl
noncomputable def ti196:TI prog:=KU (ks:=[12,1,1]) (ag:=[true,true,false]) 196 isAgg196 sizeOf196 underlying196 zeroValue196 typeInfo196 240 rfl ⟨sizeOf192,sizeOf194,sizeOf54,trivial⟩ ⟨isAgg192,isAgg194,isAgg54,trivial⟩ rfl
noncomputable def ti197:TI prog:=A0 197 isAgg197 sizeOf197 underlying197 zeroValue197 typeInfo197 24 rfl
noncomputable def ti199:TI prog:=KU (ks:=[12,1,1,1]) (ag:=[true,true,false,false]) 199 isAgg199 sizeOf199 underlying199 zeroValue199 typeInfo199 264 rfl ⟨sizeOf192,sizeOf194,sizeOf54,sizeOf197,trivial⟩ ⟨isAgg192,isAgg194,isAgg54,isAgg197,trivial⟩ rfl
noncomputable def ti201:TI prog:=KU (ks:=[12,1,1]) (ag:=[true,true,false]) 201 isAgg201 sizeOf201 underlying201 zeroValue201 typeInfo201 240 rfl ⟨sizeOf192,sizeOf194,sizeOf54,trivial⟩ ⟨isAgg192,isAgg194,isAgg54,trivial⟩ rfl
noncomputable def ti203:TI prog:=KU (ks:=[12,1,1]) (ag:=[true,true,false]) 203 isAgg203 sizeOf203 underlying203 zeroValue203 typeInfo203 240 rfl ⟨sizeOf192,sizeOf194,sizeOf54,trivial⟩ ⟨isAgg192,isAgg194,isAgg54,trivial⟩ rfl
noncomputable def ti205:TI prog:=KU (ks:=[12,1,1]) (ag:=[true,true,false]) 205 isAgg205 sizeOf205 underlying205 zeroValue205 typeInfo205 240 rfl ⟨sizeOf192,sizeOf194,sizeOf66,trivial⟩ ⟨isAgg192,isAgg194,isAgg66,trivial⟩ rfl
noncomputable def ti215:TI prog:=A0 215 isAgg215 sizeOf215 underlying215 zeroValue215 typeInfo215 24 rfl
noncomputable def ti231:TI prog:=A0 231 isAgg231 sizeOf231 underlying231 zeroValue231 typeInfo231 8 rfl
noncomputable def ti234:TI prog:=A0 234 isAgg234 sizeOf234 underlying234 zeroValue234 typeInfo234 8 rfl
noncomputable def ti264:TI prog:=tiA 264 isAgg264 sizeOf264 underlying264 zeroValue264 typeInfo264 176 rfl sizeOf41
theorem cU (em:Bool) (n:Nat) (v:Int) (w:World):(Instr.checkKey em (n+1) 3 (.int .i64 v)).run prog w=.ok () w:=by
 rw [Instr.checkKey];simp [runUnderlying3]
theorem EH (em:Bool) (n:Nat) (a b c:Int) (w:World):(Instr.checkKey em (n+1+1) 101 (.agg #[.int .i64 a,.int .i64 b,.int .i64 c])).run prog w=.ok () w:=by
 rw [Instr.checkKey];simp [runUnderlying101];rw [show List.range' 0 3=[0,1,2] from rfl];simp [Go.part,isAgg3,sizeOf3,cU]
theorem VJ (em:Bool) (ks:W9) (hk:ks.length=3) (w:World):(Instr.checkKey em 10000 101 (Lo ks)).run prog w=.ok () w:=by
 match ks,hk with
 | [a,b,c],_=>exact EH em 9998 a b c w
theorem Qby:MapT prog 271 101 3 (.int .i64 0):=⟨runUnderlying271,⟨_,runUnderlying101,λ_ _=>rfl⟩,VJ,λx y hx hy w=>EA x y hx hy w,zeroValue3,rfl⟩
noncomputable def ti271:TI prog:={ A0 271 isAgg271 sizeOf271 underlying271 zeroValue271 typeInfo271 8 rfl with md:=some (.int .i64 0),hmd:=λd h=>by injection h with h; subst h; exact ⟨101,3,Qby⟩ }
theorem Qbz:MapT prog 272 101 4 (.bool false):=⟨runUnderlying272,⟨_,runUnderlying101,λ_ _=>rfl⟩,VJ,λx y hx hy w=>EA x y hx hy w,zeroValue4,rfl⟩
noncomputable def ti272:TI prog:={ A0 272 isAgg272 sizeOf272 underlying272 zeroValue272 typeInfo272 8 rfl with md:=some (.bool false),hmd:=λd h=>by injection h with h; subst h; exact ⟨101,4,Qbz⟩ }
noncomputable def ti285:TI prog:=KU (ks:=[5,1,1,1,1]) (ag:=[true,false,false,false,false]) 285 isAgg285 sizeOf285 underlying285 zeroValue285 typeInfo285 104 rfl ⟨sizeOf124,sizeOf171,sizeOf3,sizeOf176,sizeOf4,trivial⟩ ⟨isAgg124,isAgg171,isAgg3,isAgg176,isAgg4,trivial⟩ rfl
noncomputable def ti291:TI prog:=KU (ks:=[7,1,1,9]) (ag:=[true,false,false,true]) 291 isAgg291 sizeOf291 underlying291 zeroValue291 typeInfo291 232 rfl ⟨sizeOf126,sizeOf4,sizeOf4,sizeOf189,trivial⟩ ⟨isAgg126,isAgg4,isAgg4,isAgg189,trivial⟩ rfl
noncomputable def ti308:TI prog:=tiA 308 isAgg308 sizeOf308 underlying308 zeroValue308 typeInfo308 72 rfl sizeOf33
noncomputable def ti320:TI prog:=A0 320 isAgg320 sizeOf320 underlying320 zeroValue320 typeInfo320 24 rfl
noncomputable def ti322:TI prog:=A0 322 isAgg322 sizeOf322 underlying322 zeroValue322 typeInfo322 24 rfl
noncomputable def ti339:TI prog:=KU (ks:=[1,1,4]) (ag:=[false,false,true]) 339 isAgg339 sizeOf339 underlying339 zeroValue339 typeInfo339 128 rfl ⟨sizeOf171,sizeOf171,sizeOf39,trivial⟩ ⟨isAgg171,isAgg171,isAgg39,trivial⟩ rfl
noncomputable def ti341:TI prog:=KU (ks:=[6,1]) (ag:=[true,false]) 341 isAgg341 sizeOf341 underlying341 zeroValue341 typeInfo341 136 rfl ⟨sizeOf339,sizeOf3,trivial⟩ ⟨isAgg339,isAgg3,trivial⟩ rfl
noncomputable def ti343:TI prog:=A0 343 isAgg343 sizeOf343 underlying343 zeroValue343 typeInfo343 24 rfl
noncomputable def ti347:TI prog:=tiA 347 isAgg347 sizeOf347 underlying347 zeroValue347 typeInfo347 272 rfl sizeOf341
noncomputable def ti351:TI prog:=A0 351 isAgg351 sizeOf351 underlying351 zeroValue351 typeInfo351 24 rfl
noncomputable def ti355:TI prog:=KU (ks:=[1]) (ag:=[false]) 355 isAgg355 sizeOf355 underlying355 zeroValue355 typeInfo355 24 rfl ⟨sizeOf322,trivial⟩ ⟨isAgg322,trivial⟩ rfl
noncomputable def ti379:TI prog:=A0 379 isAgg379 sizeOf379 underlying379 zeroValue379 typeInfo379 24 rfl
noncomputable def ti380:TI prog:=A0 380 isAgg380 sizeOf380 underlying380 zeroValue380 typeInfo380 24 rfl
noncomputable def tt:TT prog:=(.nd (.nd (.nd (.nd (.nd (.nd (.nd .nil ti3 .nil) ti4 .nil) ti5 (.nd .nil ti9 .nil)) ti22 (.nd (.nd (.nd .nil ti23 .nil) ti26 .nil) ti29 (.nd .nil ti31 .nil))) ti33 (.nd (.nd (.nd (.nd .nil ti34 .nil) ti35 .nil) ti37 (.nd .nil ti39 .nil)) ti41 (.nd (.nd (.nd .nil ti43 .nil) ti45 .nil) ti52 (.nd .nil ti54 .nil)))) ti55 (.nd (.nd (.nd (.nd (.nd .nil ti57 .nil) ti59 .nil) ti61 (.nd .nil ti66 .nil)) ti68 (.nd (.nd (.nd .nil ti81 .nil) ti82 .nil) ti83 (.nd .nil ti84 .nil))) ti85 (.nd (.nd (.nd (.nd .nil ti86 .nil) ti88 .nil) ti101 (.nd .nil ti105 .nil)) ti106 (.nd (.nd (.nd .nil ti111 .nil) ti122 .nil) ti124 (.nd .nil ti126 .nil))))) ti158 (.nd (.nd (.nd (.nd (.nd (.nd .nil ti169 .nil) ti171 .nil) ti172 (.nd .nil ti174 .nil)) ti175 (.nd (.nd (.nd .nil ti176 .nil) ti178 .nil) ti179 (.nd .nil ti181 .nil))) ti189 (.nd (.nd (.nd (.nd .nil ti190 .nil) ti192 .nil) ti194 (.nd .nil ti196 .nil)) ti197 (.nd (.nd (.nd .nil ti199 .nil) ti201 .nil) ti203 (.nd .nil ti205 .nil)))) ti215 (.nd (.nd (.nd (.nd (.nd .nil ti231 .nil) ti234 .nil) ti264 (.nd .nil ti271 .nil)) ti272 (.nd (.nd (.nd .nil ti285 .nil) ti291 .nil) ti308 (.nd .nil ti320 .nil))) ti322 (.nd (.nd (.nd (.nd .nil ti339 .nil) ti341 .nil) ti343 (.nd .nil ti347 .nil)) ti351 (.nd (.nd .nil ti355 .nil) ti379 (.nd .nil ti380 .nil))))))
instance:Mo prog:=⟨rfl⟩
theorem Wy {n : Nat} {Q : Exit -> Sg -> List OB -> Prop} {L L' : Sg} {B B' : List OB} {it it' : List It} {as0 : List Qv} {ob : List Prop} (hs : List (H Tryz.prog)) (h : (match run tt n 100000 it L B hs [] [] with
 | some (it, L, B, q, ob) => (match NR ob with
  | some ob => some (it, L, B, q.map (·.1), q.map (·.2), ob)
  | none => none)
 | none => none) = some (it', L', B', as0, as0, ob)) (k : AK Tryz.prog n Q it' L' B') (ho : Ul ob := by exact trivial) : AK Tryz.prog n Q it L B := go tt hs h ho k
theorem Wz {n : Nat} {Q : Exit -> Sg -> List OB -> Prop} {L L' : Sg} {B B' : List OB} {it it' : List It} {as0 : List Qv} {ob : List Prop} (hs : List (H Tryz.prog)) (h : (match run tt n 100000 it L B hs [] [] with
 | some (it, L, B, q, ob) => (match NR ob with
  | some ob => some (it, L, B, q.map (·.1), q.map (·.2), ob)
  | none => none)
 | none => none) = some (it', L', B', as0, as0, ob)) (k : AK Tryz.prog n Q it' L' B') (ho : Ul ob := by simp [Ul]; omega) : AK Tryz.prog n Q it L B := go tt hs h ho k
theorem W3 {n : Nat} {f : FuncId} {fn : Func} {c : Code} {args res us : List TV} {as0 : List Qv} {ob : List Prop} (hf : Tryz.prog.funcs[f]? = some fn) (hh : (fn.body, fn.ntmps, (fn.name == "runtime.NumGoroutine"), Nat.ble args.length n) = (some c, n, false, true)) (hs : List (H Tryz.prog))
 (h : wE tt n c fn.results.toList args hs = some (us, as0, as0, ob)) (he : us = res := by exact rfl) (ho : Ul ob := by exact trivial) : NX Tryz.prog f args res := w tt hf hh hs h he ho
theorem W0 {n : Nat} {L : Sg} {B : List OB} {fn : Func} {res us : List TV} {it : List It} {as0 : List Qv} {ob : List Prop} (hs : List (H Tryz.prog)) (h : enE tt n fn.results.toList it L B hs = some (us, as0, as0, ob)) (he : us = res := by exact rfl) (ho : Ul ob := by exact trivial) : AK Tryz.prog n (RQ Tryz.prog fn n 0 λu B => u = res /\ B = []) it L B := en tt hs h he ho
theorem W4 {n : Nat} {L : Sg} {B : List OB} {fn : Func} {k : Nat} {res : List TV} {Bout : List OB} {it : List It} {as0 : List Qv} {ob : List Prop} (ps is : List Nat) (hs : List (H Tryz.prog)) (h : edE tt n k fn.results.toList it L B hs res Bout ps is = some (as0, as0, ob)) (ho : Ul ob := by exact trivial) : AK Tryz.prog n (RQ Tryz.prog fn n k λu B => u = res /\ B = Bout) it L B := ed tt ps is hs h ho
theorem W5 {n : Nat} {Q : Exit -> Sg -> List OB -> Prop} {L : Sg} {B : List OB} {S : Type} {c : Code} {r : List It} {L1 : Sg} (k : Nat) (st : Sg -> S -> Sg) (bs : S -> List OB) (μ : S -> Nat) (I : S -> Prop) (s0 : S) (h0 : I s0) (hL : prn (OM c []) L = some L1) {as0 : List Qv} (hs : two (gA none L B (st L1 s0) (bs s0)) = some (as0, as0))
 (round : ∀ s, I s -> AK Tryz.prog n Q (.code c :: .rnd (some k) (λL B => ∃ s', μ s' < μ s /\ I s' /\ L = st L1 s' /\ B = bs s') :: r) (st L1 s) (bs s)) (hk : ∀ s, I s -> (bs s).length = k := by exact λ_ _ => rfl) : AK Tryz.prog n Q (.code (.loop c) :: r) L B := lp k st bs μ I s0 h0 hL hk hs round
abbrev W6 (f : Nat) (a r : List TV) : Prop := NX Tryz.prog f a r
end Orr
namespace Orr
open Go Go.Proofs Tryz
set_option maxRecDepth 10000
def lm (l:Ub):Uf:=l.map λ(x:Nat)=>[.int .u32 (x:Int)]
abbrev lr (l:Ub):TV:=.one (.row (lm l))
theorem Un (l:Ub):(lm l).length=l.length:=by simp [lm]
theorem Gg {l:Ub} {i x:Nat} (h:l[i]? = some x):(lm l)[i]? = some [.int .u32 (x:Int)]:=by simp [lm,h]
def OK:Ub->Ub
 | []=>[]
 |
  x::l=>match OK l with
  | []=>if x=0 then [] else [x]
  | r=>x::r
theorem Qi5 {l:Ub}:OK l=[]↔∀ x∈l,x=0:=by
 induction l with
 | nil=>simp [OK]
 |
  cons x l ih =>
  simp only [OK]
  split
  ·rename_i e;have h1:=ih.1 e;by_cases h:x=0
   ·simp [h]; exact h1
   ·simp [h]
  ·rename_i r hne;simp only [reduceCtorEq,Qk,forall_eq_or_imp,false_iff,not_and];exact λ_ h=>hne (ih.2 h)
theorem KF:∀ {l:Ub} {n:Nat},n<=l.length->(∀ j,n<=j->j<l.length->l[j]? = some 0)->(n=0\/∃ x,l[n-1]? = some x/\x≠0)->l.take n=OK l
 | [],n,h,_,_=>by simp at h; subst h; rfl
 |
  x::l,0,h,hz,_=>by
  rw [Vg];refine (Qi5.2 λy hy=>?_).symm;obtain ⟨j,hj⟩:=Zm.1 hy;have:=hz j (Qi _) (Qg.1 hj).1;rw [hj] at this; injection this
 |
  x::l,n+1,h,hz,ht=>by
  simp only [Q7,Nat.add_le_add_iff_right] at h;have hz':∀ j,n<=j->j<l.length->l[j]? = some 0:=λj h1 h2=>by simpa using hz (j+1) (by omega) (by simpa using h2)
  cases n with
  |
   zero =>
   have e:OK l=[]:=(KF (n:=0) h hz' (.inl rfl)).symm;rcases ht with h | ⟨y,h1,h2⟩
   ·omega
   ·simp at h1; subst h1; simp [OK,e,h2]
  |
   succ n =>
   have ih:=KF (n:=n+1) h hz' (.inr (by rcases ht with h | ⟨y,h1,h2⟩; (· omega); exact ⟨y,by simpa using h1,h2⟩));simp only [Vu,OK];rw [<-ih];cases hl:l with
   | nil=>rw [hl] at h; simp at h
   | cons y l'=>simp [Vu]
theorem Qql (l:Ub):W6 181 [lr l] [lr (OK l)]:=by
 refine Fl func181 rfl (ln 0 rfl rfl λhl=>?_);rw [Un] at hl;refine Wy [] rfl ?_;refine W5 (S:=Nat) 0 (λL1 n=>(3,.v (.oi n))::L1) (λ_=>[]) id (λn=>n<=l.length/\∀ j,n<=j->j<l.length->l[j]? = some 0) (lm l).length ⟨by rw [Un]; exact Qn _,λj h1 h2=>by rw [Un] at h1; omega⟩ rfl rfl λn ⟨h1,h2⟩=>?_
 cases n with
 | zero=>exact W0 [.f (by simp),.f rfl,.i 0] rfl (by rw [<-KF h1 h2 (.inl rfl)]; simp [lm]) (by simp [Ul,Gx])
 |
  succ n =>
  obtain ⟨x,hx⟩:=gxE (l:=l) (i:=n) (by omega);by_cases h0:x=0
  ·refine go tt [.t (by simp),.r 11 (v:=.oi n) (by simp),.x (Gg hx),.t (by simp [h0]),.r 17 (v:=.oi n) (by simp)] rfl (by simp [Ul,Gx]; omega) ?_;exact rd n (by simp) ⟨by omega,λj h3 h4=>by
    rcases V4 h3 with rfl | h3
    ·rw [hx,h0]
    ·exact h2 j h3 h4⟩ rfl
  ·exact W0 [.t (by simp),.r 11 (v:=.oi n) (by simp),.x (Gg hx),.f (by simp [h0]),.i (n+1)] rfl (by rw [<-KF h1 h2 (.inr ⟨x,hx,h0⟩)]; simp [lm]) (by simp [Ul,Gx,Un] <;> omega)
def Sm (l:Ub):Prop:=∀ x∈l,x<4294967296
theorem OW:∀ l:Ub,Cut l (OK l).length/\l.take (OK l).length=OK l
 | []=>⟨⟨Qn _,λj _ h=>by simp at h,λh=>by simp [OK] at h⟩,rfl⟩
 |
  x::l=>by
  obtain ⟨⟨h1,h2,h3⟩,h4⟩:=OW l;simp only [OK]
  split
  ·rename_i e;rw [e] at h2 h3;by_cases h:x=0
   ·rw [if_pos h];refine ⟨⟨Qi _,λj _ hj=>?_,λh=>by simp at h⟩,rfl⟩;cases j with
    | zero=>simp [h]
    | succ j=>simpa using h2 j (Qi _) (by simpa using hj)
   ·rw [if_neg h];refine ⟨⟨by simp,λj h5 hj=>?_,λ_=>⟨x,rfl,h⟩⟩,rfl⟩;cases j with
    | zero=>simp at h5
    | succ j=>simpa using h2 j (Qi _) (by simpa using hj)
  ·rename_i r hne;refine ⟨⟨by simp [h1],λj h5 hj=>?_,λ_=>?_⟩,by simp [h4]⟩
   ·cases j with
    | zero=>simp at h5
    | succ j=>simpa using h2 j (by simpa using h5) (by simpa using hj)
   ·have hp:0<(OK l).length:=by
     cases e:OK l with
     | nil=>exact absurd e hne
     | cons=>simp
    obtain ⟨y,h5,h6⟩:=h3 hp;refine ⟨y,?_,h6⟩;rw [Q7,show (OK l).length+1-1=((OK l).length-1)+1 from by omega];simpa using h5
theorem LG {l:Ub} (h:Sm l):OK l=U9 (val l):=by
 obtain ⟨h1,h2⟩:=OW l;refine Qbs ?_ ?_
 ·rw [<-h2]; exact Qgt h1 h
 ·rw [<-h2]; exact Qgu h1
theorem Cw (x:Nat):Sm (U9 x):=(Bl x).1
theorem Re {x k:Nat} (h:sz x<=k):32*(U9 x).length<=k+31:=by
 have:=Qht (Bl x);rw [Gd] at this; omega
theorem XX {l:Ub} (h:Sm l):W6 181 [lr l] [lr (U9 (val l))]:=LG h ▸ Qql l
theorem Qbt (l:Ub):∀ c∈lm l,c.length=1:=λc hc=>by
 obtain ⟨x,_,rfl⟩:=Zf.1 hc; rfl
theorem XS {l:Ub} (h:Sm l) (hs:sz (val l)<=4294967296):W6 135 [lr l] [lr (U9 (val l))] :=
 W3 func135 rfl [.k (XX h),.s (Qbt (U9 (val l)))] rfl rfl (by have:=Re hs; simp [Ul,Gx,Un]; omega)
theorem WU {a:Ub} (ha:Sm a):∃ p,W6 181 [lr a] [lr p]/\qQ p/\val p=val a/\p.length<=a.length/\p=U9 (val a) :=
 ⟨_,XX ha,Bl _,Gd _,by rw [<-LG ha]; exact (OW a).1.1,rfl⟩
theorem eW {a b:Ub} (ha:Sm a) (hb:Sm b):W6 155 [lr a,lr b] [.oi (WY (val a) (val b))]:=by
 refine Fl func155 rfl (ln 0 rfl rfl λhl=>ln 1 rfl rfl λhl'=>?_);rw [Un] at hl hl';obtain ⟨p,ca,np,vp,lp',_⟩:=WU ha;obtain ⟨q,cb,nq,vq,lq,_⟩:=WU hb;rw [<-vp,<-vq];by_cases h:p.length=q.length
 ·refine go tt [.k ca,.k cb,.f (by simp [Un,h])] rfl (by simp [Ul,Gx,Un] <;> omega) ?_;refine W5 (S:=Int) 0 (λL1 i=>(5,.v (.oi i))::L1) (λ_=>[]) (λi=>(i+1).toNat) (λi=>-1<=i/\i<p.length/\p.drop (i+1).toNat=q.drop (i+1).toNat) (((lm p).length:Int)-1) ⟨by omega,by simp [Un]; omega,by simp [Un,h]⟩ rfl rfl λi ⟨h1,h2,h3⟩=>?_
  rcases Wg i 0 with hi | hi
  ·obtain rfl:i=-1:=by omega
   exact W0 [.f (by decide)] rfl (by rw [Qgo]; exact congrArg val (by simpa using h3)) trivial
  ·obtain ⟨k,rfl⟩:=V6 hi;have e:((k:Int)+1).toNat=k+1:=by omega
   rw [e] at h3;obtain ⟨x,hx⟩:=gxE (l:=p) (i:=k) (by omega);obtain ⟨y,hy⟩:=gxE (l:=q) (i:=k) (by omega);rcases V7 x y with hxy | rfl | hxy
   ·exact W0 [.t (by simp),.x (Gg hx),.x (Gg hy),.t (by simp; omega)] rfl (by rw [tL (nD np.1 h3 hx hy hxy)]) (by simp [Ul,Gx,Un] <;> omega)
   ·refine go tt [.t (by simp),.x (Gg hx),.x (Gg hy),.f (by simp),.x (Gg hx),.x (Gg hy),.f (by simp)] rfl (by simp [Ul,Gx,Un] <;> omega) ?_;exact rd ((k:Int)-1) (by omega) ⟨by omega,by omega,by rw [show ((k:Int)-1+1).toNat=k from by omega]; exact cT h3 hx hy⟩ rfl
   ·exact W0 [.t (by simp),.x (Gg hx),.x (Gg hy),.f (by simp; omega),.x (Gg hx),.x (Gg hy),.t (by simp; omega)] rfl (by rw [tD (nD nq.1 h3.symm hy hx hxy)]) (by simp [Ul,Gx,Un] <;> omega)
 ·by_cases h2:p.length<q.length
  ·exact W0 [.k ca,.k cb,.t (by simp [Un]; omega),.t (by simp [Un]; omega)] rfl (by rw [tL (B6 np nq h2)]) (by simp [Ul,Gx])
  ·exact W0 [.k ca,.k cb,.t (by simp [Un]; omega),.f (by simp [Un]; omega)] rfl (by rw [tD (B6 nq np (by omega))]) (by simp [Ul,Gx])
theorem JP (m:Nat):List.replicate m [LV.int .u32 0]=lm (List.replicate m 0):=by simp [lm]
theorem Na (l:Ub) (i x:Nat):(lm l).set i [.int .u32 (x:Int)]=lm (l.set i x):=by simp [lm,Kr]
theorem Bv {a b:Int} (h:a=b):TV.one (LV.int .u64 a)=.one (.int .u64 b):=h ▸ rfl
theorem Li {a b:Int} (h:a=b):TV.one (LV.int .u32 a)=.one (.int .u32 b):=h ▸ rfl
theorem eI {a b:Int} (h:a=b):TV.one (LV.int .i64 a)=.oi b:=h ▸ rfl
theorem LR (z:Int):IntKind.u32.wrap z=z % 4294967296:=by simp [IntKind.wrap,IntKind.bits,IntKind.signed]
theorem lY (z:Int):IntKind.u64.wrap z=z % 18446744073709551616:=by simp [IntKind.wrap,IntKind.bits,IntKind.signed]
theorem Qjt {a b:Ub} (ha:Sm a) (hb:Sm b) (h1:sz (val a)<=4294967296) (h2:sz (val b)<=4294967296):W6 225 [lr a,lr b] [lr (U9 (val a+val b))]:=by
 refine Fl func225 rfl ?_;obtain ⟨p,ca,np,vp,_,ep⟩:=WU ha;obtain ⟨q,cb,nq,vq,_,eq⟩:=WU hb;have lp':=Re h1;have lq:=Re h2;rw [<-ep] at lp';rw [<-eq] at lq;rw [<-vp,<-vq];refine Wy [.k ca,.k cb] rfl ?_;refine ct 1 (S:=Ub×Ub) (λs=>[(0,.v (lr s.1)),(1,.v (lr s.2))]) (λ_=>[]) (λs=>qQ s.1/\qQ s.2/\32*s.1.length<=4294967327/\s.2.length<=s.1.length/\val s.1+val s.2=val p+val q) rfl ?_ ?_
 ·by_cases h:p.length<q.length
  ·exact go tt [.t (by simp [Un]; omega)] rfl trivial (rc (q,p) ⟨nq,np,lq,J7 h,Jk _ _⟩ rfl)
  ·exact go tt [.f (by simp [Un]; omega)] rfl trivial (rc (p,q) ⟨np,nq,lp',Jx h,rfl⟩ rfl)
 ·intro ⟨p',q'⟩ ⟨np,nq,hp,hq,e⟩;dsimp only at np nq hp hq e;rw [<-e];clear ca cb e vp vq ep eq;refine go tt [.i ((lm p').length+1),.i ((lm p').length+1)] rfl (by simp [Ul,Gx,Un] <;> omega) ?_;rw [JP];refine lp (S:=Nat×Ub×Nat) 1 (λL1 s=>(27,.v (.oi (s.1:Int)))::(6,.v (.one (.int .u64 (s.2.2:Int))))::L1) (λs=>[.row false 111 1 (lm s.2.1)]) (λs=>p'.length-s.1)
   (λs=>s.1<=p'.length/\s.2.1.length=p'.length+1/\Sm s.2.1/\s.2.2<=1/\val (s.2.1.take s.1)+s.2.2*4294967296^s.1=val (p'.take s.1)+val (q'.take s.1)) (0,List.replicate ((lm p').length+1) 0,0)
   ⟨Qi _,by simp [Un],λx hx=>by rw [Z0 hx]; decide,Qi _,by simp [val]⟩ rfl (λ_ _=>rfl) rfl λ⟨i,o,c⟩ ⟨j1,j2,j3,j4,j5⟩=>?_
  dsimp only at j1 j2 j3 j4 j5 ⊢;by_cases hi:i<p'.length
  ·obtain ⟨x,hx⟩:=gxE (l:=p') (i:=i) hi;have xb:=np.1 x (Qa hx);have fin:∀ y s,(q'[i]? = some y\/q'.length<=i/\y=0)->y<4294967296->s=x+c+y->p'.length-(i+1)<p'.length-i/\i+1<=p'.length/\(o.set i (s % 4294967296)).length=p'.length+1/\Sm (o.set i (s % 4294967296))/\s / 4294967296<=1 /\
    val ((o.set i (s % 4294967296)).take (i+1))+s / 4294967296*4294967296^(i+1)=val (p'.take (i+1))+val (q'.take (i+1)):=λy s hy hyb hs =>
    ⟨by omega,hi,by simp [j2],Mi j3 i _ (by omega),by omega,qZ (by omega) hx hy j5 hs⟩
   by_cases hi2:i<q'.length
   ·obtain ⟨y,hy⟩:=gxE (l:=q') (i:=i) hi2;have yb:=nq.1 y (Qa hy);refine go tt [.t (by simp [Un]; omega),.x (Gg hx),.t (by simp [Un]; omega),.x (Gg hy),.w 2,.r 50 (v:=.one (.int .u32 (((x+c+y) % 4294967296:Nat):Int))) (by simp [IntKind.wrap,IntKind.bits,IntKind.signed]),.i 32,.r 52 (v:=.one (.int .u64 (((x+c+y) / 4294967296:Nat):Int))) (by simp),.i i] rfl (by simp [Ul,Gx,Un,IntKind.bits] <;> omega) ?_;rw [Na];exact rd (i+1,o.set i ((x+c+y) % 4294967296),(x+c+y) / 4294967296) (fin y _ (.inl hy) yb rfl).1 (fin y _ (.inl hy) yb rfl).2 rfl
   ·refine go tt [.t (by simp [Un]; omega),.x (Gg hx),.f (by simp [Un]; omega),.w 0,.r 50 (v:=.one (.int .u32 (((x+c+0) % 4294967296:Nat):Int))) (by simp [IntKind.wrap,IntKind.bits,IntKind.signed]),.i 32,.r 52 (v:=.one (.int .u64 (((x+c+0) / 4294967296:Nat):Int))) (by simp),.i i] rfl (by simp [Ul,Gx,Un,IntKind.bits] <;> omega) ?_;rw [Na];exact rd (i+1,o.set i ((x+c+0) % 4294967296),(x+c+0) / 4294967296) (fin 0 _ (.inr ⟨by omega,rfl⟩) (by decide) rfl).1 (fin 0 _ (.inr ⟨by omega,rfl⟩) (by decide) rfl).2 rfl
  ·obtain rfl:i=p'.length:=by omega
   refine go tt [.f (by simp [Un]),.w 0,.r 59 (v:=.one (.int .u32 (c:Int))) (by simp [IntKind.wrap,IntKind.bits,IntKind.signed]; omega),.i (lm p').length] rfl (by simp [Ul,Gx,Un,j2]) ?_;rw [Un,Na];have e:val (o.set p'.length c)=val p'+val q':=by
    have h1:=Ix o p'.length c (by omega);rw [Qw (by simp; omega)] at h1;rw [Qw (Qn _),Qw hq] at j5;rw [h1,<-j5,Zo]
   rw [<-e];exact W0 [.k (XX (Mi j3 _ c (by omega)))] rfl
theorem qA {x y:Nat}:WY x y<0↔x<y:=by unfold WY; split <;> (try split) <;> omega
theorem Qjx {a b:Ub} (ha:Sm a) (hb:Sm b) (h1:sz (val a)<=4294967296):W6 226 [lr a,lr b] (if val b<=val a then [lr (U9 (val a-val b)),.one (.bool true)] else [lr [],.one (.bool false)]):=by
 refine Fl func226 rfl ?_;obtain ⟨p,ca,np,vp,_,ep⟩:=WU ha;obtain ⟨q,cb,nq,vq,_,_⟩:=WU hb;have hp:=Re h1;rw [<-ep] at hp;rw [<-vp,<-vq];have cc:=eW np.1 nq.1;by_cases hlt:val p<val q
 ·rw [if_neg (by omega)];exact W0 [.k ca,.k cb,.k cc,.t (by simpa using qA.2 hlt)] rfl
 rw [if_pos (by omega)];have hq:q.length<=p.length:=Jx λh=>hlt (B6 np nq h)
 refine go tt [.k ca,.k cb,.k cc,.f (by have:=mt qA.1 hlt; simpa using this),.i (lm p).length,.i (lm p).length] rfl (by simp [Ul,Gx,Un] <;> omega) ?_;rw [JP];refine lp (S:=Nat×Ub×Nat) 1 (λL1 s=>(24,.v (.oi (s.1:Int)))::(7,.v (.one (.int .u64 (s.2.2:Int))))::L1) (λs=>[.row false 111 1 (lm s.2.1)]) (λs=>p.length-s.1)
  (λs=>s.1<=p.length/\s.2.1.length=p.length/\Sm s.2.1/\s.2.2<=1/\val (s.2.1.take s.1)+val (q.take s.1)=val (p.take s.1)+s.2.2*4294967296^s.1) (0,List.replicate (lm p).length 0,0)
  ⟨Qi _,by simp [Un],λx hx=>by rw [Z0 hx]; decide,Qi _,by simp [val]⟩ rfl (λ_ _=>rfl) rfl λ⟨i,o,c⟩ ⟨j1,j2,j3,j4,j5⟩=>?_
 dsimp only at j1 j2 j3 j4 j5 ⊢;by_cases hi:i<p.length
 ·obtain ⟨x,hx⟩:=gxE (l:=p) (i:=i) hi;have xb:=np.1 x (Qa hx);have fin:∀ y s,(q[i]? = some y\/q.length<=i/\y=0)->y<4294967296->s=(x+18446744073709551616-c-y) % 18446744073709551616->p.length-(i+1)<p.length-i/\i+1<=p.length/\(o.set i (s % 4294967296)).length=p.length/\Sm (o.set i (s % 4294967296))/\s / 9223372036854775808<=1 /\
   val ((o.set i (s % 4294967296)).take (i+1))+val (q.take (i+1))=val (p.take (i+1))+s / 9223372036854775808*4294967296^(i+1):=λy s hy hyb hs=>by
   obtain ⟨h1,h2⟩:=Qd5 (o:=o) (by omega) hx hy xb hyb j4 j5 hs;exact ⟨by omega,hi,by simp [j2],Mi j3 i _ (by omega),h2,h1⟩
  by_cases hi2:i<q.length
  ·obtain ⟨y,hy⟩:=gxE (l:=q) (i:=i) hi2;have yb:=nq.1 y (Qa hy);obtain ⟨s,hs⟩:=nmE ((x+18446744073709551616-c-y) % 18446744073709551616);refine go tt [.t (by simp [Un]; omega),.x (Gg hx),.w 1,.r 32 (Bv (b:=(((x+18446744073709551616-c) % 18446744073709551616:Nat):Int)) (by rw [lY]; omega)),.t (by simp [Un]; omega),.x (Gg hy),.w 1,.r 43 (Bv (b:=(s:Int)) (by rw [lY]; omega)),.w 0,.r 47 (Li (b:=((s % 4294967296:Nat):Int)) (by rw [LR]; omega)),.i 63,.r 49 (Bv (b:=((s / 9223372036854775808:Nat):Int)) (by simp)),.i i] rfl (by simp [Ul,Gx,Un,IntKind.bits] <;> omega) ?_;rw [Na];exact rd (i+1,o.set i (s % 4294967296),s / 9223372036854775808) (fin y _ (.inl hy) yb hs).1 (fin y _ (.inl hy) yb hs).2 rfl
  ·obtain ⟨s,hs⟩:=nmE ((x+18446744073709551616-c-0) % 18446744073709551616);have hf:=fin 0 _ (.inr ⟨by omega,rfl⟩) (by decide) hs;refine go tt [.t (by simp [Un]; omega),.x (Gg hx),.w 1,.r 32 (Bv (b:=(s:Int)) (by rw [lY]; omega)),.f (by simp [Un]; omega),.w 0,.r 47 (Li (b:=((s % 4294967296:Nat):Int)) (by rw [LR]; omega)),.i 63,.r 49 (Bv (b:=((s / 9223372036854775808:Nat):Int)) (by simp)),.i i] rfl (by simp [Ul,Gx,Un,IntKind.bits] <;> omega) ?_;rw [Na];exact rd (i+1,o.set i (s % 4294967296),s / 9223372036854775808) hf.1 hf.2 rfl
 ·obtain rfl:i=p.length:=by omega
  have e:val o=val p-val q:=by
   rw [Qw (Nat.le_of_eq j2),Qw hq,Qw (Qn _)] at j5;have h1:=Bq o j3;rw [j2] at h1;rcases Nat.le_one_iff_eq_zero_or_eq_one.1 j4 with rfl | rfl <;> omega
  rw [<-e];exact W0 [.f (by simp [Un]),.k (XX j3)] rfl
theorem Qo1 {a b:Ub} (ha:Sm a) (hb:Sm b) (h1:sz (val a)<=4294967296) (h2:sz (val b)<=4294967296):W6 184 [lr a,lr b] [lr (U9 (val a*val b))]:=by
 refine Fl func184 rfl ?_;obtain ⟨p,ca,np,vp,_,ep⟩:=WU ha;obtain ⟨q,cb,nq,vq,_,eq⟩:=WU hb;have hp:=Re h1;have hq:=Re h2;rw [<-ep] at hp;rw [<-eq] at hq;rw [<-vp,<-vq];refine go tt [.k ca,.k cb,.i ((lm p).length+(lm q).length),.i ((lm p).length+(lm q).length)] rfl (by simp [Ul,Gx,Un] <;> omega) ?_;rw [JP];refine lp (S:=Nat×Ub) 1 (λL1 s=>(24,.v (.oi (s.1:Int)))::L1) (λs=>[.row false 111 1 (lm s.2)]) (λs=>p.length-s.1)
  (λs=>s.1<=p.length/\s.2.length=p.length+q.length/\Sm s.2/\(∀ j,s.1+q.length<=j->j<s.2.length->s.2[j]? = some 0)/\val s.2=val (p.take s.1)*val q) (0,List.replicate ((lm p).length+(lm q).length) 0)
  ⟨Qi _,by simp [Un],λx hx=>by rw [Z0 hx]; decide,λj _ hj=>by rw [Jn,if_pos (by simpa using hj)],by simp [val,UL]⟩ rfl (λ_ _=>rfl) rfl λ⟨i,o⟩ ⟨j1,j2,j3,j4,j5⟩=>?_
 dsimp only at j1 j2 j3 j4 j5 ⊢;by_cases hi:i<p.length
 ·obtain ⟨x,hx⟩:=gxE (l:=p) (i:=i) hi;have xb:=np.1 x (Qa hx);refine Wy [.t (by simp [Un]; omega),.x (Gg hx)] rfl ?_;refine lp (S:=Nat×Ub×Nat) 1 (λL1 s=>(31,.v (.oi (s.1:Int)))::(8,.v (.one (.int .u64 (s.2.2:Int))))::L1) (λs=>[.row false 111 1 (lm s.2.1)]) (λs=>q.length-s.1)
   (λs=>s.1<=q.length/\s.2.1.length=p.length+q.length/\Sm s.2.1/\(∀ j,i+q.length<=j->j<s.2.1.length->s.2.1[j]? = some 0)/\s.2.2<4294967296/\val s.2.1+s.2.2*4294967296^(i+s.1)=val (p.take i)*val q+4294967296^i*x*val (q.take s.1)) (0,o,0)
   ⟨Qi _,j2,j3,j4,by simp,by simp [val,j5]⟩ rfl (λ_ _=>rfl) rfl λ⟨k,o',c⟩ ⟨k1,k2,k3,k4,k5,k6⟩=>?_
  dsimp only at k1 k2 k3 k4 k5 k6 ⊢;by_cases hk:k<q.length
  ·obtain ⟨y,hy⟩:=gxE (l:=q) (i:=k) hk;have yb:=nq.1 y (Qa hy);obtain ⟨z,hz⟩:=gxE (l:=o') (i:=i+k) (by omega);have zb:=k3 z (Qa hz);have hm:=O1 xb yb;have hm2:(x:Int)*(y:Int)=((x*y:Nat):Int):=by push_cast; rfl
   obtain ⟨s,hs⟩:=nmE (x*y+z+c);refine go tt [.t (by simp [Un]; omega),.x (Gg hy),.r 40 (Bv (b:=((x*y:Nat):Int)) (by push_cast; rfl)),.i (i+k),.x (Gg hz),.r 50 (Bv (b:=(s:Int)) (by omega)),.w 1,.r 56 (Li (b:=((s % 4294967296:Nat):Int)) (by rw [LR]; omega)),.i 32,.r 58 (Bv (b:=((s / 4294967296:Nat):Int)) (by simp)),.i (i+k)] rfl ?_ ?_
   ·simp [Ul,Gx,Un,IntKind.bits] <;> omega
   ·rw [Na];exact rd (k+1,o'.set (i+k) (s % 4294967296),s / 4294967296) (show q.length-(k+1)<q.length-k by omega) ⟨hk,by simp [k2],Mi k3 _ _ (by omega),λj h3 h4=>by
     rw [Vm (by omega)]; exact k4 j h3 (by simpa using h4),(show s / 4294967296<4294967296 from by omega),Qb8 hz hy k6 hs⟩ rfl
  ·obtain rfl:k=q.length:=by omega
   by_cases hq0:0<q.length
   ·refine go tt [.f (by simp [Un]),.t (by simp [Un]; omega),.w 1,.r 70 (Li (b:=((c % 4294967296:Nat):Int)) (by rw [LR]; omega)),.i (i+(lm q).length)] rfl (by simp [Ul,Gx,Un,IntKind.bits] <;> omega) ?_;rw [Na];refine rd (i+1,o'.set (i+(lm q).length) (c % 4294967296)) (show p.length-(i+1)<p.length-i by omega) ⟨hi,by simp [k2],Mi k3 _ _ (by omega),λj h3 h4=>?_,?_⟩ rfl
    ·rw [Un,List.getElem?_set_ne (by dsimp only at h3; omega)];exact k4 j (by dsimp only at h3; omega) (by simpa using h4)
    ·rw [Un];exact Qb7 (k4 _ (Qn _) (by omega)) hx k5 rfl k6
   ·have q0:q=[]:=Qh (by omega);refine go tt [.f (by simp [Un]),.f (by simp [Un,q0])] rfl (by simp [Ul,Gx,Un,IntKind.bits] <;> omega) ?_;refine rd (i+1,o') (show p.length-(i+1)<p.length-i by omega) ⟨hi,k2,k3,λj h3 h4=>k4 j (by dsimp only at h3; omega) h4,?_⟩ rfl;have c0:c*4294967296^(i+q.length)=0/\val o'=0:=by
     subst q0;simp only [val,List.take_nil,Y3] at k6;omega
    rw [c0.2,q0]; rfl
 ·obtain rfl:i=p.length:=by omega
  rw [Qw (Qn _)] at j5;rw [<-j5];exact W0 [.f (by simp [Un]),.k (XX j3)] rfl
theorem o64 {k q:Nat} (hq:q<4294967296) (hb:4294967296*k+q<18446744073709551616):orI .u64 ((4294967296*k:Nat):Int) (q:Int)=((4294967296*k+q:Nat):Int):=by
 have e1:(BitVec.ofInt 64 ((4294967296*k:Nat):Int)).toNat=4294967296*k:=by rw [BitVec.toNat_ofInt]; omega
 have e2:(BitVec.ofInt 64 (q:Int)).toNat=q:=by rw [BitVec.toNat_ofInt]; omega
 show IntKind.u64.wrap ((BitVec.ofInt 64 ((4294967296*k:Nat):Int) ||| BitVec.ofInt 64 (q:Int)).toNat:Int)=_;rw [BitVec.toNat_or,e1,e2,Qnh hq,lY]; omega
theorem oM {k p:Nat} (hp:p<4294967296) (hb:4294967296*k+p<18446744073709551616):orI .u64 (p:Int) ((4294967296*k:Nat):Int)=((4294967296*k+p:Nat):Int):=by
 have:=o64 hp hb;unfold orI at this ⊢;rw [BitVec.or_comm]; exact this
theorem o32 {s k p:Nat} (hp:p<2^s) (h1:p<4294967296) (h2:2^s*k<4294967296) (hb:p+2^s*k<4294967296):orI .u32 (p:Int) ((2^s*k:Nat):Int)=((p+2^s*k:Nat):Int):=by
 have e1:(BitVec.ofInt 32 ((2^s*k:Nat):Int)).toNat=2^s*k:=by rw [BitVec.toNat_ofInt]; omega
 have e2:(BitVec.ofInt 32 (p:Int)).toNat=p:=by rw [BitVec.toNat_ofInt]; omega
 have e3:p ||| 2^s*k=p+2^s*k:=by
  have:=K9 (i:=s) (b:=p) hp k;rw [Nat.or_comm,<-this,Jk]
 show IntKind.u32.wrap ((BitVec.ofInt 32 (p:Int) ||| BitVec.ofInt 32 ((2^s*k:Nat):Int)).toNat:Int)=_;rw [BitVec.toNat_or,e1,e2,e3,LR]; omega
theorem Qpc {l:Ub} {v:Nat} (hl:Sm l) (hn:l.length<274877906944) (h0:0<v) (hv:v<4294967296):W6 220 [lr l,.one (.int .u32 (v:Int))] [lr (U9 (val l / v)),.one (.int .u32 ((val l % v:Nat):Int))]:=by
 refine Fl func220 rfl ?_;refine go tt [.i (lm l).length,.i (lm l).length] rfl (by simp [Ul,Gx,Un] <;> omega) ?_;rw [JP];refine lp (S:=Int×Ub×Nat) 1 (λL1 s=>(8,.v (.oi s.1))::(7,.v (.one (.int .u64 (s.2.2:Int))))::L1) (λs=>[.row false 111 1 (lm s.2.1)]) (λs=>(s.1+1).toNat)
  (λs=>-1<=s.1/\s.1<l.length/\s.2.1.length=l.length/\Sm s.2.1/\s.2.2<v/\val (l.drop (s.1+1).toNat)=v*val (s.2.1.drop (s.1+1).toNat)+s.2.2) (((lm l).length:Int)-1,List.replicate (lm l).length 0,0)
  ⟨by simp [Un]; omega,by simp [Un]; omega,by simp [Un],λx hx=>by rw [Z0 hx]; decide,h0,by simp [Un,val]⟩ rfl (λ_ _=>rfl) rfl λ⟨i,o,r⟩ ⟨j1,j2,j3,j4,j5,j6⟩=>?_
 dsimp only at j1 j2 j3 j4 j5 j6 ⊢;rcases Wg i 0 with hi | hi
 ·obtain rfl:i=-1:=by omega
  simp only [show ((-1:Int)+1).toNat=0 from rfl,Yi] at j6;have e1:val l / v=val o:=by rw [j6,Wp h0,Vp j5,Xw]
  have e2:val l % v=r:=by rw [j6,Wq,Xp j5]
  rw [e1,e2];exact W0 [.f (by decide),.k (XX j4)] rfl rfl (by simp [Ul,Gx,Un,IntKind.bits] <;> omega)
 ·obtain ⟨k,rfl⟩:=V6 hi;have e:((k:Int)+1).toNat=k+1:=by omega
  rw [e] at j6;obtain ⟨x,hx⟩:=gxE (l:=l) (i:=k) (by omega);have xb:=hl x (Qa hx);obtain ⟨s,hs⟩:=nmE (r*4294967296+x);obtain ⟨k1,k2,k3⟩:=Qci hx xb (show k<o.length by omega) h0 j5 j6 hs;obtain ⟨q,hq⟩:=nmE (s / v);obtain ⟨u,hu⟩:=nmE (s % v);have hqi:(s:Int).tdiv v=(q:Int):=by rw [Vr (by omega),hq]; rfl
  have hui:(s:Int).tmod v=(u:Int):=by rw [Vs (by omega),hu]; rfl
  rw [<-hq,<-hu] at k3;rw [<-hq] at k1;rw [<-hu] at k2;refine go tt [.t (by simp),.i 32,.r 21 (Bv (b:=((4294967296*r:Nat):Int)) (by omega)),.x (Gg hx),.r 27 (Bv (b:=(s:Int)) (by rw [o64 xb (by omega)]; omega)),
   .r 33 (Bv (b:=(q:Int)) hqi),.w 0,.r 34 (Li (b:=((q % 4294967296:Nat):Int)) (by rw [LR]; omega)),.r 38 (Bv (b:=(u:Int)) hui),.i k] rfl (by simp [Ul,Gx,Un,IntKind.bits,hqi] <;> omega) ?_
  rw [Na];exact rd ((k:Int)-1,o.set k (q % 4294967296),u) (by dsimp only; omega) ⟨by dsimp only; omega,by dsimp only; omega,by simp [j3],Mi j4 _ _ (by omega),k2,by dsimp only; rw [show ((k:Int)-1+1).toNat=k from by omega]; exact k3⟩ rfl
theorem YK {i:Nat} {s:ByteArray} (h:∀ i,i<256->(s[i]?).map (·.toNat)=some (sz i)) (hi:i<256):(s[i]?).map (·.toNat)=some (sz i):=h i hi
set_option maxRecDepth 100000 in
theorem rD {x:Nat} (hx:x<4294967296):W6 238 [.one (.int .u32 (x:Int))] [.oi (sz x:Int)]:=by
 refine Fl func238 rfl ?_;have h31:sz x<=32:=Nz.2 (by omega);by_cases h1:65536<=x
 ·have e1:sz x=16+sz (x / 2^16):=KY (by omega);obtain ⟨y,hy⟩:=nmE (x / 2^16);rw [<-hy] at e1;by_cases h2:256<=y
  ·have e2:sz y=8+sz (y / 2^8):=KY (by omega);obtain ⟨z,hz⟩:=nmE (y / 2^8);rw [<-hz] at e2;exact W0 [.t (by simp; omega),.i 16,.r 6 (Li (b:=(y:Int)) (by simp [hy])),.t (by simp; omega),.i 8,.r 10 (Li (b:=(z:Int)) (by simp [hz])),.y (YK (i:=z) (by decide) (by omega))] rfl (by rw [e1,e2]; simp; omega) (by simp [Ul,Gx,IntKind.bits] <;> omega)
  ·exact W0 [.t (by simp; omega),.i 16,.r 6 (Li (b:=(y:Int)) (by simp [hy])),.f (by simp; omega),.y (YK (i:=y) (by decide) (by omega))] rfl (by rw [e1]; simp) (by simp [Ul,Gx,IntKind.bits] <;> omega)
 ·by_cases h2:256<=x
  ·have e2:sz x=8+sz (x / 2^8):=KY (by omega);obtain ⟨z,hz⟩:=nmE (x / 2^8);rw [<-hz] at e2;exact W0 [.f (by simp; omega),.t (by simp; omega),.i 8,.r 10 (Li (b:=(z:Int)) (by simp [hz])),.y (YK (i:=z) (by decide) (by omega))] rfl (by rw [e2]; simp) (by simp [Ul,Gx,IntKind.bits] <;> omega)
  ·exact W0 [.f (by simp; omega),.f (by simp; omega),.y (YK (i:=x) (by decide) (by omega))] rfl (by simp) (by simp [Ul,Gx,IntKind.bits] <;> omega)
theorem Qlm {x:Nat} (hx:x<4294967296):W6 221 [.one (.int .u32 (x:Int))] [.oi ((32-sz x:Nat):Int)]:=by
 have h31:sz x<=32:=Nz.2 (by omega);exact W3 func221 rfl [.k (rD hx)] rfl (by simp; omega) (by simp [Ul,Gx] <;> omega)
theorem kO {l:Ub} (hl:Sm l) (hs:sz (val l)<=4294967296):W6 191 [lr l] [.oi (sz (val l):Int)]:=by
 refine Fl func191 rfl ?_;obtain ⟨p,ca,np,vp,_,ep⟩:=WU hl;have hp:=Re hs;rw [<-ep] at hp;rw [<-vp] at hs ⊢;by_cases h0:p=[]
 ·subst h0;exact W0 [.k ca,.t (by simp [lm])] rfl rfl (by simp [Ul,Gx])
 ·have hpl:0<p.length:=Jt.2 h0;obtain ⟨x,hx,hx0⟩:=np.2 h0;have xb:=np.1 x (Qa hx);have e:=gI np hx;have h31:sz x<=32:=Nz.2 (by omega);have hn:(lm p).length≠0:=by rw [Un]; omega
  refine W0 [.k ca,.f (by simp [Un]; omega),.r 15 (eI (b:=((p.length-1:Nat):Int)) (by rw [Un]; omega)),.x (Gg hx),.k (rD xb)] rfl (by rw [e,Un]; simp; omega) (by simp [Ul,Gx,Un] <;> omega)
theorem yG {s:Nat} (h:s<=31):((s:Nat):Int).tdiv 32=((0:Nat):Int):=by
 rw [Vr (by omega)]; omega
theorem Qc9 {s:Nat} (h:s<=31):((s:Nat):Int).tmod 32=(s:Int):=Int.tmod_eq_of_lt (by omega) (by omega)
theorem Qm6 {s:Nat} (h:s<=31):max 0 (min (s:Int) 65536)=(s:Int):=by omega
theorem Qo5 {a:Ub} {s:Nat} (ha:Sm a) (h1:sz (val a)<=4294967400) (hs:s<=31):W6 257 [lr a,.oi s] [lr (U9 (val a*2^s))]:=by
 refine Fl func257 rfl ?_;obtain ⟨p,ca,np,vp,_,ep⟩:=WU ha;have hp:=Re h1;rw [<-ep] at hp;rw [<-vp];have hq:((s:Nat):Int).tdiv 32=0:=yG hs;by_cases h0:p=[]
 ·subst h0;exact W0 [.k ca,.t (by simp [lm])] rfl (by simp [val,Gf,lm]) (by simp [Ul,Gx])
 have hpl:0<p.length:=Jt.2 h0;refine go tt [.k ca,.r 15 (eI (b:=(s:Int)) (Qm6 hs)),.f (by simp [Un]; omega),.r 20 (eI (b:=((0:Nat):Int)) (yG hs)),.r 22 (eI (b:=(s:Int)) (Qc9 hs)),.r 28 (eI (b:=(((lm p).length+1:Nat):Int)) (by omega)),.i ((lm p).length+1),.i ((lm p).length+1)] rfl (by have e:=Un p; simp only [Ul,Gx]; omega) ?_;rw [JP];refine lp (S:=Nat×Ub) 1 (λL1 s=>(32,.v (.oi (s.1:Int)))::L1) (λs=>[.row false 111 1 (lm s.2)]) (λs=>p.length-s.1)
  (λr=>r.1<=p.length/\r.2.length=p.length+1/\Sm r.2/\(∃ z,r.2[r.1]? = some z/\z<2^s)/\val (r.2.take (r.1+1))=val (p.take r.1)*2^s) (0,List.replicate ((lm p).length+1) 0)
  ⟨Qi _,by simp [Un],λx hx=>by rw [Z0 hx]; decide,⟨0,by simp,Zy (by decide)⟩,by simp [val,Yg]⟩ rfl (λ_ _=>rfl) rfl λ⟨i,o⟩ ⟨j1,j2,j3,⟨z,hz,hzs⟩,j5⟩=>?_
 dsimp only at j1 j2 j3 hz hzs j5 ⊢;by_cases hi:i<p.length
 ·obtain ⟨x,hx⟩:=gxE (l:=p) (i:=i) hi;have xb:=np.1 x (Qa hx);have zb:=j3 z (Qa hz);obtain ⟨k1,k2,k3,k4⟩:=Qdt hs hx xb hz hzs (by omega) j5;have hxs:=Qnt hs xb;have h31:2^s<=2^31:=Zr (by decide) hs;have ec:(x:Int)*2^s=((x*2^s:Nat):Int):=by push_cast; rfl
  obtain ⟨m,hm⟩:=nmE (x*2^s);rw [<-hm] at k1 k2 k3 k4 hxs ec;refine go tt [.t (by simp [Un]; omega),.x (Gg hx),.i s,.r 40 (Bv (b:=(m:Int)) ec),.i i,.x (Gg hz),.w 0,.r 52 (Li (b:=((m % 4294967296:Nat):Int)) (by rw [LR]; omega)),.r 53 (Li (b:=((z+m % 4294967296:Nat):Int)) (by rw [k4,o32 hzs zb (by omega) (by omega)])),.i i,
   .i 32,.r 61 (Bv (b:=((m / 2^32:Nat):Int)) (by simp)),.w 0,.r 62 (Li (b:=((m / 2^32 % 4294967296:Nat):Int)) (by rw [LR]; omega)),.i (i+1)] rfl (by simp [Ul,Gx,Un,IntKind.bits,ec] <;> omega) ?_
  rw [Na,Na];exact rd (i+1,(o.set i (z+m % 4294967296)).set (i+1) (m / 2^32 % 4294967296)) (show p.length-(i+1)<p.length-i by omega) ⟨hi,by simp [j2],Mi (Mi j3 _ _ (by omega)) _ _ (by omega),⟨_,by rw [X3 (by simp; omega)],by omega⟩,k3⟩ rfl
 ·obtain rfl:i=p.length:=by omega
  rw [Qw (by omega),Qw (Qn _)] at j5;rw [<-j5];exact W0 [.f (by simp [Un]),.k (XX j3)] rfl
theorem Qo6 {a:Ub} {s:Nat} (ha:Sm a) (h1:sz (val a)<=4294967400) (hs:s<=31):W6 224 [lr a,.oi s] [lr (U9 (val a / 2^s))]:=by
 refine Fl func224 rfl ?_;obtain ⟨p,ca,np,vp,_,ep⟩:=WU ha;have hp:=Re h1;rw [<-ep] at hp;rw [<-vp];have hq:((s:Nat):Int).tdiv 32=0:=yG hs;by_cases h0:p=[]
 ·subst h0;exact W0 [.k ca,.r 14 (eI (b:=(s:Int)) (Qm6 hs)),.r 16 (eI (b:=((0:Nat):Int)) (yG hs)),.r 18 (eI (b:=(s:Int)) (Qc9 hs)),.t (by simp [lm])] rfl (by simp [val,Gf,lm]) (by simp only [Ul,Gx]; omega)
 have hpl:0<p.length:=Jt.2 h0;refine go tt [.k ca,.r 14 (eI (b:=(s:Int)) (Qm6 hs)),.r 16 (eI (b:=((0:Nat):Int)) (yG hs)),.r 18 (eI (b:=(s:Int)) (Qc9 hs)),.f (by simp [Un]; omega),.r 27 (eI (b:=((lm p).length:Int)) (by omega)),.i (lm p).length,.i (lm p).length] rfl (by have e:=Un p; simp only [Ul,Gx]; omega) ?_;rw [JP];refine lp (S:=Nat×Ub) 1 (λL1 s=>(31,.v (.oi (s.1:Int)))::L1) (λs=>[.row false 111 1 (lm s.2)]) (λs=>p.length-s.1)
  (λr=>r.1<=p.length/\r.2.length=p.length/\Sm r.2/\val (r.2.take r.1)=val p / 2^s % 4294967296^r.1) (0,List.replicate (lm p).length 0)
  ⟨Qi _,by simp [Un],λx hx=>by rw [Z0 hx]; decide,by simp [val]; omega⟩ rfl (λ_ _=>rfl) rfl λ⟨i,o⟩ ⟨j1,j2,j3,j5⟩=>?_
 dsimp only at j1 j2 j3 j5 ⊢;by_cases hi:i<p.length
 ·obtain ⟨x,hx⟩:=gxE (l:=p) (i:=i) hi;have xb:=np.1 x (Qa hx);have fin:∀ y m,(p[i+1]? = some y\/p.length<=i+1/\y=0)->m=(x+y*2^32) / 2^s->p.length-(i+1)<p.length-i/\i+1<=p.length/\(o.set i (m % 4294967296)).length=p.length/\Sm (o.set i (m % 4294967296))/\val ((o.set i (m % 4294967296)).take (i+1))=val p / 2^s % 4294967296^(i+1):=λy m hy hm =>
   ⟨by omega,hi,by simp [j2],Mi j3 _ _ (by omega),by subst hm; exact Qdu hs hx hy (by omega) np.1 j5⟩
  have hsp:0<2^s:=Zy (by decide);by_cases hy0:i+1<p.length
  ·obtain ⟨y,hy⟩:=gxE (l:=p) (i:=i+1) hy0;have yb:=np.1 y (Qa hy);obtain ⟨v,hv⟩:=nmE (4294967296*y+x);obtain ⟨m,hm⟩:=nmE (v / 2^s);have hml:m<=v:=hm ▸ Jr _ _;have hf:=fin y m (.inl hy) (by rw [hm,hv]; congr 1; omega);refine go tt [.t (by simp [Un]; omega),.x (Gg hx),.t (by simp [Un]; omega),.x (Gg hy),.i 32,.r 57 (Bv (b:=((4294967296*y:Nat):Int)) (by omega)),.r 58 (Bv (b:=(v:Int)) (by rw [oM xb (by omega)]; omega)),
    .i s,.r 63 (Bv (b:=(m:Int)) (by rw [hm]; push_cast; rfl)),.w 0,.r 64 (Li (b:=((m % 4294967296:Nat):Int)) (by rw [LR]; omega)),.i i] rfl (by simp [Ul,Gx,Un,IntKind.bits] <;> omega) ?_
   rw [Na];exact rd (i+1,o.set i (m % 4294967296)) hf.1 hf.2 rfl
  ·obtain ⟨m,hm⟩:=nmE (x / 2^s);have hml:m<=x:=hm ▸ Jr _ _;have hf:=fin 0 m (.inr ⟨by omega,rfl⟩) (by rw [hm]; simp);refine go tt [.t (by simp [Un]; omega),.x (Gg hx),.f (by simp [Un]; omega),
    .i s,.r 63 (Bv (b:=(m:Int)) (by rw [hm]; push_cast; rfl)),.w 0,.r 64 (Li (b:=((m % 4294967296:Nat):Int)) (by rw [LR]; omega)),.i i] rfl (by simp [Ul,Gx,Un,IntKind.bits] <;> omega) ?_
   rw [Na];exact rd (i+1,o.set i (m % 4294967296)) hf.1 hf.2 rfl
 ·obtain rfl:i=p.length:=by omega
  have hvl:=Bq p np.1;rw [Qw (by omega),Xp (Z2 (Jr _ _) hvl)] at j5;rw [<-j5];exact W0 [.f (by simp [Un,j2]),.k (XX j3)] rfl
def zV:Nat->Nat->Ub
 | 0,_=>[]
 | k+1,v=>v % 4294967296::zV k (v / 4294967296)
theorem oC:∀ {l:Ub},Sm l->l=zV l.length (val l)
 | [],_=>rfl
 |
  x::l,h=>by
  have hx:=h x (.head _);have ih:=oC (l:=l) λy hy=>h y (.tail _ hy)
  simp only [Q7,zV,val];rw [show (x+4294967296*val l) % 4294967296=x by omega,show (x+4294967296*val l) / 4294967296=val l by omega,<-ih]
theorem wT {l:Ub} {k v:Nat} (h:Sm l) (hk:l.length=k) (hv:val l=v):zV k v=l:=by
 rw [<-hk,<-hv]; exact (oC h).symm
theorem EM:∀ {k v:Nat},(zV k v).length=k/\Sm (zV k v)/\(v<4294967296^k->val (zV k v)=v)
 | 0,v=>⟨rfl,λx hx=>by (cases hx),λh=>by simp at h; subst h; rfl⟩
 |
  k+1,v=>by
  obtain ⟨h1,h2,h3⟩:=EM (k:=k) (v:=v / 4294967296);refine ⟨by simp [zV,h1],λx hx=>?_,λh=>?_⟩
  ·rcases Qk.1 hx with rfl | hx
   ·exact Z9 _ (by decide)
   ·exact h2 x hx
  ·simp only [zV,val];rw [h3 (by rw [Zq] at h; exact X1 (by rw [Zo]; exact h))];omega
theorem iL {a:Ub} {s n:Nat} (ha:Sm a) (h1:sz (val a)<=4294967400) (hs:s<=31) (hn:n<274877906944) (h0:0<n) (hv:val a*2^s<4294967296^n) :
 Uo prog 222 [lr a,.oi s,.oi n] [] [.one (.orow 0 1 none)] [.row false 111 1 (lm (zV n (val a*2^s)))]:=by
 refine Fl func222 rfl ?_;obtain ⟨v,hvv⟩:=nmE (val a*2^s);have cs:=Qo5 ha h1 hs;rw [<-hvv] at cs hv ⊢;have hl:(U9 v).length<=n:=by
  apply Classical.byContradiction;intro hh;have h2:=VH (Bl v) (λe=>by rw [e] at hh; simp at hh);rw [Gd] at h2;have h3:4294967296^n<=4294967296^((U9 v).length-1):=Zr (by decide) (by omega);omega
 refine go tt [.i n,.i n,.k cs,.s (Qbt (U9 v)),.i (U9 v).length] rfl (by simp [Ul,Gx,Un] <;> omega) ?_;have e:List.take 0 (List.replicate n [LV.int .u32 0])++(List.take (U9 v).length (lm (U9 v))++List.drop (0+(U9 v).length) (List.replicate n [LV.int .u32 0]))=lm (zV n v):=by
  rw [wT (l:=U9 v++List.replicate (n-(U9 v).length) 0) (λx hx=>?_) (by simp; omega) (by rw [Mk,UL,Gd]; simp)]
  ·rw [Vg,J6,Qw (by rw [Un]; exact Qn _)];simp [lm]
  ·rcases Qr.1 hx with hx | hx
   ·exact Cw v x hx
   ·rw [Z0 hx]; decide
 rw [e];exact W4 [] [0] [] rfl
theorem ND {pre x post:Ub} {i u:Nat} (h:x[i]? = some u):(lm (pre++x++post))[pre.length+i]? = some [.int .u32 (u:Int)]:=Gg (by
 have hi:=(Qg.1 h).1;rw [Za,Xe (by omega),Jd,Zl hi]; exact h)
theorem Qeh {pre x post:Ub} {i v:Nat} (h:i<x.length):(lm (pre++x++post)).set (pre.length+i) [.int .u32 (v:Int)]=lm (pre++x.set i v++post):=by
 rw [Na,Za,List.set_append_right _ _ (by omega),Jd,List.set_append_left _ _ h,<-Za]
theorem Qga {pre x post ly:Ub} {top nx xn x1 x2:Nat} (D:Dig x ly ly.length top nx xn x1 x2) (hn:ly.length<274877906944) :
 Uo prog 223 [.one (.orow 0 1 (some (pre.length,x.length))),lr ly] [.row true 111 1 (lm (pre++x++post))] [.one (.int .u32 ((val x / val ly:Nat):Int))] [.row true 111 1 (lm (pre++zV x.length (val x % val ly)++post))]:=by
 refine Fl func223 rfl ?_;have hxl:=D.hx;have hn2:=D.hn;have hb:=D.bnd;obtain ⟨head,hh⟩:=nmE (xn*2^32+x1);obtain ⟨g0,hg0⟩:=nmE (head / top);obtain ⟨r0,hr0⟩:=nmE (head % top);have hst:=D.start;rw [<-hh,<-hg0] at hst;have ht0:=D.top0;have hg0l:g0<=head:=hg0 ▸ Jr _ _;have hr0l:r0<top:=hr0 ▸ Z9 _ ht0;have htd:(head:Int).tdiv top=(g0:Int):=by rw [Vr (by omega),hg0]; rfl
 have htm:(head:Int).tmod top=(r0:Int):=by rw [Vs (by omega),hr0]; rfl
 refine go tt [.r 23 (eI (b:=(ly.length:Int)) (by rw [Un])),.r 26 (eI (b:=((ly.length-1:Nat):Int)) (by omega)),.x (Gg D.ltop),.r 32 (eI (b:=((ly.length-2:Nat):Int)) (by omega)),.x (Gg D.lnx),
  .i ly.length,.x (ND D.xn),.i 32,.r 41 (Bv (b:=((4294967296*xn:Nat):Int)) (by omega)),.r 44 (eI (b:=((ly.length-1:Nat):Int)) (by omega)),.i (ly.length-1),.x (ND D.x1),.r 48 (Bv (b:=(head:Int)) (by rw [o64 hb.2.2.2.1 (by omega)]; omega)),
  .r 51 (Bv (b:=(g0:Int)) htd),.r 54 (Bv (b:=(r0:Int)) htm)] rfl ?_ ?_
 ·simp only [Ul,Gx,htd,IntKind.bits]; omega
 refine ct 2 (S:=Nat) (λg=>[(0,.v (.one (.orow 0 1 (some (pre.length,x.length))))),(1,.v (lr ly)),(5,.v (.oi (ly.length:Int))),(9,.v (.one (.int .u64 (g:Int))))]) (λ_=>[.row true 111 1 (lm (pre++x++post))]) (λg=>val x / val ly<=g/\(g-1)*val ly<=val x/\g<=4294967296) rfl ?_ ?_
 ·refine lp (S:=Nat×Nat) 1 (λL1 s=>(9,.v (.one (.int .u64 (s.1:Int))))::(10,.v (.one (.int .u64 (s.2:Int))))::L1) (λ_=>[.row true 111 1 (lm (pre++x++post))]) (λs=>4294967296-s.2)
   (λs=>s.1*top+s.2=xn*2^32+x1/\val x / val ly<=s.1/\s.2<4294967296/\s.1<18446744073709551616) (g0,r0)
   ⟨by rw [<-hh,hg0,hr0,Nat.mul_comm]; exact Nat.div_add_mod _ _,hst,by dsimp only; omega,by dsimp only; omega⟩ rfl (λ_ _=>rfl) rfl λ⟨g,r⟩ ⟨j1,j2,j3,j4⟩=>?_
  dsimp only at j1 j2 j3 j4 ⊢;by_cases hge:4294967296<=g
  ·have hrd:=D.round j1 j2 (.inl hge);by_cases h2:4294967296<=r+top
   ·exact go tt [.t (by simp; omega),.t rfl,.r 73 (Bv (b:=((g-1:Nat):Int)) (by omega)),.t (by simp; omega)] rfl (by simp [Ul,Gx] <;> omega) (rc (g-1) ⟨hrd.2.1,(hrd.2.2.2 h2).1,(hrd.2.2.2 h2).2⟩ rfl)
   ·exact go tt [.t (by simp; omega),.t rfl,.r 73 (Bv (b:=((g-1:Nat):Int)) (by omega)),.f (by simp; omega)] rfl (by simp [Ul,Gx] <;> omega) (rd (g-1,r+top) (by dsimp only; omega) ⟨hrd.2.2.1,hrd.2.1,by dsimp only; omega,by dsimp only; omega⟩ rfl)
  ·have hgn:=O1 (x:=g) (y:=nx) (by omega) hb.2.1;by_cases hc:r*2^32+x2<g*nx
   ·have hrd:=D.round j1 j2 (.inr hc);have e1:(g:Int)*(nx:Int)=((g*nx:Nat):Int):=by push_cast; rfl
    obtain ⟨m,hm⟩:=nmE (g*nx);rw [<-hm] at e1 hgn hc;by_cases h2:4294967296<=r+top
    ·exact go tt [.f (by simp; omega),.r 60 (Bv (b:=(m:Int)) e1),.i 32,.r 62 (Bv (b:=((4294967296*r:Nat):Int)) (by omega)),.r 65 (eI (b:=((ly.length-2:Nat):Int)) (by omega)),.i (ly.length-2),.x (ND D.x2),.r 69 (Bv (b:=((4294967296*r+x2:Nat):Int)) (o64 hb.2.2.2.2 (by omega))),.t (by simp; omega),.r 73 (Bv (b:=((g-1:Nat):Int)) (by omega)),.t (by simp; omega)] rfl (by simp only [Ul,Gx,e1,IntKind.bits]; omega) (rc (g-1) ⟨hrd.2.1,(hrd.2.2.2 h2).1,(hrd.2.2.2 h2).2⟩ rfl)
    ·exact go tt [.f (by simp; omega),.r 60 (Bv (b:=(m:Int)) e1),.i 32,.r 62 (Bv (b:=((4294967296*r:Nat):Int)) (by omega)),.r 65 (eI (b:=((ly.length-2:Nat):Int)) (by omega)),.i (ly.length-2),.x (ND D.x2),.r 69 (Bv (b:=((4294967296*r+x2:Nat):Int)) (o64 hb.2.2.2.2 (by omega))),.t (by simp; omega),.r 73 (Bv (b:=((g-1:Nat):Int)) (by omega)),.f (by simp; omega)] rfl (by simp only [Ul,Gx,e1,IntKind.bits]; omega) (rd (g-1,r+top) (by dsimp only; omega) ⟨hrd.2.2.1,hrd.2.1,by dsimp only; omega,by dsimp only; omega⟩ rfl)
   ·have hf:=D.fin j1 (by omega) (by omega);have e1:(g:Int)*(nx:Int)=((g*nx:Nat):Int):=by push_cast; rfl
    obtain ⟨m,hm⟩:=nmE (g*nx);rw [<-hm] at e1 hgn hc;exact go tt [.f (by simp; omega),.r 60 (Bv (b:=(m:Int)) e1),.i 32,.r 62 (Bv (b:=((4294967296*r:Nat):Int)) (by omega)),.r 65 (eI (b:=((ly.length-2:Nat):Int)) (by omega)),.i (ly.length-2),.x (ND D.x2),.r 69 (Bv (b:=((4294967296*r+x2:Nat):Int)) (o64 hb.2.2.2.2 (by omega))),.f (by simp; omega)] rfl (by simp only [Ul,Gx,e1,IntKind.bits]; omega) (rc g ⟨j2,hf,by omega⟩ rfl)
 ·intro g ⟨q1,q2,q3⟩;refine Wy [.r 80 (eI (b:=(ly.length:Int)) (by rw [Un]))] rfl ?_;refine lp (S:=Nat×Ub×Nat×Nat) 1 (λL1 s=>(81,.v (.oi (s.1:Int)))::(11,.v (.one (.int .u64 (s.2.2.1:Int))))::(12,.v (.one (.int .u64 (s.2.2.2:Int))))::L1) (λs=>[.row true 111 1 (lm (pre++s.2.1++post))]) (λs=>ly.length-s.1)
   (λs=>s.1<=ly.length/\s.2.1.length=ly.length+1/\Sm s.2.1/\s.2.2.2<=1/\s.2.2.1<4294967296/\val (s.2.1.take s.1)+g*val (ly.take s.1)=val (x.take s.1)+(s.2.2.1+s.2.2.2)*4294967296^s.1/\s.2.1.drop s.1=x.drop s.1) (0,x,0,0)
   ⟨Qi _,hxl,D.xb,Qi _,by simp,by simp [val],rfl⟩ rfl (λ_ _=>rfl) rfl λ⟨i,o,cy,bw⟩ ⟨j1,j2,j3,j4,j5,j6,j7⟩=>?_
  dsimp only at j1 j2 j3 j4 j5 j6 j7 ⊢;by_cases hi:i<ly.length
  ·obtain ⟨w1,hw1⟩:=gxE (l:=ly) (i:=i) hi;obtain ⟨u,hu⟩:=gxE (l:=x) (i:=i) (by omega);have wb:=D.lb w1 (Qa hw1);have ub:=D.xb u (Qa hu);have hou:=(YM j7).trans hu;have hgw:g*w1<=18446744069414584320:=by
    have:=Zk q3 (show w1<=4294967295 by omega);omega
   obtain ⟨s,hs⟩:=nmE (((u+18446744073709551616-(g*w1+cy) % 4294967296) % 18446744073709551616+18446744073709551616-bw) % 18446744073709551616);have hstep:=AL (o:=o) (by omega) hu hw1 ub j4 j6 rfl hs;have e1:(g:Int)*(w1:Int)=((g*w1:Nat):Int):=by push_cast; rfl
   obtain ⟨m,hm⟩:=nmE (g*w1);rw [<-hm] at e1 hgw hs hstep;obtain ⟨p,hp⟩:=nmE (m+cy);rw [<-hp] at hs hstep;refine go tt [.t (by simp; omega),.x (Gg hw1),.r 89 (Bv (b:=(m:Int)) e1),.r 91 (Bv (b:=(p:Int)) (by omega)),.i 32,.r 93 (Bv (b:=((p / 2^32:Nat):Int)) (by simp)),.i i,.x (ND hou),.w 1,.r 100 (Li (b:=((p % 4294967296:Nat):Int)) (by rw [LR]; omega)),.w 1,.r 102 (Bv (b:=(((u+18446744073709551616-p % 4294967296) % 18446744073709551616:Nat):Int)) (by rw [lY]; omega)),.w 0,.r 104 (Bv (b:=(s:Int)) (by rw [lY]; omega)),
    .w 0,.r 108 (Li (b:=((s % 4294967296:Nat):Int)) (by rw [LR]; omega)),.i 63,.r 110 (Bv (b:=((s / 2^63:Nat):Int)) (by simp)),.i i] rfl (by simp only [Ul,Gx,e1,IntKind.bits,Un,Qu]; omega) ?_
   rw [Qeh (by omega)];exact rd (i+1,o.set i (s % 4294967296),p / 2^32,s / 2^63) (by dsimp only; omega) ⟨hi,by simp [j2],Mi j3 _ _ (by omega),hstep.2,by dsimp only; omega,hstep.1,BN j7⟩ rfl
  ·obtain rfl:i=ly.length:=by omega
   have hon:=(YM j7).trans D.xn;rw [Qw (l:=ly) (Qn _)] at j6;obtain ⟨s,hs⟩:=nmE (((xn+18446744073709551616-cy) % 18446744073709551616+18446744073709551616-bw) % 18446744073709551616);obtain ⟨oa,hoa⟩:=nmE (o.set ly.length (s % 4294967296));have oal:oa.length=ly.length+1:=by rw [hoa,Xd]; exact j2
   have oab:Sm oa:=hoa ▸ Mi j3 _ _ (by omega);by_cases NQ:s / 2^63=0
   ·have hf:=D.fin0 j2 j5 j4 q1 j6 hs NQ;refine go tt [.f (by simp),.i ly.length,.x (ND hon),.w 1,.r 119 (Bv (b:=(((xn+18446744073709551616-cy) % 18446744073709551616:Nat):Int)) (by rw [lY]; omega)),.w 0,.r 121 (Bv (b:=(s:Int)) (by rw [lY]; omega)),.w 0,.r 125 (Li (b:=((s % 4294967296:Nat):Int)) (by rw [LR]; omega)),.i ly.length,.i 63,.r 128 (Bv (b:=((s / 2^63:Nat):Int)) (by simp)),.t (by simp; omega),.w 0,.r 131 (Li (b:=((val x / val ly:Nat):Int)) (by rw [LR]; omega))] rfl (by simp only [Ul,Gx,IntKind.bits,Un,Qu]; omega) ?_;rw [Qeh (by omega),<-wT (l:=o.set ly.length (s % 4294967296)) (k:=x.length) (hoa ▸ oab) (by rw [<-hoa,oal,hxl]) hf.2];exact W4 [] [0] [] rfl
   ·have hf:=D.fin1 j2 j3 j5 j4 q2 j6 hs NQ;rw [<-hoa] at hf;obtain ⟨v1,hv1⟩:=gxE (l:=oa) (i:=ly.length) (by omega);refine go tt [.f (by simp),.i ly.length,.x (ND hon),.w 1,.r 119 (Bv (b:=(((xn+18446744073709551616-cy) % 18446744073709551616:Nat):Int)) (by rw [lY]; omega)),.w 0,.r 121 (Bv (b:=(s:Int)) (by rw [lY]; omega)),.w 0,.r 125 (Li (b:=((s % 4294967296:Nat):Int)) (by rw [LR]; omega)),.i ly.length,.i 63,.r 128 (Bv (b:=((s / 2^63:Nat):Int)) (by simp)),.f (by simp; omega),.r 133 (eI (b:=(ly.length:Int)) (by rw [Un]))] rfl (by simp only [Ul,Gx,IntKind.bits,Un,Qu]; omega) ?_;rw [Qeh (by omega),<-hoa];refine lp (S:=Nat×Ub×Nat) 1 (λL1 s=>(134,.v (.oi (s.1:Int)))::(18,.v (.one (.int .u64 (s.2.2:Int))))::L1) (λs=>[.row true 111 1 (lm (pre++s.2.1++post))]) (λs=>ly.length-s.1)
     (λs=>s.1<=ly.length/\s.2.1.length=ly.length+1/\Sm s.2.1/\s.2.2<=1/\val (s.2.1.take s.1)+s.2.2*4294967296^s.1=val (oa.take s.1)+val (ly.take s.1)/\s.2.1.drop s.1=oa.drop s.1) (0,oa,0)
     ⟨Qi _,oal,oab,Qi _,by simp [val],rfl⟩ rfl (λ_ _=>rfl) rfl λ⟨j,o2,bk⟩ ⟨r1,r2,r3,r4,r5,r6⟩=>?_
    dsimp only at r1 r2 r3 r4 r5 r6 ⊢;by_cases hj:j<ly.length
    ·obtain ⟨w1,hw1⟩:=gxE (l:=ly) (i:=j) hj;obtain ⟨u,hu⟩:=gxE (l:=oa) (i:=j) (by omega);have wb:=D.lb w1 (Qa hw1);have ub:=oab u (Qa hu);have hou:=(YM r6).trans hu;obtain ⟨m,hm⟩:=nmE (u+bk+w1);have hstep:=qZ (o:=o2) (by omega) hu (.inl hw1) r5 hm;refine go tt [.t (by simp; omega),.x (Gg hw1),.i j,.x (ND hou),.r 148 (Bv (b:=(m:Int)) (by omega)),.w 0,.r 152 (Li (b:=((m % 4294967296:Nat):Int)) (by rw [LR]; omega)),.i 32,.r 154 (Bv (b:=((m / 4294967296:Nat):Int)) (by simp)),.i j] rfl (by simp only [Ul,Gx,IntKind.bits,Un,Qu]; omega) ?_;rw [Qeh (by omega)];exact rd (j+1,o2.set j (m % 4294967296),m / 4294967296) (by dsimp only; omega) ⟨hj,by simp [r2],Mi r3 _ _ (by omega),by dsimp only; omega,hstep,BN r6⟩ rfl
    ·obtain rfl:j=ly.length:=by omega
     have hon2:=(YM r6).trans hv1;have vb:=oab v1 (Qa hv1);rw [Qw (l:=ly) (Qn _)] at r5;have hf2:=D.fin2 oal oab r2 r3 hv1 r4 hf.2 r5;refine go tt [.f (by simp),.i ly.length,.x (ND hon2),.w 1,.r 165 (Li (b:=(((v1+bk) % 4294967296:Nat):Int)) (by rw [LR]; omega)),.i ly.length,.w 0,.r 168 (Li (b:=((g % 4294967296:Nat):Int)) (by rw [LR]; omega)),.w 0,.r 169 (Li (b:=((val x / val ly:Nat):Int)) (Qqj hf.1 D.qlt))] rfl (by simp only [Ul,Gx,IntKind.bits,Un,Qu]; omega) ?_;rw [Qeh (by omega),<-wT (l:=o2.set ly.length ((v1+bk) % 4294967296)) (k:=x.length) (Mi r3 _ _ (by omega)) (by rw [Xd,r2,hxl]) hf2];exact W4 [] [0] [] rfl
theorem iJ {o ly:Ub} {lo top nx xn x1 x2:Nat} (hlo:lo+(ly.length+1)<=o.length) (D:Dig (YZ o lo ly.length) ly ly.length top nx xn x1 x2) (hn:ly.length<274877906944) :
 Uo prog 223 [.one (.orow 0 1 (some (lo,ly.length+1))),lr ly] [.row true 111 1 (lm o)] [.one (.int .u32 ((val (YZ o lo ly.length) / val ly:Nat):Int))] [.row true 111 1 (lm (o.take lo++zV (ly.length+1) (val (YZ o lo ly.length) % val ly)++o.drop (lo+ly.length+1)))]:=by
 have:=Qga (pre:=o.take lo) (post:=o.drop (lo+ly.length+1)) D hn;have e1:(o.take lo).length=lo:=by rw [Qp]; omega
 have e2:=KR (o:=o) (i:=lo) (n:=ly.length) (by omega);rw [e1,e2,ZN] at this;exact this
theorem qG {a b:Ub} (ha:Sm a) (hb:Sm b) (h1:sz (val a)<=4294967296) (h2:sz (val b)<=4294967296) (hy:0<val b):W6 182 [lr a,lr b] [lr (U9 (val a / val b)),lr (U9 (val a % val b)),.oi 0]:=by
 refine Fl func182 rfl ?_;obtain ⟨p,ca,np,vp,_,ep⟩:=WU ha;obtain ⟨q,cb,nq,vq,_,eq⟩:=WU hb;have hp:=Re h1;have hq:=Re h2;rw [<-ep] at hp;rw [<-eq] at hq;rw [<-vp,<-vq];rw [<-vp] at h1;rw [<-vq] at h2 hy;have q0:q≠[]:=λe=>by rw [e] at hy; simp [val] at hy
 have qp:0<q.length:=Jt.2 q0;have c1:¬((lm q).length:Int)=0:=by rw [Un]; omega
 by_cases hlt:p.length<q.length
 ·have hv:=B6 np nq hlt;rw [Vp hv,Xp hv,Gf];exact W0 [.k ca,.k cb,.f (by simpa using c1),.t (by simp [Un]; omega),.k (XS np.1 h1)] rfl rfl (by simp [Ul,Gx])
 by_cases hone:q.length=1
 ·obtain ⟨y,rfl⟩:∃ y,q=[y]:=by
   match q,hone with
   | [y],_=>exact ⟨y,rfl⟩
  have yb:=nq.1 y (.head _);have vy:val [y]=y:=by simp [val]
  rw [vy] at hy ⊢;have co:=Qpc np.1 (by omega) hy yb;have sm:Sm [val p % y]:=λz hz=>by
   simp at hz; subst hz; exact Nat.lt_trans (Z9 _ hy) yb
  have cc:=XX sm;rw [show val [val p % y]=val p % y from by simp [val]] at cc;exact W0 [.k ca,.k cb,.f (by simp [lm]),.f (by simp [Un]; omega),.t (by simp [lm]),.x (Gg (l:=[y]) (i:=0) rfl),.k co,.k cc] rfl rfl (by simp [Ul,Gx])
 ·have hle:q.length<=p.length:=Jx hlt;obtain ⟨y1,hy1,hy10⟩:=nq.2 q0;have y1b:=nq.1 y1 (Qa hy1);have hszy:=gI nq hy1;have hsz1:sz y1<=32:=Nz.2 (by omega);have hsz0:0<sz y1:=Qn3 (by omega);obtain ⟨s,hs⟩:=nmE (32-sz y1);have hs31:s<=31:=by omega
  have Li:(2:Nat)^32=4294967296:=by decide
  obtain ⟨x,hx⟩:=nmE (val p);obtain ⟨y,hyv⟩:=nmE (val q);have cl:=Qlm y1b;rw [<-hs] at cl;have hvx:val p*2^s<4294967296^(p.length+1):=by
   have h1:=Bq p np.1;rw [Zq];exact Xb (Xl h1 (show 0<2^s from Zy (by decide))) (Zs _ (by rw [<-Li]; exact Zr (by decide) (by omega)))
  have hvy:val q*2^s<4294967296^q.length:=by
   have h1:=PW (val q);rw [<-Li,<-Wx];have h2:val q*2^s<2^sz (val q)*2^s:=Xl h1 (Zy (by decide));rw [<-Xc] at h2;rw [show 32*q.length=sz (val q)+s from by omega];exact h2
  have cx:=iL np.1 (show sz (val p)<=4294967400 by omega) hs31 (show p.length+1<274877906944 by omega) (by omega) hvx;have cy:=iL nq.1 (show sz (val q)<=4294967400 by omega) hs31 (show q.length<274877906944 by omega) qp hvy;obtain ⟨hXl,hXb,hXv⟩:=EM (k:=p.length+1) (v:=val p*2^s);obtain ⟨hYl,hYb,hYv⟩:=EM (k:=q.length) (v:=val q*2^s);have hXv:=hXv hvx;have hYv:=hYv hvy;obtain ⟨X,hX⟩:=nmE (zV (p.length+1) (val p*2^s));obtain ⟨Y,hY⟩:=nmE (zV q.length (val q*2^s));rw [<-hX] at hXl hXb hXv cx;rw [<-hY] at hYl hYb hYv cy;have hyB:4294967296^(q.length-1)<=val q:=VH nq q0;have hR:=fS hXv hYv hXl hXb hYl hYb (show 2<=q.length by omega) (Bq p np.1) hyB hle;refine go tt [.k ca,.k cb,.f (by simpa using c1),.f (by simp [Un]; omega),.f (by simp [Un]; omega),.r 49 (eI (b:=((q.length-1:Nat):Int)) (by rw [Un]; omega)),.x (Gg hy1),.k cl,.r 57 (eI (b:=((p.length+1:Nat):Int)) (by rw [Un]; omega)),.c [0] cx,.r 62 (eI (b:=(q.length:Int)) (by rw [Un])),.c [1] cy,.r 65 (eI (b:=(q.length:Int)) (by rw [Un,hYl])),.r 70 (eI (b:=((p.length-q.length+1:Nat):Int)) (by rw [Un]; omega)),.i (p.length-q.length+1),.i (p.length-q.length+1),.r 73 (eI (b:=((p.length-q.length+1:Nat):Int)) (by simp))] rfl ?_ ?_
  ·simp only [Ul,Gx,IntKind.bits,Un];omega
  ·rw [JP];refine pb 1 rfl rfl ?_;refine lp (S:=Int×Ub×Ub) 3 (λL1 s=>(13,.v (.oi s.1))::L1) (λs=>[.row false 111 1 (lm s.2.2),.gone,.row false 111 1 (lm s.2.1)]) (λs=>(s.1+1).toNat)
    (λs=>-1<=s.1/\s.1<p.length-q.length+1/\s.2.1.length=p.length-q.length+1/\Sm s.2.1/\Rest s.2.2 Y p.length q.length (s.1+1).toNat/\val (s.2.1.drop (s.1+1).toNat)*4294967296^(s.1+1).toNat*val Y+val s.2.2=val X) (((p.length-q.length+1:Nat):Int)-1,List.replicate (p.length-q.length+1) 0,X)
    ⟨by dsimp only; omega,by dsimp only; omega,by simp,λx hx=>by rw [List.eq_of_mem_replicate hx]; decide,by simpa using hR,by simp [val]⟩ rfl (λ_ _=>rfl) rfl λ⟨i,oq,ox⟩ ⟨j1,j2,j3,j4,j5,j6⟩=>?_
   dsimp only at j1 j2 j3 j4 j5 j6 ⊢;rcases Wg i 0 with hi | hi
   ·obtain rfl:i=-1:=by omega
    simp only [show ((-1:Int)+1).toNat=0 from rfl,Yi,Y4,Yk] at j5 j6;have hlt':val ox<val q*2^s:=by have:=j5.lt; rw [hYv] at this; simpa using this
    have hfin:=Qda (x:=val p) (y:=val q) (s:=s) (r:=val ox) (q:=oq) hy (by rw [<-hXv,<-hYv]; exact j6) hlt';have hoxl:=j5.ol;have hox:=hZ (o:=ox) (n:=q.length) (by omega) (Nat.lt_trans hlt' hvy);have hszm:sz (val (ox.take q.length))<=4294967400:=by
     rw [hox,hfin.2];have h1:=Qd6 (val p % val q) (2^s);have h2':=Pd (J7 (Z9 (val p) hy));have h3:sz (2^s)<=s+1:=Nz.2 (Nat.pow_lt_pow_right (by decide) (by omega));omega
    have cs:=Qo6 (a:=ox.take q.length) (λu hu=>j5.ob u (Qm hu)) hszm hs31;rw [hox,hfin.2,Nat.mul_div_cancel _ (Zy (by decide))] at cs;have cq:=XX j4;rw [hfin.1] at cq;exact W0 [.f (by decide),.p 2,.p 0,.k cq,.i q.length,.r 95 (v:=lr (ox.take q.length)) (by simp [lm]),.k cs] rfl rfl (by simp [Ul,Gx,Un]; omega)
   ·obtain ⟨k,rfl⟩:=V6 hi;have e:((k:Int)+1).toNat=k+1:=by omega
    rw [e] at j5 j6;obtain ⟨top,nx,xn,x1,x2,D⟩:=j5.dig;have hoxl:=j5.ol;have hm:=j5.hm;have cd:=iJ (o:=ox) (lo:=k) (by omega) (hYl.symm ▸ D) (by omega);rw [hYl] at cd;have hwl:=KR (o:=ox) (i:=k) (n:=q.length) (by omega);have hwlt:val (YZ ox k q.length) % val Y<4294967296^(q.length+1):=by
     have h3:=Bq (YZ ox k q.length) D.xb;rw [hwl] at h3;exact Z2 (Nat.mod_le _ _) h3
    obtain ⟨d1,d2,d3⟩:=EM (k:=q.length+1) (v:=val (YZ ox k q.length) % val Y);have hnx:=j5.next (w':=zV (q.length+1) (val (YZ ox k q.length) % val Y)) (d1.trans hwl.symm) d2 (d3 hwlt) (q:=oq) (by omega) j6;have hdg:=D.qlt;refine go tt [.t (by simp),.i k,.i (k+q.length+1),.r 87 (v:=.one (.orow 0 1 (some (k,q.length+1)))) (by rw [show k+q.length+1-k=q.length+1 by omega]),.c [0] cd,.i k] rfl ?_ ?_
    ·simp only [Ul,Un]; omega
    ·rw [Na];refine rd ((k:Int)-1,oq.set k (val (YZ ox k q.length) / val Y),ox.take k++zV (q.length+1) (val (YZ ox k q.length) % val Y)++ox.drop (k+q.length+1)) (by dsimp only; omega) ⟨by dsimp only; omega,by dsimp only; omega,by simp [j3],Mi j4 _ _ hdg,?_,?_⟩ rfl
     ·dsimp only; rw [show ((k:Int)-1+1).toNat=k from by omega]; exact hnx.1
     ·dsimp only; rw [show ((k:Int)-1+1).toNat=k from by omega]; exact hnx.2
def sg (z:Int):LV:=.bool (decide (z<0))
def mg (z:Int):LV:=.row (lm (U9 z.natAbs))
abbrev Gw (z:Int):Ue:=[sg z,mg z]
def Fu (x y:LV) (z:Int):Prop:=∃ b l,x=.bool b/\y=.row (lm l)/\Sm l/\z=U5 b (val l)
theorem Um (z:Int):Fu (sg z) (mg z) z:=by
 refine ⟨_,_,rfl,rfl,Cw _,?_⟩;rw [Gd];unfold U5;by_cases h:z<0 <;> simp [h] <;> omega
theorem Qnf (b:Bool) (m:Nat):[LV.bool (b && decide (0<m)),LV.row (lm (U9 m))]=Gw (U5 b m):=by
 simp only [Gw,sg,mg,PM,Hk]
theorem By {m:Nat}:0<(U9 m).length↔0<m:=by
 rcases Q6 m with h | h
 ·subst h; rw [Gf]; simp
 ·rw [D6 (by omega)]; simp [h]
theorem T0 (b:Bool) (m:Nat):W6 134 [lr (U9 m),.one (.bool b)] [.agg (Gw (U5 b m))]:=by
 rw [<-Qnf];have e:=By (m:=m);cases b with
 | false=>exact W3 func134 rfl [.f rfl] rfl
 | true=>exact W3 func134 rfl [.t rfl] rfl (by simp [Un,e]) trivial
theorem Ty {b:Bool} {m:Nat} {k:Nat} (h:U0 (U5 b m)<=k):sz m<=k:=by
 unfold U0 at h; rwa [Hk] at h
theorem M4 {x y:LV} {z:Int} (hi:Fu x y z) (hs:U0 z<=4294967295):W6 118 [.agg [x,y]] [.agg (Gw z)]:=by
 obtain ⟨b,l,rfl,rfl,hl,rfl⟩:=hi;exact W3 func118 rfl [.k (XS hl (Qd (Ty hs) (by decide))),.k (T0 _ _)] rfl
theorem YE (b:Bool) (m:Nat):U5 (!b) m=-(U5 b m):=by unfold U5; cases b <;> simp
theorem RE {x y:LV} {z:Int} (hi:Fu x y z) (hs:U0 z<=4294967295):W6 139 [.agg [x,y]] [.agg (Gw (-z))]:=by
 obtain ⟨b,l,rfl,rfl,hl,rfl⟩:=hi;rw [<-YE];exact W3 func139 rfl [.k (XS hl (Qd (Ty hs) (by decide))),.k (T0 _ _)] rfl
theorem P8 {x y x' y':LV} {z z':Int} (hi:Fu x y z) (hi':Fu x' y' z') (hs:U0 z<=4294967295) (hs':U0 z'<=4294967295):W6 143 [.agg [x,y],.agg [x',y']] [.agg (Gw (z*z'))]:=by
 obtain ⟨b,l,rfl,rfl,hl,rfl⟩:=hi;obtain ⟨b',l',rfl,rfl,hl',rfl⟩:=hi';have e:U5 b (val l)*U5 b' (val l')=U5 (b != b') (val l*val l'):=by
  unfold U5; cases b <;> cases b' <;> simp [Int.neg_mul,Int.mul_neg]
 rw [e];exact W3 func143 rfl [.k (Qo1 hl hl' (Qd (Ty hs) (by decide)) (Qd (Ty hs') (by decide))),.k (T0 _ _)] rfl
theorem TZ {a b:Ub} (ha:Sm a) (hb:Sm b) (h1:sz (val a)<=4294967296) (h:val b<=val a):W6 226 [lr a,lr b] [lr (U9 (val a-val b)),.one (.bool true)]:=by
 have:=Qjx ha hb h1; rwa [if_pos h] at this
theorem aN {a b:Ub} (ha:Sm a) (hb:Sm b) (h1:sz (val a)<=4294967296) (h:val a<val b):W6 226 [lr a,lr b] [lr [],.one (.bool false)]:=by
 have:=Qjx ha hb h1; rwa [if_neg (by omega)] at this
theorem XP {x y x' y':LV} {z z':Int} (hi:Fu x y z) (hi':Fu x' y' z') (hs:U0 z<=4294967295) (hs':U0 z'<=4294967295):W6 185 [.agg [x,y],.agg [x',y']] [.agg (Gw (z+z'))]:=by
 obtain ⟨b,l,rfl,rfl,hl,rfl⟩:=hi;obtain ⟨b',l',rfl,rfl,hl',rfl⟩:=hi';have s1:=Qd (Ty hs) (show 4294967295<=4294967296 by decide);have s2:=Qd (Ty hs') (show 4294967295<=4294967296 by decide);by_cases hb:b=b'
 ·subst hb;have e:U5 b (val l)+U5 b (val l')=U5 b (val l+val l'):=by unfold U5; cases b <;> simp <;> omega
  rw [e];exact W3 func185 rfl [.t (by simp),.k (Qjt hl hl' s1 s2),.k (T0 _ _)] rfl
 ·by_cases hle:val l'<=val l
  ·have e:U5 b (val l)+U5 b' (val l')=U5 b (val l-val l'):=by unfold U5; cases b <;> cases b' <;> simp at hb ⊢ <;> omega
   rw [e];exact W3 func185 rfl [.f (by simpa using hb),.k (TZ hl hl' s1 hle),.t rfl,.k (T0 _ _)] rfl
  ·have e:U5 b (val l)+U5 b' (val l')=U5 b' (val l'-val l):=by unfold U5; cases b <;> cases b' <;> simp at hb ⊢ <;> omega
   rw [e];exact W3 func185 rfl [.f (by simpa using hb),.k (aN hl hl' s1 (by omega)),.f rfl,.k (TZ hl' hl s2 (by omega)),.k (T0 _ _)] rfl
theorem aO {x y x' y':LV} {z z':Int} (hi:Fu x y z) (hi':Fu x' y' z') (hs:U0 z<=4294967295) (hs':U0 z'<=4294967295):W6 256 [.agg [x,y],.agg [x',y']] [.agg (Gw (z-z'))]:=by
 obtain ⟨b',l',rfl,rfl,hl',rfl⟩:=hi';have hn:Fu (.bool (!b')) (.row (lm l')) (-(U5 b' (val l'))):=⟨_,_,rfl,rfl,hl',(YE _ _).symm⟩;rw [Int.sub_eq_add_neg];have hi2:=hi;obtain ⟨b,l,rfl,rfl,hl,_⟩:=hi;exact W3 func256 rfl [.k (XP hi2 hn hs (by rw [Ei]; exact hs'))] rfl
theorem iS {x y:LV} {z:Int} (hi:Fu x y z) (hs:U0 z<=4294967295):W6 154 [.agg [x,y]] [.oi (Int.sign z)]:=by
 obtain ⟨b,l,rfl,rfl,hl,rfl⟩:=hi;have s1:=Qd (Ty hs) (show 4294967295<=4294967296 by decide);have cb:=kO hl s1;by_cases h0:val l=0
 ·have e:U5 b (val l)=0:=by unfold U5; rw [h0]; cases b <;> simp
  rw [e];exact W3 func154 rfl [.k cb,.t (by simp [MC,h0])] rfl
 ·have NQ:sz (val l)≠0:=λh=>h0 (MC.1 h)
  cases b
  ·have e:(U5 false (val l)).sign=1:=Int.sign_eq_one_of_pos (by unfold U5; simp; omega);rw [e];exact W3 func154 rfl [.k cb,.f (by simp; omega),.f rfl] rfl
  ·have e:(U5 true (val l)).sign=-1:=Int.sign_eq_neg_one_of_neg (by unfold U5; simp; omega);rw [e];exact W3 func154 rfl [.k cb,.f (by simp; omega),.t rfl] rfl
theorem WX {x y x' y':LV} {z z':Int} (hi:Fu x y z) (hi':Fu x' y' z') (hs:U0 z<=4294967295) (hs':U0 z'<=4294967295):W6 100 [.agg [x,y],.agg [x',y']] [.oi (Cc z z')]:=by
 have c1:=iS hi hs;have c2:=iS hi' hs';obtain ⟨b,l,rfl,rfl,hl,hz⟩:=hi;obtain ⟨b',l',rfl,rfl,hl',hz'⟩:=hi';have k1:=Ly z;have k2:=Ly z';have zl:z.natAbs=val l:=by rw [hz,Hk]
 have zl':z'.natAbs=val l':=by rw [hz',Hk]
 by_cases h1:z.sign<z'.sign
 ·have e:Cc z z'=-1:=by unfold Cc; rw [if_pos (by omega)]
  rw [e];exact W3 func100 rfl [.k c1,.k c2,.t (by simpa using h1)] rfl
 ·by_cases h2:z'.sign<z.sign
  ·have e:Cc z z'=1:=by unfold Cc; rw [if_neg (by omega),if_pos (by omega)]
   rw [e];exact W3 func100 rfl [.k c1,.k c2,.f (by simpa using h1),.t (by simpa using h2)] rfl
  ·by_cases h3:z.sign<0
   ·have e:WY (val l') (val l)=Cc z z':=by unfold Cc WY; rw [<-zl,<-zl']; split <;> split <;> (try split) <;> (try split) <;> omega
    have cc:=eW hl' hl;rw [e] at cc;exact W3 func100 rfl [.k c1,.k c2,.f (by simpa using h1),.f (by simpa using h2),.t (by simpa using h3),.k cc] rfl
   ·have e:WY (val l) (val l')=Cc z z':=by unfold Cc WY; rw [<-zl,<-zl']; split <;> split <;> (try split) <;> (try split) <;> omega
    have cc:=eW hl hl';rw [e] at cc;exact W3 func100 rfl [.k c1,.k c2,.f (by simpa using h1),.f (by simpa using h2),.f (by simpa using h3),.k cc] rfl
theorem Cz {z:Int}:W6 136 [.agg (Gw z)] [.one (.bool (decide (z=0)))] :=
 W3 func136 rfl [] rfl (by simp only [Un]; congr 3; have:=By (m:=z.natAbs); rw [decide_eq_decide]; omega) trivial
theorem LO {z:Int} (h1:-9223372036854775808<=z/\z<=9223372036854775807):W6 78 [.oi z] [.agg (Gw z)]:=by
 obtain ⟨m,hm⟩:=nmE (z.natAbs);have sm:Sm [m % 4294967296,m / 4294967296]:=λx hx=>by
  simp at hx; rcases hx with rfl | rfl <;> omega
 have hv:val [m % 4294967296,m / 4294967296]=m:=by simp only [val]; omega
 have cn:=XS sm (by rw [hv]; exact Qd (Nz.2 (show m<2^64 by omega)) (show 64<=4294967296 by decide));rw [hv] at cn;by_cases hz:z<0
 ·have e:U5 true m=z:=by unfold U5; simp; omega
  have cm:=T0 true m;rw [e] at cm;exact W3 func78 rfl [.w 0,.r 5 (Bv (b:=((18446744073709551616-m:Nat):Int)) (by rw [lY]; omega)),.t (by simpa using hz),.w 0,.r 9 (Bv (b:=(m:Int)) (by rw [lY]; omega)),.w 0,.r 11 (Li (b:=((m % 4294967296:Nat):Int)) (by rw [LR]; omega)),.i 32,.r 13 (Bv (b:=((m / 4294967296:Nat):Int)) (by simp)),.k cn,.r 18 (v:=.one (.bool true)) (by simp [hz]),.k cm] rfl rfl (by simp [Ul,IntKind.bits] <;> omega)
 ·have e:U5 false m=z:=by unfold U5; simp; omega
  have cm:=T0 false m;rw [e] at cm;exact W3 func78 rfl [.w 0,.r 5 (Bv (b:=(m:Int)) (by rw [lY]; omega)),.f (by simpa using hz),.w 0,.r 11 (Li (b:=((m % 4294967296:Nat):Int)) (by rw [LR]; omega)),.i 32,.r 13 (Bv (b:=((m / 4294967296:Nat):Int)) (by simp)),.k cn,.r 18 (v:=.one (.bool false)) (by simp; omega),.k cm] rfl rfl (by simp [Ul,IntKind.bits] <;> omega)
theorem wZ {m n:Nat} (h1:sz m<=4294967296) (h2:sz n<=4294967296) (hn:0<n):W6 182 [lr (U9 m),lr (U9 n)] [lr (U9 (m / n)),lr (U9 (m % n)),.oi 0]:=by
 have:=qG (Cw m) (Cw n) (by rw [Gd]; exact h1) (by rw [Gd]; exact h2) (by rw [Gd]; exact hn);rwa [Gd,Gd] at this
theorem cQ {x y x' y':LV} {z z':Int} (hi:Fu x y z) (hi':Fu x' y' z') (hs:U0 z<=4294967295) (hs':U0 z'<=4294967295) (hz:z'≠0):W6 183 [.agg [x,y],.agg [x',y']] [.agg (Gw (z / z')),.agg (Gw (z % z')),.oi 0]:=by
 obtain ⟨b,l,rfl,rfl,hl,hz1⟩:=hi;obtain ⟨b',l',rfl,rfl,hl',hz2⟩:=hi';have zl:z.natAbs=val l:=by rw [hz1,Hk]
 have zl':z'.natAbs=val l':=by rw [hz2,Hk]
 have s1:sz (val l)<=4294967296:=Qd (Ty (hz1 ▸ hs)) (by decide);have s2:sz (val l')<=4294967296:=Qd (Ty (hz2 ▸ hs')) (by decide);have hp:0<z'.natAbs:=by omega
 have e1:z=if b=true then -(z.natAbs:Int) else (z.natAbs:Int):=by rw [zl]; exact hz1
 have e2:z'=if b'=true then -(z'.natAbs:Int) else (z'.natAbs:Int):=by rw [zl']; exact hz2
 have cd:=qG hl hl' s1 s2 (by omega);rw [<-zl,<-zl'] at cd;have s0:sz (z.natAbs % z'.natAbs)<=4294967296:=Qd (Pd (J7 (Z9 _ hp))) (by rw [zl']; exact s2);cases b with
 |
  false =>
  obtain ⟨d1,d2⟩:=TE e2 hp e1;rw [d1,d2];exact W3 func183 rfl [.k cd,.f rfl,.k (T0 _ _),.k (T0 _ _),.f rfl,.f rfl] rfl
 |
  true =>
  by_cases h0:z.natAbs % z'.natAbs=0
  ·obtain ⟨d1,d2⟩:=GY e2 hp e1 h0;rw [d1,d2];exact W3 func183 rfl [.k cd,.f rfl,.k (T0 _ _),.k (T0 _ _),.t rfl,.f (by rw [h0,Gf]; rfl)] rfl
  ·obtain ⟨d1,d2⟩:=TL e2 hp e1 (by omega);rw [d1,d2];have ca:=Qjt (a:=U9 (z.natAbs / z'.natAbs)) (b:=[1]) (Cw _) (λx hx=>by simp at hx; subst hx; decide) (by rw [Gd]; exact Qd (Pd (Jr _ _)) (by rw [zl]; exact s1)) (by decide);have cs:=TZ (a:=l') (b:=U9 (z.natAbs % z'.natAbs)) hl' (Cw _) s2 (by rw [Gd,<-zl']; exact J7 (Z9 _ hp));rw [Gd] at ca cs;rw [<-zl'] at cs;have hl0:=By (m:=z.natAbs % z'.natAbs);exact W3 func183 rfl [.k cd,.f rfl,.k (T0 _ _),.k (T0 _ _),.t rfl,.t (by simp [Un]; omega),.k ca,.k cs,.k (T0 _ _),.k (T0 _ _)] rfl
theorem Eb {x y x' y':LV} {z z':Int} (hi:Fu x y z) (hi':Fu x' y' z') (hs:U0 z<=4294967295) (hs':U0 z'<=4294967295) (hz:z'≠0) (hd:z % z'=0):W6 140 [.agg [x,y],.agg [x',y']] [.agg (Gw (z / z')),.oi 0]:=by
 have cd:=cQ hi hi' hs hs' hz;obtain ⟨b,l,rfl,rfl,_⟩:=hi;obtain ⟨b',l',rfl,rfl,_⟩:=hi';exact W3 func140 rfl [.k cd,.f rfl,.f (by rw [hd]; simp [Un,Gf])] rfl
end Orr
namespace Orr
open Go
def Hq (l:W9):Nat:=l.foldl (λg z=>Nat.gcd g z.natAbs) 0
theorem cC {l:W9} {i:Nat} {z:Int} (h:l[i]? = some z):Hq (l.take (i+1))=Nat.gcd (Hq (l.take i)) z.natAbs:=by
 unfold Hq;rw [Yu,h];simp [Vf]
theorem Qg9 (g x:Nat):Nat.gcd x (g % x)=Nat.gcd g x:=by
 rw [Nat.gcd_comm g x,Nat.gcd_rec x g,Nat.gcd_comm]
theorem NF (l:W9):l.foldl (λg z=>Nat.gcd g z.natAbs) 1=1:=by
 induction l with
 | nil=>rfl
 | cons z l ih=>simp [ih]
theorem Qa0 {l:W9} {i:Nat} (h:Hq (l.take i)=1):Hq l=1:=by
 have e:l=l.take i++l.drop i:=(Ze i l).symm;unfold Hq at h ⊢;rw [e,Vf,h,NF]
def trim:W9->W9
 | []=>[]
 |
  x::l=>match trim l with
  | []=>if x=0 then [] else [x]
  | y::k=>x::y::k
theorem JD:∀ {l:W9},(∀ x∈l,x=0)->trim l=[]
 | [],_=>rfl
 |
  x::l,h=>by
  have ih:=JD (l:=l) (λy hy=>h y (Qf _ hy));simp [trim,ih,h x (Qx ..)]
theorem LF:∀ {l:W9} {m:Nat} {y:Int},(∀ j x,m<j->l[j]? = some x->x=0)->l[m]? = some y->y≠0->trim l=l.take (m+1)
 | [],m,y,_,h,_=>by simp at h
 |
  x::l,0,y,h1,h2,h3=>by
  have h0:trim l=[]:=JD λz hz=>by
   obtain ⟨j,hj⟩:=Zm.1 hz;exact h1 (j+1) z (by omega) (by simpa using hj)
  simp at h2;subst h2;simp [trim,h0,h3]
 |
  x::l,m+1,y,h1,h2,h3=>by
  have ih:=LF (l:=l) (m:=m) (y:=y) (λj z hj hz=>h1 (j+1) z (by omega) (by simpa using hz)) (by simpa using h2) h3;cases hl:l with
  | nil=>subst hl; simp at h2
  |
   cons u k =>
   subst hl;rw [Vu] at ih;simp only [trim] at ih ⊢;rw [ih];simp
def Uu (l:W9):Prop:=trim l=l
theorem Rf:∀ (l:W9),Uu (trim l)
 | []=>rfl
 |
  x::l=>by
  have ih:=Rf l;unfold Uu at ih ⊢;cases h:trim l with
  | nil=>by_cases hx:x=0 <;> simp [trim,h,hx]
  |
   cons y k =>
   rw [h] at ih;simp only [trim,h] at ih ⊢;rw [ih]
theorem vU {l:W9} {m:Nat} (hm:m<=l.length) (h1:∀ j x,m<=j->l[j]? = some x->x=0) (h2:0<m->∃ y,l[m-1]? = some y/\y≠0):trim l=l.take m:=by
 rcases Q6 m with h0 | h0
 ·subst h0;rw [JD λz hz=>?_]; rfl;obtain ⟨j,hj⟩:=Zm.1 hz;exact h1 j z (by omega) hj
 ·obtain ⟨y,hy,hy0⟩:=h2 h0;have:=LF (l:=l) (m:=m-1) (y:=y) (λj x hj hx=>h1 j x (by omega) hx) hy hy0;rwa [show m-1+1=m from by omega] at this
def IsInts:Uf->W9->Prop
 | [],[]=>True
 | x::l,z::p=>(∃ a b,x=[a,b]/\Fu a b z)/\IsInts l p
 | _,_=>False
theorem IsInts.len:∀ {l:Uf} {p:W9},IsInts l p->l.length=p.length
 | [],[],_=>rfl
 | x::l,z::p,h=>by simp [h.2.len]
 | [],_::_,h=>h.elim
 | _::_,[],h=>h.elim
theorem IsInts.get:∀ {l:Uf} {p:W9},IsInts l p->∀ {i:Nat} {z:Int},p[i]? = some z->∃ a b,l[i]? = some [a,b]/\Fu a b z
 | [],[],_,i,z,h=>by simp at h
 |
  x::l,y::p,h,0,z,hz=>by
  simp at hz; subst hz;obtain ⟨a,b,rfl,hi⟩:=h.1;exact ⟨a,b,rfl,hi⟩
 | x::l,y::p,h,i+1,z,hz=>by simpa using h.2.get (i:=i) (by simpa using hz)
 | [],_::_,h,_,_,_=>h.elim
 | _::_,[],h,_,_,_=>h.elim
theorem Fx:∀ (p:W9),IsInts (p.map Gw) p
 | []=>trivial
 | z::p=>⟨⟨_,_,rfl,Um z⟩,Fx p⟩
theorem IsInts.append:∀ {l l':Uf} {p p':W9},IsInts l p->IsInts l' p'->IsInts (l++l') (p++p')
 | [],_,[],_,_,h=>h
 | x::l,_,z::p,_,h,h'=>⟨h.1,h.2.append h'⟩
 | [],_,_::_,_,h,_=>h.elim
 | _::_,_,[],_,h,_=>h.elim
def pl (p:W9):LV:=.row (p.map Gw)
def ids (l:W9):LV:=.row (l.map λ(x:Int)=>[.int .i64 x])
theorem Ij:Fu (.bool false) (.row []) 0:=⟨false,[],rfl,rfl,(λx hx=>by cases hx),rfl⟩
theorem Qit:sg 0=.bool false:=rfl
theorem dQ {z:Int}:(U9 z.natAbs).length=0↔z=0:=by
 constructor
 ·intro h;have h0:=Qh h;have:=(VR (Bl z.natAbs)).2 h0;rw [Gd] at this; omega
 ·rintro rfl; rw [show (0:Int).natAbs=0 from rfl,Gf]; rfl
theorem Hj {α β:Type} {f:α->β} {l:List α} {i:Nat} {x:α} (h:l[i]? = some x):(l.map f)[i]? = some (f x):=by rw [Zu,h]; rfl
theorem Qkj {α:Type} {f:α->Ue} {sz:Nat} (l:List α) (h:∀ x,(f x).length=sz):∀ c∈l.map f,c.length=sz:=λc hc=>by
 obtain ⟨x,_,rfl⟩:=Zf.1 hc;exact h x
theorem Qhm:mg 0=.row []:=by simp [mg,Gf,lm]
theorem Lt:Gw 0=[LV.bool false,LV.row []]:=by simp [Gw,Qit,Qhm]
end Orr
namespace Orr
open Go Go.Proofs Tryz
set_option maxRecDepth 10000
theorem HJ {p:W9} (hs:∀ z∈p,U0 z≤4294967295):sz (Hq p)≤4294967295:=by
 have key:∀ (p:W9) (g:Nat),sz g≤4294967295->(∀ z∈p,U0 z≤4294967295)->sz (p.foldl (λg z=>Nat.gcd g z.natAbs) g)≤4294967295:=by
  intro p
  induction p with
  | nil=>exact λg h _=>h
  |
   cons z p ih =>
   intro g h hs;refine ih _ ?_ λy hy=>hs y (.tail _ hy)
   rcases Q6 g with h0 | h0
   ·subst h0; show sz (Nat.gcd 0 z.natAbs)<=_; rw [Nat.gcd_zero_left]; exact hs z (.head _)
   ·exact Qd (Pd (Nat.gcd_le_left _ h0)) h
 exact key p 0 (by decide) hs
theorem eL {l:Uf} {p:W9} (hi:IsInts l p) (hs:∀ z∈p,U0 z≤4294967295):W6 138 [.one (.row l)] [.agg (Gw ((Hq p:Nat):Int))]:=by
 refine Fl func138 rfl (ln 0 rfl rfl λhl=>?_);have hlp:=hi.len;refine Wy [.z 3,.r 3 (v:=lr (U9 (Hq (p.take 0)))) (by simp [Hq,Gf,lm])] rfl ?_;refine ct 2 (S:=Unit) (λ_=>[(2,.v (.one (.ow 0 0))),(3,.v (lr (U9 (Hq p))))]) (λ_=>[.blk 37 [.bool false,.nils],.gone]) (λ_=>True) rfl ?_ ?_
 ·refine W5 (S:=Nat) 1 (λL1 i=>(12,.v (.oi i))::(3,.v (lr (U9 (Hq (p.take i)))))::L1) (λ_=>[.blk 37 [.bool false,.nils]]) (λi=>p.length-i) (λi=>i<=p.length) 0 (Qi _) rfl rfl λi hip=>?_
  by_cases h:i<p.length
  ·have hlt:i<l.length:=by omega
   obtain ⟨c,hc⟩:=gxE (l:=l) (i:=i) hlt;obtain ⟨z,hz⟩:=gxE (l:=p) (i:=i) h;obtain ⟨x,y,hc',b,r,rfl,rfl,hr,hzz⟩:=hi.get hz;rw [hc] at hc'; injection hc' with hc'; subst hc'
   have hsz:=hs z (Qa hz);have hg0:sz (Hq (p.take i))<=4294967295:=HJ λy hy=>hs y (Qm hy)
   have ezr:z.natAbs=val r:=by rw [hzz,Hk]
   have cn:=XS hr (by rw [<-ezr]; exact Qd hsz (by decide));rw [<-ezr] at cn;refine Wy [.t (by simp; omega),.x hc,.k cn] rfl ?_;refine W5 (S:=Nat×Nat) 2 (λL1 s=>(3,.v (lr (U9 s.1)))::(6,.v (lr (U9 s.2)))::L1) (λ_=>[.blk 37 [.bool false,.nils],.blk 37 [.bool b,.row (lm r)]]) (λs=>s.2) (λs=>Nat.gcd s.1 s.2=Nat.gcd (Hq (p.take i)) z.natAbs/\sz s.1<=4294967295/\sz s.2<=4294967295) (Hq (p.take i),z.natAbs) ⟨rfl,hg0,hsz⟩ rfl rfl λ⟨g,u⟩ ⟨j1,j2,j3⟩=>?_
   dsimp only at j1 j2 j3 ⊢;have hul:=By (m:=u);by_cases hu:0<u
   ·have cd:=wZ (m:=g) (n:=u) (by omega) (by omega) hu;refine Wy [.t (by simp [Un]; omega),.k cd] rfl ?_;exact rd (u,g % u) (Z9 _ hu) ⟨(Qg9 g u).trans j1,j3,Qd (Pd (J7 (Z9 _ hu))) j3⟩ rfl
   ·obtain rfl:u=0:=by omega
    rw [Nat.gcd_zero_right,<-cC hz] at j1;subst j1;by_cases h1:Hq (p.take (i+1))=1
    ·have e1:U9 (Hq (p.take (i+1)))=[1]:=by rw [h1,D6 (by decide)]; simp [Gf]
     refine Wy [.f (by simp [Gf,lm]),.t (by rw [e1]; rfl),.x (Gg (i:=0) (x:=1) (by rw [e1]; rfl)),.t rfl] rfl ?_;exact rc () trivial (by rw [h1,Qa0 h1]; rfl)
    ·obtain ⟨g,hg⟩:=nmE (Hq (p.take (i+1)));rw [<-hg] at h1 j2 ⊢;by_cases h2:(U9 g).length=1
     ·obtain ⟨v,hv⟩:∃ v,U9 g=[v]:=by
       match hm:U9 g,h2 with
       | [v],_=>exact ⟨v,rfl⟩
      have hv1:v≠1:=λe=>h1 (by rw [<-Gd g,hv,e]; rfl)
      refine go tt [.f (by simp [Gf,lm]),.t (by simp [Un,h2]),.x (Gg (i:=0) (x:=v) (by rw [hv]; rfl)),.f (by simp; omega)] rfl (by simp [Ul] <;> omega) ?_;exact rd (i+1) (by omega) h (by rw [<-hg]; rfl)
     ·refine go tt [.f (by simp [Gf,lm]),.f (by simp [Un]; omega),.f rfl] rfl (by simp [Ul] <;> omega) ?_;exact rd (i+1) (by omega) h (by rw [<-hg]; rfl)
  ·obtain rfl:i=p.length:=by omega
   refine Wy [.f (by simp; omega)] rfl ?_;rw [Q5];exact rc () trivial rfl
 ·intro _ _;have cn:=XS (Cw (Hq p)) (by rw [Gd]; exact Qd (HJ hs) (by decide));rw [Gd] at cn;exact W0 [.k cn,.k (T0 false _)] rfl (by simp [U5]) trivial
end Orr
namespace Orr
def Bd (s:Nat) (p:W9):Prop:=∀ z∈p,U0 z≤s
theorem Ce:U0 0=0:=rfl
theorem eZ {s:Nat} {p:W9} (h:Bd s p) {i:Nat} {z:Int} (hz:p[i]? = some z):U0 z<=s:=h z (Qa hz)
theorem Ft {s:Nat} {p:W9} (h:Bd s p) (k:Nat):U0 (p.getD k 0)<=s:=by
 rw [Qj];cases hk:p[k]? with
 | none=>rw [Ke,Ce]; exact Qi _
 | some z=>exact eZ h hk
theorem Uk {s t:Nat} {p:W9} (h:Bd s p) (ht:s<=t):Bd t p:=λz hz=>Qd (h z hz) ht
theorem Eo {s:Nat}:Bd s []:=λz hz=>by cases hz
theorem Qla {s:Nat} {n:Nat} {g:Nat->Int} (h:∀ k,k<n->U0 (g k)<=s):Bd s ((List.range n).map g):=λz hz=>by
 obtain ⟨k,hk,rfl⟩:=Zf.1 hz;exact h k (Kz.1 hk)
theorem vG:∀ (l:W9),∀ z∈trim l,z∈l
 | [],z,h=>by cases h
 |
  x::l,z,h=>by
  have ih:=vG l;cases hl:trim l with
  |
   nil =>
   simp only [trim,hl] at h
   split at h
   ·cases h
   ·rw [Ql] at h; rw [h]; exact Qx ..
  |
   cons y k =>
   simp only [trim,hl] at h;rcases Qk.1 h with rfl | h
   ·exact Qx ..
   ·exact Qf _ (ih z (by rw [hl]; exact h))
theorem Hp (l:W9):(trim l).length<=l.length:=by
 induction l with
 | nil=>exact Qn _
 |
  cons x l ih =>
  cases hl:trim l with
  | nil=>simp only [trim,hl]; split <;> simp
  | cons y k=>simp only [trim,hl]; rw [hl] at ih; simp at ih ⊢; exact ih
theorem Ti {s:Nat} {p:W9} (h:Bd s p):Bd s (trim p):=λz hz=>h z (vG p z hz)
theorem ZP:∀ (l:W9) (k:Nat),(trim l).getD k 0=l.getD k 0
 | [],k=>rfl
 |
  x::l,k=>by
  have ih:=ZP l;cases hl:trim l with
  |
   nil =>
   rw [hl] at ih;simp only [trim,hl]
   split
   ·rename_i hx;cases k with
    | zero=>simp [hx]
    | succ k=>have:=ih k; simp at this ⊢; exact this
   ·cases k with
    | zero=>simp
    | succ k=>have:=ih k; simp at this ⊢; exact this
  |
   cons y m =>
   rw [hl] at ih;simp only [trim,hl];cases k with
   | zero=>simp
   | succ k=>have:=ih k; simp at this ⊢; exact this
def YB (n:Nat) (g:Nat->Int):W9:=trim ((List.range n).map g)
theorem Fc (n:Nat) (g:Nat->Int):Uu (YB n g):=Rf _
theorem Of (n:Nat) (g:Nat->Int):(YB n g).length<=n:=Qd (Hp _) (by simp)
theorem Bj (n:Nat) (g:Nat->Int) (k:Nat):(YB n g).getD k 0=if k<n then g k else 0:=by
 unfold YB;rw [ZP,Qj,Zu]
 split
 ·rename_i h; rw [List.getElem?_range h]; rfl
 ·rename_i h; rw [List.getElem?_eq_none (by simpa using h)]; rfl
theorem YY {s n:Nat} {g:Nat->Int} (h:∀ k,k<n->U0 (g k)<=s):Bd s (YB n g):=Ti (Qla h)
def JV (p q:W9):W9:=YB (max p.length q.length) λk=>p.getD k 0+q.getD k 0
def Nt (p q:W9):W9:=YB (max p.length q.length) λk=>p.getD k 0-q.getD k 0
def Db (p:W9):W9:=YB p.length λk=>-(p.getD k 0)
def Fh (p:W9) (c:Int):W9:=YB p.length λk=>p.getD k 0*c
def Gj (p:W9):W9:=YB (p.length-1) λk=>p.getD (k+1) 0*((k+1:Nat):Int)
theorem YV {s t:Nat} {p q:W9} (h:Bd s p) (h':Bd t q):Bd (max s t+1) (JV p q):=YY λk _=>Qd (VX _ _) (by have:=Ft h k; have:=Ft h' k; omega)
theorem Bs {s t:Nat} {p q:W9} (h:Bd s p) (h':Bd t q):Bd (max s t+1) (Nt p q):=YY λk _=>Qd (AT _ _) (by have:=Ft h k; have:=Ft h' k; omega)
theorem LA {s:Nat} {p:W9} (h:Bd s p):Bd s (Db p):=YY λk _=>by rw [Ei]; exact Ft h k
theorem Fi {s t:Nat} {p:W9} {c:Int} (h:Bd s p) (hc:U0 c<=t):Bd (s+t) (Fh p c):=YY λk _=>Qd (Gv _ _) (by have:=Ft h k; omega)
theorem Ou (p q:W9):(JV p q).length<=max p.length q.length:=Of _ _
theorem Po (p q:W9):(Nt p q).length<=max p.length q.length:=Of _ _
theorem PK (p:W9):(Db p).length<=p.length:=Of _ _
theorem U8 (p:W9) (c:Int):(Fh p c).length<=p.length:=Of _ _
theorem Cg (p:W9):(Gj p).length<=p.length-1:=Of _ _
theorem pJ {k t:Nat} (h:k<2^t):U0 (k:Int)<=t:=by rw [M8]; simpa using h
theorem cI {k:Nat} (h:k<274877906944):U0 (k:Int)<=4294967295:=Qd (pJ (t:=38) (Nat.lt_of_lt_of_eq h (by decide))) (by omega)
theorem rB {s t:Nat} {p:W9} (h:Bd s p) (hl:p.length<=2^t):Bd (s+t) (Gj p):=YY λk hk=>Qd (Gv _ _) (by
 have:=Ft h (k+1);have:=pJ (k:=k+1) (t:=t) (by omega);omega)
def JZ (x:Int) (b:W9) (i:Nat) (o:W9):Nat->W9
 | 0=>o
 | k+1=>(JZ x b i o k).set (i+k) ((JZ x b i o k).getD (i+k) 0+x*b.getD k 0)
def JQ (a b o:W9):Nat->W9
 | 0=>o
 | i+1=>JZ (a.getD i 0) b i (JQ a b o i) b.length
def Fv (a b:W9):W9:=if a.length=0\/b.length=0 then [] else trim (JQ a b (List.replicate (a.length+b.length-1) 0) a.length)
theorem O2 (x:Int) (b:W9) (i:Nat) (o:W9) (k:Nat):(JZ x b i o k).length=o.length:=by
 induction k with
 | zero=>rfl
 | succ k ih=>simp [JZ,ih]
theorem Ak (a b o:W9) (i:Nat):(JQ a b o i).length=o.length:=by
 induction i with
 | zero=>rfl
 | succ i ih=>simp [JQ,O2,ih]
theorem Qa8 (l:W9) (i m:Nat) (v:Int) (h:i<l.length):(l.set i v).getD m 0=if m=i then v else l.getD m 0:=by
 rw [Qj,J9,Qj];by_cases e:i=m
 ·subst e; simp [h]
 ·rw [if_neg e,if_neg (λh=>e h.symm)]
theorem dK (x:Int) (b:W9) (i:Nat) (o:W9) (k m:Nat) (h:i+k<=o.length):(JZ x b i o k).getD m 0=if i<=m/\m<i+k then o.getD m 0+x*b.getD (m-i) 0 else o.getD m 0:=by
 induction k with
 | zero=>simp only [JZ]; rw [if_neg (by omega)]
 |
  succ k ih =>
  have ih:=ih (by omega);simp only [JZ];rw [Qa8 _ _ _ _ (by rw [O2]; omega)];by_cases e:m=i+k
  ·subst e;rw [if_pos rfl,if_pos (by omega),show i+k-i=k from by omega];rw [ih,if_neg (by omega)]
  ·rw [if_neg e,ih];by_cases h1:i<=m/\m<i+k
   ·rw [if_pos h1,if_pos (by omega)]
   ·rw [if_neg h1,if_neg (by omega)]
theorem Ew {x y:Int} {s t:Nat} (hx:U0 x<=s) (hy:U0 y<=t):(x*y).natAbs<=2^(s+t):=by
 have h:=Qd (Gv x y) (show _<=s+t by omega);rw [M8] at h; omega
theorem pL {x:Int} {b:W9} {i:Nat} {o:W9} {k M:Nat} (h:i+k<=o.length) (ho:∀ m,(o.getD m 0).natAbs<=i*M) (hx:∀ j,(x*b.getD j 0).natAbs<=M) (m:Nat):((JZ x b i o k).getD m 0).natAbs<=(i+1)*M:=by
 rw [dK x b i o k m h,Z6];have h1:=ho m
 split
 ·have h2:=hx (m-i);generalize i*M=q at *;omega
 ·omega
theorem pD {a b o:W9} {i M:Nat} (h:∀ j,j<i->j+b.length<=o.length) (ho:∀ m,o.getD m 0=0) (hx:∀ i j,(a.getD i 0*b.getD j 0).natAbs<=M) (m:Nat):((JQ a b o i).getD m 0).natAbs<=i*M:=by
 induction i generalizing m with
 | zero=>simp only [JQ]; rw [ho]; simp
 |
  succ i ih =>
  simp only [JQ];exact pL (by rw [Ak]; exact h i (by omega)) (ih λj hj=>h j (by omega)) (hx i) m
theorem XY {z:Int} {i s t:Nat} (h:z.natAbs<=i*2^s) (hi:i<2^t):U0 z<=s+t:=by
 rw [M8];have h1:i*2^s<2^t*2^s:=Xl hi (Zy (by decide));rw [<-Xc,Jk t s] at h1;omega
theorem Lm (n m:Nat):(List.replicate n (0:Int)).getD m 0=0:=by
 rw [Qj,Jn]; split <;> rfl
theorem RG {s:Nat} {p:W9} (h:∀ m,U0 (p.getD m 0)<=s):Bd s p:=λz hz=>by
 obtain ⟨i,hi⟩:=Zm.1 hz;have:=h i;rw [Qj,hi] at this;exact this
theorem Tl (a b:W9):(Fv a b).length<=a.length+b.length-1:=by
 unfold Fv
 split
 ·simp
 ·refine Qd (Hp _) ?_;rw [Ak]; simp
theorem S4 {s t u:Nat} {a b:W9} (ha:Bd s a) (hb:Bd t b) (hl:a.length<2^u):Bd (s+t+u) (Fv a b):=by
 unfold Fv
 split
 ·exact Eo
 ·refine Ti (RG λm=>?_);exact XY (pD (M:=2^(s+t)) (λj hj=>by simp; omega) (Lm _) (λi j=>Ew (Ft ha i) (Ft hb j)) m) hl
theorem G6 (a b:W9):Uu (Fv a b):=by
 unfold Fv
 split
 ·rfl
 ·exact Rf _
def Df (a:W9) (n d:Int):Nat->Int×Int
 | 0=>(0,1)
 | k+1=>((Df a n d k).1*n+a.getD (a.length-1-k) 0*(Df a n d k).2,(Df a n d k).2*d)
def Qnj (a:W9) (n d:Int):Int:=(Df a n d a.length).1
theorem nL {a:W9} {n d:Int} {s t k:Nat} (ha:Bd s a) (hn:U0 n<=t) (hd:U0 d<=t):U0 (Df a n d k).1<=s+2+k*(t+1)/\U0 (Df a n d k).2<=1+k*t:=by
 induction k with
 | zero=>exact ⟨by simp [Df,Ce],by simp [Df]; decide⟩
 |
  succ k ih =>
  obtain ⟨h1,h2⟩:=ih;have h3:=Ft ha (a.length-1-k);have e1:k*(t+1)=k*t+k:=by rw [Xg,Yk]
  rw [Z6,Z6];refine ⟨?_,?_⟩
  ·simp only [Df];refine Qd (VX _ _) ?_;have h4:=Gv (Df a n d k).1 n;have h5:=Gv (a.getD (a.length-1-k) 0) (Df a n d k).2;generalize k*t=q at *;rw [e1] at h1 ⊢;omega
  ·simp only [Df];have h4:=Gv (Df a n d k).2 d;generalize k*t=q at *;omega
end Orr
namespace Orr
theorem ER {x y:Int}:Cc x y=0↔x=y:=by
 unfold Cc;constructor
 ·intro h
  split at h
  ·omega
  ·split at h <;> omega
 ·rintro rfl; simp
theorem Hu {p:W9} (h:Uu p) (h0:0<p.length):p.getD (p.length-1) 0≠0:=by
 induction p with
 | nil=>simp at h0
 |
  cons x l ih =>
  unfold Uu at h;cases hl:trim l with
  |
   nil =>
   simp only [trim,hl] at h
   split at h
   ·cases h
   ·rename_i hx;injection h with h1 h2;subst h2;simpa using hx
  |
   cons y k =>
   simp only [trim,hl] at h;injection h with h1 h2;rw [<-hl] at h2;have ih:=ih h2 (by rw [<-h2,hl]; simp);have h3:0<l.length:=by rw [<-h2,hl]; simp
   simp only [Q7,Jz];obtain ⟨m,hm⟩:∃ m,l.length=m+1:=⟨l.length-1,by omega⟩;rw [hm] at ih ⊢;simpa using ih
end Orr
namespace Orr
theorem xB (p:W9):(List.range p.length).map (λk=>p.getD k 0)=p:=by
 apply Xi;intro i;rw [Zu];rcases Zc i p.length with h | h
 ·rw [Jg h];simp [Qe h]
 ·rw [Q0 (by simpa using h),Q0 h]; rfl
theorem wB {p q:W9} (hl:p.length=q.length) (h:∀ j,j<p.length->p.getD j 0=q.getD j 0):p=q:=by
 rw [<-xB p,<-xB q,<-hl];exact Xx λj hj=>h j (Kz.1 hj)
end Orr
namespace Orr
abbrev rl (q:Rat):Ue:=[sg q.num,mg q.num,sg (q.den:Int),mg (q.den:Int)]
theorem Ag (n d:Int):Hq [n,d]=Int.gcd d n:=by
 unfold Hq;simp only [Z4,List.foldl_nil,Nat.gcd_zero_left];exact Nat.gcd_comm _ _
theorem Qa1 {n d:Int} (hd:d≠0):(0:Int)<((Hq [n,d]:Nat):Int):=by
 rw [Ag];have:=Int.gcd_pos_of_ne_zero_left n hd;omega
theorem wO (n d:Int):n % ((Hq [n,d]:Nat):Int)=0:=by
 rw [Ag]; exact Ye (Int.gcd_dvd_right ..)
theorem uQ (n d:Int):d % ((Hq [n,d]:Nat):Int)=0:=by
 rw [Ag]; exact Ye (Int.gcd_dvd_left ..)
theorem pI {n g:Int} (h:n % g=0):-n % g=0:=by
 exact Ye (Int.dvd_neg.2 (V5 h))
theorem Qhe {n d:Int} {s:Nat} (hd:d≠0) (h:U0 d<=s):U0 ((Hq [n,d]:Nat):Int)<=s:=by
 rw [Ag];refine Qd (Pd ?_) h;have:=Wb (by omega:0<d.natAbs) (show Int.gcd d n∣d.natAbs from Wi _ _);simpa using this
theorem Qhl {n d:Int} (hd:0<d):n / ((Hq [n,d]:Nat):Int)=(Rat.divInt n d).num/\d / ((Hq [n,d]:Nat):Int)=((Rat.divInt n d).den:Int):=by
 rw [Ag,Rat.num_divInt,K0,if_neg (by omega),Yj hd,K6];refine ⟨rfl,?_⟩;rw [Int.natCast_ediv,Int.natAbs_of_nonneg (by omega)]
theorem Qhk {n d:Int} (hd:d<0):-n / ((Hq [n,d]:Nat):Int)=(Rat.divInt n d).num/\-d / ((Hq [n,d]:Nat):Int)=((Rat.divInt n d).den:Int):=by
 rw [Ag,Rat.num_divInt,K0,if_neg (by omega),Jv hd,Wv,K6];refine ⟨rfl,?_⟩;rw [Int.natCast_ediv,Int.ofNat_natAbs_of_nonpos (by omega)]
theorem SL (u g:Int):U0 (u / g)<=U0 u:=by
 unfold U0;exact Pd (Int.natAbs_ediv_le_natAbs u g)
theorem SI {n d:Int} {s:Nat} (h:U0 n<=s):U0 (Rat.divInt n d).num<=s:=by
 rw [Rat.num_divInt];refine Qd (SL _ _) ?_;unfold U0;rw [Yh];refine Qd (Pd ?_) h;have:d.sign.natAbs<=1:=by rcases Ly d with ⟨_,e⟩ | ⟨_,e⟩ | ⟨_,e⟩ <;> rw [e] <;> decide
 calc d.sign.natAbs*n.natAbs<=1*n.natAbs:=Qz _ this
  _=n.natAbs:=Ww _
theorem SE {n d:Int} {s:Nat} (h:U0 d<=s) (h1:1<=s):U0 ((Rat.divInt n d).den:Int)<=s:=by
 rw [K0]
 split
 ·exact h1
 ·refine Qd (Pd ?_) h;exact Jr _ _
def Qs (s:Nat) (q:Rat):Prop:=U0 q.num<=s/\U0 (q.den:Int)<=s
theorem Qs.mono {s t:Nat} {q:Rat} (h:Qs s q) (ht:s<=t):Qs t q:=⟨Qd h.1 ht,Qd h.2 ht⟩
theorem Qs.divInt {s:Nat} {n d:Int} (h:U0 n<=s) (h':U0 d<=s) (h1:1<=s):Qs s (Rat.divInt n d):=⟨SI h,SE h' h1⟩
theorem Qmd (q:Rat):(q.den:Int)≠0:=by have:=q.den_nz; omega
theorem den_pos (q:Rat):(0:Int)<(q.den:Int):=by have:=q.den_nz; omega
def To (n d:Int):Rat:=Rat.divInt n (if d=0 then 1 else d)
theorem Sl (q:Rat):To q.num q.den=q:=by
 unfold To;rw [if_neg (Qmd q)]; exact X2 q
def Gm (a b:Rat):Int:=Cc (a.num*(b.den:Int)) (b.num*(a.den:Int))
theorem P0 {a b:Rat}:Gm a b<0↔a<b:=by
 rw [Rat.lt_iff]; unfold Gm Cc;constructor
 ·intro h; split at h
  ·assumption
  ·split at h <;> omega
 ·intro h; rw [if_pos h]; decide
theorem Ds {a b:Rat}:0<Gm a b↔b<a:=by
 rw [Rat.lt_iff]; unfold Gm Cc;constructor
 ·intro h; split at h
  ·omega
  ·split at h
   ·assumption
   ·omega
 ·intro h; rw [if_neg (by omega),if_pos h]; decide
theorem D3 (a:Rat):Gm a a=0:=by unfold Gm Cc; simp
structure Crv where
 x:List Int
 y:List Int
 d:Int
abbrev cl (k:Crv):Ue:=[pl k.x,pl k.y,sg k.d,mg k.d]
def Crv.d' (k:Crv):Int:=if k.d=0 then 1 else k.d
def Crv.g (k:Crv):Int:=if k.d'<0 then -((Hq (k.d'::(trim k.x++trim k.y)):Nat):Int) else (Hq (k.d'::(trim k.x++trim k.y)):Nat)
def Crv.norm (k:Crv):Crv:=⟨trim ((trim k.x).map (· / k.g)),trim ((trim k.y).map (· / k.g)),k.d' / k.g⟩
theorem Oi {l:W9}:∀ z∈l,((Hq l:Nat):Int)∣z:=by
 have key:∀ (l:W9) (g:Nat),(l.foldl (λg z=>Nat.gcd g z.natAbs) g∣g)/\∀ z∈l,l.foldl (λg z=>Nat.gcd g z.natAbs) g∣z.natAbs:=by
  intro l
  induction l with
  | nil=>intro g; exact ⟨Nat.dvd_refl _,by simp⟩
  |
   cons u l ih =>
   intro g;obtain ⟨h1,h2⟩:=ih (Nat.gcd g u.natAbs);refine ⟨Nat.dvd_trans h1 (Wi _ _),λz hz=>?_⟩;rcases Qk.1 hz with rfl | hz
   ·exact Nat.dvd_trans h1 (Nat.gcd_dvd_right _ _)
   ·exact h2 z hz
 intro z hz;have:=(key l 0).2 z hz;exact K8.2 this
theorem Crv.d'_ne (k:Crv):k.d'≠0:=by unfold Crv.d'; split <;> omega
theorem Crv.gcd_ne (k:Crv):Hq (k.d'::(trim k.x++trim k.y))≠0:=by
 intro e;have h:=Oi (l:=k.d'::(trim k.x++trim k.y)) k.d' (Qx ..);rw [e] at h;exact k.d'_ne (by simpa using h)
theorem Crv.g_ne (k:Crv):k.g≠0:=by
 have h0:=k.gcd_ne;unfold Crv.g
 split <;> omega
theorem Crv.g_dvd (k:Crv):∀ z∈k.d'::(trim k.x++trim k.y),z % k.g=0:=by
 intro z hz;have h:=Oi z hz;refine Ye ?_;unfold Crv.g
 split
 ·exact Int.neg_dvd.2 h
 ·exact h
theorem Crv.isz_g (k:Crv) {s:Nat} (h:U0 k.d'<=s):U0 k.g<=s:=by
 have hd:=Oi (l:=k.d'::(trim k.x++trim k.y)) k.d' (Qx ..);have hle:Hq (k.d'::(trim k.x++trim k.y))<=k.d'.natAbs:=Wb (by have:=k.d'_ne; omega) (K8.1 hd);refine Qd (Pd ?_) h;unfold Crv.g
 split <;> simp <;> exact hle
structure Cs (s n:Nat) (k:Crv):Prop where
 x:Bd s k.x
 y:Bd s k.y
 d:U0 k.d<=s
 lx:k.x.length<=n
 ly:k.y.length<=n
theorem Qbl {k:Crv} {s:Nat} (h:U0 k.d<=s) (h1:1<=s):U0 k.d'<=s:=by unfold Crv.d'; split <;> first | exact h1 | exact h
theorem KA {s:Nat} {p:W9} (h:Bd s p) (g:Int):Bd s (p.map (· / g)):=λz hz=>by
 obtain ⟨u,hu,rfl⟩:=Zf.1 hz;exact Qd (SL u g) (h u hu)
theorem Cs.norm {s n:Nat} {k:Crv} (h:Cs s n k) (h1:1<=s):Cs s n k.norm:=by
 refine ⟨Ti (KA (Ti h.x) _),Ti (KA (Ti h.y) _),Qd (SL _ _) (Qbl h.d h1),?_,?_⟩
 ·refine Qd (Hp _) ?_; rw [Zp]; exact Qd (Hp _) h.lx
 ·refine Qd (Hp _) ?_; rw [Zp]; exact Qd (Hp _) h.ly
theorem Cs.mono {s n t m:Nat} {k:Crv} (h:Cs s n k) (hs:s<=t) (hn:n<=m):Cs t m k:=⟨Uk h.x hs,Uk h.y hs,Qd h.d hs,Qd h.lx hn,Qd h.ly hn⟩
def I2 (k:Crv):Prop:=Uu k.x/\Uu k.y/\0<k.d/\Hq (k.d::(k.x++k.y))=1
theorem Crv.norm_of {k:Crv} (h:I2 k):k.norm=k:=by
 obtain ⟨h1,h2,h3,h4⟩:=h;have hd:k.d'=k.d:=by unfold Crv.d'; rw [if_neg (by omega)]
 have hx:trim k.x=k.x:=h1;have hy:trim k.y=k.y:=h2;have hg:k.g=1:=by unfold Crv.g; rw [hd,hx,hy,h4,if_neg (by omega)]; rfl
 unfold Crv.norm;rw [hg,hd,hx,hy];simp [hx,hy]
theorem AZ {l:W9} {g:Int} (hg:g≠0) (hga:g.natAbs=Hq l):Hq (l.map (· / g))=1:=by
 have key:∀ (l:W9) (a:Nat),(∀ z∈l,g∣z)->l.foldl (λa z=>Nat.gcd a z.natAbs) (a*g.natAbs)=((l.map (· / g)).foldl (λa z=>Nat.gcd a z.natAbs) a)*g.natAbs:=by
  intro l
  induction l with
  | nil=>intro a _; rfl
  |
   cons z l ih =>
   intro a h;simp only [Zx,Z4];have hz:z.natAbs=(z / g).natAbs*g.natAbs:=by
    obtain ⟨q,rfl⟩:=h z (Qx ..);rw [Yx _ hg,Yh,Zo]
   rw [hz,Nat.gcd_mul_right];exact ih _ λu hu=>h u (Qf _ hu)
 have h:=key l 0 λz hz=>X7.1 (by rw [hga]; exact X7.2 (Oi z hz))
 rw [Yo] at h;have h':Hq l=Hq (l.map (· / g))*g.natAbs:=h;rw [<-hga] at h';have hp:0<g.natAbs:=by omega
 exact Nat.eq_of_mul_eq_mul_right hp (by rw [Ww]; exact h'.symm)
theorem QH {l:W9} {g:Int} (ht:Uu l) (hg:g≠0) (hd:∀ z∈l,g∣z):Uu (l.map (· / g)):=by
 induction l with
 | nil=>rfl
 |
  cons x l ih =>
  have hne:∀ z∈x::l,z≠0->z / g≠0:=λz hz h0 h1=>by
   obtain ⟨q,rfl⟩:=hd z hz;rw [Yx _ hg] at h1;rw [h1] at h0; simp at h0
  unfold Uu at ht ih ⊢;cases hl:trim l with
  |
   nil =>
   simp only [trim,hl] at ht
   split at ht
   ·cases ht
   ·rename_i hx;injection ht with _ h2;subst h2;simp [trim,hne x (Qx ..) hx]
  |
   cons y k =>
   simp only [trim,hl] at ht;injection ht with _ h2;have hll:trim l=l:=by rw [hl]; exact h2
   have ih:=ih hll λz hz=>hd z (Qf _ hz)
   rw [Zx];have hne2:l.map (· / g)≠[]:=by rw [<-hll,hl]; simp
   cases hm:l.map (· / g) with
   | nil=>exact absurd hm hne2
   |
    cons u w =>
    rw [hm] at ih;have e:trim (x / g::u::w)=match trim (u::w) with | []=>if x / g=0 then [] else [x / g] | y::k=>x / g::y::k:=rfl
    rw [e,ih]
theorem Crv.nml (k:Crv):I2 k.norm:=by
 have hg:=k.g_ne;have hdv:∀ z∈k.d'::(trim k.x++trim k.y),k.g∣z:=λz hz=>V5 (k.g_dvd z hz)
 have hx:=QH (g:=k.g) (Rf k.x) hg λz hz=>hdv z (by simp [hz])
 have hy:=QH (g:=k.g) (Rf k.y) hg λz hz=>hdv z (by simp [hz])
 refine ⟨Rf _,Rf _,?_,?_⟩
 ·show 0<k.d' / k.g;obtain ⟨q,hq⟩:=hdv k.d' (Qx ..);have h0:=k.d'_ne;have hgc:=k.gcd_ne;have e:k.d' / k.g=q:=by rw [hq,Yx _ hg]
  rw [e];unfold Crv.g at hq hg;have hq0:q≠0:=λe=>by rw [e,Kq] at hq; exact h0 hq
  split at hq
  ·rename_i hneg;rcases K7 hq0 with h | h
   ·have:=Vx (a:=-((Hq (k.d'::(trim k.x++trim k.y)):Nat):Int)) (b:=q) (by omega) h;omega
   ·exact h
  ·rename_i hneg;rcases K7 hq0 with h | h
   ·have:=Vw (a:=((Hq (k.d'::(trim k.x++trim k.y)):Nat):Int)) (b:=q) (by omega) h;omega
   ·exact h
 ·show Hq (k.d' / k.g::(trim ((trim k.x).map (· / k.g))++trim ((trim k.y).map (· / k.g))))=1;rw [show trim ((trim k.x).map (· / k.g))=(trim k.x).map (· / k.g) from hx,show trim ((trim k.y).map (· / k.g))=(trim k.y).map (· / k.g) from hy,<-J4,<-Zx (f:=(· / k.g))];refine AZ hg ?_;unfold Crv.g
  split <;> omega
structure Pt where
 c:Crv
 id:Int
def Ur (p:Pt):Ue:=[pl p.c.x,pl p.c.y,sg p.c.d,mg p.c.d,.int .i64 p.id]
def pts (l:List Pt):LV:=.row (l.map Ur)
def Hb:List Pt->Int->Nat
 | [],_=>0
 | p::l,id=>if p.id<id then Hb l id+1 else 0
def has (l:List Pt) (id:Int):Bool:=match l[Hb l id]? with
 | some p=>decide (p.id=id)
 | none=>false
theorem IG (l:List Pt) (id:Int):Hb l id<=l.length:=by
 induction l with
 | nil=>exact Qn _
 | cons p l ih=>simp only [Hb]; split <;> simp <;> omega
theorem JF:∀ {l:List Pt} {id:Int} {k:Nat},(∀ j p,j<k->l[j]? = some p->p.id<id)->(k=l.length\/∃ p,l[k]? = some p/\¬p.id<id)->Hb l id=k
 |
  [],id,k,_,h=>by
  rcases h with h | ⟨p,h,_⟩
  ·subst h; rfl
  ·simp at h
 |
  q::l,id,0,_,h=>by
  rcases h with h | ⟨p,h,h2⟩
  ·simp at h
  ·simp at h; subst h; simp [Hb,h2]
 |
  q::l,id,k+1,h1,h=>by
  have hq:=h1 0 q (by omega) rfl;simp only [Hb,hq,if_true];rw [JF (k:=k) (λj p hj hp=>h1 (j+1) p (by omega) (by simpa using hp))];rcases h with h | ⟨p,h,h2⟩
  ·left; simpa using h
  ·right; exact ⟨p,by simpa using h,h2⟩
def put (l:List Pt) (q:Pt):List Pt:=l.take (Hb l q.id)++q::l.drop (Hb l q.id)
def JH (l:List Pt) (q:Pt):Int:=if has l q.id=true then 6 else if 6<=l.length then 9 else 0
def Qk3 (s n:Nat) (p:Pt):Prop:=I2 p.c/\Cs s n p.c
theorem IS (l:List Pt) (q:Pt):(put l q).length=l.length+1:=by
 have:=IG l q.id;simp [put]; omega
theorem HT {l:List Pt} {q p:Pt} (h:p∈put l q):p=q\/p∈l:=by
 unfold put at h;rcases Qr.1 h with h | h
 ·exact .inr (Qm h)
 ·rcases Qk.1 h with h | h
  ·exact .inl h
  ·exact .inr (Qy h)
def Eg (a b:Crv):Bool:=decide (a.x=b.x/\a.y=b.y/\a.d=b.d)
def Mv (out:List Pt) (p:Pt):List Pt:=if out.any (λq=>Eg p.c q.c)=true then out else out++[p]
def H7 (l:List Pt):List Pt:=l.foldl Mv []
theorem lK {out:List Pt} {p q:Pt} (h:q∈Mv out p):q∈out\/q=p:=by
 unfold Mv at h
 split at h
 ·exact .inl h
 ·rcases Qr.1 h with h | h
  ·exact .inl h
  ·exact .inr (by simpa using h)
theorem lV (out:List Pt) (p:Pt):(Mv out p).length<=out.length+1:=by
 unfold Mv; split <;> simp
theorem Rm {α β:Type} (f:β->α->β) (b:β) (l:List α) {i:Nat} {x:α} (h:l[i]? = some x):(l.take (i+1)).foldl f b=f ((l.take i).foldl f b) x:=by
 rw [Yu,h]; simp [Vf]
theorem XR (l:List Pt) (i:Nat):∀ q∈(l.take i).foldl Mv [],q∈l:=by
 induction i with
 | zero=>simp
 |
  succ i ih =>
  intro q hq;cases hi:l[i]? with
  |
   none =>
   rw [Qw (by have:=Jh.1 hi; omega)] at hq;rw [Qw (Jh.1 hi)] at ih;exact ih q hq
  |
   some x =>
   rw [Rm _ _ _ hi] at hq;rcases lK hq with h | h
   ·exact ih q h
   ·subst h; exact Qa hi
theorem XH (l:List Pt) (i:Nat):((l.take i).foldl Mv []).length<=i:=by
 induction i with
 | zero=>simp
 |
  succ i ih =>
  cases hi:l[i]? with
  |
   none =>
   rw [Qw (by have:=Jh.1 hi; omega)];rw [Qw (Jh.1 hi)] at ih;omega
  |
   some x =>
   rw [Rm _ _ _ hi];have:=lV ((l.take i).foldl Mv []) x;omega
theorem Py {l:List Pt} {q:Pt} (h:q∈H7 l):q∈l:=by
 have:=XR l l.length q;rw [Q5] at this;exact this h
theorem A4 (l:List Pt):(H7 l).length<=l.length:=by
 have:=XH l l.length;rwa [Q5] at this
def Ha (p:W9) (q:Rat):Int:=Cc (Qnj p q.num q.den) 0
abbrev qa (q:Rat):Ue:=pl [-q.num,(q.den:Int)]::(rl q++rl q)
def Ri (sgn:W9->Int):Nat->W9->Int
 | 0,_=>0
 | k+1,p=>if p.length=0 then 0 else if sgn p=0 then Ri sgn k (Gj p) else sgn p
theorem Om (sgn:W9->Int):∀ (k:Nat) (p:W9),p.length<=k->Ri sgn k p=Ri sgn p.length p
 |
  0,p,h=>by
  have:p.length=0:=by omega
  rw [this]
 |
  k+1,p,h=>by
  cases hp:p.length with
  | zero=>simp [Ri,hp]
  |
   succ m =>
   simp only [Ri];have h1:=Cg p;rw [Om sgn k (Gj p) (by omega),Om sgn m (Gj p) (by omega)]
theorem zI (sgn:W9->Int) {p:W9} (h:p.length=0):Ri sgn p.length p=0:=by rw [h]; rfl
theorem zE (sgn:W9->Int) {p:W9} (h:0<p.length) (hs:sgn p≠0):Ri sgn p.length p=sgn p:=by
 obtain ⟨m,hm⟩:∃ m,p.length=m+1:=⟨p.length-1,by omega⟩;rw [hm]; simp only [Ri]; rw [if_neg (by omega),if_neg hs]
theorem zA (sgn:W9->Int) {p:W9} (h:0<p.length) (hs:sgn p=0):Ri sgn p.length p=Ri sgn (Gj p).length (Gj p):=by
 obtain ⟨m,hm⟩:∃ m,p.length=m+1:=⟨p.length-1,by omega⟩;rw [hm]; simp only [Ri]; rw [if_neg (by omega),if_pos hs];exact Om sgn m _ (by have:=Cg p; omega)
structure Tm where
 p:List Int
 lo:Rat
 hi:Rat
abbrev ta (t:Tm):Ue:=pl t.p::(rl t.lo++rl t.hi)
abbrev tq (q:Rat):Tm:=⟨[-q.num,(q.den:Int)],q,q⟩
def Gn (sg:W9->Int) (p:W9):Int:=Ri sg p.length p
structure Pb (p:List Int):Prop where
 t:Uu p
 l:p.length<=64
 b:Bd 16777216 p
abbrev Qb (q:Rat):Prop:=Qs 16777216 q
abbrev Cb (k:Crv):Prop:=Cs 1048576 16 k
def Fg (a b:Crv):W9:=Nt (Fh b.x a.d) (Fh a.x b.d)
def Ff (a b:Crv):W9:=Nt (Fh b.y a.d) (Fh a.y b.d)
theorem jM {a b:Crv} (ha:Cb a) (hb:Cb b):Pb (Fg a b)/\(Fg a b).length<=16/\Bd 2097153 (Fg a b):=by
 have h1:Bd 2097153 (Fg a b):=Uk (Bs (Fi hb.x ha.d) (Fi ha.x hb.d)) (by omega);have h2:(Fg a b).length<=16:=by
  refine Qd (Po _ _) ?_;have:=U8 b.x a.d; have:=U8 a.x b.d; have:=ha.lx; have:=hb.lx;omega
 exact ⟨⟨Fc _ _,by omega,Uk h1 (by omega)⟩,h2,h1⟩
theorem jS {a b:Crv} (ha:Cb a) (hb:Cb b):Pb (Ff a b)/\(Ff a b).length<=16/\Bd 2097153 (Ff a b):=by
 have h1:Bd 2097153 (Ff a b):=Uk (Bs (Fi hb.y ha.d) (Fi ha.y hb.d)) (by omega);have h2:(Ff a b).length<=16:=by
  refine Qd (Po _ _) ?_;have:=U8 b.y a.d; have:=U8 a.y b.d; have:=ha.ly; have:=hb.ly;omega
 exact ⟨⟨Fc _ _,by omega,Uk h1 (by omega)⟩,h2,h1⟩
def Da (sg:W9->Int) (a b:Pt):Ua->Bool
 | []=>decide (a.id<b.id)
 | p::l=>if 0<p.length then decide (0<Gn sg p) else Da sg a b l
def M3 (sg:W9->Int) (a b:Pt):Bool:=Da sg a b [Ff b.c a.c,Fg b.c a.c]
def Rh (sg:W9->Int) (a b:Pt):Bool:=Da sg a b [Fg a.c b.c,Ff a.c b.c]
end Orr
namespace Orr
open Go
structure Ct where
 kind:Int
 i0:Int
 i1:Int
 i2:Int
 i3:Int
 p:List Int
 want:Int
abbrev C9 (c:Ct):Ue:=[.int .i64 c.kind,.int .i64 c.i0,.int .i64 c.i1,.int .i64 c.i2,.int .i64 c.i3,pl c.p,.int .i64 c.want]
def C0 (p q:W9):W9:=if 0<p.length then p else q
def Nx:W9->W9->Bool
 | x::l,y::m=>if x=y then Nx l m else decide (x<y)
 | _,_=>false
def xH (a b:Ct):Bool:=Nx [a.kind,a.i0,a.i1,a.i2,a.i3] [b.kind,b.i0,b.i1,b.i2,b.i3]
def QZ (out:List Ct) (c:Ct):Nat->Nat
 | 0=>0
 |
  k+1=>match out[k]? with
  | some x=>if xH c x=true then QZ out c k else k+1
  | none=>k+1
theorem mH (out:List Ct) (c:Ct):∀ k,QZ out c k<=k
 | 0=>Qn _
 |
  k+1=>by
  simp only [QZ]
  split
  ·split
   ·exact Nat.le_succ_of_le (mH out c k)
   ·exact Qn _
  ·exact Qn _
theorem Qh5 {out:List Ct} {c x:Ct} {k:Nat} (hx:out[k]? = some x) (h:xH c x=true):QZ out c (k+1)=QZ out c k:=by
 simp only [QZ,hx,h,if_true]
theorem Qcx {out:List Ct} {c x:Ct} {k:Nat} (hx:out[k]? = some x) (h:xH c x=false):QZ out c (k+1)=k+1:=by
 simp [QZ,hx,h]
def XI (out:List Ct) (c:Ct):List Ct:=out.take (QZ out c out.length)++c::out.drop (QZ out c out.length)
theorem Qbd (out:List Ct) (c:Ct):(XI out c).length=out.length+1:=by
 have:=mH out c out.length;simp [XI]; omega
theorem Qbe {out:List Ct} {c x:Ct} (h:x∈XI out c):x=c\/x∈out:=by
 simp only [XI,Qr,Qk] at h;rcases h with h | h | h
 ·exact .inr (Qm h)
 ·exact .inl h
 ·exact .inr (Qy h)
def U6 (l:List Ct):List Ct:=l.foldl XI []
theorem gJ (l:List Ct) (c:Ct):U6 (l++[c])=XI (U6 l) c:=by simp [U6,Vf]
theorem gY {l:List Ct} {i:Nat} {c:Ct} (h:l[i]? = some c):U6 (l.take (i+1))=XI (U6 (l.take i)) c:=by
 rw [Z5,h]; exact gJ _ _
theorem CJ:∀ (l acc:List Ct),(l.foldl XI acc).length=acc.length+l.length
 | [],acc=>by simp
 | c::l,acc=>by simp only [Z4]; rw [CJ l (XI acc c),Qbd]; simp; omega
theorem Bp (l:List Ct):(U6 l).length=l.length:=by unfold U6; rw [CJ]; simp
theorem CY:∀ (l acc:List Ct) {x:Ct},x∈l.foldl XI acc->x∈l\/x∈acc
 | [],acc,x,h=>.inr h
 |
  c::l,acc,x,h=>by
  simp only [Z4] at h;rcases CY l _ h with h | h
  ·exact .inl (Qf _ h)
  ·rcases Qbe h with rfl | h
   ·exact .inl (Qx ..)
   ·exact .inr h
theorem ZH {l:List Ct} {x:Ct} (h:x∈U6 l):x∈l:=by
 rcases CY l [] h with h | h
 ·exact h
 ·cases h
theorem xY {α:Type} (l:List α) (z x:α) {k m':Nat} (hk:k<=l.length) (hm:m'=l.length-k) :
 ((l++[z]).take (k+1)++((l++[z]).drop k).take m'++(l++[z]).drop (k+1+m')).set k x=l.take k++x::l.drop k:=by
 subst hm;have e1:((l++[z]).drop k).take (l.length-k)=l.drop k:=by
  rw [Kv hk,Ve (by simp),Qw (by simp)]
 have e2:(l++[z]).drop (k+1+(l.length-k))=[]:=V8 (by simp; omega);rw [e1,e2,Zw];have e3:(l++[z]).take (k+1)=(l++[z]).take k++[(l++[z])[k]'(by simp; omega)]:=by rw [List.take_succ_eq_append_getElem]
 rw [e3,Ve hk,Za,List.set_append,if_neg (by simp; omega)];simp [Z8 hk]
def Lu (a b:Pt):W9:=C0 (Fg a.c b.c) (Ff a.c b.c)
def Lr (a b:Pt):W9:=C0 (Ff b.c a.c) (Fg b.c a.c)
def Iq (sg:W9->Int) (a b:Pt):Ct:={ kind:=1,i0:=a.id,i1:=b.id,i2:=0,i3:=0,p:=Lu a b,want:=Gn sg (Lu a b) }
def Bz (sg:W9->Int) (a b:Pt):Ct:={ kind:=2,i0:=a.id,i1:=b.id,i2:=0,i3:=0,p:=Lr a b,want:=Gn sg (Lr a b) }
end Orr
namespace Orr
open Go Go.Proofs Tryz
set_option maxRecDepth 10000
abbrev pr (p:W9):TV:=.one (pl p)
theorem Si {p:W9} {i:Nat} {z:Int} (h:p[i]? = some z):(p.map Gw)[i]? = some (Gw z):=Hj h
theorem TK (p:W9):W6 79 [pr p] [pr (trim p)]:=by
 refine Fl func79 rfl (ln 0 rfl rfl λhl=>?_);rw [Zp] at hl;refine Wy [] rfl ?_;refine lp (S:=Nat) 0 (λL1 n=>(3,.v (.oi n))::L1) (λ_=>[]) id (λn=>n<=p.length/\∀ j x,n<=j->p[j]? = some x->x=0) (p.map Gw).length ⟨by simp,λj x h1 h2=>by
  have:=(Qg.1 h2).1; simp at h1; omega⟩ rfl (λ_ _=>rfl) rfl λn ⟨h1,h2⟩=>?_
 cases n with
 | zero=>exact W0 [.f (by simp),.f rfl,.i 0] rfl (by rw [vU h1 h2 (λh=>by omega)]; simp [pl]) (by simp [Ul])
 |
  succ n =>
  obtain ⟨x,hx⟩:=gxE (l:=p) (i:=n) (by omega);by_cases h0:x=0
  ·refine Wz [.t (by simp),.r 11 (v:=.oi n) (by simp),.x (Si hx),.k Cz,.t (by simp [h0]),.r 17 (v:=.oi n) (by simp)] rfl ?_;exact rd n (by simp) ⟨by omega,λj y h3 h4=>by
    rcases V4 h3 with rfl | h3
    ·rw [hx] at h4; injection h4 with h4; rw [<-h4,h0]
    ·exact h2 j y h3 h4⟩ rfl
  ·exact W0 [.t (by simp),.r 11 (v:=.oi n) (by simp),.x (Si hx),.k Cz,.f (by simp [h0]),.i (n+1)] rfl (by rw [vU h1 h2 (λ_=>⟨x,hx,h0⟩)]; simp [pl,Yb]) (by simp [Ul] <;> omega)
theorem tK (p:W9) (k:Nat):W6 219 [pr p,.oi k] [.agg (Gw (p.getD k 0))]:=by
 by_cases h:k<p.length
 ·have hx:=Qe h;have e:p.getD k 0=p[k]:=by simp [List.getD,hx]
  rw [e];exact W3 func219 rfl [.t (by simp; omega),.x (Si hx)] rfl
 ·have e:p.getD k 0=0:=by simp [List.getD,Q0 (Jx h)]
  rw [e,Lt];exact W3 func219 rfl [.f (by simp; omega)] rfl
def MO (f:Nat->Ue) (z:Ue) (n k:Nat):Uf:=(List.range n).map λi=>if i<k then f i else z
theorem Eh (f:Nat->Ue) (z:Ue) (n k:Nat):(MO f z n k).length=n:=by simp [MO]
theorem Lk (f:Nat->Ue) (z:Ue) (n:Nat):List.replicate n z=MO f z n 0:=by
 refine Xi λi=>?_
 simp only [MO,Jn,Zu];by_cases h:i<n
 ·simp [h]
 ·simp [h]
theorem Ih (f:Nat->Ue) (z:Ue) (n:Nat):MO f z n n=(List.range n).map f:=by
 refine Xx λi hi=>?_
 rw [if_pos (Kz.1 hi)]
theorem Ii (f:Nat->Ue) (z:Ue) {n k:Nat} (h:k<n):(MO f z n k).set k (f k)=MO f z n (k+1):=by
 refine Xi λi=>?_
 rw [J9];simp only [MO,Zu,Zp,List.length_range,h,if_true];by_cases e:k=i
 ·subst e; simp [h]
 ·simp only [e,if_false];by_cases hi:i<n
  ·simp only [Jg hi,J8];congr 1;by_cases h2:i<k
   ·rw [if_pos h2,if_pos (by omega)]
   ·rw [if_neg h2,if_neg (by omega)]
  ·simp [Q0,hi]
theorem EU {n fid:Nat} {l1 l2:Ue} {g:Nat->Int} (hn:n<274877906944) (h:∀ k,k<n->NX prog fid [.oi k,.one (.sh l1),.one (.sh l2)] [.agg (Gw (g k))]):W6 179 [.oi n,.one (.fn fid [] [.sh l1,.sh l2])] [pr (YB n g)]:=by
 refine Fl func179 rfl ?_;refine Wz [.i n,.i n,.r 10 (eI (b:=(n:Int)) (by simp))] rfl ?_;rw [Lk λk=>Gw (g k)];refine W5 (S:=Nat) 1 (λL1 k=>(11,.v (.oi k))::L1) (λk=>[.row false 37 2 (MO (λk=>Gw (g k)) [.bool false,.nils] n k)]) (λk=>n-k) (λk=>k<=n) 0 (Qi _) rfl rfl λk hk=>?_
 by_cases hlt:k<n
 ·refine go tt [.t (by simp; omega),.k (h k hlt),.i k] rfl (by simp [Ul,Eh]; omega) ?_;have e:=Ii (λk=>Gw (g k)) [.bool false,.nils] hlt;rw [e];exact rd (k+1) (by omega) hlt rfl
 ·obtain rfl:k=n:=by omega
  have e:MO (λk=>Gw (g k)) [.bool false,.nils] k k=((List.range k).map g).map Gw:=by rw [Ih]; simp
  rw [e];exact W0 [.f (by simp),.k (TK _)] rfl
theorem tY {n fid:Nat} {l1:Ue} {g:Nat->Int} (hn:n<274877906944) (h:∀ k,k<n->NX prog fid [.oi k,.one (.sh l1)] [.agg (Gw (g k))]):W6 179 [.oi n,.one (.fn fid [] [.sh l1])] [pr (YB n g)]:=by
 refine Fl func179 rfl ?_;refine Wz [.i n,.i n,.r 10 (eI (b:=(n:Int)) (by simp))] rfl ?_;rw [Lk λk=>Gw (g k)];refine W5 (S:=Nat) 1 (λL1 k=>(11,.v (.oi k))::L1) (λk=>[.row false 37 2 (MO (λk=>Gw (g k)) [.bool false,.nils] n k)]) (λk=>n-k) (λk=>k<=n) 0 (Qi _) rfl rfl λk hk=>?_
 by_cases hlt:k<n
 ·refine go tt [.t (by simp; omega),.k (h k hlt),.i k] rfl (by simp [Ul,Eh]; omega) ?_;have e:=Ii (λk=>Gw (g k)) [.bool false,.nils] hlt;rw [e];exact rd (k+1) (by omega) hlt rfl
 ·obtain rfl:k=n:=by omega
  have e:MO (λk=>Gw (g k)) [.bool false,.nils] k k=((List.range k).map g).map Gw:=by rw [Ih]; simp
  rw [e];exact W0 [.f (by simp),.k (TK _)] rfl
theorem Qlf {p q:W9} (k:Nat) (hp:Bd 4294967295 p) (hq:Bd 4294967295 q):W6 218 [.oi k,.one (.sh [pl p]),.one (.sh [pl q])] [.agg (Gw (p.getD k 0+q.getD k 0))] :=
 W3 func218 rfl [.k (tK p k),.k (tK q k),.k (XP (Um _) (Um _) (Ft hp k) (Ft hq k))] rfl
theorem Qlt {p q:W9} (k:Nat) (hp:Bd 4294967295 p) (hq:Bd 4294967295 q):W6 255 [.oi k,.one (.sh [pl p]),.one (.sh [pl q])] [.agg (Gw (p.getD k 0-q.getD k 0))] :=
 W3 func255 rfl [.k (tK p k),.k (tK q k),.k (aO (Um _) (Um _) (Ft hp k) (Ft hq k))] rfl
theorem Hz {p:W9} {k:Nat} (h:k<p.length):p[k]? = some (p.getD k 0):=by simp [List.getD,Qe h]
theorem aM {p:W9} {c:Int} {k:Nat} (hk:k<p.length) (hp:Bd 4294967295 p) (hc:U0 c<=4294967295):W6 180 [.oi k,.one (.sh [pl p]),.one (.sh (Gw c))] [.agg (Gw (p.getD k 0*c))] :=
 W3 func180 rfl [.x (Si (Hz hk)),.k (P8 (Um _) (Um _) (Ft hp k) hc)] rfl
theorem Qln {p:W9} {k:Nat} (hk:k<p.length) (hp:Bd 4294967295 p):W6 304 [.oi k,.one (.sh [pl p])] [.agg (Gw (-(p.getD k 0)))] :=
 W3 func304 rfl [.x (Si (Hz hk)),.k (RE (Um _) (Ft hp k))] rfl
theorem bG {p:W9} {k:Nat} (hk:k+1<p.length) (hl:p.length<274877906944) (hp:Bd 4294967295 p):W6 280 [.oi k,.one (.sh [pl p])] [.agg (Gw (p.getD (k+1) 0*((k+1:Nat):Int)))] :=
 W3 func280 rfl [.x (Si (Hz hk)),.r 10 (eI (b:=((k+1:Nat):Int)) (by omega)),.k (LO (by omega)),.k (P8 (Um _) (Um _) (Ft hp _) (cI (show k+1<274877906944 by omega)))] rfl rfl (by simp [Ul] <;> omega)
theorem EQ {p q:W9} (hlp:p.length<274877906944) (hlq:q.length<274877906944) (hp:Bd 4294967295 p) (hq:Bd 4294967295 q):W6 177 [pr p,pr q] [pr (JV p q)] :=
 W3 func177 rfl [.r 9 (eI (b:=((max p.length q.length:Nat):Int)) (by simp; omega)),.k (EU (by omega) λk _=>Qlf k hp hq)] rfl
theorem WZ {p q:W9} (hlp:p.length<274877906944) (hlq:q.length<274877906944) (hp:Bd 4294967295 p) (hq:Bd 4294967295 q):W6 216 [pr p,pr q] [pr (Nt p q)] :=
 W3 func216 rfl [.r 9 (eI (b:=((max p.length q.length:Nat):Int)) (by simp; omega)),.k (EU (by omega) λk _=>Qlt k hp hq)] rfl
theorem aK {p:W9} (hlp:p.length<274877906944) (hp:Bd 4294967295 p):W6 283 [pr p] [pr (Db p)] :=
 W3 func283 rfl [.r 4 (eI (b:=(p.length:Int)) (by simp)),.k (tY hlp λk hk=>Qln hk hp)] rfl
theorem Pj {p:W9} {c:Int} (hlp:p.length<274877906944) (hp:Bd 4294967295 p) (hc:U0 c<=4294967295):W6 132 [pr p,.agg (Gw c)] [pr (Fh p c)] :=
 W3 func132 rfl [.r 6 (eI (b:=(p.length:Int)) (by simp)),.k (EU hlp λk hk=>aM hk hp hc)] rfl
theorem E9 {p:W9} (hlp:p.length<274877906944) (hp:Bd 4294967295 p):W6 252 [pr p] [pr (Gj p)] :=
 W3 func252 rfl [.r 6 (eI (b:=((p.length-1:Nat):Int)) (by simp; omega)),.k (tY (by omega) λk hk=>bG (by omega) hlp hp)] rfl rfl (by simp [Ul]; omega)
theorem Dq {ls:Uf} {p:W9} (hi:IsInts ls p) (hl:p.length<274877906944) (hs:Bd 4294967295 p):W6 128 [.one (.row ls)] [pr (trim p)]:=by
 refine Fl func128 rfl ?_;have hlen:=hi.len;refine Wz [.i ls.length,.i ls.length] rfl ?_;rw [Lk λk=>Gw (p.getD k 0)];refine W5 (S:=Nat) 1 (λL1 k=>(11,.v (.oi k))::L1) (λk=>[.row false 37 2 (MO (λk=>Gw (p.getD k 0)) [.bool false,.nils] ls.length k)]) (λk=>ls.length-k) (λk=>k<=ls.length) 0 (Qi _) rfl rfl λk hk=>?_
 by_cases hlt:k<ls.length
 ·obtain ⟨x,y,hx,hxy⟩:=hi.get (Hz (p:=p) (k:=k) (by omega));have cn:=M4 hxy (Ft hs k);obtain ⟨b,l,rfl,rfl,_⟩:=hxy;refine go tt [.t (by simp; omega),.x hx,.k cn,.i k] rfl (by simp [Ul,Eh]; omega) ?_;have e:=Ii (λk=>Gw (p.getD k 0)) [.bool false,.nils] hlt;rw [e];exact rd (k+1) (by omega) hlt rfl
 ·obtain rfl:k=ls.length:=by omega
  have e:MO (λk=>Gw (p.getD k 0)) [.bool false,.nils] ls.length ls.length=p.map Gw:=by
   rw [Ih,hlen];refine Xi λi=>?_
   by_cases hi:i<p.length
   ·simp [Jg hi,List.getD,Qe hi]
   ·simp [Q0,hi]
  rw [e];exact W0 [.f (by simp),.k (TK _)] rfl
theorem G0 {p:W9} (ht:Uu p) (hl:p.length<274877906944) (hs:Bd 4294967295 p):W6 128 [pr p] [pr p]:=by
 have:=Dq (Fx p) hl hs;rw [ht] at this; exact this
theorem Qhb {p:W9} {i:Nat} {z:Int} (h:p[i]? = some z):(p.map λ(x:Int)=>[LV.int .i64 x])[i]? = some [.int .i64 z]:=Hj h
theorem BY {p:W9} (hl:p.length<274877906944) (hr:∀ z∈p,-9223372036854775808≤z/\z≤9223372036854775807):W6 30 [.one (ids p)] [pr (trim p)]:=by
 refine Fl func30 rfl ?_;refine Wz [.r 7 (eI (b:=(p.length:Int)) (by simp)),.i p.length,.i p.length,.r 10 (eI (b:=(p.length:Int)) (by simp))] rfl ?_;rw [Lk λk=>Gw (p.getD k 0)];refine W5 (S:=Nat) 1 (λL1 k=>(11,.v (.oi k))::L1) (λk=>[.row false 37 2 (MO (λk=>Gw (p.getD k 0)) [.bool false,.nils] p.length k)]) (λk=>p.length-k) (λk=>k<=p.length) 0 (Qi _) rfl rfl λk hk=>?_
 by_cases hlt:k<p.length
 ·have hg:=Hz hlt;refine go tt [.t (by simp; omega),.x (Qhb hg),.k (LO (hr _ (Qa hg))),.i k] rfl (by simp [Ul,Eh]; omega) ?_;have e:=Ii (λk=>Gw (p.getD k 0)) [.bool false,.nils] hlt;rw [e];exact rd (k+1) (by omega) hlt rfl
 ·obtain rfl:k=p.length:=by omega
  have e:MO (λk=>Gw (p.getD k 0)) [.bool false,.nils] p.length p.length=p.map Gw:=by
   rw [Ih];refine Xi λi=>?_
   by_cases hi:i<p.length
   ·simp [Jg hi,List.getD,Qe hi]
   ·simp [Q0,hi]
  rw [e];exact W0 [.f (by simp),.k (TK _)] rfl
theorem fX (l:W9) (i:Nat) (z:Int):(l.map Gw).set i (Gw z)=(l.set i z).map Gw:=by rw [Kr]
theorem HN (m:Nat):((List.replicate m [LV.bool false,LV.nils]).map λc=>c.map UX)=(List.replicate m (0:Int)).map Gw:=by
 simp [Lt,UX]
theorem EZ {p0 q:W9} {s t:Nat} (tq:Uu q) (hlp:p0.length<137438953472) (hlq:q.length<137438953472) (hp:Bd s p0) (hq:Bd t q) (hst:s+t<=4294967000):W6 178 [pr p0,pr q] [pr (Fv (trim p0) q)]:=by
 have cp:=Dq (Fx p0) (by omega) (Uk hp (show s<=4294967295 by omega));have hp:=Ti hp;have hlp:=Z2 (Hp p0) hlp;obtain ⟨p,ep⟩:=nmE (trim p0);rw [<-ep] at cp hp hlp ⊢;have cq:=G0 tq (by omega) (Uk hq (show t<=4294967295 by omega));by_cases h0:p.length=0
 ·have e:Fv p q=[]:=by unfold Fv; rw [if_pos (.inl h0)]
  rw [e];exact W3 func178 rfl [.k cp,.k cq,.t (by simp; exact Qh h0),.t rfl] rfl
 by_cases h1:q.length=0
 ·have e:Fv p q=[]:=by unfold Fv; rw [if_pos (.inr h1)]
  rw [e];exact W3 func178 rfl [.k cp,.k cq,.f (by simp; intro h; subst h; simp at h0),.t (by simp; exact Qh h1)] rfl
 refine Fl func178 rfl ?_;have e:Fv p q=trim (JQ p q (List.replicate (p.length+q.length-1) 0) p.length):=by unfold Fv; rw [if_neg (by omega)]
 rw [e];obtain ⟨N,hN⟩:=nmE (p.length+q.length-1);rw [<-hN];obtain ⟨o,ho⟩:=nmE (List.replicate N (0:Int));rw [<-ho];have hol:o.length=N:=by rw [ho]; simp
 have ho0:∀ m,o.getD m 0=0:=λm=>by rw [ho]; exact Lm N m
 refine Wz [.k cp,.k cq,.f (by simp; intro h; subst h; simp at h0),.f (by simp; intro h; subst h; simp at h1),.r 27 (eI (b:=(N:Int)) (by simp; omega)),.i N,.i N] rfl ?_;refine nl 0 rfl rfl rfl ?_;rw [HN,<-ho];refine W5 (S:=Nat) 1 (λL1 i=>(31,.v (.oi i))::L1) (λi=>[.row false 37 2 ((JQ p q o i).map Gw)]) (λi=>p.length-i) (λi=>i<=p.length) 0 (Qi _) rfl rfl λi hi=>?_
 by_cases hlt:i<p.length
 ·refine Wy [.t (by simp; omega),.x (Si (Hz hlt))] rfl ?_;refine W5 (S:=Nat) 2 (λL1 k=>(38,.v (.oi k))::L1) (λk=>[.row false 37 2 ((JZ (p.getD i 0) q i (JQ p q o i) k).map Gw),.blk 37 (Gw (p.getD i 0))]) (λk=>q.length-k) (λk=>k<=q.length) 0 (Qi _) rfl rfl λk hk=>?_
  by_cases hk2:k<q.length
  ·have hm1:U0 ((JZ (p.getD i 0) q i (JQ p q o i) k).getD (i+k) 0)<=4294967295:=Qd (XY (t:=39) (pL (by rw [Ak]; omega) (pD (λj hj=>by omega) ho0 (λi j=>Ew (Ft hp i) (Ft hq j))) (λj=>Ew (Ft hp i) (Ft hq j)) (i+k)) (Nat.lt_of_lt_of_eq (show i+1<549755813888 by omega) (by decide))) (by omega);have hm2:U0 (p.getD i 0*q.getD k 0)<=4294967295:=Qd (Gv _ _) (by have:=Ft hp i; have:=Ft hq k; omega);have hg:(JZ (p.getD i 0) q i (JQ p q o i) k)[i+k]? = some ((JZ (p.getD i 0) q i (JQ p q o i) k).getD (i+k) 0):=Hz (by rw [O2,Ak]; omega);refine go tt [.t (by simp; omega),.x (Si (Hz hk2)),.i (i+k),.x (Si hg),.k (P8 (Um _) (Um _) (Qd (Ft hp i) (by omega)) (Qd (Ft hq k) (by omega))),.k (XP (Um _) (Um _) hm1 hm2),.i (i+k)] rfl (by simp [Ul,O2,Ak] <;> omega) ?_;rw [fX];exact rd (k+1) (by omega) hk2 rfl
  ·obtain rfl:k=q.length:=by omega
   exact go tt [.f (by simp)] rfl (by simp [Ul]; omega) (rd (i+1) (by omega) hlt rfl)
 ·obtain rfl:i=p.length:=by omega
  exact W0 [.f (by simp),.k (TK _)] rfl
theorem WQ {p q:W9} {s t:Nat} (tp:Uu p) (tq:Uu q) (hlp:p.length<137438953472) (hlq:q.length<137438953472) (hp:Bd s p) (hq:Bd t q) (hst:s+t<=4294967000):W6 178 [pr p,pr q] [pr (Fv p q)]:=by
 have h:=EZ tq hlp hlq hp hq hst;rw [show trim p=p from tp] at h;exact h
theorem GN {p q:W9} (hlp:p.length<274877906944) (hlq:q.length<274877906944) (hp:Bd 4294967295 p) (hq:Bd 4294967295 q):W6 101 [pr p,pr q] [.one (.bool (decide (trim p=trim q)))]:=by
 refine Fl func101 rfl ?_;have cp:=Dq (Fx p) hlp hp;have cq:=Dq (Fx q) hlq hq;have bp:=Ti hp;have bq:=Ti hq;have l1:=Hp p;have l2:=Hp q;obtain ⟨a,ha⟩:=nmE (trim p);obtain ⟨b,hb⟩:=nmE (trim q);rw [<-ha] at cp bp l1 ⊢;rw [<-hb] at cq bq l2 ⊢;by_cases hl:a.length=b.length
 ·refine Wy [.k cp,.k cq,.f (by simp; omega)] rfl ?_;refine W5 (S:=Nat) 0 (λL1 i=>(18,.v (.oi i))::L1) (λ_=>[]) (λi=>a.length-i) (λi=>i<=a.length/\a.take i=b.take i) 0 ⟨Qi _,rfl⟩ rfl rfl λi ⟨hi,he⟩=>?_
  by_cases hlt:i<a.length
  ·have ga:=Hz hlt;have gb:=Hz (p:=b) (k:=i) (by omega);have cc:=WX (Um (a.getD i 0)) (Um (b.getD i 0)) (Ft bp i) (Ft bq i);by_cases hz:a.getD i 0=b.getD i 0
   ·refine Wz [.t (by simp; omega),.x (Si ga),.x (Si gb),.k cc,.f (by simpa using ER.2 hz)] rfl ?_;exact rd (i+1) (by omega) ⟨hlt,by rw [Yu,Yu,he,ga,gb,hz]⟩ rfl
   ·exact W0 [.t (by simp; omega),.x (Si ga),.x (Si gb),.k cc,.t (by have:=mt ER.1 hz; simpa using this)] rfl (by rw [decide_eq_false]; intro h; exact hz (by rw [h])) trivial
  ·obtain rfl:i=a.length:=by omega
   rw [Q5,hl,Q5] at he;exact W0 [.f (by simp)] rfl (by rw [decide_eq_true he]) trivial
 ·exact W0 [.k cp,.k cq,.t (by simp; omega)] rfl (by rw [decide_eq_false]; intro h; exact hl (by rw [h])) trivial
theorem aG {p:W9} {n d:Int} {s t:Nat} (hl:p.length<274877906944) (hp:Bd s p) (hn:U0 n<=t) (hd:U0 d<=t) (hst:s+p.length*(t+1)+2*t+10<=4294967295):W6 146 [pr p,.agg (Gw n),.agg (Gw d)] [.agg (Gw (Qnj p n d))]:=by
 refine Fl func146 rfl ?_;refine Wz [.k (LO (z:=1) (by decide)),.r 13 (eI (b:=(p.length:Int)-1-((0:Nat):Int)) (by simp))] rfl ?_;refine nlb 3 rfl rfl rfl ?_;have e0:[LV.bool false,LV.nils].map UX=Gw (Df p n d 0).1:=by simp [UX,Df,Lt]
 rw [e0];refine W5 (S:=Nat) 5 (λL1 j=>(9,.v (.oi ((p.length:Int)-1-(j:Int))))::L1) (λj=>[.blk 37 (Gw n),.blk 37 (Gw d),.blk 37 [.bool false,.nils],.blk 37 (Gw (Df p n d j).1),.blk 37 (Gw (Df p n d j).2)]) (λj=>p.length-j) (λj=>j<=p.length) 0 (Qi _) rfl rfl λj hj=>?_
 have hv:=nL (k:=j) hp hn hd;have hjl:j*(t+1)<=p.length*(t+1):=Qz _ (by omega);have hjl2:j*t<=j*(t+1):=Zs _ (by omega);by_cases hlt:j<p.length
 ·have hc:=Ft hp (p.length-1-j);have hm1:U0 ((Df p n d j).1*n)<=4294967295:=Qd (Gv _ _) (by omega);have hm2:U0 (p.getD (p.length-1-j) 0*(Df p n d j).2)<=4294967295:=Qd (Gv _ _) (by omega);refine go tt [.t (by simp; omega),.k (P8 (Um _) (Um _) (by omega) (by omega)),.r 22 (eI (b:=((p.length-1-j:Nat):Int)) (by omega)),.x (Si (Hz (p:=p) (k:=p.length-1-j) (by omega))),.k (P8 (Um _) (Um _) (by omega) (by omega)),.k (XP (Um _) (Um _) hm1 hm2),.k (P8 (Um _) (Um _) (by omega) (by omega)),.r 17 (eI (b:=(p.length:Int)-1-((j+1:Nat):Int)) (by omega))] rfl (by simp [Ul] <;> omega) ?_;exact rd (j+1) (by omega) hlt rfl
 ·obtain rfl:j=p.length:=by omega
  exact W0 [.f (by simp; omega)] rfl
theorem Bt {p:W9} (tp:Uu p) (hl:p.length<274877906944) (hp:Bd 4294967295 p):W6 299 [pr p] [.agg (Gw (p.getD (p.length-1) 0))]:=by
 have cn:=G0 tp hl hp;by_cases h0:p=[]
 ·subst h0;exact W3 func299 rfl [.k cn,.t (by simp)] rfl (by simp [Lt]) trivial
 ·have hpl:0<p.length:=Jt.2 h0;exact W3 func299 rfl [.k cn,.f (by simpa using h0),.r 12 (eI (b:=((p.length-1:Nat):Int)) (by simp; omega)),.x (Si (Hz (by omega)))] rfl rfl (by simp [Ul]; omega)
theorem Qko {a b:Int} {q:Rat} (h1:a=q.num) (h2:b=(q.den:Int)):[sg a,mg a,sg b,mg b]=rl q:=by rw [h1,h2]
theorem Ob {n d:Int} (h0:d≠0) (hn:U0 n<=4294967295) (hd:U0 d<=4294967295):W6 142 [.agg (Gw n),.agg (Gw d)] [.agg (rl (Rat.divInt n d))]:=by
 have cg:=eL (Fx [n,d]) (λz hz=>by simp at hz; rcases hz with rfl | rfl <;> assumption);have gp:=Qa1 (n:=n) h0;have gs:=Qhe (n:=n) h0 hd;have m1:=wO n d;have m2:=uQ n d;obtain ⟨g,hg⟩:=nmE (((Hq [n,d]:Nat):Int));rw [<-hg] at cg gp gs m1 m2;by_cases hneg:d<0
 ·obtain ⟨e1,e2⟩:=Qhk (n:=n) hneg;rw [<-hg] at e1 e2;rw [<-Qko e1 e2];exact W3 func142 rfl [.k cg,.t (by simpa using hneg),.k (RE (Um n) hn),.k (RE (Um d) hd),.k (Eb (Um _) (Um _) (by rw [Ei]; exact hn) gs (by omega) (pI m1)),.k (Eb (Um _) (Um _) (by rw [Ei]; exact hd) gs (by omega) (pI m2))] rfl
 ·obtain ⟨e1,e2⟩:=Qhl (n:=n) (d:=d) (by omega);rw [<-hg] at e1 e2;rw [<-Qko e1 e2];exact W3 func142 rfl [.k cg,.f (by simpa using hneg),.k (Eb (Um _) (Um _) hn gs (by omega) m1),.k (Eb (Um _) (Um _) hd gs (by omega) m2)] rfl
theorem GL {x y x' y':LV} {n d:Int} (h1:Fu x y n) (h2:Fu x' y' d) (hn:U0 n<=4294967295) (hd:U0 d<=4294967295):W6 110 [.agg [x,y,x',y']] [.agg (rl (To n d))]:=by
 have c1:=M4 h1 hn;have c2:=M4 h2 hd;obtain ⟨b,l,rfl,rfl,_⟩:=h1;obtain ⟨b',l',rfl,rfl,_⟩:=h2;by_cases h0:d=0
 ·have e:To n d=Rat.divInt n 1:=by unfold To; rw [if_pos h0]
  rw [e];exact W3 func110 rfl [.k c2,.k Cz,.t (by simpa using h0),.k (LO (z:=1) (by decide)),.k c1,.k (Ob (by decide) hn (by decide))] rfl
 ·have e:To n d=Rat.divInt n d:=by unfold To; rw [if_neg h0]
  rw [e];exact W3 func110 rfl [.k c2,.k Cz,.f (by simpa using h0),.k c1,.k (Ob h0 hn hd)] rfl
theorem TU {q:Rat} (hq:Qs 4294967295 q):W6 110 [.agg (rl q)] [.agg (rl q)]:=by
 have:=GL (Um q.num) (Um (q.den:Int)) hq.1 hq.2;rwa [Sl] at this
theorem Qlz {n:Int} (hn:U0 n<=4294967295):W6 70 [.agg (Gw n)] [.agg (rl (n:Rat))] :=
 W3 func70 rfl [.k (M4 (Um n) hn),.k (LO (z:=1) (by decide))] rfl (by simp [rl]) trivial
theorem EK {a b:Rat} (ha:Qs 2147483647 a) (hb:Qs 2147483647 b):W6 99 [.agg (rl a),.agg (rl b)] [.agg (Gw (a.num*(b.den:Int))),.agg (Gw (b.num*(a.den:Int))),.agg (Gw ((a.den:Int)*(b.den:Int)))] :=
 W3 func99 rfl [.k (TU (ha.mono (by decide))),.k (TU (hb.mono (by decide))),.k (P8 (Um _) (Um _) (Qd ha.1 (by decide)) (Qd hb.2 (by decide))),.k (P8 (Um _) (Um _) (Qd hb.1 (by decide)) (Qd ha.2 (by decide))),.k (P8 (Um _) (Um _) (Qd ha.2 (by decide)) (Qd hb.2 (by decide)))] rfl
theorem Bf {a b:Rat} (ha:Qs 2147483647 a) (hb:Qs 2147483647 b):W6 56 [.agg (rl a),.agg (rl b)] [.oi (Gm a b)] :=
 W3 func56 rfl [.k (EK ha hb),.k (WX (Um _) (Um _) (Qd (Gv _ _) (by have:=ha.1; have:=hb.2; omega)) (Qd (Gv _ _) (by have:=hb.1; have:=ha.2; omega)))] rfl
theorem TW {x y x' y':LV} {n d:Int} (h1:Fu x y n) (h2:Fu x' y' d) (hn:U0 n<=4294967295) (hd:U0 d<=4294967295):W6 64 [.agg [x,y,x',y'],.one (.row [])] [.agg (rl (To n d))]:=by
 have c1:=GL h1 h2 hn hd;obtain ⟨b,l,rfl,rfl,_⟩:=h1;obtain ⟨b',l',rfl,rfl,_⟩:=h2;refine Fl func64 rfl ?_;refine Wy [.k c1] rfl ?_;refine W5 (S:=Unit) 3 (λL1 _=>(12,.v (.oi 0))::L1) (λ_=>[.blk 43 [.bool b,.row (lm l),.bool b',.row (lm l')],.blk 43 [.bool false,.nils,.bool false,.nils],.blk 43 (rl (To n d))]) (λ_=>0) (λ_=>True) () trivial rfl rfl λ_ _=>?_
 exact W0 [.f (by simp)] rfl
theorem M5 {q:Rat} (hq:Qs 4294967295 q):W6 64 [.agg (rl q),.one (.row [])] [.agg (rl q)]:=by
 have:=TW (Um q.num) (Um (q.den:Int)) hq.1 hq.2;rwa [Sl] at this
theorem Qgf {q:Rat} (hq:Qs 4294967295 q):W6 144 [.agg (rl q)] [.agg (rl q)]:=W3 func144 rfl [.k (M5 hq)] rfl
theorem rA {p:W9} {q:Rat} {s t:Nat} (tp:Uu p) (hl:p.length<274877906944) (hp:Bd s p) (hq:Qs t q) (hst:s+p.length*(t+1)+2*t+10<=4294967295):W6 241 [pr p,.agg (rl q)] [.oi (Ha p q)]:=by
 have cc:=WX (Um (Qnj p q.num q.den)) Ij (Qd (nL hp hq.1 hq.2).1 (by omega)) (by decide);exact W3 func241 rfl [.k (Qgf (hq.mono (by omega))),.k (G0 tp hl (Uk hp (by omega))),.k (aG hl hp hq.1 hq.2 hst),.k cc] rfl
theorem iF {p:W9} {g:Int} (hl:p.length<274877906944) (hp:Bd 4294967295 p) (hg:U0 g≤4294967295) (h0:g≠0) (hd:∀ z∈p,z % g=0):W6 141 [pr p,.agg (Gw g)] [pr (trim (p.map (· / g)))]:=by
 refine Fl func141 rfl ?_;refine Wz [.r 9 (eI (b:=(p.length:Int)) (by simp)),.i p.length,.i p.length,.r 12 (eI (b:=(p.length:Int)) (by simp))] rfl ?_;rw [Lk λk=>Gw (p.getD k 0 / g)];refine W5 (S:=Nat) 2 (λL1 k=>(13,.v (.oi k))::L1) (λk=>[.blk 37 (Gw g),.row false 37 2 (MO (λk=>Gw (p.getD k 0 / g)) [.bool false,.nils] p.length k)]) (λk=>p.length-k) (λk=>k<=p.length) 0 (Qi _) rfl rfl λk hk=>?_
 by_cases hlt:k<p.length
 ·have hg2:=Hz hlt;refine go tt [.t (by simp; omega),.x (Si hg2),.k (Eb (Um _) (Um _) (Ft hp k) hg h0 (hd _ (Qa hg2))),.i k] rfl (by simp [Ul,Eh]; omega) ?_;have e:=Ii (λk=>Gw (p.getD k 0 / g)) [.bool false,.nils] hlt;rw [e];exact rd (k+1) (by omega) hlt rfl
 ·obtain rfl:k=p.length:=by omega
  have e:MO (λk=>Gw (p.getD k 0 / g)) [.bool false,.nils] p.length p.length=(p.map (· / g)).map Gw:=by
   rw [Ih];refine Xi λi=>?_
   by_cases hi:i<p.length
   ·simp [Jg hi,List.getD,Qe hi]
   ·simp [Q0,hi]
  rw [e];exact W0 [.f (by simp),.k (Dq (Fx (p.map (· / g))) (by simp; exact hl) (KA hp g))] rfl
theorem MQ (p:W9):∀ c∈p.map Gw,c.length=2:=Qkj p λ_=>rfl
theorem EV {lx ly:Uf} {px py:W9} {x y:LV} {d:Int} (hx:IsInts lx px) (hy:IsInts ly py) (hd:Fu x y d) (hk:Cs 4294967294 1073741824 (Crv.mk px py d)):W6 82 [.agg [.row lx,.row ly,x,y]] [.agg (cl (Crv.norm (Crv.mk px py d)))]:=by
 have hlx:=hk.lx;have hly:=hk.ly;simp only at hlx hly;have htx:=Hp px;have hty:=Hp py;have hd1:U0 (Crv.mk px py d).d'<=4294967295:=Qd (Qbl hk.d (by omega)) (by omega);have hg1:=Crv.isz_g (Crv.mk px py d) hd1;have hg0:=Crv.g_ne (Crv.mk px py d);have hgd:=Crv.g_dvd (Crv.mk px py d);have cx:=Dq hx (by omega) (Uk hk.x (by omega));have cy:=Dq hy (by omega) (Uk hk.y (by omega));have cd:=M4 hd (Qd hk.d (by omega));have bx:Bd 4294967295 (trim px):=Uk (Ti hk.x) (by omega);have by_:Bd 4294967295 (trim py):=Uk (Ti hk.y) (by omega);obtain ⟨b,l,rfl,rfl,_⟩:=hd;obtain ⟨e,he⟩:=nmE ((Crv.mk px py d).d');obtain ⟨g,hgg⟩:=nmE ((Crv.mk px py d).g);obtain ⟨X,hX⟩:=nmE (trim px);obtain ⟨Y,hY⟩:=nmE (trim py);have hnorm:(Crv.mk px py d).norm=⟨trim (X.map (· / g)),trim (Y.map (· / g)),e / g⟩:=by rw [he,hgg,hX,hY]; rfl
 rw [hnorm];have hgdef:g=if e<0 then -((Hq (e::(X++Y)):Nat):Int) else (Hq (e::(X++Y)):Nat):=by rw [hgg,he,hX,hY]; rfl
 have hde:e=if d=0 then 1 else d:=by rw [he]; rfl
 simp only [<-he,<-hgg,<-hX,<-hY] at hd1 hg1 hg0 hgd htx hty cx cy bx by_;clear hnorm hgg he hX hY;refine Fl func82 rfl ?_;refine Wy [.k cx,.k cy,.k cd,.k Cz] rfl ?_;refine ct 1 (S:=Unit) (λ_=>[(2,.v (.one (.ow 1 0))),(3,.v (pr X)),(4,.v (pr Y)),(5,.v (.one (.ow 2 0)))]) (λ_=>[.blk 39 [.row lx,.row ly,.bool b,.row (lm l)],.blk 39 [.nils,.nils,.bool false,.nils],.blk 37 (Gw e)]) (λ_=>True) rfl ?_ ?_
 ·by_cases h0:d=0
  ·rw [hde,if_pos h0];exact go tt [.t (by simpa using h0),.k (LO (z:=1) (by decide))] rfl trivial (rc () trivial rfl)
  ·rw [hde,if_neg h0];exact go tt [.f (by simpa using h0)] rfl trivial (rc () trivial rfl)
 ·intro _ _;have hgi:IsInts ([Gw e]++X.map Gw++Y.map Gw) (e::(X++Y)):=by
   have:=Fx (e::(X++Y));simpa using this
  have hgs:∀ z∈e::(X++Y),U0 z≤4294967295:=λz hz=>by
   rcases Qk.1 hz with rfl | hz
   ·exact hd1
   ·rcases Qr.1 hz with hz | hz
    ·exact bx z hz
    ·exact by_ z hz
  have cg:=eL hgi hgs;have co1:=iF (p:=X) (by omega) bx hg1 hg0 λz hz=>hgd z (Qf _ (Xz _ hz))
  have co2:=iF (p:=Y) (by omega) by_ hg1 hg0 λz hz=>hgd z (Qf _ (X9 _ hz))
  have ce:=Eb (Um e) (Um g) hd1 hg1 hg0 (hgd e (Qx ..));have hszg:=HJ hgs;by_cases hneg:e<0
  ·rw [if_pos hneg] at hgdef;have cn:=RE (Um ((Hq (e::(X++Y)):Nat):Int)) hszg;rw [<-hgdef] at cn;exact W0 [.lo,.s (MQ X),.s (MQ Y),.k cg,.t (by simpa using hneg),.k cn,.k ce,.k co1,.k co2] rfl rfl (by simp [Ul]; omega)
  ·rw [if_neg hneg] at hgdef;rw [<-hgdef] at cg;exact W0 [.lo,.s (MQ X),.s (MQ Y),.k cg,.f (by simpa using hneg),.k ce,.k co1,.k co2] rfl rfl (by simp [Ul]; omega)
theorem TY {k:Crv} (hn:I2 k) (hk:Cs 4294967294 1073741824 k):W6 82 [.agg (cl k)] [.agg (cl k)]:=by
 have h:=EV (Fx k.x) (Fx k.y) (Um k.d) hk;rw [Crv.norm_of hn] at h; exact h
theorem YH {lx ly:Uf} {px py:W9} {x y:LV} {d:Int} (hx:IsInts lx px) (hy:IsInts ly py) (hd:Fu x y d) (hk:Cs 4294967294 1073741824 (Crv.mk px py d)) (h0:d≠0):W6 137 [.one (.row lx),.one (.row ly),.agg [x,y]] [.agg (cl (Crv.norm (Crv.mk px py d))),.oi 0]:=by
 have cd:=M4 hd (Qd hk.d (by omega));have cn:=EV hx hy hd hk;obtain ⟨b,l,rfl,rfl,_⟩:=hd;exact W3 func137 rfl [.k cd,.k Cz,.f (by simpa using h0),.k cn] rfl
theorem tZ {lx ly:Uf} {px py:W9} (hx:IsInts lx px) (hy:IsInts ly py) (hk:Cs 4294967294 1073741824 (Crv.mk px py 0)):W6 35 [.one (.row lx),.one (.row ly)] [.agg (cl (Crv.norm (Crv.mk px py 0)))] :=
 W3 func35 rfl [.k (EV hx hy Ij hk)] rfl
def Tg (x y:Int):Crv:=Crv.norm ⟨trim [x],trim [y],0⟩
theorem TB {x y:Int} (hx:-9223372036854775808<=x/\x<=9223372036854775807) (hy:-9223372036854775808<=y/\y<=9223372036854775807):Cs 64 1 ⟨trim [x],trim [y],0⟩:=by
 have key:∀ z:Int,-9223372036854775808<=z/\z<=9223372036854775807->U0 z<=64:=λz hz=>by
  rw [M8];have:(2:Nat)^64=18446744073709551616:=by decide
  omega
 refine ⟨Ti λz hz=>?_,Ti λz hz=>?_,Qi _,Hp [x],Hp [y]⟩
 ·rw [Ql] at hz; rw [hz]; exact key x hx
 ·rw [Ql] at hz; rw [hz]; exact key y hy
theorem GB {x y:Int} (hx:-9223372036854775808<=x/\x<=9223372036854775807) (hy:-9223372036854775808<=y/\y<=9223372036854775807):W6 28 [.oi x,.oi y] [.agg (cl (Tg x y))] :=
 W3 func28 rfl [.k (BY (p:=[x]) (show 1<274877906944 by decide) (by intro z hz; rw [Ql] at hz; rw [hz]; exact hx)),.k (BY (p:=[y]) (show 1<274877906944 by decide) (by intro z hz; rw [Ql] at hz; rw [hz]; exact hy)),.k (tZ (Fx _) (Fx _) ((TB hx hy).mono (by omega) (by omega)))] rfl
theorem Qf9 {a b:Crv} (ha:I2 a) (hb:I2 b) (ca:Cs 4294967294 1073741824 a) (cb:Cs 4294967294 1073741824 b):W6 57 [.agg (cl a),.agg (cl b)] [.one (.bool (Eg a b))]:=by
 have na:=TY ha ca;have nb:=TY hb cb;have alx:=ca.lx;have aly:=ca.ly;have blx:=cb.lx;have bly:=cb.ly;have sx:=GN (p:=a.x) (q:=b.x) (by omega) (by omega) (Uk ca.x (by omega)) (Uk cb.x (by omega));have sy:=GN (p:=a.y) (q:=b.y) (by omega) (by omega) (Uk ca.y (by omega)) (Uk cb.y (by omega));have sd:=WX (Um a.d) (Um b.d) (Qd ca.d (by omega)) (Qd cb.d (by omega));rw [ha.1,hb.1] at sx;rw [ha.2.1,hb.2.1] at sy;by_cases h1:a.x=b.x
 ·by_cases h2:a.y=b.y
  ·exact W3 func57 rfl [.k na,.k nb,.k sx,.t (by simpa using h1),.k sy,.t (by simpa using h2),.k sd] rfl (by simp [Eg,h1,h2,ER]) trivial
  ·exact W3 func57 rfl [.k na,.k nb,.k sx,.t (by simpa using h1),.k sy,.f (by simpa using h2)] rfl (by simp [Eg,h1,h2]) trivial
 ·exact W3 func57 rfl [.k na,.k nb,.k sx,.f (by simpa using h1),.f rfl] rfl (by simp [Eg,h1]) trivial
end Orr
