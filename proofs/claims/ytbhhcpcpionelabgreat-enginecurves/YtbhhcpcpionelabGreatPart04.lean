/- Ntt L1 L2 L3 L4 L5 M1 P2 M2 PolyL RatL CrvL CrowdL PredL CertL Y1 Y2 Q1 C1 -/
import Derived.Test.YtbhhcpcpionelabGreatPart03
import Derived.Laws.StructEq
import Derived.Test.YtbhhcpcpionelabGreatProg
import Derived.Test.YtbhhcpcpionelabGreatPart00
set_option linter.all false
namespace Orr
open Go Go.Proofs Tryz
theorem lP (d:Nat) (x y:Int) (w:World):(Op.equalIn (d+1) 3 (.int .i64 x) (.int .i64 y)).run prog w=.ok (decide (x=y)) w:=by
 simp [Op.equalIn,runUnderlying3];rfl
noncomputable def ti3:TI prog:=Ox 3 isAgg3 sizeOf3 underlying3 zeroValue3 typeInfo3 8 rfl
noncomputable def ti4:TI prog:=Ox 4 isAgg4 sizeOf4 underlying4 zeroValue4 typeInfo4 1 rfl
noncomputable def ti5:TI prog:=Ox 5 isAgg5 sizeOf5 underlying5 zeroValue5 typeInfo5 1 rfl
noncomputable def ti9:TI prog:=Ox 9 isAgg9 sizeOf9 underlying9 zeroValue9 typeInfo9 16 rfl
noncomputable def ti22:TI prog:=Ox 22 isAgg22 sizeOf22 underlying22 zeroValue22 typeInfo22 24 rfl
noncomputable def ti23:TI prog:=Ox 23 isAgg23 sizeOf23 underlying23 zeroValue23 typeInfo23 24 rfl
noncomputable def ti24:TI prog:=Ox 24 isAgg24 sizeOf24 underlying24 zeroValue24 typeInfo24 8 rfl
noncomputable def ti27:TI prog:=FA (ks:=[1,1,1]) (ag:=[false,false,false]) 27 isAgg27 sizeOf27 underlying27 zeroValue27 typeInfo27 24 rfl ⟨sizeOf24,sizeOf25,sizeOf3,trivial⟩ ⟨isAgg24,isAgg25,isAgg3,trivial⟩ rfl
noncomputable def ti30:TI prog:=Ox 30 isAgg30 sizeOf30 underlying30 zeroValue30 typeInfo30 24 rfl
noncomputable def ti31:TI prog:=Ox 31 isAgg31 sizeOf31 underlying31 zeroValue31 typeInfo31 24 rfl
noncomputable def ti32:TI prog:=Ox 32 isAgg32 sizeOf32 underlying32 zeroValue32 typeInfo32 24 rfl
noncomputable def ti34:TI prog:=FA (ks:=[1,1]) (ag:=[false,false]) 34 isAgg34 sizeOf34 underlying34 zeroValue34 typeInfo34 32 rfl ⟨sizeOf4,sizeOf32,trivial⟩ ⟨isAgg4,isAgg32,trivial⟩ rfl
noncomputable def ti36:TI prog:=FA (ks:=[1,1,2]) (ag:=[false,false,true]) 36 isAgg36 sizeOf36 underlying36 zeroValue36 typeInfo36 80 rfl ⟨sizeOf31,sizeOf31,sizeOf34,trivial⟩ ⟨isAgg31,isAgg31,isAgg34,trivial⟩ rfl
noncomputable def ti38:TI prog:=FA (ks:=[4,1]) (ag:=[true,false]) 38 isAgg38 sizeOf38 underlying38 zeroValue38 typeInfo38 88 rfl ⟨sizeOf36,sizeOf3,trivial⟩ ⟨isAgg36,isAgg3,trivial⟩ rfl
noncomputable def ti40:TI prog:=FA (ks:=[2,2]) (ag:=[true,true]) 40 isAgg40 sizeOf40 underlying40 zeroValue40 typeInfo40 64 rfl ⟨sizeOf34,sizeOf34,trivial⟩ ⟨isAgg34,isAgg34,trivial⟩ rfl
noncomputable def ti42:TI prog:=FA (ks:=[1,1,1,5,4]) (ag:=[false,false,false,true,true]) 42 isAgg42 sizeOf42 underlying42 zeroValue42 typeInfo42 176 rfl ⟨sizeOf3,sizeOf3,sizeOf3,sizeOf38,sizeOf40,trivial⟩ ⟨isAgg3,isAgg3,isAgg3,isAgg38,isAgg40,trivial⟩ rfl
noncomputable def ti44:TI prog:=Ox 44 isAgg44 sizeOf44 underlying44 zeroValue44 typeInfo44 8 rfl
set_option maxRecDepth 20000 in
theorem Qm9 (d:Nat) (x0 x1 x2 x3 x4 y0 y1 y2 y3 y4:Int) (w:World):(Op.equalIn (d+1+1) 46 (.agg #[.int .i64 x0,.int .i64 x1,.int .i64 x2,.int .i64 x3,.int .i64 x4]) (.agg #[.int .i64 y0,.int .i64 y1,.int .i64 y2,.int .i64 y3,.int .i64 y4])).run prog w=.ok (decide ([x0,x1,x2,x3,x4]=[y0,y1,y2,y3,y4])) w:=by
 rw [run_equalIn_array w (d+1) _ _ (n:=5) (e:=3) rfl rfl];rw [show List.range 5=[0,1,2,3,4] from rfl,show prog.cellsOf 3=1 from rfl];simp [Op.eqItems,Go.part,isAgg3,lP];by_cases h0:x0=y0 <;> by_cases h1:x1=y1 <;> by_cases h2:x2=y2 <;> by_cases h3:x3=y3 <;> by_cases h4:x4=y4 <;> simp [h0,h1,h2,h3,h4]
theorem Qtj (a b:Uk) (ha:a.length=5) (hb:b.length=5) (w:World):(Op.equal 46 (.agg (a.map (Value.int .i64)).toArray) (.agg (b.map (Value.int .i64)).toArray)).run prog w=.ok (decide (a=b)) w:=by
 match a,ha,b,hb with
 | [x0,x1,x2,x3,x4],_,[y0,y1,y2,y3,y4],_=>exact Qm9 9998 x0 x1 x2 x3 x4 y0 y1 y2 y3 y4 w
noncomputable def ti46:TI prog:={ tiA 46 isAgg46 sizeOf46 underlying46 zeroValue46 typeInfo46 40 rfl sizeOf3 with eqn:=some 5,heq:=λk h=>by injection h with h; subst h; exact ⟨eqGuardType46,Qtj⟩ }
noncomputable def ti50:TI prog:=Ox 50 isAgg50 sizeOf50 underlying50 zeroValue50 typeInfo50 24 rfl
noncomputable def ti52:TI prog:=FA (ks:=[1,1]) (ag:=[false,false]) 52 isAgg52 sizeOf52 underlying52 zeroValue52 typeInfo52 32 rfl ⟨sizeOf50,sizeOf4,trivial⟩ ⟨isAgg50,isAgg4,trivial⟩ rfl
noncomputable def ti54:TI prog:=FA (ks:=[2,2]) (ag:=[true,true]) 54 isAgg54 sizeOf54 underlying54 zeroValue54 typeInfo54 64 rfl ⟨sizeOf52,sizeOf52,trivial⟩ ⟨isAgg52,isAgg52,trivial⟩ rfl
noncomputable def ti58:TI prog:=Ox 58 isAgg58 sizeOf58 underlying58 zeroValue58 typeInfo58 24 rfl
noncomputable def ti60:TI prog:=FA (ks:=[1,1,1,1,1]) (ag:=[false,false,false,false,false]) 60 isAgg60 sizeOf60 underlying60 zeroValue60 typeInfo60 120 rfl ⟨sizeOf23,sizeOf23,sizeOf23,sizeOf23,sizeOf58,trivial⟩ ⟨isAgg23,isAgg23,isAgg23,isAgg23,isAgg58,trivial⟩ rfl
set_option maxRecDepth 20000 in
theorem Qna (d:Nat) (x0 x1 x2 y0 y1 y2:Int) (w:World):(Op.equalIn (d+1+1) 69 (.agg #[.int .i64 x0,.int .i64 x1,.int .i64 x2]) (.agg #[.int .i64 y0,.int .i64 y1,.int .i64 y2])).run prog w=.ok (decide ([x0,x1,x2]=[y0,y1,y2])) w:=by
 rw [run_equalIn_array w (d+1) _ _ (n:=3) (e:=3) rfl rfl];rw [show List.range 3=[0,1,2] from rfl,show prog.cellsOf 3=1 from rfl];simp [Op.eqItems,Go.part,isAgg3,lP];by_cases h0:x0=y0 <;> by_cases h1:x1=y1 <;> by_cases h2:x2=y2 <;> simp [h0,h1,h2]
theorem pA (a b:Uk) (ha:a.length=3) (hb:b.length=3) (w:World):(Op.equal 69 (.agg (a.map (Value.int .i64)).toArray) (.agg (b.map (Value.int .i64)).toArray)).run prog w=.ok (decide (a=b)) w:=by
 match a,ha,b,hb with
 | [x0,x1,x2],_,[y0,y1,y2],_=>exact Qna 9998 x0 x1 x2 y0 y1 y2 w
noncomputable def ti69:TI prog:={ tiA 69 isAgg69 sizeOf69 underlying69 zeroValue69 typeInfo69 24 rfl sizeOf3 with eqn:=some 3,heq:=λk h=>by injection h with h; subst h; exact ⟨eqGuardType69,pA⟩ }
noncomputable def ti74:TI prog:=Ox 74 isAgg74 sizeOf74 underlying74 zeroValue74 typeInfo74 24 rfl
noncomputable def ti79:TI prog:=Ox 79 isAgg79 sizeOf79 underlying79 zeroValue79 typeInfo79 24 rfl
noncomputable def ti83:TI prog:=Ox 83 isAgg83 sizeOf83 underlying83 zeroValue83 typeInfo83 8 rfl
abbrev mO:List (Nat×Nat×String):=[(359,0,"Advance"),(126,0,"Begin"),(360,0,"Certs"),(55,0,"Clone"),(361,0,"Drop"),(362,0,"Events"),(366,0,"Go"),(63,0,"Ids"),(371,0,"Next"),(370,0,"Now"),(363,0,"Put"),(364,0,"Turn")]
theorem Qub:∀ x∈mO,∀ b o w,(method (prog.types.size+Made.depth) 84 (.pointer (some ⟨b,o,none⟩)) x.2.2).run prog w=.ok (x.1,.pointer (some ⟨b,o+x.2.1,none⟩)) w:=λx hx=>by
 simp only [mO,Ql,Jl,or_false] at hx;rcases hx with rfl | rfl | rfl | rfl | rfl | rfl | rfl | rfl | rfl | rfl | rfl | rfl <;> first | exact Aj (E:=196) typeInfo84 rfl underlying84 | exact Dx (S:=196) (i:=0) typeInfo84 rfl underlying196 rfl underlying192 (λ_ h=>by cases h) sizeOf192 (by decide)
noncomputable def ti84:TI prog:={ Ox 84 isAgg84 sizeOf84 underlying84 zeroValue84 typeInfo84 8 rfl with ms:=mO,hms:=Qub }
abbrev nQ:List (Nat×Nat×String):=[(388,0,"Advance"),(126,0,"Begin"),(360,0,"Certs"),(56,0,"Clone"),(389,0,"Drop"),(362,0,"Events"),(366,0,"Go"),(371,0,"Next"),(370,0,"Now"),(390,0,"Put"),(391,0,"Turn"),(66,0,"Winner")]
theorem Quc:∀ x∈nQ,∀ b o w,(method (prog.types.size+Made.depth) 85 (.pointer (some ⟨b,o,none⟩)) x.2.2).run prog w=.ok (x.1,.pointer (some ⟨b,o+x.2.1,none⟩)) w:=λx hx=>by
 simp only [nQ,Ql,Jl,or_false] at hx;rcases hx with rfl | rfl | rfl | rfl | rfl | rfl | rfl | rfl | rfl | rfl | rfl | rfl <;> first | exact Aj (E:=199) typeInfo85 rfl underlying85 | exact Dx (S:=199) (i:=0) typeInfo85 rfl underlying199 rfl underlying192 (λ_ h=>by cases h) sizeOf192 (by decide)
noncomputable def ti85:TI prog:={ Ox 85 isAgg85 sizeOf85 underlying85 zeroValue85 typeInfo85 8 rfl with ms:=nQ,hms:=Quc }
abbrev nZ:List (Nat×Nat×String):=[(393,0,"Advance"),(126,0,"Begin"),(360,0,"Certs"),(57,0,"Clone"),(394,0,"Drop"),(362,0,"Events"),(366,0,"Go"),(64,0,"Ids"),(371,0,"Next"),(370,0,"Now"),(395,0,"Put"),(396,0,"Turn")]
theorem Qud:∀ x∈nZ,∀ b o w,(method (prog.types.size+Made.depth) 86 (.pointer (some ⟨b,o,none⟩)) x.2.2).run prog w=.ok (x.1,.pointer (some ⟨b,o+x.2.1,none⟩)) w:=λx hx=>by
 simp only [nZ,Ql,Jl,or_false] at hx;rcases hx with rfl | rfl | rfl | rfl | rfl | rfl | rfl | rfl | rfl | rfl | rfl | rfl <;> first | exact Aj (E:=201) typeInfo86 rfl underlying86 | exact Dx (S:=201) (i:=0) typeInfo86 rfl underlying201 rfl underlying192 (λ_ h=>by cases h) sizeOf192 (by decide)
noncomputable def ti86:TI prog:={ Ox 86 isAgg86 sizeOf86 underlying86 zeroValue86 typeInfo86 8 rfl with ms:=nZ,hms:=Qud }
abbrev nX:List (Nat×Nat×String):=[(398,0,"Advance"),(126,0,"Begin"),(360,0,"Certs"),(58,0,"Clone"),(399,0,"Drop"),(362,0,"Events"),(366,0,"Go"),(67,0,"Ids"),(371,0,"Next"),(370,0,"Now"),(400,0,"Put"),(401,0,"Turn")]
theorem Que:∀ x∈nX,∀ b o w,(method (prog.types.size+Made.depth) 87 (.pointer (some ⟨b,o,none⟩)) x.2.2).run prog w=.ok (x.1,.pointer (some ⟨b,o+x.2.1,none⟩)) w:=λx hx=>by
 simp only [nX,Ql,Jl,or_false] at hx;rcases hx with rfl | rfl | rfl | rfl | rfl | rfl | rfl | rfl | rfl | rfl | rfl | rfl <;> first | exact Aj (E:=203) typeInfo87 rfl underlying87 | exact Dx (S:=203) (i:=0) typeInfo87 rfl underlying203 rfl underlying192 (λ_ h=>by cases h) sizeOf192 (by decide)
noncomputable def ti87:TI prog:={ Ox 87 isAgg87 sizeOf87 underlying87 zeroValue87 typeInfo87 8 rfl with ms:=nX,hms:=Que }
abbrev nJ:List (Nat×Nat×String):=[(403,0,"Advance"),(126,0,"Begin"),(360,0,"Certs"),(59,0,"Clone"),(404,0,"Drop"),(362,0,"Events"),(366,0,"Go"),(371,0,"Next"),(370,0,"Now"),(405,0,"Put"),(65,0,"Triples"),(406,0,"Turn")]
theorem Quf:∀ x∈nJ,∀ b o w,(method (prog.types.size+Made.depth) 88 (.pointer (some ⟨b,o,none⟩)) x.2.2).run prog w=.ok (x.1,.pointer (some ⟨b,o+x.2.1,none⟩)) w:=λx hx=>by
 simp only [nJ,Ql,Jl,or_false] at hx;rcases hx with rfl | rfl | rfl | rfl | rfl | rfl | rfl | rfl | rfl | rfl | rfl | rfl <;> first | exact Aj (E:=205) typeInfo88 rfl underlying88 | exact Dx (S:=205) (i:=0) typeInfo88 rfl underlying205 rfl underlying192 (λ_ h=>by cases h) sizeOf192 (by decide)
noncomputable def ti88:TI prog:={ Ox 88 isAgg88 sizeOf88 underlying88 zeroValue88 typeInfo88 8 rfl with ms:=nJ,hms:=Quf }
noncomputable def ti90:TI prog:=FA (ks:=[1,4,1,1,1,1,1]) (ag:=[false,true,false,false,false,false,false]) 90 isAgg90 sizeOf90 underlying90 zeroValue90 typeInfo90 112 rfl ⟨sizeOf83,sizeOf40,sizeOf84,sizeOf85,sizeOf86,sizeOf87,sizeOf88,trivial⟩ ⟨isAgg83,isAgg40,isAgg84,isAgg85,isAgg86,isAgg87,isAgg88,trivial⟩ rfl
noncomputable def ti103:TI prog:=Ox 103 isAgg103 sizeOf103 underlying103 zeroValue103 typeInfo103 16 rfl
noncomputable def ti104:TI prog:=tiA 104 isAgg104 sizeOf104 underlying104 zeroValue104 typeInfo104 80 rfl sizeOf103
noncomputable def ti113:TI prog:=Ox 113 isAgg113 sizeOf113 underlying113 zeroValue113 typeInfo113 4 rfl
set_option maxRecDepth 20000 in
theorem Qf5 (d:Nat) (x0 x1 x2 x3 y0 y1 y2 y3:Int) (w:World):(Op.equalIn (d+1+1) 132 (.agg #[.int .i64 x0,.int .i64 x1,.int .i64 x2,.int .i64 x3]) (.agg #[.int .i64 y0,.int .i64 y1,.int .i64 y2,.int .i64 y3])).run prog w=.ok (decide ([x0,x1,x2,x3]=[y0,y1,y2,y3])) w:=by
 rw [run_equalIn_array w (d+1) _ _ (n:=4) (e:=3) rfl rfl];rw [show List.range 4=[0,1,2,3] from rfl,show prog.cellsOf 3=1 from rfl];simp [Op.eqItems,Go.part,isAgg3,lP];by_cases h0:x0=y0 <;> by_cases h1:x1=y1 <;> by_cases h2:x2=y2 <;> by_cases h3:x3=y3 <;> simp [h0,h1,h2,h3]
noncomputable def ti132:TI prog:=tiA 132 isAgg132 sizeOf132 underlying132 zeroValue132 typeInfo132 32 rfl sizeOf3
set_option maxRecDepth 20000 in
theorem Qf6 (d:Nat) (x x0 x1 x2 x3 y y0 y1 y2 y3:Int) (w:World):(Op.equalIn (d+1+1+1) 134 (.agg #[.int .i64 x,.int .i64 x0,.int .i64 x1,.int .i64 x2,.int .i64 x3]) (.agg #[.int .i64 y,.int .i64 y0,.int .i64 y1,.int .i64 y2,.int .i64 y3])).run prog w=.ok (decide ([x,x0,x1,x2,x3]=[y,y0,y1,y2,y3])) w:=by
 rw [run_equalIn_struct w (d+1+1) 134 _ _ rfl Tryz.stoodInHeld134];have hf:(prog.fieldsOf 134).toList=[{ name := "Kind",type:=3,offset:=0,embedded:=false,tag := "",pkgPath := "",byteOffset:=0 },{ name := "Ids",type:=132,offset:=1,embedded:=false,tag := "",pkgPath := "",byteOffset:=8 }]:=by simp [Program.fieldsOf,underlying134]
 rw [hf];simp [Op.eqFields,Go.part,isAgg3,isAgg132,sizeOf132,sizeOf3,lP,Qf5];by_cases h:x=y <;> by_cases h0:x0=y0 <;> by_cases h1:x1=y1 <;> by_cases h2:x2=y2 <;> by_cases h3:x3=y3 <;> simp [h,h0,h1,h2,h3]
theorem Qm8 (a b:Uk) (ha:a.length=5) (hb:b.length=5) (w:World):(Op.equal 134 (.agg (a.map (Value.int .i64)).toArray) (.agg (b.map (Value.int .i64)).toArray)).run prog w=.ok (decide (a=b)) w:=by
 match a,ha,b,hb with
 | [x,x0,x1,x2,x3],_,[y,y0,y1,y2,y3],_=>exact Qf6 9997 x x0 x1 x2 x3 y y0 y1 y2 y3 w
noncomputable def ti134:TI prog:={ FA (ks:=[1,4]) (ag:=[false,true]) 134 isAgg134 sizeOf134 underlying134 zeroValue134 typeInfo134 40 rfl ⟨sizeOf3,sizeOf132,trivial⟩ ⟨isAgg3,isAgg132,trivial⟩ rfl with eqn:=some 5,heq:=λk h=>by injection h with h; subst h; exact ⟨eqGuardType134,Qm8⟩ }
noncomputable def ti136:TI prog:=FA (ks:=[5,1,1]) (ag:=[true,false,false]) 136 isAgg136 sizeOf136 underlying136 zeroValue136 typeInfo136 72 rfl ⟨sizeOf134,sizeOf31,sizeOf3,trivial⟩ ⟨isAgg134,isAgg31,isAgg3,trivial⟩ rfl
noncomputable def ti139:TI prog:=FA (ks:=[1,1,1]) (ag:=[false,false,false]) 139 isAgg139 sizeOf139 underlying139 zeroValue139 typeInfo139 40 rfl ⟨sizeOf3,sizeOf3,sizeOf74,trivial⟩ ⟨isAgg3,isAgg3,isAgg74,trivial⟩ rfl
noncomputable def ti161:TI prog:=Ox 161 isAgg161 sizeOf161 underlying161 zeroValue161 typeInfo161 24 rfl
noncomputable def ti163:TI prog:=Ox 163 isAgg163 sizeOf163 underlying163 zeroValue163 typeInfo163 24 rfl
noncomputable def ti164:TI prog:=Ox 164 isAgg164 sizeOf164 underlying164 zeroValue164 typeInfo164 24 rfl
noncomputable def ti166:TI prog:=FA (ks:=[1,1,4,4]) (ag:=[false,false,true,true]) 166 isAgg166 sizeOf166 underlying166 zeroValue166 typeInfo166 176 rfl ⟨sizeOf163,sizeOf164,sizeOf54,sizeOf54,trivial⟩ ⟨isAgg163,isAgg164,isAgg54,isAgg54,trivial⟩ rfl
noncomputable def ti167:TI prog:=Ox 167 isAgg167 sizeOf167 underlying167 zeroValue167 typeInfo167 24 rfl
noncomputable def ti168:TI prog:=Ox 168 isAgg168 sizeOf168 underlying168 zeroValue168 typeInfo168 24 rfl
noncomputable def ti170:TI prog:=FA (ks:=[10,1,1,1]) (ag:=[true,false,false,false]) 170 isAgg170 sizeOf170 underlying170 zeroValue170 typeInfo170 232 rfl ⟨sizeOf166,sizeOf167,sizeOf3,sizeOf168,trivial⟩ ⟨isAgg166,isAgg167,isAgg3,isAgg168,trivial⟩ rfl
noncomputable def ti171:TI prog:=tiA 171 isAgg171 sizeOf171 underlying171 zeroValue171 typeInfo171 1160 rfl sizeOf170
noncomputable def ti173:TI prog:=FA (ks:=[1,1,1,4,65]) (ag:=[false,false,false,true,true]) 173 isAgg173 sizeOf173 underlying173 zeroValue173 typeInfo173 1264 rfl ⟨sizeOf3,sizeOf3,sizeOf161,sizeOf54,sizeOf171,trivial⟩ ⟨isAgg3,isAgg3,isAgg161,isAgg54,isAgg171,trivial⟩ rfl
noncomputable def ti181:TI prog:=Ox 181 isAgg181 sizeOf181 underlying181 zeroValue181 typeInfo181 24 rfl
noncomputable def ti189:TI prog:=FA (ks:=[1,4,4]) (ag:=[false,true,true]) 189 isAgg189 sizeOf189 underlying189 zeroValue189 typeInfo189 152 rfl ⟨sizeOf31,sizeOf40,sizeOf40,trivial⟩ ⟨isAgg31,isAgg40,isAgg40,trivial⟩ rfl
noncomputable def ti190:TI prog:=Ox 190 isAgg190 sizeOf190 underlying190 zeroValue190 typeInfo190 24 rfl
noncomputable def ti192:TI prog:=FA (ks:=[1,9,1,1]) (ag:=[false,true,false,false]) 192 isAgg192 sizeOf192 underlying192 zeroValue192 typeInfo192 192 rfl ⟨sizeOf4,sizeOf189,sizeOf190,sizeOf3,trivial⟩ ⟨isAgg4,isAgg189,isAgg190,isAgg3,trivial⟩ rfl
noncomputable def ti194:TI prog:=FA (ks:=[1]) (ag:=[false]) 194 isAgg194 sizeOf194 underlying194 zeroValue194 typeInfo194 24 rfl ⟨sizeOf74,trivial⟩ ⟨isAgg74,trivial⟩ rfl
noncomputable def ti196:TI prog:=FA (ks:=[12,1,1]) (ag:=[true,true,false]) 196 isAgg196 sizeOf196 underlying196 zeroValue196 typeInfo196 240 rfl ⟨sizeOf192,sizeOf194,sizeOf74,trivial⟩ ⟨isAgg192,isAgg194,isAgg74,trivial⟩ rfl
noncomputable def ti197:TI prog:=Ox 197 isAgg197 sizeOf197 underlying197 zeroValue197 typeInfo197 24 rfl
noncomputable def ti199:TI prog:=FA (ks:=[12,1,1,1]) (ag:=[true,true,false,false]) 199 isAgg199 sizeOf199 underlying199 zeroValue199 typeInfo199 264 rfl ⟨sizeOf192,sizeOf194,sizeOf74,sizeOf197,trivial⟩ ⟨isAgg192,isAgg194,isAgg74,isAgg197,trivial⟩ rfl
noncomputable def ti201:TI prog:=FA (ks:=[12,1,1]) (ag:=[true,true,false]) 201 isAgg201 sizeOf201 underlying201 zeroValue201 typeInfo201 240 rfl ⟨sizeOf192,sizeOf194,sizeOf74,trivial⟩ ⟨isAgg192,isAgg194,isAgg74,trivial⟩ rfl
noncomputable def ti203:TI prog:=FA (ks:=[12,1,1]) (ag:=[true,true,false]) 203 isAgg203 sizeOf203 underlying203 zeroValue203 typeInfo203 240 rfl ⟨sizeOf192,sizeOf194,sizeOf74,trivial⟩ ⟨isAgg192,isAgg194,isAgg74,trivial⟩ rfl
noncomputable def ti205:TI prog:=FA (ks:=[12,1,1]) (ag:=[true,true,false]) 205 isAgg205 sizeOf205 underlying205 zeroValue205 typeInfo205 240 rfl ⟨sizeOf192,sizeOf194,sizeOf58,trivial⟩ ⟨isAgg192,isAgg194,isAgg58,trivial⟩ rfl
noncomputable def ti219:TI prog:=Ox 219 isAgg219 sizeOf219 underlying219 zeroValue219 typeInfo219 8 rfl
noncomputable def ti220:TI prog:=Ox 220 isAgg220 sizeOf220 underlying220 zeroValue220 typeInfo220 8 rfl
noncomputable def ti252:TI prog:=tiA 252 isAgg252 sizeOf252 underlying252 zeroValue252 typeInfo252 176 rfl sizeOf38
theorem Qax (em:Bool) (n:Nat) (v:Int) (w:World):(Instr.checkKey em (n+1) 3 (.int .i64 v)).run prog w=.ok () w:=by
 rw [Instr.checkKey];simp [runUnderlying3]
theorem kO (em:Bool) (n:Nat) (a b c:Int) (w:World):(Instr.checkKey em (n+1+1) 69 (.agg #[.int .i64 a,.int .i64 b,.int .i64 c])).run prog w=.ok () w:=by
 rw [Instr.checkKey];simp [runUnderlying69];rw [show List.range' 0 3=[0,1,2] from rfl];simp [Go.part,isAgg3,sizeOf3,Qax]
theorem TD (em:Bool) (ks:Uk) (hk:ks.length=3) (w:World):(Instr.checkKey em 10000 69 (Ae ks)).run prog w=.ok () w:=by
 match ks,hk with
 | [a,b,c],_=>exact kO em 9998 a b c w
theorem Qhi:MapT prog 259 69 3 (.int .i64 0):=⟨runUnderlying259,⟨_,runUnderlying69,λ_ _=>rfl⟩,TD,λx y hx hy w=>pA x y hx hy w,zeroValue3,rfl⟩
noncomputable def ti259:TI prog:={ Ox 259 isAgg259 sizeOf259 underlying259 zeroValue259 typeInfo259 8 rfl with md:=some (.int .i64 0),hmd:=λd h=>by injection h with h; subst h; exact ⟨69,3,Qhi⟩ }
theorem Qhj:MapT prog 260 69 4 (.bool false):=⟨runUnderlying260,⟨_,runUnderlying69,λ_ _=>rfl⟩,TD,λx y hx hy w=>pA x y hx hy w,zeroValue4,rfl⟩
noncomputable def ti260:TI prog:={ Ox 260 isAgg260 sizeOf260 underlying260 zeroValue260 typeInfo260 8 rfl with md:=some (.bool false),hmd:=λd h=>by injection h with h; subst h; exact ⟨69,4,Qhj⟩ }
noncomputable def ti264:TI prog:=FA (ks:=[5,1,1,1,1]) (ag:=[true,false,false,false,false]) 264 isAgg264 sizeOf264 underlying264 zeroValue264 typeInfo264 104 rfl ⟨sizeOf134,sizeOf163,sizeOf3,sizeOf168,sizeOf4,trivial⟩ ⟨isAgg134,isAgg163,isAgg3,isAgg168,isAgg4,trivial⟩ rfl
noncomputable def ti273:TI prog:=tiA 273 isAgg273 sizeOf273 underlying273 zeroValue273 typeInfo273 72 rfl sizeOf30
noncomputable def ti276:TI prog:=FA (ks:=[7,1,1,9]) (ag:=[true,false,false,true]) 276 isAgg276 sizeOf276 underlying276 zeroValue276 typeInfo276 232 rfl ⟨sizeOf136,sizeOf4,sizeOf4,sizeOf189,trivial⟩ ⟨isAgg136,isAgg4,isAgg4,isAgg189,trivial⟩ rfl
noncomputable def ti304:TI prog:=Ox 304 isAgg304 sizeOf304 underlying304 zeroValue304 typeInfo304 24 rfl
noncomputable def ti306:TI prog:=Ox 306 isAgg306 sizeOf306 underlying306 zeroValue306 typeInfo306 24 rfl
noncomputable def ti323:TI prog:=FA (ks:=[1,1,4]) (ag:=[false,false,true]) 323 isAgg323 sizeOf323 underlying323 zeroValue323 typeInfo323 128 rfl ⟨sizeOf163,sizeOf163,sizeOf36,trivial⟩ ⟨isAgg163,isAgg163,isAgg36,trivial⟩ rfl
noncomputable def ti325:TI prog:=FA (ks:=[6,1]) (ag:=[true,false]) 325 isAgg325 sizeOf325 underlying325 zeroValue325 typeInfo325 136 rfl ⟨sizeOf323,sizeOf3,trivial⟩ ⟨isAgg323,isAgg3,trivial⟩ rfl
noncomputable def ti327:TI prog:=Ox 327 isAgg327 sizeOf327 underlying327 zeroValue327 typeInfo327 24 rfl
noncomputable def ti331:TI prog:=tiA 331 isAgg331 sizeOf331 underlying331 zeroValue331 typeInfo331 272 rfl sizeOf325
noncomputable def ti336:TI prog:=Ox 336 isAgg336 sizeOf336 underlying336 zeroValue336 typeInfo336 24 rfl
noncomputable def ti340:TI prog:=FA (ks:=[1]) (ag:=[false]) 340 isAgg340 sizeOf340 underlying340 zeroValue340 typeInfo340 24 rfl ⟨sizeOf306,trivial⟩ ⟨isAgg306,trivial⟩ rfl
noncomputable def ti364:TI prog:=Ox 364 isAgg364 sizeOf364 underlying364 zeroValue364 typeInfo364 24 rfl
noncomputable def ti365:TI prog:=Ox 365 isAgg365 sizeOf365 underlying365 zeroValue365 typeInfo365 24 rfl
noncomputable def tt:TT prog:=(.nd (.nd (.nd (.nd (.nd (.nd (.nd .nil ti3 .nil) ti4 .nil) ti5 (.nd .nil ti9 .nil)) ti22 (.nd (.nd (.nd .nil ti23 .nil) ti24 .nil) ti27 (.nd .nil ti30 .nil))) ti31 (.nd (.nd (.nd (.nd .nil ti32 .nil) ti34 .nil) ti36 (.nd .nil ti38 .nil)) ti40 (.nd (.nd (.nd .nil ti42 .nil) ti44 .nil) ti46 (.nd .nil ti50 .nil)))) ti52 (.nd (.nd (.nd (.nd (.nd .nil ti54 .nil) ti58 .nil) ti60 (.nd .nil ti69 .nil)) ti74 (.nd (.nd (.nd .nil ti79 .nil) ti83 .nil) ti84 (.nd .nil ti85 .nil))) ti86 (.nd (.nd (.nd (.nd .nil ti87 .nil) ti88 .nil) ti90 (.nd .nil ti103 .nil)) ti104 (.nd (.nd (.nd .nil ti113 .nil) ti132 .nil) ti134 (.nd .nil ti136 .nil))))) ti139 (.nd (.nd (.nd (.nd (.nd (.nd .nil ti161 .nil) ti163 .nil) ti164 (.nd .nil ti166 .nil)) ti167 (.nd (.nd (.nd .nil ti168 .nil) ti170 .nil) ti171 (.nd .nil ti173 .nil))) ti181 (.nd (.nd (.nd (.nd .nil ti189 .nil) ti190 .nil) ti192 (.nd .nil ti194 .nil)) ti196 (.nd (.nd (.nd .nil ti197 .nil) ti199 .nil) ti201 (.nd .nil ti203 .nil)))) ti205 (.nd (.nd (.nd (.nd (.nd .nil ti219 .nil) ti220 .nil) ti252 (.nd .nil ti259 .nil)) ti260 (.nd (.nd (.nd .nil ti264 .nil) ti273 .nil) ti276 (.nd .nil ti304 .nil))) ti306 (.nd (.nd (.nd (.nd .nil ti323 .nil) ti325 .nil) ti327 (.nd .nil ti331 .nil)) ti336 (.nd (.nd .nil ti340 .nil) ti364 (.nd .nil ti365 .nil))))))
instance:Mo prog:=⟨rfl⟩
theorem Ub {n : Nat} {Q : Exit -> Sg -> List OB -> Prop} {L L' : Sg} {B B' : List OB} {it it' : List It} {as0 : List Qv} {ob : List Prop} (hs : List (H Tryz.prog)) (h : (match run tt n 100000 it L B hs [] [] with
 | some (it, L, B, q, ob) => (match EL ob with
  | some ob => some (it, L, B, q.map (·.1), q.map (·.2), ob)
  | none => none)
 | none => none) = some (it', L', B', as0, as0, ob)) (k : AK Tryz.prog n Q it' L' B') (ho : Uw ob := by exact trivial) : AK Tryz.prog n Q it L B := go tt hs h ho k
theorem Uc {n : Nat} {Q : Exit -> Sg -> List OB -> Prop} {L L' : Sg} {B B' : List OB} {it it' : List It} {as0 : List Qv} {ob : List Prop} (hs : List (H Tryz.prog)) (h : (match run tt n 100000 it L B hs [] [] with
 | some (it, L, B, q, ob) => (match EL ob with
  | some ob => some (it, L, B, q.map (·.1), q.map (·.2), ob)
  | none => none)
 | none => none) = some (it', L', B', as0, as0, ob)) (k : AK Tryz.prog n Q it' L' B') (ho : Uw ob := by simp [Uw]; omega) : AK Tryz.prog n Q it L B := go tt hs h ho k
theorem Ue {n : Nat} {f : FuncId} {fn : Func} {c : Code} {args res us : List TV} {as0 : List Qv} {ob : List Prop} (hf : Tryz.prog.funcs[f]? = some fn) (hh : (fn.body, fn.ntmps, (fn.name == "runtime.NumGoroutine"), Nat.ble args.length n) = (some c, n, false, true)) (hs : List (H Tryz.prog))
 (h : wE tt n c fn.results.toList args hs = some (us, as0, as0, ob)) (he : us = res := by exact rfl) (ho : Uw ob := by exact trivial) : EF Tryz.prog f args res := w tt hf hh hs h he ho
theorem Ud {n : Nat} {L : Sg} {B : List OB} {fn : Func} {res us : List TV} {it : List It} {as0 : List Qv} {ob : List Prop} (hs : List (H Tryz.prog)) (h : enE tt n fn.results.toList it L B hs = some (us, as0, as0, ob)) (he : us = res := by exact rfl) (ho : Uw ob := by exact trivial) : AK Tryz.prog n (RQ Tryz.prog fn n 0 λu B => u = res /\ B = []) it L B := en tt hs h he ho
theorem Uf {n : Nat} {L : Sg} {B : List OB} {fn : Func} {k : Nat} {res : List TV} {Bout : List OB} {it : List It} {as0 : List Qv} {ob : List Prop} (ps is : List Nat) (hs : List (H Tryz.prog)) (h : edE tt n k fn.results.toList it L B hs res Bout ps is = some (as0, as0, ob)) (ho : Uw ob := by exact trivial) : AK Tryz.prog n (RQ Tryz.prog fn n k λu B => u = res /\ B = Bout) it L B := ed tt ps is hs h ho
theorem Ug {n : Nat} {Q : Exit -> Sg -> List OB -> Prop} {L : Sg} {B : List OB} {S : Type} {c : Code} {r : List It} {L1 : Sg} (k : Nat) (st : Sg -> S -> Sg) (bs : S -> List OB) (μ : S -> Nat) (I : S -> Prop) (s0 : S) (h0 : I s0) (hL : prn (vZ c []) L = some L1) {as0 : List Qv} (hs : two (cU none L B (st L1 s0) (bs s0)) = some (as0, as0))
 (round : ∀ s, I s -> AK Tryz.prog n Q (.code c :: .rnd (some k) (λL B => ∃ s', μ s' < μ s /\ I s' /\ L = st L1 s' /\ B = bs s') :: r) (st L1 s) (bs s)) (hk : ∀ s, I s -> (bs s).length = k := by exact λ_ _ => rfl) : AK Tryz.prog n Q (.code (.loop c) :: r) L B := lp k st bs μ I s0 h0 hL hk hs round
abbrev Uh (f : Nat) (a r : List TV) : Prop := EF Tryz.prog f a r
end Orr
namespace Orr
open Go Go.Proofs Tryz
set_option maxRecDepth 10000
def lm (l:Um):Uq:=l.map λ(x:Nat)=>[.int .u32 (x:Int)]
abbrev lr (l:Um):TV:=.one (.row (lm l))
theorem Uz (l:Um):(lm l).length=l.length:=by simp [lm]
theorem G5 {l:Um} {i x:Nat} (h:l[i]? = some x):(lm l)[i]? = some [.int .u32 (x:Int)]:=by simp [lm,h]
def yN:Um->Um
 | []=>[]
 |
  x::l=>match yN l with
  | []=>if x=0 then [] else [x]
  | r=>x::r
theorem Qpp {l:Um}:yN l=[]↔∀ x∈l,x=0:=by
 induction l with
 | nil=>simp [yN]
 |
  cons x l ih =>
  simp only [yN]
  split
  ·rename_i e;have h1:=ih.1 e;by_cases h:x=0
   ·simp [h]; exact h1
   ·simp [h]
  ·rename_i r hne;simp only [reduceCtorEq,Ql,forall_eq_or_imp,false_iff,not_and];exact λ_ h=>hne (ih.2 h)
theorem FI:∀ {l:Um} {n:Nat},n<=l.length->(∀ j,n<=j->j<l.length->l[j]? = some 0)->(n=0\/∃ x,l[n-1]? = some x/\x≠0)->l.take n=yN l
 | [],n,h,_,_=>by simp at h; subst h; rfl
 |
  x::l,0,h,hz,_=>by
  rw [Vv];refine (Qpp.2 λy hy=>?_).symm;obtain ⟨j,hj⟩:=Zj.1 hy;have:=hz j (Qh _) (Qf.1 hj).1;rw [hj] at this; injection this
 |
  x::l,n+1,h,hz,ht=>by
  simp only [Q6,Nat.add_le_add_iff_right] at h;have hz':∀ j,n<=j->j<l.length->l[j]? = some 0:=λj h1 h2=>by simpa using hz (j+1) (by omega) (by simpa using h2)
  cases n with
  |
   zero =>
   have e:yN l=[]:=(FI (n:=0) h hz' (.inl rfl)).symm;rcases ht with h | ⟨y,h1,h2⟩
   ·omega
   ·simp at h1; subst h1; simp [yN,e,h2]
  |
   succ n =>
   have ih:=FI (n:=n+1) h hz' (.inr (by rcases ht with h | ⟨y,h1,h2⟩; (· omega); exact ⟨y,by simpa using h1,h2⟩));simp only [Ve,yN];rw [<-ih];cases hl:l with
   | nil=>rw [hl] at h; simp at h
   | cons y l'=>simp [Ve]
theorem Qx1 (l:Um):Uh 120 [lr l] [lr (yN l)]:=by
 refine Ft func120 rfl (ln 0 rfl rfl λhl=>?_);rw [Uz] at hl;refine Ub [] rfl ?_;refine Ug (S:=Nat) 0 (λL1 n=>(3,.v (.oi n))::L1) (λ_=>[]) id (λn=>n<=l.length/\∀ j,n<=j->j<l.length->l[j]? = some 0) (lm l).length ⟨by rw [Uz]; exact Qm _,λj h1 h2=>by rw [Uz] at h1; omega⟩ rfl rfl λn ⟨h1,h2⟩=>?_
 cases n with
 | zero=>exact Ud [.f (by simp),.f rfl,.i 0] rfl (by rw [<-FI h1 h2 (.inl rfl)]; simp [lm]) (by simp [Uw,Hl])
 |
  succ n =>
  obtain ⟨x,hx⟩:=gxE (l:=l) (i:=n) (by omega);by_cases h0:x=0
  ·refine go tt [.t (by simp),.r 11 (v:=.oi n) (by simp),.x (G5 hx),.t (by simp [h0]),.r 17 (v:=.oi n) (by simp)] rfl (by simp [Uw,Hl]; omega) ?_;exact rd n (by simp) ⟨by omega,λj h3 h4=>by
    rcases Vl h3 with rfl | h3
    ·rw [hx,h0]
    ·exact h2 j h3 h4⟩ rfl
  ·exact Ud [.t (by simp),.r 11 (v:=.oi n) (by simp),.x (G5 hx),.f (by simp [h0]),.i (n+1)] rfl (by rw [<-FI h1 h2 (.inr ⟨x,hx,h0⟩)]; simp [lm]) (by simp [Uw,Hl,Uz] <;> omega)
def Sm (l:Um):Prop:=∀ x∈l,x<4294967296
theorem yB:∀ l:Um,Cut l (yN l).length/\l.take (yN l).length=yN l
 | []=>⟨⟨Qm _,λj _ h=>by simp at h,λh=>by simp [yN] at h⟩,rfl⟩
 |
  x::l=>by
  obtain ⟨⟨h1,h2,h3⟩,h4⟩:=yB l;simp only [yN]
  split
  ·rename_i e;rw [e] at h2 h3;by_cases h:x=0
   ·rw [if_pos h];refine ⟨⟨Qh _,λj _ hj=>?_,λh=>by simp at h⟩,rfl⟩;cases j with
    | zero=>simp [h]
    | succ j=>simpa using h2 j (Qh _) (by simpa using hj)
   ·rw [if_neg h];refine ⟨⟨by simp,λj h5 hj=>?_,λ_=>⟨x,rfl,h⟩⟩,rfl⟩;cases j with
    | zero=>simp at h5
    | succ j=>simpa using h2 j (Qh _) (by simpa using hj)
  ·rename_i r hne;refine ⟨⟨by simp [h1],λj h5 hj=>?_,λ_=>?_⟩,by simp [h4]⟩
   ·cases j with
    | zero=>simp at h5
    | succ j=>simpa using h2 j (by simpa using h5) (by simpa using hj)
   ·have hp:0<(yN l).length:=by
     cases e:yN l with
     | nil=>exact absurd e hne
     | cons=>simp
    obtain ⟨y,h5,h6⟩:=h3 hp;refine ⟨y,?_,h6⟩;rw [Q6,show (yN l).length+1-1=((yN l).length-1)+1 from by omega];simpa using h5
theorem qI {l:Um} (h:Sm l):yN l=Fv (val l):=by
 obtain ⟨h1,h2⟩:=yB l;refine Qhd ?_ ?_
 ·rw [<-h2]; exact Qm0 h1 h
 ·rw [<-h2]; exact Qm1 h1
theorem Lb (x:Nat):Sm (Fv x):=(C5 x).1
theorem Rp {x k:Nat} (h:sz x<=k):32*(Fv x).length<=k+31:=by
 have:=Qn1 (C5 x);rw [Gy] at this; omega
theorem VV {l:Um} (h:Sm l):Uh 120 [lr l] [lr (Fv (val l))]:=qI h ▸ Qx1 l
theorem Qhe (l:Um):∀ c∈lm l,c.length=1:=λc hc=>by
 obtain ⟨x,_,rfl⟩:=Za.1 hc; rfl
theorem VB {l:Um} (h:Sm l) (hs:sz (val l)<=4294967296):Uh 153 [lr l] [lr (Fv (val l))] :=
 Ue func153 rfl [.k (VV h),.s (Qhe (Fv (val l)))] rfl rfl (by have:=Rp hs; simp [Uw,Hl,Uz]; omega)
theorem GO {a:Um} (ha:Sm a):∃ p,Uh 120 [lr a] [lr p]/\vH p/\val p=val a/\p.length<=a.length/\p=Fv (val a) :=
 ⟨_,VV ha,C5 _,Gy _,by rw [<-qI ha]; exact (yB a).1.1,rfl⟩
theorem Qdh {a b:Um} (ha:Sm a) (hb:Sm b):Uh 147 [lr a,lr b] [.oi (ZY (val a) (val b))]:=by
 refine Ft func147 rfl (ln 0 rfl rfl λhl=>ln 1 rfl rfl λhl'=>?_);rw [Uz] at hl hl';obtain ⟨p,ca,np,vp,lp',_⟩:=GO ha;obtain ⟨q,cb,nq,vq,lq,_⟩:=GO hb;rw [<-vp,<-vq];by_cases h:p.length=q.length
 ·refine go tt [.k ca,.k cb,.f (by simp [Uz,h])] rfl (by simp [Uw,Hl,Uz] <;> omega) ?_;refine Ug (S:=Int) 0 (λL1 i=>(5,.v (.oi i))::L1) (λ_=>[]) (λi=>(i+1).toNat) (λi=>-1<=i/\i<p.length/\p.drop (i+1).toNat=q.drop (i+1).toNat) (((lm p).length:Int)-1) ⟨by omega,by simp [Uz]; omega,by simp [Uz,h]⟩ rfl rfl λi ⟨h1,h2,h3⟩=>?_
  rcases K8 i 0 with hi | hi
  ·obtain rfl:i=-1:=by omega
   exact Ud [.f (by decide)] rfl (by rw [lX]; exact congrArg val (by simpa using h3)) trivial
  ·obtain ⟨k,rfl⟩:=Kj hi;have e:((k:Int)+1).toNat=k+1:=by omega
   rw [e] at h3;obtain ⟨x,hx⟩:=gxE (l:=p) (i:=k) (by omega);obtain ⟨y,hy⟩:=gxE (l:=q) (i:=k) (by omega);rcases Km x y with hxy | rfl | hxy
   ·exact Ud [.t (by simp),.x (G5 hx),.x (G5 hy),.t (by simp; omega)] rfl (by rw [PN (oJ np.1 h3 hx hy hxy)]) (by simp [Uw,Hl,Uz] <;> omega)
   ·refine go tt [.t (by simp),.x (G5 hx),.x (G5 hy),.f (by simp),.x (G5 hx),.x (G5 hy),.f (by simp)] rfl (by simp [Uw,Hl,Uz] <;> omega) ?_;exact rd ((k:Int)-1) (by omega) ⟨by omega,by omega,by rw [show ((k:Int)-1+1).toNat=k from by omega]; exact Qa6 h3 hx hy⟩ rfl
   ·exact Ud [.t (by simp),.x (G5 hx),.x (G5 hy),.f (by simp; omega),.x (G5 hx),.x (G5 hy),.t (by simp; omega)] rfl (by rw [PM (oJ nq.1 h3.symm hy hx hxy)]) (by simp [Uw,Hl,Uz] <;> omega)
 ·by_cases h2:p.length<q.length
  ·exact Ud [.k ca,.k cb,.t (by simp [Uz]; omega),.t (by simp [Uz]; omega)] rfl (by rw [PN (Dl np nq h2)]) (by simp [Uw,Hl])
  ·exact Ud [.k ca,.k cb,.t (by simp [Uz]; omega),.f (by simp [Uz]; omega)] rfl (by rw [PM (Dl nq np (by omega))]) (by simp [Uw,Hl])
theorem KL (m:Nat):List.replicate m [LV.int .u32 0]=lm (List.replicate m 0):=by simp [lm]
theorem B8 (l:Um) (i x:Nat):(lm l).set i [.int .u32 (x:Int)]=lm (l.set i x):=by simp [lm,Vu]
theorem De {a b:Int} (h:a=b):TV.one (LV.int .u64 a)=.one (.int .u64 b):=h ▸ rfl
theorem E6 {a b:Int} (h:a=b):TV.one (LV.int .u32 a)=.one (.int .u32 b):=h ▸ rfl
theorem eI {a b:Int} (h:a=b):TV.one (LV.int .i64 a)=.oi b:=h ▸ rfl
theorem zQ (z:Int):IntKind.u32.wrap z=z % 4294967296:=by simp [IntKind.wrap,IntKind.bits,IntKind.signed]
theorem w64 (z:Int):IntKind.u64.wrap z=z % 18446744073709551616:=by simp [IntKind.wrap,IntKind.bits,IntKind.signed]
theorem Qqc {a b:Um} (ha:Sm a) (hb:Sm b) (h1:sz (val a)<=4294967296) (h2:sz (val b)<=4294967296):Uh 227 [lr a,lr b] [lr (Fv (val a+val b))]:=by
 refine Ft func227 rfl ?_;obtain ⟨p,ca,np,vp,_,ep⟩:=GO ha;obtain ⟨q,cb,nq,vq,_,eq⟩:=GO hb;have lp':=Rp h1;have lq:=Rp h2;rw [<-ep] at lp';rw [<-eq] at lq;rw [<-vp,<-vq];refine Ub [.k ca,.k cb] rfl ?_;refine ct 1 (S:=Um×Um) (λs=>[(0,.v (lr s.1)),(1,.v (lr s.2))]) (λ_=>[]) (λs=>vH s.1/\vH s.2/\32*s.1.length<=4294967327/\s.2.length<=s.1.length/\val s.1+val s.2=val p+val q) rfl ?_ ?_
 ·by_cases h:p.length<q.length
  ·exact go tt [.t (by simp [Uz]; omega)] rfl trivial (rc (q,p) ⟨nq,np,lq,Yh h,Js _ _⟩ rfl)
  ·exact go tt [.f (by simp [Uz]; omega)] rfl trivial (rc (p,q) ⟨np,nq,lp',J6 h,rfl⟩ rfl)
 ·intro ⟨p',q'⟩ ⟨np,nq,hp,hq,e⟩;dsimp only at np nq hp hq e;rw [<-e];clear ca cb e vp vq ep eq;refine go tt [.i ((lm p').length+1),.i ((lm p').length+1)] rfl (by simp [Uw,Hl,Uz] <;> omega) ?_;rw [KL];refine lp (S:=Nat×Um×Nat) 1 (λL1 s=>(27,.v (.oi (s.1:Int)))::(6,.v (.one (.int .u64 (s.2.2:Int))))::L1) (λs=>[.row false 113 1 (lm s.2.1)]) (λs=>p'.length-s.1)
   (λs=>s.1<=p'.length/\s.2.1.length=p'.length+1/\Sm s.2.1/\s.2.2<=1/\val (s.2.1.take s.1)+s.2.2*4294967296^s.1=val (p'.take s.1)+val (q'.take s.1)) (0,List.replicate ((lm p').length+1) 0,0)
   ⟨Qh _,by simp [Uz],λx hx=>by rw [Zy hx]; decide,Qh _,by simp [val]⟩ rfl (λ_ _=>rfl) rfl λ⟨i,o,c⟩ ⟨j1,j2,j3,j4,j5⟩=>?_
  dsimp only at j1 j2 j3 j4 j5 ⊢;by_cases hi:i<p'.length
  ·obtain ⟨x,hx⟩:=gxE (l:=p') (i:=i) hi;have xb:=np.1 x (Qa hx);have fin:∀ y s,(q'[i]? = some y\/q'.length<=i/\y=0)->y<4294967296->s=x+c+y->p'.length-(i+1)<p'.length-i/\i+1<=p'.length/\(o.set i (s % 4294967296)).length=p'.length+1/\Sm (o.set i (s % 4294967296))/\s / 4294967296<=1 /\
    val ((o.set i (s % 4294967296)).take (i+1))+s / 4294967296*4294967296^(i+1)=val (p'.take (i+1))+val (q'.take (i+1)):=λy s hy hyb hs =>
    ⟨by omega,hi,by simp [j2],Nw j3 i _ (by omega),by omega,vR (by omega) hx hy j5 hs⟩
   by_cases hi2:i<q'.length
   ·obtain ⟨y,hy⟩:=gxE (l:=q') (i:=i) hi2;have yb:=nq.1 y (Qa hy);refine go tt [.t (by simp [Uz]; omega),.x (G5 hx),.t (by simp [Uz]; omega),.x (G5 hy),.w 2,.r 50 (v:=.one (.int .u32 (((x+c+y) % 4294967296:Nat):Int))) (by simp [IntKind.wrap,IntKind.bits,IntKind.signed]),.i 32,.r 52 (v:=.one (.int .u64 (((x+c+y) / 4294967296:Nat):Int))) (by simp),.i i] rfl (by simp [Uw,Hl,Uz,IntKind.bits] <;> omega) ?_;rw [B8];exact rd (i+1,o.set i ((x+c+y) % 4294967296),(x+c+y) / 4294967296) (fin y _ (.inl hy) yb rfl).1 (fin y _ (.inl hy) yb rfl).2 rfl
   ·refine go tt [.t (by simp [Uz]; omega),.x (G5 hx),.f (by simp [Uz]; omega),.w 0,.r 50 (v:=.one (.int .u32 (((x+c+0) % 4294967296:Nat):Int))) (by simp [IntKind.wrap,IntKind.bits,IntKind.signed]),.i 32,.r 52 (v:=.one (.int .u64 (((x+c+0) / 4294967296:Nat):Int))) (by simp),.i i] rfl (by simp [Uw,Hl,Uz,IntKind.bits] <;> omega) ?_;rw [B8];exact rd (i+1,o.set i ((x+c+0) % 4294967296),(x+c+0) / 4294967296) (fin 0 _ (.inr ⟨by omega,rfl⟩) (by decide) rfl).1 (fin 0 _ (.inr ⟨by omega,rfl⟩) (by decide) rfl).2 rfl
  ·obtain rfl:i=p'.length:=by omega
   refine go tt [.f (by simp [Uz]),.w 0,.r 59 (v:=.one (.int .u32 (c:Int))) (by simp [IntKind.wrap,IntKind.bits,IntKind.signed]; omega),.i (lm p').length] rfl (by simp [Uw,Hl,Uz,j2]) ?_;rw [Uz,B8];have e:val (o.set p'.length c)=val p'+val q':=by
    have h1:=QI o p'.length c (by omega);rw [Qn (by simp; omega)] at h1;rw [Qn (Qm _),Qn hq] at j5;rw [h1,<-j5,Zp]
   rw [<-e];exact Ud [.k (VV (Nw j3 _ c (by omega)))] rfl
theorem wQ {x y:Nat}:ZY x y<0↔x<y:=by unfold ZY; split <;> (try split) <;> omega
theorem Qqh {a b:Um} (ha:Sm a) (hb:Sm b) (h1:sz (val a)<=4294967296):Uh 228 [lr a,lr b] (if val b<=val a then [lr (Fv (val a-val b)),.one (.bool true)] else [lr [],.one (.bool false)]):=by
 refine Ft func228 rfl ?_;obtain ⟨p,ca,np,vp,_,ep⟩:=GO ha;obtain ⟨q,cb,nq,vq,_,_⟩:=GO hb;have hp:=Rp h1;rw [<-ep] at hp;rw [<-vp,<-vq];have cc:=Qdh np.1 nq.1;by_cases hlt:val p<val q
 ·rw [if_neg (by omega)];exact Ud [.k ca,.k cb,.k cc,.t (by simpa using wQ.2 hlt)] rfl
 rw [if_pos (by omega)];have hq:q.length<=p.length:=J6 λh=>hlt (Dl np nq h)
 refine go tt [.k ca,.k cb,.k cc,.f (by have:=mt wQ.1 hlt; simpa using this),.i (lm p).length,.i (lm p).length] rfl (by simp [Uw,Hl,Uz] <;> omega) ?_;rw [KL];refine lp (S:=Nat×Um×Nat) 1 (λL1 s=>(24,.v (.oi (s.1:Int)))::(7,.v (.one (.int .u64 (s.2.2:Int))))::L1) (λs=>[.row false 113 1 (lm s.2.1)]) (λs=>p.length-s.1)
  (λs=>s.1<=p.length/\s.2.1.length=p.length/\Sm s.2.1/\s.2.2<=1/\val (s.2.1.take s.1)+val (q.take s.1)=val (p.take s.1)+s.2.2*4294967296^s.1) (0,List.replicate (lm p).length 0,0)
  ⟨Qh _,by simp [Uz],λx hx=>by rw [Zy hx]; decide,Qh _,by simp [val]⟩ rfl (λ_ _=>rfl) rfl λ⟨i,o,c⟩ ⟨j1,j2,j3,j4,j5⟩=>?_
 dsimp only at j1 j2 j3 j4 j5 ⊢;by_cases hi:i<p.length
 ·obtain ⟨x,hx⟩:=gxE (l:=p) (i:=i) hi;have xb:=np.1 x (Qa hx);have fin:∀ y s,(q[i]? = some y\/q.length<=i/\y=0)->y<4294967296->s=(x+18446744073709551616-c-y) % 18446744073709551616->p.length-(i+1)<p.length-i/\i+1<=p.length/\(o.set i (s % 4294967296)).length=p.length/\Sm (o.set i (s % 4294967296))/\s / 9223372036854775808<=1 /\
   val ((o.set i (s % 4294967296)).take (i+1))+val (q.take (i+1))=val (p.take (i+1))+s / 9223372036854775808*4294967296^(i+1):=λy s hy hyb hs=>by
   obtain ⟨h1,h2⟩:=Qju (o:=o) (by omega) hx hy xb hyb j4 j5 hs;exact ⟨by omega,hi,by simp [j2],Nw j3 i _ (by omega),h2,h1⟩
  by_cases hi2:i<q.length
  ·obtain ⟨y,hy⟩:=gxE (l:=q) (i:=i) hi2;have yb:=nq.1 y (Qa hy);obtain ⟨s,hs⟩:=nmE ((x+18446744073709551616-c-y) % 18446744073709551616);refine go tt [.t (by simp [Uz]; omega),.x (G5 hx),.w 1,.r 32 (De (b:=(((x+18446744073709551616-c) % 18446744073709551616:Nat):Int)) (by rw [w64]; omega)),.t (by simp [Uz]; omega),.x (G5 hy),.w 1,.r 43 (De (b:=(s:Int)) (by rw [w64]; omega)),.w 0,.r 47 (E6 (b:=((s % 4294967296:Nat):Int)) (by rw [zQ]; omega)),.i 63,.r 49 (De (b:=((s / 9223372036854775808:Nat):Int)) (by simp)),.i i] rfl (by simp [Uw,Hl,Uz,IntKind.bits] <;> omega) ?_;rw [B8];exact rd (i+1,o.set i (s % 4294967296),s / 9223372036854775808) (fin y _ (.inl hy) yb hs).1 (fin y _ (.inl hy) yb hs).2 rfl
  ·obtain ⟨s,hs⟩:=nmE ((x+18446744073709551616-c-0) % 18446744073709551616);have hf:=fin 0 _ (.inr ⟨by omega,rfl⟩) (by decide) hs;refine go tt [.t (by simp [Uz]; omega),.x (G5 hx),.w 1,.r 32 (De (b:=(s:Int)) (by rw [w64]; omega)),.f (by simp [Uz]; omega),.w 0,.r 47 (E6 (b:=((s % 4294967296:Nat):Int)) (by rw [zQ]; omega)),.i 63,.r 49 (De (b:=((s / 9223372036854775808:Nat):Int)) (by simp)),.i i] rfl (by simp [Uw,Hl,Uz,IntKind.bits] <;> omega) ?_;rw [B8];exact rd (i+1,o.set i (s % 4294967296),s / 9223372036854775808) hf.1 hf.2 rfl
 ·obtain rfl:i=p.length:=by omega
  have e:val o=val p-val q:=by
   rw [Qn (Nat.le_of_eq j2),Qn hq,Qn (Qm _)] at j5;have h1:=Cm o j3;rw [j2] at h1;rcases Nat.le_one_iff_eq_zero_or_eq_one.1 j4 with rfl | rfl <;> omega
  rw [<-e];exact Ud [.f (by simp [Uz]),.k (VV j3)] rfl
theorem Qwh {a b:Um} (ha:Sm a) (hb:Sm b) (h1:sz (val a)<=4294967296) (h2:sz (val b)<=4294967296):Uh 82 [lr a,lr b] [lr (Fv (val a*val b))]:=by
 refine Ft func82 rfl ?_;obtain ⟨p,ca,np,vp,_,ep⟩:=GO ha;obtain ⟨q,cb,nq,vq,_,eq⟩:=GO hb;have hp:=Rp h1;have hq:=Rp h2;rw [<-ep] at hp;rw [<-eq] at hq;rw [<-vp,<-vq];refine go tt [.k ca,.k cb,.i ((lm p).length+(lm q).length),.i ((lm p).length+(lm q).length)] rfl (by simp [Uw,Hl,Uz] <;> omega) ?_;rw [KL];refine lp (S:=Nat×Um) 1 (λL1 s=>(24,.v (.oi (s.1:Int)))::L1) (λs=>[.row false 113 1 (lm s.2)]) (λs=>p.length-s.1)
  (λs=>s.1<=p.length/\s.2.length=p.length+q.length/\Sm s.2/\(∀ j,s.1+q.length<=j->j<s.2.length->s.2[j]? = some 0)/\val s.2=val (p.take s.1)*val q) (0,List.replicate ((lm p).length+(lm q).length) 0)
  ⟨Qh _,by simp [Uz],λx hx=>by rw [Zy hx]; decide,λj _ hj=>by rw [Jw,if_pos (by simpa using hj)],by simp [val,TQ]⟩ rfl (λ_ _=>rfl) rfl λ⟨i,o⟩ ⟨j1,j2,j3,j4,j5⟩=>?_
 dsimp only at j1 j2 j3 j4 j5 ⊢;by_cases hi:i<p.length
 ·obtain ⟨x,hx⟩:=gxE (l:=p) (i:=i) hi;have xb:=np.1 x (Qa hx);refine Ub [.t (by simp [Uz]; omega),.x (G5 hx)] rfl ?_;refine lp (S:=Nat×Um×Nat) 1 (λL1 s=>(31,.v (.oi (s.1:Int)))::(8,.v (.one (.int .u64 (s.2.2:Int))))::L1) (λs=>[.row false 113 1 (lm s.2.1)]) (λs=>q.length-s.1)
   (λs=>s.1<=q.length/\s.2.1.length=p.length+q.length/\Sm s.2.1/\(∀ j,i+q.length<=j->j<s.2.1.length->s.2.1[j]? = some 0)/\s.2.2<4294967296/\val s.2.1+s.2.2*4294967296^(i+s.1)=val (p.take i)*val q+4294967296^i*x*val (q.take s.1)) (0,o,0)
   ⟨Qh _,j2,j3,j4,by simp,by simp [val,j5]⟩ rfl (λ_ _=>rfl) rfl λ⟨k,o',c⟩ ⟨k1,k2,k3,k4,k5,k6⟩=>?_
  dsimp only at k1 k2 k3 k4 k5 k6 ⊢;by_cases hk:k<q.length
  ·obtain ⟨y,hy⟩:=gxE (l:=q) (i:=k) hk;have yb:=nq.1 y (Qa hy);obtain ⟨z,hz⟩:=gxE (l:=o') (i:=i+k) (by omega);have zb:=k3 z (Qa hz);have hm:=XS xb yb;have hm2:(x:Int)*(y:Int)=((x*y:Nat):Int):=by push_cast; rfl
   obtain ⟨s,hs⟩:=nmE (x*y+z+c);refine go tt [.t (by simp [Uz]; omega),.x (G5 hy),.r 40 (De (b:=((x*y:Nat):Int)) (by push_cast; rfl)),.i (i+k),.x (G5 hz),.r 50 (De (b:=(s:Int)) (by omega)),.w 1,.r 56 (E6 (b:=((s % 4294967296:Nat):Int)) (by rw [zQ]; omega)),.i 32,.r 58 (De (b:=((s / 4294967296:Nat):Int)) (by simp)),.i (i+k)] rfl ?_ ?_
   ·simp [Uw,Hl,Uz,IntKind.bits] <;> omega
   ·rw [B8];exact rd (k+1,o'.set (i+k) (s % 4294967296),s / 4294967296) (show q.length-(k+1)<q.length-k by omega) ⟨hk,by simp [k2],Nw k3 _ _ (by omega),λj h3 h4=>by
     rw [Yd (by omega)]; exact k4 j h3 (by simpa using h4),(show s / 4294967296<4294967296 from by omega),Qhq hz hy k6 hs⟩ rfl
  ·obtain rfl:k=q.length:=by omega
   by_cases hq0:0<q.length
   ·refine go tt [.f (by simp [Uz]),.t (by simp [Uz]; omega),.w 1,.r 70 (E6 (b:=((c % 4294967296:Nat):Int)) (by rw [zQ]; omega)),.i (i+(lm q).length)] rfl (by simp [Uw,Hl,Uz,IntKind.bits] <;> omega) ?_;rw [B8];refine rd (i+1,o'.set (i+(lm q).length) (c % 4294967296)) (show p.length-(i+1)<p.length-i by omega) ⟨hi,by simp [k2],Nw k3 _ _ (by omega),λj h3 h4=>?_,?_⟩ rfl
    ·rw [Uz,List.getElem?_set_ne (by dsimp only at h3; omega)];exact k4 j (by dsimp only at h3; omega) (by simpa using h4)
    ·rw [Uz];exact Qhp (k4 _ (Qm _) (by omega)) hx k5 rfl k6
   ·have q0:q=[]:=Qj (by omega);refine go tt [.f (by simp [Uz]),.f (by simp [Uz,q0])] rfl (by simp [Uw,Hl,Uz,IntKind.bits] <;> omega) ?_;refine rd (i+1,o') (show p.length-(i+1)<p.length-i by omega) ⟨hi,k2,k3,λj h3 h4=>k4 j (by dsimp only at h3; omega) h4,?_⟩ rfl;have c0:c*4294967296^(i+q.length)=0/\val o'=0:=by
     subst q0;simp only [val,List.take_nil,Yy] at k6;omega
    rw [c0.2,q0]; rfl
 ·obtain rfl:i=p.length:=by omega
  rw [Qn (Qm _)] at j5;rw [<-j5];exact Ud [.f (by simp [Uz]),.k (VV j3)] rfl
theorem o64 {k q:Nat} (hq:q<4294967296) (hb:4294967296*k+q<18446744073709551616):orI .u64 ((4294967296*k:Nat):Int) (q:Int)=((4294967296*k+q:Nat):Int):=by
 have e1:(BitVec.ofInt 64 ((4294967296*k:Nat):Int)).toNat=4294967296*k:=by rw [BitVec.toNat_ofInt]; omega
 have e2:(BitVec.ofInt 64 (q:Int)).toNat=q:=by rw [BitVec.toNat_ofInt]; omega
 show IntKind.u64.wrap ((BitVec.ofInt 64 ((4294967296*k:Nat):Int) ||| BitVec.ofInt 64 (q:Int)).toNat:Int)=_;rw [BitVec.toNat_or,e1,e2,Qul hq,w64]; omega
theorem oM {k p:Nat} (hp:p<4294967296) (hb:4294967296*k+p<18446744073709551616):orI .u64 (p:Int) ((4294967296*k:Nat):Int)=((4294967296*k+p:Nat):Int):=by
 have:=o64 hp hb;unfold orI at this ⊢;rw [BitVec.or_comm]; exact this
theorem o32 {s k p:Nat} (hp:p<2^s) (h1:p<4294967296) (h2:2^s*k<4294967296) (hb:p+2^s*k<4294967296):orI .u32 (p:Int) ((2^s*k:Nat):Int)=((p+2^s*k:Nat):Int):=by
 have e1:(BitVec.ofInt 32 ((2^s*k:Nat):Int)).toNat=2^s*k:=by rw [BitVec.toNat_ofInt]; omega
 have e2:(BitVec.ofInt 32 (p:Int)).toNat=p:=by rw [BitVec.toNat_ofInt]; omega
 have e3:p ||| 2^s*k=p+2^s*k:=by
  have:=Wq (i:=s) (b:=p) hp k;rw [Nat.or_comm,<-this,Js]
 show IntKind.u32.wrap ((BitVec.ofInt 32 (p:Int) ||| BitVec.ofInt 32 ((2^s*k:Nat):Int)).toNat:Int)=_;rw [BitVec.toNat_or,e1,e2,e3,zQ]; omega
theorem Qwq {l:Um} {v:Nat} (hl:Sm l) (hn:l.length<274877906944) (h0:0<v) (hv:v<4294967296):Uh 222 [lr l,.one (.int .u32 (v:Int))] [lr (Fv (val l / v)),.one (.int .u32 ((val l % v:Nat):Int))]:=by
 refine Ft func222 rfl ?_;refine go tt [.i (lm l).length,.i (lm l).length] rfl (by simp [Uw,Hl,Uz] <;> omega) ?_;rw [KL];refine lp (S:=Int×Um×Nat) 1 (λL1 s=>(8,.v (.oi s.1))::(7,.v (.one (.int .u64 (s.2.2:Int))))::L1) (λs=>[.row false 113 1 (lm s.2.1)]) (λs=>(s.1+1).toNat)
  (λs=>-1<=s.1/\s.1<l.length/\s.2.1.length=l.length/\Sm s.2.1/\s.2.2<v/\val (l.drop (s.1+1).toNat)=v*val (s.2.1.drop (s.1+1).toNat)+s.2.2) (((lm l).length:Int)-1,List.replicate (lm l).length 0,0)
  ⟨by simp [Uz]; omega,by simp [Uz]; omega,by simp [Uz],λx hx=>by rw [Zy hx]; decide,h0,by simp [Uz,val]⟩ rfl (λ_ _=>rfl) rfl λ⟨i,o,r⟩ ⟨j1,j2,j3,j4,j5,j6⟩=>?_
 dsimp only at j1 j2 j3 j4 j5 j6 ⊢;rcases K8 i 0 with hi | hi
 ·obtain rfl:i=-1:=by omega
  simp only [show ((-1:Int)+1).toNat=0 from rfl,X5] at j6;have e1:val l / v=val o:=by rw [j6,W7 h0,V2 j5,Xk]
  have e2:val l % v=r:=by rw [j6,W8,Xt j5]
  rw [e1,e2];exact Ud [.f (by decide),.k (VV j4)] rfl rfl (by simp [Uw,Hl,Uz,IntKind.bits] <;> omega)
 ·obtain ⟨k,rfl⟩:=Kj hi;have e:((k:Int)+1).toNat=k+1:=by omega
  rw [e] at j6;obtain ⟨x,hx⟩:=gxE (l:=l) (i:=k) (by omega);have xb:=hl x (Qa hx);obtain ⟨s,hs⟩:=nmE (r*4294967296+x);obtain ⟨k1,k2,k3⟩:=Qh0 hx xb (show k<o.length by omega) h0 j5 j6 hs;obtain ⟨q,hq⟩:=nmE (s / v);obtain ⟨u,hu⟩:=nmE (s % v);have hqi:(s:Int).tdiv v=(q:Int):=by rw [V6 (by omega),hq]; rfl
  have hui:(s:Int).tmod v=(u:Int):=by rw [J5 (by omega),hu]; rfl
  rw [<-hq,<-hu] at k3;rw [<-hq] at k1;rw [<-hu] at k2;refine go tt [.t (by simp),.i 32,.r 21 (De (b:=((4294967296*r:Nat):Int)) (by omega)),.x (G5 hx),.r 27 (De (b:=(s:Int)) (by rw [o64 xb (by omega)]; omega)),
   .r 33 (De (b:=(q:Int)) hqi),.w 0,.r 34 (E6 (b:=((q % 4294967296:Nat):Int)) (by rw [zQ]; omega)),.r 38 (De (b:=(u:Int)) hui),.i k] rfl (by simp [Uw,Hl,Uz,IntKind.bits,hqi] <;> omega) ?_
  rw [B8];exact rd ((k:Int)-1,o.set k (q % 4294967296),u) (by dsimp only; omega) ⟨by dsimp only; omega,by dsimp only; omega,by simp [j3],Nw j4 _ _ (by omega),k2,by dsimp only; rw [show ((k:Int)-1+1).toNat=k from by omega]; exact k3⟩ rfl
theorem WH {i:Nat} {s:ByteArray} (h:∀ i,i<256->(s[i]?).map (·.toNat)=some (sz i)) (hi:i<256):(s[i]?).map (·.toNat)=some (sz i):=h i hi
set_option maxRecDepth 100000 in
theorem dJ {x:Nat} (hx:x<4294967296):Uh 221 [.one (.int .u32 (x:Int))] [.oi (sz x:Int)]:=by
 refine Ft func221 rfl ?_;have h31:sz x<=32:=Bh.2 (by omega);by_cases h1:65536<=x
 ·have e1:sz x=16+sz (x / 2^16):=FB (by omega);obtain ⟨y,hy⟩:=nmE (x / 2^16);rw [<-hy] at e1;by_cases h2:256<=y
  ·have e2:sz y=8+sz (y / 2^8):=FB (by omega);obtain ⟨z,hz⟩:=nmE (y / 2^8);rw [<-hz] at e2;exact Ud [.t (by simp; omega),.i 16,.r 6 (E6 (b:=(y:Int)) (by simp [hy])),.t (by simp; omega),.i 8,.r 10 (E6 (b:=(z:Int)) (by simp [hz])),.y (WH (i:=z) (by decide) (by omega))] rfl (by rw [e1,e2]; simp; omega) (by simp [Uw,Hl,IntKind.bits] <;> omega)
  ·exact Ud [.t (by simp; omega),.i 16,.r 6 (E6 (b:=(y:Int)) (by simp [hy])),.f (by simp; omega),.y (WH (i:=y) (by decide) (by omega))] rfl (by rw [e1]; simp) (by simp [Uw,Hl,IntKind.bits] <;> omega)
 ·by_cases h2:256<=x
  ·have e2:sz x=8+sz (x / 2^8):=FB (by omega);obtain ⟨z,hz⟩:=nmE (x / 2^8);rw [<-hz] at e2;exact Ud [.f (by simp; omega),.t (by simp; omega),.i 8,.r 10 (E6 (b:=(z:Int)) (by simp [hz])),.y (WH (i:=z) (by decide) (by omega))] rfl (by rw [e2]; simp) (by simp [Uw,Hl,IntKind.bits] <;> omega)
  ·exact Ud [.f (by simp; omega),.f (by simp; omega),.y (WH (i:=x) (by decide) (by omega))] rfl (by simp) (by simp [Uw,Hl,IntKind.bits] <;> omega)
theorem Qr9 {x:Nat} (hx:x<4294967296):Uh 223 [.one (.int .u32 (x:Int))] [.oi ((32-sz x:Nat):Int)]:=by
 have h31:sz x<=32:=Bh.2 (by omega);exact Ue func223 rfl [.k (dJ hx)] rfl (by simp; omega) (by simp [Uw,Hl] <;> omega)
theorem sM {l:Um} (hl:Sm l) (hs:sz (val l)<=4294967296):Uh 178 [lr l] [.oi (sz (val l):Int)]:=by
 refine Ft func178 rfl ?_;obtain ⟨p,ca,np,vp,_,ep⟩:=GO hl;have hp:=Rp hs;rw [<-ep] at hp;rw [<-vp] at hs ⊢;by_cases h0:p=[]
 ·subst h0;exact Ud [.k ca,.t (by simp [lm])] rfl rfl (by simp [Uw,Hl])
 ·have hpl:0<p.length:=J0.2 h0;obtain ⟨x,hx,hx0⟩:=np.2 h0;have xb:=np.1 x (Qa hx);have e:=cF np hx;have h31:sz x<=32:=Bh.2 (by omega);have hn:(lm p).length≠0:=by rw [Uz]; omega
  refine Ud [.k ca,.f (by simp [Uz]; omega),.r 15 (eI (b:=((p.length-1:Nat):Int)) (by rw [Uz]; omega)),.x (G5 hx),.k (dJ xb)] rfl (by rw [e,Uz]; simp; omega) (by simp [Uw,Hl,Uz] <;> omega)
theorem rJ {s:Nat} (h:s<=31):((s:Nat):Int).tdiv 32=((0:Nat):Int):=by
 rw [V6 (by omega)]; omega
theorem Qiu {s:Nat} (h:s<=31):((s:Nat):Int).tmod 32=(s:Int):=Int.tmod_eq_of_lt (by omega) (by omega)
theorem Qua {s:Nat} (h:s<=31):max 0 (min (s:Int) 65536)=(s:Int):=by omega
theorem Qwl {a:Um} {s:Nat} (ha:Sm a) (h1:sz (val a)<=4294967400) (hs:s<=31):Uh 262 [lr a,.oi s] [lr (Fv (val a*2^s))]:=by
 refine Ft func262 rfl ?_;obtain ⟨p,ca,np,vp,_,ep⟩:=GO ha;have hp:=Rp h1;rw [<-ep] at hp;rw [<-vp];have hq:((s:Nat):Int).tdiv 32=0:=rJ hs;by_cases h0:p=[]
 ·subst h0;exact Ud [.k ca,.t (by simp [lm])] rfl (by simp [val,G0,lm]) (by simp [Uw,Hl])
 have hpl:0<p.length:=J0.2 h0;refine go tt [.k ca,.r 15 (eI (b:=(s:Int)) (Qua hs)),.f (by simp [Uz]; omega),.r 20 (eI (b:=((0:Nat):Int)) (rJ hs)),.r 22 (eI (b:=(s:Int)) (Qiu hs)),.r 28 (eI (b:=(((lm p).length+1:Nat):Int)) (by omega)),.i ((lm p).length+1),.i ((lm p).length+1)] rfl (by have e:=Uz p; simp only [Uw,Hl]; omega) ?_;rw [KL];refine lp (S:=Nat×Um) 1 (λL1 s=>(32,.v (.oi (s.1:Int)))::L1) (λs=>[.row false 113 1 (lm s.2)]) (λs=>p.length-s.1)
  (λr=>r.1<=p.length/\r.2.length=p.length+1/\Sm r.2/\(∃ z,r.2[r.1]? = some z/\z<2^s)/\val (r.2.take (r.1+1))=val (p.take r.1)*2^s) (0,List.replicate ((lm p).length+1) 0)
  ⟨Qh _,by simp [Uz],λx hx=>by rw [Zy hx]; decide,⟨0,by simp,Z2 (by decide)⟩,by simp [val,J1]⟩ rfl (λ_ _=>rfl) rfl λ⟨i,o⟩ ⟨j1,j2,j3,⟨z,hz,hzs⟩,j5⟩=>?_
 dsimp only at j1 j2 j3 hz hzs j5 ⊢;by_cases hi:i<p.length
 ·obtain ⟨x,hx⟩:=gxE (l:=p) (i:=i) hi;have xb:=np.1 x (Qa hx);have zb:=j3 z (Qa hz);obtain ⟨k1,k2,k3,k4⟩:=Qjg hs hx xb hz hzs (by omega) j5;have hxs:=Qu2 hs xb;have h31:2^s<=2^31:=Zr (by decide) hs;have ec:(x:Int)*2^s=((x*2^s:Nat):Int):=by push_cast; rfl
  obtain ⟨m,hm⟩:=nmE (x*2^s);rw [<-hm] at k1 k2 k3 k4 hxs ec;refine go tt [.t (by simp [Uz]; omega),.x (G5 hx),.i s,.r 40 (De (b:=(m:Int)) ec),.i i,.x (G5 hz),.w 0,.r 52 (E6 (b:=((m % 4294967296:Nat):Int)) (by rw [zQ]; omega)),.r 53 (E6 (b:=((z+m % 4294967296:Nat):Int)) (by rw [k4,o32 hzs zb (by omega) (by omega)])),.i i,
   .i 32,.r 61 (De (b:=((m / 2^32:Nat):Int)) (by simp)),.w 0,.r 62 (E6 (b:=((m / 2^32 % 4294967296:Nat):Int)) (by rw [zQ]; omega)),.i (i+1)] rfl (by simp [Uw,Hl,Uz,IntKind.bits,ec] <;> omega) ?_
  rw [B8,B8];exact rd (i+1,(o.set i (z+m % 4294967296)).set (i+1) (m / 2^32 % 4294967296)) (show p.length-(i+1)<p.length-i by omega) ⟨hi,by simp [j2],Nw (Nw j3 _ _ (by omega)) _ _ (by omega),⟨_,by rw [Ja (by simp; omega)],by omega⟩,k3⟩ rfl
 ·obtain rfl:i=p.length:=by omega
  rw [Qn (by omega),Qn (Qm _)] at j5;rw [<-j5];exact Ud [.f (by simp [Uz]),.k (VV j3)] rfl
theorem Qwm {a:Um} {s:Nat} (ha:Sm a) (h1:sz (val a)<=4294967400) (hs:s<=31):Uh 226 [lr a,.oi s] [lr (Fv (val a / 2^s))]:=by
 refine Ft func226 rfl ?_;obtain ⟨p,ca,np,vp,_,ep⟩:=GO ha;have hp:=Rp h1;rw [<-ep] at hp;rw [<-vp];have hq:((s:Nat):Int).tdiv 32=0:=rJ hs;by_cases h0:p=[]
 ·subst h0;exact Ud [.k ca,.r 14 (eI (b:=(s:Int)) (Qua hs)),.r 16 (eI (b:=((0:Nat):Int)) (rJ hs)),.r 18 (eI (b:=(s:Int)) (Qiu hs)),.t (by simp [lm])] rfl (by simp [val,G0,lm]) (by simp only [Uw,Hl]; omega)
 have hpl:0<p.length:=J0.2 h0;refine go tt [.k ca,.r 14 (eI (b:=(s:Int)) (Qua hs)),.r 16 (eI (b:=((0:Nat):Int)) (rJ hs)),.r 18 (eI (b:=(s:Int)) (Qiu hs)),.f (by simp [Uz]; omega),.r 27 (eI (b:=((lm p).length:Int)) (by omega)),.i (lm p).length,.i (lm p).length] rfl (by have e:=Uz p; simp only [Uw,Hl]; omega) ?_;rw [KL];refine lp (S:=Nat×Um) 1 (λL1 s=>(31,.v (.oi (s.1:Int)))::L1) (λs=>[.row false 113 1 (lm s.2)]) (λs=>p.length-s.1)
  (λr=>r.1<=p.length/\r.2.length=p.length/\Sm r.2/\val (r.2.take r.1)=val p / 2^s % 4294967296^r.1) (0,List.replicate (lm p).length 0)
  ⟨Qh _,by simp [Uz],λx hx=>by rw [Zy hx]; decide,by simp [val]; omega⟩ rfl (λ_ _=>rfl) rfl λ⟨i,o⟩ ⟨j1,j2,j3,j5⟩=>?_
 dsimp only at j1 j2 j3 j5 ⊢;by_cases hi:i<p.length
 ·obtain ⟨x,hx⟩:=gxE (l:=p) (i:=i) hi;have xb:=np.1 x (Qa hx);have fin:∀ y m,(p[i+1]? = some y\/p.length<=i+1/\y=0)->m=(x+y*2^32) / 2^s->p.length-(i+1)<p.length-i/\i+1<=p.length/\(o.set i (m % 4294967296)).length=p.length/\Sm (o.set i (m % 4294967296))/\val ((o.set i (m % 4294967296)).take (i+1))=val p / 2^s % 4294967296^(i+1):=λy m hy hm =>
   ⟨by omega,hi,by simp [j2],Nw j3 _ _ (by omega),by subst hm; exact Qjh hs hx hy (by omega) np.1 j5⟩
  have hsp:0<2^s:=Z2 (by decide);by_cases hy0:i+1<p.length
  ·obtain ⟨y,hy⟩:=gxE (l:=p) (i:=i+1) hy0;have yb:=np.1 y (Qa hy);obtain ⟨v,hv⟩:=nmE (4294967296*y+x);obtain ⟨m,hm⟩:=nmE (v / 2^s);have hml:m<=v:=hm ▸ Jz _ _;have hf:=fin y m (.inl hy) (by rw [hm,hv]; congr 1; omega);refine go tt [.t (by simp [Uz]; omega),.x (G5 hx),.t (by simp [Uz]; omega),.x (G5 hy),.i 32,.r 57 (De (b:=((4294967296*y:Nat):Int)) (by omega)),.r 58 (De (b:=(v:Int)) (by rw [oM xb (by omega)]; omega)),
    .i s,.r 63 (De (b:=(m:Int)) (by rw [hm]; push_cast; rfl)),.w 0,.r 64 (E6 (b:=((m % 4294967296:Nat):Int)) (by rw [zQ]; omega)),.i i] rfl (by simp [Uw,Hl,Uz,IntKind.bits] <;> omega) ?_
   rw [B8];exact rd (i+1,o.set i (m % 4294967296)) hf.1 hf.2 rfl
  ·obtain ⟨m,hm⟩:=nmE (x / 2^s);have hml:m<=x:=hm ▸ Jz _ _;have hf:=fin 0 m (.inr ⟨by omega,rfl⟩) (by rw [hm]; simp);refine go tt [.t (by simp [Uz]; omega),.x (G5 hx),.f (by simp [Uz]; omega),
    .i s,.r 63 (De (b:=(m:Int)) (by rw [hm]; push_cast; rfl)),.w 0,.r 64 (E6 (b:=((m % 4294967296:Nat):Int)) (by rw [zQ]; omega)),.i i] rfl (by simp [Uw,Hl,Uz,IntKind.bits] <;> omega) ?_
   rw [B8];exact rd (i+1,o.set i (m % 4294967296)) hf.1 hf.2 rfl
 ·obtain rfl:i=p.length:=by omega
  have hvl:=Cm p np.1;rw [Qn (by omega),Xt (Z3 (Jz _ _) hvl)] at j5;rw [<-j5];exact Ud [.f (by simp [Uz,j2]),.k (VV j3)] rfl
def wT:Nat->Nat->Um
 | 0,_=>[]
 | k+1,v=>v % 4294967296::wT k (v / 4294967296)
theorem Qfq:∀ {l:Um},Sm l->l=wT l.length (val l)
 | [],_=>rfl
 |
  x::l,h=>by
  have hx:=h x (.head _);have ih:=Qfq (l:=l) λy hy=>h y (.tail _ hy)
  simp only [Q6,wT,val];rw [show (x+4294967296*val l) % 4294967296=x by omega,show (x+4294967296*val l) / 4294967296=val l by omega,<-ih]
theorem pP {l:Um} {k v:Nat} (h:Sm l) (hk:l.length=k) (hv:val l=v):wT k v=l:=by
 rw [<-hk,<-hv]; exact (Qfq h).symm
theorem zO:∀ {k v:Nat},(wT k v).length=k/\Sm (wT k v)/\(v<4294967296^k->val (wT k v)=v)
 | 0,v=>⟨rfl,λx hx=>by (cases hx),λh=>by simp at h; subst h; rfl⟩
 |
  k+1,v=>by
  obtain ⟨h1,h2,h3⟩:=zO (k:=k) (v:=v / 4294967296);refine ⟨by simp [wT,h1],λx hx=>?_,λh=>?_⟩
  ·rcases Ql.1 hx with rfl | hx
   ·exact Z5 _ (by decide)
   ·exact h2 x hx
  ·simp only [wT,val];rw [h3 (by rw [Zq] at h; exact X9 (by rw [Zp]; exact h))];omega
theorem Qe8 {a:Um} {s n:Nat} (ha:Sm a) (h1:sz (val a)<=4294967400) (hs:s<=31) (hn:n<274877906944) (h0:0<n) (hv:val a*2^s<4294967296^n) :
 U0 prog 224 [lr a,.oi s,.oi n] [] [.one (.orow 0 1 none)] [.row false 113 1 (lm (wT n (val a*2^s)))]:=by
 refine Ft func224 rfl ?_;obtain ⟨v,hvv⟩:=nmE (val a*2^s);have cs:=Qwl ha h1 hs;rw [<-hvv] at cs hv ⊢;have hl:(Fv v).length<=n:=by
  apply Classical.byContradiction;intro hh;have h2:=UL (C5 v) (λe=>by rw [e] at hh; simp at hh);rw [Gy] at h2;have h3:4294967296^n<=4294967296^((Fv v).length-1):=Zr (by decide) (by omega);omega
 refine go tt [.i n,.i n,.k cs,.s (Qhe (Fv v)),.i (Fv v).length] rfl (by simp [Uw,Hl,Uz] <;> omega) ?_;have e:List.take 0 (List.replicate n [LV.int .u32 0])++(List.take (Fv v).length (lm (Fv v))++List.drop (0+(Fv v).length) (List.replicate n [LV.int .u32 0]))=lm (wT n v):=by
  rw [pP (l:=Fv v++List.replicate (n-(Fv v).length) 0) (λx hx=>?_) (by simp; omega) (by rw [Ny,TQ,Gy]; simp)]
  ·rw [Vv,Yg,Qn (by rw [Uz]; exact Qm _)];simp [lm]
  ·rcases Qr.1 hx with hx | hx
   ·exact Lb v x hx
   ·rw [Zy hx]; decide
 rw [e];exact Uf [] [0] [] rfl
theorem AZ {pre x post:Um} {i u:Nat} (h:x[i]? = some u):(lm (pre++x++post))[pre.length+i]? = some [.int .u32 (u:Int)]:=G5 (by
 have hi:=(Qf.1 h).1;rw [Zc,Xg (by omega),Jj,Zm hi]; exact h)
theorem Qkb {pre x post:Um} {i v:Nat} (h:i<x.length):(lm (pre++x++post)).set (pre.length+i) [.int .u32 (v:Int)]=lm (pre++x.set i v++post):=by
 rw [B8,Zc,List.set_append_right _ _ (by omega),Jj,List.set_append_left _ _ h,<-Zc]
theorem Qmf {pre x post ly:Um} {top nx xn x1 x2:Nat} (D:Dig x ly ly.length top nx xn x1 x2) (hn:ly.length<274877906944) :
 U0 prog 225 [.one (.orow 0 1 (some (pre.length,x.length))),lr ly] [.row true 113 1 (lm (pre++x++post))] [.one (.int .u32 ((val x / val ly:Nat):Int))] [.row true 113 1 (lm (pre++wT x.length (val x % val ly)++post))]:=by
 refine Ft func225 rfl ?_;have hxl:=D.hx;have hn2:=D.hn;have hb:=D.bnd;obtain ⟨head,hh⟩:=nmE (xn*2^32+x1);obtain ⟨g0,hg0⟩:=nmE (head / top);obtain ⟨r0,hr0⟩:=nmE (head % top);have hst:=D.start;rw [<-hh,<-hg0] at hst;have ht0:=D.top0;have hg0l:g0<=head:=hg0 ▸ Jz _ _;have hr0l:r0<top:=hr0 ▸ Z5 _ ht0;have htd:(head:Int).tdiv top=(g0:Int):=by rw [V6 (by omega),hg0]; rfl
 have htm:(head:Int).tmod top=(r0:Int):=by rw [J5 (by omega),hr0]; rfl
 refine go tt [.r 23 (eI (b:=(ly.length:Int)) (by rw [Uz])),.r 26 (eI (b:=((ly.length-1:Nat):Int)) (by omega)),.x (G5 D.ltop),.r 32 (eI (b:=((ly.length-2:Nat):Int)) (by omega)),.x (G5 D.lnx),
  .i ly.length,.x (AZ D.xn),.i 32,.r 41 (De (b:=((4294967296*xn:Nat):Int)) (by omega)),.r 44 (eI (b:=((ly.length-1:Nat):Int)) (by omega)),.i (ly.length-1),.x (AZ D.x1),.r 48 (De (b:=(head:Int)) (by rw [o64 hb.2.2.2.1 (by omega)]; omega)),
  .r 51 (De (b:=(g0:Int)) htd),.r 54 (De (b:=(r0:Int)) htm)] rfl ?_ ?_
 ·simp only [Uw,Hl,htd,IntKind.bits]; omega
 refine ct 2 (S:=Nat) (λg=>[(0,.v (.one (.orow 0 1 (some (pre.length,x.length))))),(1,.v (lr ly)),(5,.v (.oi (ly.length:Int))),(9,.v (.one (.int .u64 (g:Int))))]) (λ_=>[.row true 113 1 (lm (pre++x++post))]) (λg=>val x / val ly<=g/\(g-1)*val ly<=val x/\g<=4294967296) rfl ?_ ?_
 ·refine lp (S:=Nat×Nat) 1 (λL1 s=>(9,.v (.one (.int .u64 (s.1:Int))))::(10,.v (.one (.int .u64 (s.2:Int))))::L1) (λ_=>[.row true 113 1 (lm (pre++x++post))]) (λs=>4294967296-s.2)
   (λs=>s.1*top+s.2=xn*2^32+x1/\val x / val ly<=s.1/\s.2<4294967296/\s.1<18446744073709551616) (g0,r0)
   ⟨by rw [<-hh,hg0,hr0,Nat.mul_comm]; exact Nat.div_add_mod _ _,hst,by dsimp only; omega,by dsimp only; omega⟩ rfl (λ_ _=>rfl) rfl λ⟨g,r⟩ ⟨j1,j2,j3,j4⟩=>?_
  dsimp only at j1 j2 j3 j4 ⊢;by_cases hge:4294967296<=g
  ·have hrd:=D.round j1 j2 (.inl hge);by_cases h2:4294967296<=r+top
   ·exact go tt [.t (by simp; omega),.t rfl,.r 73 (De (b:=((g-1:Nat):Int)) (by omega)),.t (by simp; omega)] rfl (by simp [Uw,Hl] <;> omega) (rc (g-1) ⟨hrd.2.1,(hrd.2.2.2 h2).1,(hrd.2.2.2 h2).2⟩ rfl)
   ·exact go tt [.t (by simp; omega),.t rfl,.r 73 (De (b:=((g-1:Nat):Int)) (by omega)),.f (by simp; omega)] rfl (by simp [Uw,Hl] <;> omega) (rd (g-1,r+top) (by dsimp only; omega) ⟨hrd.2.2.1,hrd.2.1,by dsimp only; omega,by dsimp only; omega⟩ rfl)
  ·have hgn:=XS (x:=g) (y:=nx) (by omega) hb.2.1;by_cases hc:r*2^32+x2<g*nx
   ·have hrd:=D.round j1 j2 (.inr hc);have e1:(g:Int)*(nx:Int)=((g*nx:Nat):Int):=by push_cast; rfl
    obtain ⟨m,hm⟩:=nmE (g*nx);rw [<-hm] at e1 hgn hc;by_cases h2:4294967296<=r+top
    ·exact go tt [.f (by simp; omega),.r 60 (De (b:=(m:Int)) e1),.i 32,.r 62 (De (b:=((4294967296*r:Nat):Int)) (by omega)),.r 65 (eI (b:=((ly.length-2:Nat):Int)) (by omega)),.i (ly.length-2),.x (AZ D.x2),.r 69 (De (b:=((4294967296*r+x2:Nat):Int)) (o64 hb.2.2.2.2 (by omega))),.t (by simp; omega),.r 73 (De (b:=((g-1:Nat):Int)) (by omega)),.t (by simp; omega)] rfl (by simp only [Uw,Hl,e1,IntKind.bits]; omega) (rc (g-1) ⟨hrd.2.1,(hrd.2.2.2 h2).1,(hrd.2.2.2 h2).2⟩ rfl)
    ·exact go tt [.f (by simp; omega),.r 60 (De (b:=(m:Int)) e1),.i 32,.r 62 (De (b:=((4294967296*r:Nat):Int)) (by omega)),.r 65 (eI (b:=((ly.length-2:Nat):Int)) (by omega)),.i (ly.length-2),.x (AZ D.x2),.r 69 (De (b:=((4294967296*r+x2:Nat):Int)) (o64 hb.2.2.2.2 (by omega))),.t (by simp; omega),.r 73 (De (b:=((g-1:Nat):Int)) (by omega)),.f (by simp; omega)] rfl (by simp only [Uw,Hl,e1,IntKind.bits]; omega) (rd (g-1,r+top) (by dsimp only; omega) ⟨hrd.2.2.1,hrd.2.1,by dsimp only; omega,by dsimp only; omega⟩ rfl)
   ·have hf:=D.fin j1 (by omega) (by omega);have e1:(g:Int)*(nx:Int)=((g*nx:Nat):Int):=by push_cast; rfl
    obtain ⟨m,hm⟩:=nmE (g*nx);rw [<-hm] at e1 hgn hc;exact go tt [.f (by simp; omega),.r 60 (De (b:=(m:Int)) e1),.i 32,.r 62 (De (b:=((4294967296*r:Nat):Int)) (by omega)),.r 65 (eI (b:=((ly.length-2:Nat):Int)) (by omega)),.i (ly.length-2),.x (AZ D.x2),.r 69 (De (b:=((4294967296*r+x2:Nat):Int)) (o64 hb.2.2.2.2 (by omega))),.f (by simp; omega)] rfl (by simp only [Uw,Hl,e1,IntKind.bits]; omega) (rc g ⟨j2,hf,by omega⟩ rfl)
 ·intro g ⟨q1,q2,q3⟩;refine Ub [.r 80 (eI (b:=(ly.length:Int)) (by rw [Uz]))] rfl ?_;refine lp (S:=Nat×Um×Nat×Nat) 1 (λL1 s=>(81,.v (.oi (s.1:Int)))::(11,.v (.one (.int .u64 (s.2.2.1:Int))))::(12,.v (.one (.int .u64 (s.2.2.2:Int))))::L1) (λs=>[.row true 113 1 (lm (pre++s.2.1++post))]) (λs=>ly.length-s.1)
   (λs=>s.1<=ly.length/\s.2.1.length=ly.length+1/\Sm s.2.1/\s.2.2.2<=1/\s.2.2.1<4294967296/\val (s.2.1.take s.1)+g*val (ly.take s.1)=val (x.take s.1)+(s.2.2.1+s.2.2.2)*4294967296^s.1/\s.2.1.drop s.1=x.drop s.1) (0,x,0,0)
   ⟨Qh _,hxl,D.xb,Qh _,by simp,by simp [val],rfl⟩ rfl (λ_ _=>rfl) rfl λ⟨i,o,cy,bw⟩ ⟨j1,j2,j3,j4,j5,j6,j7⟩=>?_
  dsimp only at j1 j2 j3 j4 j5 j6 j7 ⊢;by_cases hi:i<ly.length
  ·obtain ⟨w1,hw1⟩:=gxE (l:=ly) (i:=i) hi;obtain ⟨u,hu⟩:=gxE (l:=x) (i:=i) (by omega);have wb:=D.lb w1 (Qa hw1);have ub:=D.xb u (Qa hu);have hou:=(UZ j7).trans hu;have hgw:g*w1<=18446744069414584320:=by
    have:=Zh q3 (show w1<=4294967295 by omega);omega
   obtain ⟨s,hs⟩:=nmE (((u+18446744073709551616-(g*w1+cy) % 4294967296) % 18446744073709551616+18446744073709551616-bw) % 18446744073709551616);have hstep:=jW (o:=o) (by omega) hu hw1 ub j4 j6 rfl hs;have e1:(g:Int)*(w1:Int)=((g*w1:Nat):Int):=by push_cast; rfl
   obtain ⟨m,hm⟩:=nmE (g*w1);rw [<-hm] at e1 hgw hs hstep;obtain ⟨p,hp⟩:=nmE (m+cy);rw [<-hp] at hs hstep;refine go tt [.t (by simp; omega),.x (G5 hw1),.r 89 (De (b:=(m:Int)) e1),.r 91 (De (b:=(p:Int)) (by omega)),.i 32,.r 93 (De (b:=((p / 2^32:Nat):Int)) (by simp)),.i i,.x (AZ hou),.w 1,.r 100 (E6 (b:=((p % 4294967296:Nat):Int)) (by rw [zQ]; omega)),.w 1,.r 102 (De (b:=(((u+18446744073709551616-p % 4294967296) % 18446744073709551616:Nat):Int)) (by rw [w64]; omega)),.w 0,.r 104 (De (b:=(s:Int)) (by rw [w64]; omega)),
    .w 0,.r 108 (E6 (b:=((s % 4294967296:Nat):Int)) (by rw [zQ]; omega)),.i 63,.r 110 (De (b:=((s / 2^63:Nat):Int)) (by simp)),.i i] rfl (by simp only [Uw,Hl,e1,IntKind.bits,Uz,Qu]; omega) ?_
   rw [Qkb (by omega)];exact rd (i+1,o.set i (s % 4294967296),p / 2^32,s / 2^63) (by dsimp only; omega) ⟨hi,by simp [j2],Nw j3 _ _ (by omega),hstep.2,by dsimp only; omega,hstep.1,IX j7⟩ rfl
  ·obtain rfl:i=ly.length:=by omega
   have hon:=(UZ j7).trans D.xn;rw [Qn (l:=ly) (Qm _)] at j6;obtain ⟨s,hs⟩:=nmE (((xn+18446744073709551616-cy) % 18446744073709551616+18446744073709551616-bw) % 18446744073709551616);obtain ⟨oa,hoa⟩:=nmE (o.set ly.length (s % 4294967296));have oal:oa.length=ly.length+1:=by rw [hoa,Jp]; exact j2
   have oab:Sm oa:=hoa ▸ Nw j3 _ _ (by omega);by_cases EU:s / 2^63=0
   ·have hf:=D.fin0 j2 j5 j4 q1 j6 hs EU;refine go tt [.f (by simp),.i ly.length,.x (AZ hon),.w 1,.r 119 (De (b:=(((xn+18446744073709551616-cy) % 18446744073709551616:Nat):Int)) (by rw [w64]; omega)),.w 0,.r 121 (De (b:=(s:Int)) (by rw [w64]; omega)),.w 0,.r 125 (E6 (b:=((s % 4294967296:Nat):Int)) (by rw [zQ]; omega)),.i ly.length,.i 63,.r 128 (De (b:=((s / 2^63:Nat):Int)) (by simp)),.t (by simp; omega),.w 0,.r 131 (E6 (b:=((val x / val ly:Nat):Int)) (by rw [zQ]; omega))] rfl (by simp only [Uw,Hl,IntKind.bits,Uz,Qu]; omega) ?_;rw [Qkb (by omega),<-pP (l:=o.set ly.length (s % 4294967296)) (k:=x.length) (hoa ▸ oab) (by rw [<-hoa,oal,hxl]) hf.2];exact Uf [] [0] [] rfl
   ·have hf:=D.fin1 j2 j3 j5 j4 q2 j6 hs EU;rw [<-hoa] at hf;obtain ⟨v1,hv1⟩:=gxE (l:=oa) (i:=ly.length) (by omega);refine go tt [.f (by simp),.i ly.length,.x (AZ hon),.w 1,.r 119 (De (b:=(((xn+18446744073709551616-cy) % 18446744073709551616:Nat):Int)) (by rw [w64]; omega)),.w 0,.r 121 (De (b:=(s:Int)) (by rw [w64]; omega)),.w 0,.r 125 (E6 (b:=((s % 4294967296:Nat):Int)) (by rw [zQ]; omega)),.i ly.length,.i 63,.r 128 (De (b:=((s / 2^63:Nat):Int)) (by simp)),.f (by simp; omega),.r 133 (eI (b:=(ly.length:Int)) (by rw [Uz]))] rfl (by simp only [Uw,Hl,IntKind.bits,Uz,Qu]; omega) ?_;rw [Qkb (by omega),<-hoa];refine lp (S:=Nat×Um×Nat) 1 (λL1 s=>(134,.v (.oi (s.1:Int)))::(18,.v (.one (.int .u64 (s.2.2:Int))))::L1) (λs=>[.row true 113 1 (lm (pre++s.2.1++post))]) (λs=>ly.length-s.1)
     (λs=>s.1<=ly.length/\s.2.1.length=ly.length+1/\Sm s.2.1/\s.2.2<=1/\val (s.2.1.take s.1)+s.2.2*4294967296^s.1=val (oa.take s.1)+val (ly.take s.1)/\s.2.1.drop s.1=oa.drop s.1) (0,oa,0)
     ⟨Qh _,oal,oab,Qh _,by simp [val],rfl⟩ rfl (λ_ _=>rfl) rfl λ⟨j,o2,bk⟩ ⟨r1,r2,r3,r4,r5,r6⟩=>?_
    dsimp only at r1 r2 r3 r4 r5 r6 ⊢;by_cases hj:j<ly.length
    ·obtain ⟨w1,hw1⟩:=gxE (l:=ly) (i:=j) hj;obtain ⟨u,hu⟩:=gxE (l:=oa) (i:=j) (by omega);have wb:=D.lb w1 (Qa hw1);have ub:=oab u (Qa hu);have hou:=(UZ r6).trans hu;obtain ⟨m,hm⟩:=nmE (u+bk+w1);have hstep:=vR (o:=o2) (by omega) hu (.inl hw1) r5 hm;refine go tt [.t (by simp; omega),.x (G5 hw1),.i j,.x (AZ hou),.r 148 (De (b:=(m:Int)) (by omega)),.w 0,.r 152 (E6 (b:=((m % 4294967296:Nat):Int)) (by rw [zQ]; omega)),.i 32,.r 154 (De (b:=((m / 4294967296:Nat):Int)) (by simp)),.i j] rfl (by simp only [Uw,Hl,IntKind.bits,Uz,Qu]; omega) ?_;rw [Qkb (by omega)];exact rd (j+1,o2.set j (m % 4294967296),m / 4294967296) (by dsimp only; omega) ⟨hj,by simp [r2],Nw r3 _ _ (by omega),by dsimp only; omega,hstep,IX r6⟩ rfl
    ·obtain rfl:j=ly.length:=by omega
     have hon2:=(UZ r6).trans hv1;have vb:=oab v1 (Qa hv1);rw [Qn (l:=ly) (Qm _)] at r5;have hf2:=D.fin2 oal oab r2 r3 hv1 r4 hf.2 r5;refine go tt [.f (by simp),.i ly.length,.x (AZ hon2),.w 1,.r 165 (E6 (b:=(((v1+bk) % 4294967296:Nat):Int)) (by rw [zQ]; omega)),.i ly.length,.w 0,.r 168 (E6 (b:=((g % 4294967296:Nat):Int)) (by rw [zQ]; omega)),.w 0,.r 169 (E6 (b:=((val x / val ly:Nat):Int)) (Qxz hf.1 D.qlt))] rfl (by simp only [Uw,Hl,IntKind.bits,Uz,Qu]; omega) ?_;rw [Qkb (by omega),<-pP (l:=o2.set ly.length ((v1+bk) % 4294967296)) (k:=x.length) (Nw r3 _ _ (by omega)) (by rw [Jp,r2,hxl]) hf2];exact Uf [] [0] [] rfl
theorem Qej {o ly:Um} {lo top nx xn x1 x2:Nat} (hlo:lo+(ly.length+1)<=o.length) (D:Dig (WW o lo ly.length) ly ly.length top nx xn x1 x2) (hn:ly.length<274877906944) :
 U0 prog 225 [.one (.orow 0 1 (some (lo,ly.length+1))),lr ly] [.row true 113 1 (lm o)] [.one (.int .u32 ((val (WW o lo ly.length) / val ly:Nat):Int))] [.row true 113 1 (lm (o.take lo++wT (ly.length+1) (val (WW o lo ly.length) % val ly)++o.drop (lo+ly.length+1)))]:=by
 have:=Qmf (pre:=o.take lo) (post:=o.drop (lo+ly.length+1)) D hn;have e1:(o.take lo).length=lo:=by rw [Qq]; omega
 have e2:=GZ (o:=o) (i:=lo) (n:=ly.length) (by omega);rw [e1,e2,YN] at this;exact this
theorem vO {a b:Um} (ha:Sm a) (hb:Sm b) (h1:sz (val a)<=4294967296) (h2:sz (val b)<=4294967296) (hy:0<val b):Uh 179 [lr a,lr b] [lr (Fv (val a / val b)),lr (Fv (val a % val b)),.oi 0]:=by
 refine Ft func179 rfl ?_;obtain ⟨p,ca,np,vp,_,ep⟩:=GO ha;obtain ⟨q,cb,nq,vq,_,eq⟩:=GO hb;have hp:=Rp h1;have hq:=Rp h2;rw [<-ep] at hp;rw [<-eq] at hq;rw [<-vp,<-vq];rw [<-vp] at h1;rw [<-vq] at h2 hy;have q0:q≠[]:=λe=>by rw [e] at hy; simp [val] at hy
 have qp:0<q.length:=J0.2 q0;have c1:¬((lm q).length:Int)=0:=by rw [Uz]; omega
 by_cases hlt:p.length<q.length
 ·have hv:=Dl np nq hlt;rw [V2 hv,Xt hv,G0];exact Ud [.k ca,.k cb,.f (by simpa using c1),.t (by simp [Uz]; omega),.k (VB np.1 h1)] rfl rfl (by simp [Uw,Hl])
 by_cases hone:q.length=1
 ·obtain ⟨y,rfl⟩:∃ y,q=[y]:=by
   match q,hone with
   | [y],_=>exact ⟨y,rfl⟩
  have yb:=nq.1 y (.head _);have vy:val [y]=y:=by simp [val]
  rw [vy] at hy ⊢;have co:=Qwq np.1 (by omega) hy yb;have sm:Sm [val p % y]:=λz hz=>by
   simp at hz; subst hz; exact Nat.lt_trans (Z5 _ hy) yb
  have cc:=VV sm;rw [show val [val p % y]=val p % y from by simp [val]] at cc;exact Ud [.k ca,.k cb,.f (by simp [lm]),.f (by simp [Uz]; omega),.t (by simp [lm]),.x (G5 (l:=[y]) (i:=0) rfl),.k co,.k cc] rfl rfl (by simp [Uw,Hl])
 ·have hle:q.length<=p.length:=J6 hlt;obtain ⟨y1,hy1,hy10⟩:=nq.2 q0;have y1b:=nq.1 y1 (Qa hy1);have hszy:=cF nq hy1;have hsz1:sz y1<=32:=Bh.2 (by omega);have hsz0:0<sz y1:=Qvc (by omega);obtain ⟨s,hs⟩:=nmE (32-sz y1);have hs31:s<=31:=by omega
  have E6:(2:Nat)^32=4294967296:=by decide
  obtain ⟨x,hx⟩:=nmE (val p);obtain ⟨y,hyv⟩:=nmE (val q);have cl:=Qr9 y1b;rw [<-hs] at cl;have hvx:val p*2^s<4294967296^(p.length+1):=by
   have h1:=Cm p np.1;rw [Zq];exact Z6 (Xl h1 (show 0<2^s from Z2 (by decide))) (Zt _ (by rw [<-E6]; exact Zr (by decide) (by omega)))
  have hvy:val q*2^s<4294967296^q.length:=by
   have h1:=UN (val q);rw [<-E6,<-Wn];have h2:val q*2^s<2^sz (val q)*2^s:=Xl h1 (Z2 (by decide));rw [<-Xd] at h2;rw [show 32*q.length=sz (val q)+s from by omega];exact h2
  have cx:=Qe8 np.1 (show sz (val p)<=4294967400 by omega) hs31 (show p.length+1<274877906944 by omega) (by omega) hvx;have cy:=Qe8 nq.1 (show sz (val q)<=4294967400 by omega) hs31 (show q.length<274877906944 by omega) qp hvy;obtain ⟨hXl,hXb,hXv⟩:=zO (k:=p.length+1) (v:=val p*2^s);obtain ⟨hYl,hYb,hYv⟩:=zO (k:=q.length) (v:=val q*2^s);have hXv:=hXv hvx;have hYv:=hYv hvy;obtain ⟨X,hX⟩:=nmE (wT (p.length+1) (val p*2^s));obtain ⟨Y,hY⟩:=nmE (wT q.length (val q*2^s));rw [<-hX] at hXl hXb hXv cx;rw [<-hY] at hYl hYb hYv cy;have hyB:4294967296^(q.length-1)<=val q:=UL nq q0;have hR:=bZ hXv hYv hXl hXb hYl hYb (show 2<=q.length by omega) (Cm p np.1) hyB hle;refine go tt [.k ca,.k cb,.f (by simpa using c1),.f (by simp [Uz]; omega),.f (by simp [Uz]; omega),.r 49 (eI (b:=((q.length-1:Nat):Int)) (by rw [Uz]; omega)),.x (G5 hy1),.k cl,.r 57 (eI (b:=((p.length+1:Nat):Int)) (by rw [Uz]; omega)),.c [0] cx,.r 62 (eI (b:=(q.length:Int)) (by rw [Uz])),.c [1] cy,.r 65 (eI (b:=(q.length:Int)) (by rw [Uz,hYl])),.r 70 (eI (b:=((p.length-q.length+1:Nat):Int)) (by rw [Uz]; omega)),.i (p.length-q.length+1),.i (p.length-q.length+1),.r 73 (eI (b:=((p.length-q.length+1:Nat):Int)) (by simp))] rfl ?_ ?_
  ·simp only [Uw,Hl,IntKind.bits,Uz];omega
  ·rw [KL];refine pb 1 rfl rfl ?_;refine lp (S:=Int×Um×Um) 3 (λL1 s=>(13,.v (.oi s.1))::L1) (λs=>[.row false 113 1 (lm s.2.2),.gone,.row false 113 1 (lm s.2.1)]) (λs=>(s.1+1).toNat)
    (λs=>-1<=s.1/\s.1<p.length-q.length+1/\s.2.1.length=p.length-q.length+1/\Sm s.2.1/\Rest s.2.2 Y p.length q.length (s.1+1).toNat/\val (s.2.1.drop (s.1+1).toNat)*4294967296^(s.1+1).toNat*val Y+val s.2.2=val X) (((p.length-q.length+1:Nat):Int)-1,List.replicate (p.length-q.length+1) 0,X)
    ⟨by dsimp only; omega,by dsimp only; omega,by simp,λx hx=>by rw [List.eq_of_mem_replicate hx]; decide,by simpa using hR,by simp [val]⟩ rfl (λ_ _=>rfl) rfl λ⟨i,oq,ox⟩ ⟨j1,j2,j3,j4,j5,j6⟩=>?_
   dsimp only at j1 j2 j3 j4 j5 j6 ⊢;rcases K8 i 0 with hi | hi
   ·obtain rfl:i=-1:=by omega
    simp only [show ((-1:Int)+1).toNat=0 from rfl,X5,Vd,Yu] at j5 j6;have hlt':val ox<val q*2^s:=by have:=j5.lt; rw [hYv] at this; simpa using this
    have hfin:=Qiv (x:=val p) (y:=val q) (s:=s) (r:=val ox) (q:=oq) hy (by rw [<-hXv,<-hYv]; exact j6) hlt';have hoxl:=j5.ol;have hox:=cH (o:=ox) (n:=q.length) (by omega) (Nat.lt_trans hlt' hvy);have hszm:sz (val (ox.take q.length))<=4294967400:=by
     rw [hox,hfin.2];have h1:=Qjv (val p % val q) (2^s);have h2':=Sr (Yh (Z5 (val p) hy));have h3:sz (2^s)<=s+1:=Bh.2 (Nat.pow_lt_pow_right (by decide) (by omega));omega
    have cs:=Qwm (a:=ox.take q.length) (λu hu=>j5.ob u (Qo hu)) hszm hs31;rw [hox,hfin.2,Nat.mul_div_cancel _ (Z2 (by decide))] at cs;have cq:=VV j4;rw [hfin.1] at cq;exact Ud [.f (by decide),.p 2,.p 0,.k cq,.i q.length,.r 95 (v:=lr (ox.take q.length)) (by simp [lm]),.k cs] rfl rfl (by simp [Uw,Hl,Uz]; omega)
   ·obtain ⟨k,rfl⟩:=Kj hi;have e:((k:Int)+1).toNat=k+1:=by omega
    rw [e] at j5 j6;obtain ⟨top,nx,xn,x1,x2,D⟩:=j5.dig;have hoxl:=j5.ol;have hm:=j5.hm;have cd:=Qej (o:=ox) (lo:=k) (by omega) (hYl.symm ▸ D) (by omega);rw [hYl] at cd;have hwl:=GZ (o:=ox) (i:=k) (n:=q.length) (by omega);have hwlt:val (WW ox k q.length) % val Y<4294967296^(q.length+1):=by
     have h3:=Cm (WW ox k q.length) D.xb;rw [hwl] at h3;exact Z3 (Nat.mod_le _ _) h3
    obtain ⟨d1,d2,d3⟩:=zO (k:=q.length+1) (v:=val (WW ox k q.length) % val Y);have hnx:=j5.next (w':=wT (q.length+1) (val (WW ox k q.length) % val Y)) (d1.trans hwl.symm) d2 (d3 hwlt) (q:=oq) (by omega) j6;have hdg:=D.qlt;refine go tt [.t (by simp),.i k,.i (k+q.length+1),.r 87 (v:=.one (.orow 0 1 (some (k,q.length+1)))) (by rw [show k+q.length+1-k=q.length+1 by omega]),.c [0] cd,.i k] rfl ?_ ?_
    ·simp only [Uw,Uz]; omega
    ·rw [B8];refine rd ((k:Int)-1,oq.set k (val (WW ox k q.length) / val Y),ox.take k++wT (q.length+1) (val (WW ox k q.length) % val Y)++ox.drop (k+q.length+1)) (by dsimp only; omega) ⟨by dsimp only; omega,by dsimp only; omega,by simp [j3],Nw j4 _ _ hdg,?_,?_⟩ rfl
     ·dsimp only; rw [show ((k:Int)-1+1).toNat=k from by omega]; exact hnx.1
     ·dsimp only; rw [show ((k:Int)-1+1).toNat=k from by omega]; exact hnx.2
def sg (z:Int):LV:=.bool (decide (z<0))
def mg (z:Int):LV:=.row (lm (Fv z.natAbs))
abbrev He (z:Int):Up:=[sg z,mg z]
def Gv (x y:LV) (z:Int):Prop:=∃ b l,x=.bool b/\y=.row (lm l)/\Sm l/\z=U8 b (val l)
theorem Uy (z:Int):Gv (sg z) (mg z) z:=by
 refine ⟨_,_,rfl,rfl,Lb _,?_⟩;rw [Gy];unfold U8;by_cases h:z<0 <;> simp [h] <;> omega
theorem Quj (b:Bool) (m:Nat):[LV.bool (b && decide (0<m)),LV.row (lm (Fv m))]=He (U8 b m):=by
 simp only [He,sg,mg,DY,Ri]
theorem Dh {m:Nat}:0<(Fv m).length↔0<m:=by
 rcases Q3 m with h | h
 ·subst h; rw [G0]; simp
 ·rw [El (by omega)]; simp [h]
theorem Pm (b:Bool) (m:Nat):Uh 81 [lr (Fv m),.one (.bool b)] [.agg (He (U8 b m))]:=by
 rw [<-Quj];have e:=Dh (m:=m);cases b with
 | false=>exact Ue func81 rfl [.f rfl] rfl
 | true=>exact Ue func81 rfl [.t rfl] rfl (by simp [Uz,e]) trivial
theorem Pj {b:Bool} {m:Nat} {k:Nat} (h:Fa (U8 b m)<=k):sz m<=k:=by
 unfold Fa at h; rwa [Ri] at h
theorem Bu {x y:LV} {z:Int} (hi:Gv x y z) (hs:Fa z<=4294967295):Uh 115 [.agg [x,y]] [.agg (He z)]:=by
 obtain ⟨b,l,rfl,rfl,hl,rfl⟩:=hi;exact Ue func115 rfl [.k (VB hl (Qc (Pj hs) (by decide))),.k (Pm _ _)] rfl
theorem UU (b:Bool) (m:Nat):U8 (!b) m=-(U8 b m):=by unfold U8; cases b <;> simp
theorem NF {x y:LV} {z:Int} (hi:Gv x y z) (hs:Fa z<=4294967295):Uh 149 [.agg [x,y]] [.agg (He (-z))]:=by
 obtain ⟨b,l,rfl,rfl,hl,rfl⟩:=hi;rw [<-UU];exact Ue func149 rfl [.k (VB hl (Qc (Pj hs) (by decide))),.k (Pm _ _)] rfl
theorem Nk {x y x' y':LV} {z z':Int} (hi:Gv x y z) (hi':Gv x' y' z') (hs:Fa z<=4294967295) (hs':Fa z'<=4294967295):Uh 37 [.agg [x,y],.agg [x',y']] [.agg (He (z*z'))]:=by
 obtain ⟨b,l,rfl,rfl,hl,rfl⟩:=hi;obtain ⟨b',l',rfl,rfl,hl',rfl⟩:=hi';have e:U8 b (val l)*U8 b' (val l')=U8 (b != b') (val l*val l'):=by
  unfold U8; cases b <;> cases b' <;> simp [Int.neg_mul,Int.mul_neg]
 rw [e];exact Ue func37 rfl [.k (Qwh hl hl' (Qc (Pj hs) (by decide)) (Qc (Pj hs') (by decide))),.k (Pm _ _)] rfl
theorem NR {a b:Um} (ha:Sm a) (hb:Sm b) (h1:sz (val a)<=4294967296) (h:val b<=val a):Uh 228 [lr a,lr b] [lr (Fv (val a-val b)),.one (.bool true)]:=by
 have:=Qqh ha hb h1; rwa [if_pos h] at this
theorem Qea {a b:Um} (ha:Sm a) (hb:Sm b) (h1:sz (val a)<=4294967296) (h:val a<val b):Uh 228 [lr a,lr b] [lr [],.one (.bool false)]:=by
 have:=Qqh ha hb h1; rwa [if_neg (by omega)] at this
theorem VD {x y x' y':LV} {z z':Int} (hi:Gv x y z) (hi':Gv x' y' z') (hs:Fa z<=4294967295) (hs':Fa z'<=4294967295):Uh 219 [.agg [x,y],.agg [x',y']] [.agg (He (z+z'))]:=by
 obtain ⟨b,l,rfl,rfl,hl,rfl⟩:=hi;obtain ⟨b',l',rfl,rfl,hl',rfl⟩:=hi';have s1:=Qc (Pj hs) (show 4294967295<=4294967296 by decide);have s2:=Qc (Pj hs') (show 4294967295<=4294967296 by decide);by_cases hb:b=b'
 ·subst hb;have e:U8 b (val l)+U8 b (val l')=U8 b (val l+val l'):=by unfold U8; cases b <;> simp <;> omega
  rw [e];exact Ue func219 rfl [.t (by simp),.k (Qqc hl hl' s1 s2),.k (Pm _ _)] rfl
 ·by_cases hle:val l'<=val l
  ·have e:U8 b (val l)+U8 b' (val l')=U8 b (val l-val l'):=by unfold U8; cases b <;> cases b' <;> simp at hb ⊢ <;> omega
   rw [e];exact Ue func219 rfl [.f (by simpa using hb),.k (NR hl hl' s1 hle),.t rfl,.k (Pm _ _)] rfl
  ·have e:U8 b (val l)+U8 b' (val l')=U8 b' (val l'-val l):=by unfold U8; cases b <;> cases b' <;> simp at hb ⊢ <;> omega
   rw [e];exact Ue func219 rfl [.f (by simpa using hb),.k (Qea hl hl' s1 (by omega)),.f rfl,.k (NR hl' hl s2 (by omega)),.k (Pm _ _)] rfl
theorem Qei {x y x' y':LV} {z z':Int} (hi:Gv x y z) (hi':Gv x' y' z') (hs:Fa z<=4294967295) (hs':Fa z'<=4294967295):Uh 246 [.agg [x,y],.agg [x',y']] [.agg (He (z-z'))]:=by
 obtain ⟨b',l',rfl,rfl,hl',rfl⟩:=hi';have hn:Gv (.bool (!b')) (.row (lm l')) (-(U8 b' (val l'))):=⟨_,_,rfl,rfl,hl',(UU _ _).symm⟩;rw [Int.sub_eq_add_neg];have hi2:=hi;obtain ⟨b,l,rfl,rfl,hl,_⟩:=hi;exact Ue func246 rfl [.k (VD hi2 hn hs (by rw [Hq]; exact hs'))] rfl
theorem Qe1 {x y:LV} {z:Int} (hi:Gv x y z) (hs:Fa z<=4294967295):Uh 146 [.agg [x,y]] [.oi (Int.sign z)]:=by
 obtain ⟨b,l,rfl,rfl,hl,rfl⟩:=hi;have s1:=Qc (Pj hs) (show 4294967295<=4294967296 by decide);have cb:=sM hl s1;by_cases h0:val l=0
 ·have e:U8 b (val l)=0:=by unfold U8; rw [h0]; cases b <;> simp
  rw [e];exact Ue func146 rfl [.k cb,.t (by simp [LA,h0])] rfl
 ·have EU:sz (val l)≠0:=λh=>h0 (LA.1 h)
  cases b
  ·have e:(U8 false (val l)).sign=1:=Int.sign_eq_one_of_pos (by unfold U8; simp; omega);rw [e];exact Ue func146 rfl [.k cb,.f (by simp; omega),.f rfl] rfl
  ·have e:(U8 true (val l)).sign=-1:=Int.sign_eq_neg_one_of_neg (by unfold U8; simp; omega);rw [e];exact Ue func146 rfl [.k cb,.f (by simp; omega),.t rfl] rfl
theorem GB {x y x' y':LV} {z z':Int} (hi:Gv x y z) (hi':Gv x' y' z') (hs:Fa z<=4294967295) (hs':Fa z'<=4294967295):Uh 101 [.agg [x,y],.agg [x',y']] [.oi (Dt z z')]:=by
 have c1:=Qe1 hi hs;have c2:=Qe1 hi' hs';obtain ⟨b,l,rfl,rfl,hl,hz⟩:=hi;obtain ⟨b',l',rfl,rfl,hl',hz'⟩:=hi';have k1:=Ap z;have k2:=Ap z';have zl:z.natAbs=val l:=by rw [hz,Ri]
 have zl':z'.natAbs=val l':=by rw [hz',Ri]
 by_cases h1:z.sign<z'.sign
 ·have e:Dt z z'=-1:=by unfold Dt; rw [if_pos (by omega)]
  rw [e];exact Ue func101 rfl [.k c1,.k c2,.t (by simpa using h1)] rfl
 ·by_cases h2:z'.sign<z.sign
  ·have e:Dt z z'=1:=by unfold Dt; rw [if_neg (by omega),if_pos (by omega)]
   rw [e];exact Ue func101 rfl [.k c1,.k c2,.f (by simpa using h1),.t (by simpa using h2)] rfl
  ·by_cases h3:z.sign<0
   ·have e:ZY (val l') (val l)=Dt z z':=by unfold Dt ZY; rw [<-zl,<-zl']; split <;> split <;> (try split) <;> (try split) <;> omega
    have cc:=Qdh hl' hl;rw [e] at cc;exact Ue func101 rfl [.k c1,.k c2,.f (by simpa using h1),.f (by simpa using h2),.t (by simpa using h3),.k cc] rfl
   ·have e:ZY (val l) (val l')=Dt z z':=by unfold Dt ZY; rw [<-zl,<-zl']; split <;> split <;> (try split) <;> (try split) <;> omega
    have cc:=Qdh hl hl';rw [e] at cc;exact Ue func101 rfl [.k c1,.k c2,.f (by simpa using h1),.f (by simpa using h2),.f (by simpa using h3),.k cc] rfl
theorem Lf {z:Int}:Uh 116 [.agg (He z)] [.one (.bool (decide (z=0)))] :=
 Ue func116 rfl [] rfl (by simp only [Uz]; congr 3; have:=Dh (m:=z.natAbs); rw [decide_eq_decide]; omega) trivial
theorem zF {z:Int} (h1:-9223372036854775808<=z/\z<=9223372036854775807):Uh 111 [.oi z] [.agg (He z)]:=by
 obtain ⟨m,hm⟩:=nmE (z.natAbs);have sm:Sm [m % 4294967296,m / 4294967296]:=λx hx=>by
  simp at hx; rcases hx with rfl | rfl <;> omega
 have hv:val [m % 4294967296,m / 4294967296]=m:=by simp only [val]; omega
 have cn:=VB sm (by rw [hv]; exact Qc (Bh.2 (show m<2^64 by omega)) (show 64<=4294967296 by decide));rw [hv] at cn;by_cases hz:z<0
 ·have e:U8 true m=z:=by unfold U8; simp; omega
  have cm:=Pm true m;rw [e] at cm;exact Ue func111 rfl [.w 0,.r 5 (De (b:=((18446744073709551616-m:Nat):Int)) (by rw [w64]; omega)),.t (by simpa using hz),.w 0,.r 9 (De (b:=(m:Int)) (by rw [w64]; omega)),.w 0,.r 11 (E6 (b:=((m % 4294967296:Nat):Int)) (by rw [zQ]; omega)),.i 32,.r 13 (De (b:=((m / 4294967296:Nat):Int)) (by simp)),.k cn,.r 18 (v:=.one (.bool true)) (by simp [hz]),.k cm] rfl rfl (by simp [Uw,IntKind.bits] <;> omega)
 ·have e:U8 false m=z:=by unfold U8; simp; omega
  have cm:=Pm false m;rw [e] at cm;exact Ue func111 rfl [.w 0,.r 5 (De (b:=(m:Int)) (by rw [w64]; omega)),.f (by simpa using hz),.w 0,.r 11 (E6 (b:=((m % 4294967296:Nat):Int)) (by rw [zQ]; omega)),.i 32,.r 13 (De (b:=((m / 4294967296:Nat):Int)) (by simp)),.k cn,.r 18 (v:=.one (.bool false)) (by simp; omega),.k cm] rfl rfl (by simp [Uw,IntKind.bits] <;> omega)
theorem sD {m n:Nat} (h1:sz m<=4294967296) (h2:sz n<=4294967296) (hn:0<n):Uh 179 [lr (Fv m),lr (Fv n)] [lr (Fv (m / n)),lr (Fv (m % n)),.oi 0]:=by
 have:=vO (Lb m) (Lb n) (by rw [Gy]; exact h1) (by rw [Gy]; exact h2) (by rw [Gy]; exact hn);rwa [Gy,Gy] at this
theorem Qan {x y x' y':LV} {z z':Int} (hi:Gv x y z) (hi':Gv x' y' z') (hs:Fa z<=4294967295) (hs':Fa z'<=4294967295) (hz:z'≠0):Uh 180 [.agg [x,y],.agg [x',y']] [.agg (He (z / z')),.agg (He (z % z')),.oi 0]:=by
 obtain ⟨b,l,rfl,rfl,hl,hz1⟩:=hi;obtain ⟨b',l',rfl,rfl,hl',hz2⟩:=hi';have zl:z.natAbs=val l:=by rw [hz1,Ri]
 have zl':z'.natAbs=val l':=by rw [hz2,Ri]
 have s1:sz (val l)<=4294967296:=Qc (Pj (hz1 ▸ hs)) (by decide);have s2:sz (val l')<=4294967296:=Qc (Pj (hz2 ▸ hs')) (by decide);have hp:0<z'.natAbs:=by omega
 have e1:z=if b=true then -(z.natAbs:Int) else (z.natAbs:Int):=by rw [zl]; exact hz1
 have e2:z'=if b'=true then -(z'.natAbs:Int) else (z'.natAbs:Int):=by rw [zl']; exact hz2
 have cd:=vO hl hl' s1 s2 (by omega);rw [<-zl,<-zl'] at cd;have s0:sz (z.natAbs % z'.natAbs)<=4294967296:=Qc (Sr (Yh (Z5 _ hp))) (by rw [zl']; exact s2);cases b with
 |
  false =>
  obtain ⟨d1,d2⟩:=BG e2 hp e1;rw [d1,d2];exact Ue func180 rfl [.k cd,.f rfl,.k (Pm _ _),.k (Pm _ _),.f rfl,.f rfl] rfl
 |
  true =>
  by_cases h0:z.natAbs % z'.natAbs=0
  ·obtain ⟨d1,d2⟩:=SC e2 hp e1 h0;rw [d1,d2];exact Ue func180 rfl [.k cd,.f rfl,.k (Pm _ _),.k (Pm _ _),.t rfl,.f (by rw [h0,G0]; rfl)] rfl
  ·obtain ⟨d1,d2⟩:=BF e2 hp e1 (by omega);rw [d1,d2];have ca:=Qqc (a:=Fv (z.natAbs / z'.natAbs)) (b:=[1]) (Lb _) (λx hx=>by simp at hx; subst hx; decide) (by rw [Gy]; exact Qc (Sr (Jz _ _)) (by rw [zl]; exact s1)) (by decide);have cs:=NR (a:=l') (b:=Fv (z.natAbs % z'.natAbs)) hl' (Lb _) s2 (by rw [Gy,<-zl']; exact Yh (Z5 _ hp));rw [Gy] at ca cs;rw [<-zl'] at cs;have hl0:=Dh (m:=z.natAbs % z'.natAbs);exact Ue func180 rfl [.k cd,.f rfl,.k (Pm _ _),.k (Pm _ _),.t rfl,.t (by simp [Uz]; omega),.k ca,.k cs,.k (Pm _ _),.k (Pm _ _)] rfl
theorem Ax {x y x' y':LV} {z z':Int} (hi:Gv x y z) (hi':Gv x' y' z') (hs:Fa z<=4294967295) (hs':Fa z'<=4294967295) (hz:z'≠0) (hd:z % z'=0):Uh 150 [.agg [x,y],.agg [x',y']] [.agg (He (z / z')),.oi 0]:=by
 have cd:=Qan hi hi' hs hs' hz;obtain ⟨b,l,rfl,rfl,_⟩:=hi;obtain ⟨b',l',rfl,rfl,_⟩:=hi';exact Ue func150 rfl [.k cd,.f rfl,.f (by rw [hd]; simp [Uz,G0])] rfl
end Orr
namespace Orr
open Go
abbrev Qzu (l:Um):LV:=.row (lm l)
def Ro (l:Uk):Nat:=l.foldl (λg z=>Nat.gcd g z.natAbs) 0
theorem Qbh {l:Uk} {i:Nat} {z:Int} (h:l[i]? = some z):Ro (l.take (i+1))=Nat.gcd (Ro (l.take i)) z.natAbs:=by
 unfold Ro;rw [Y5,h];simp [Vr]
theorem Qng (g x:Nat):Nat.gcd x (g % x)=Nat.gcd g x:=by
 rw [Nat.gcd_comm g x,Nat.gcd_rec x g,Nat.gcd_comm]
theorem EB (l:Uk):l.foldl (λg z=>Nat.gcd g z.natAbs) 1=1:=by
 induction l with
 | nil=>rfl
 | cons z l ih=>simp [ih]
theorem Qgl {l:Uk} {i:Nat} (h:Ro (l.take i)=1):Ro l=1:=by
 have e:l=l.take i++l.drop i:=(Zf i l).symm;unfold Ro at h ⊢;rw [e,Vr,h,EB]
def trim:Uk->Uk
 | []=>[]
 |
  x::l=>match trim l with
  | []=>if x=0 then [] else [x]
  | y::k=>x::y::k
theorem WQ:∀ {l:Uk},(∀ x∈l,x=0)->trim l=[]
 | [],_=>rfl
 |
  x::l,h=>by
  have ih:=WQ (l:=l) (λy hy=>h y (Qg _ hy));simp [trim,ih,h x (Qy ..)]
theorem qA:∀ {l:Uk} {m:Nat} {y:Int},(∀ j x,m<j->l[j]? = some x->x=0)->l[m]? = some y->y≠0->trim l=l.take (m+1)
 | [],m,y,_,h,_=>by simp at h
 |
  x::l,0,y,h1,h2,h3=>by
  have h0:trim l=[]:=WQ λz hz=>by
   obtain ⟨j,hj⟩:=Zj.1 hz;exact h1 (j+1) z (by omega) (by simpa using hj)
  simp at h2;subst h2;simp [trim,h0,h3]
 |
  x::l,m+1,y,h1,h2,h3=>by
  have ih:=qA (l:=l) (m:=m) (y:=y) (λj z hj hz=>h1 (j+1) z (by omega) (by simpa using hz)) (by simpa using h2) h3;cases hl:l with
  | nil=>subst hl; simp at h2
  |
   cons u k =>
   subst hl;rw [Ve] at ih;simp only [trim] at ih ⊢;rw [ih];simp
def U7 (l:Uk):Prop:=trim l=l
theorem Tf:∀ (l:Uk),U7 (trim l)
 | []=>rfl
 |
  x::l=>by
  have ih:=Tf l;unfold U7 at ih ⊢;cases h:trim l with
  | nil=>by_cases hx:x=0 <;> simp [trim,h,hx]
  |
   cons y k =>
   rw [h] at ih;simp only [trim,h] at ih ⊢;rw [ih]
theorem tZ {l:Uk} {m:Nat} (hm:m<=l.length) (h1:∀ j x,m<=j->l[j]? = some x->x=0) (h2:0<m->∃ y,l[m-1]? = some y/\y≠0):trim l=l.take m:=by
 rcases Q3 m with h0 | h0
 ·subst h0;rw [WQ λz hz=>?_]; rfl;obtain ⟨j,hj⟩:=Zj.1 hz;exact h1 j z (by omega) hj
 ·obtain ⟨y,hy,hy0⟩:=h2 h0;have:=qA (l:=l) (m:=m-1) (y:=y) (λj x hj hx=>h1 j x (by omega) hx) hy hy0;rwa [show m-1+1=m from by omega] at this
def IsInts:Uq->Uk->Prop
 | [],[]=>True
 | x::l,z::p=>(∃ a b,x=[a,b]/\Gv a b z)/\IsInts l p
 | _,_=>False
theorem IsInts.len:∀ {l:Uq} {p:Uk},IsInts l p->l.length=p.length
 | [],[],_=>rfl
 | x::l,z::p,h=>by simp [h.2.len]
 | [],_::_,h=>h.elim
 | _::_,[],h=>h.elim
theorem IsInts.get:∀ {l:Uq} {p:Uk},IsInts l p->∀ {i:Nat} {z:Int},p[i]? = some z->∃ a b,l[i]? = some [a,b]/\Gv a b z
 | [],[],_,i,z,h=>by simp at h
 |
  x::l,y::p,h,0,z,hz=>by
  simp at hz; subst hz;obtain ⟨a,b,rfl,hi⟩:=h.1;exact ⟨a,b,rfl,hi⟩
 | x::l,y::p,h,i+1,z,hz=>by simpa using h.2.get (i:=i) (by simpa using hz)
 | [],_::_,h,_,_,_=>h.elim
 | _::_,[],h,_,_,_=>h.elim
theorem Gi:∀ (p:Uk),IsInts (p.map He) p
 | []=>trivial
 | z::p=>⟨⟨_,_,rfl,Uy z⟩,Gi p⟩
theorem IsInts.append:∀ {l l':Uq} {p p':Uk},IsInts l p->IsInts l' p'->IsInts (l++l') (p++p')
 | [],_,[],_,_,h=>h
 | x::l,_,z::p,_,h,h'=>⟨h.1,h.2.append h'⟩
 | [],_,_::_,_,h,_=>h.elim
 | _::_,_,[],_,h,_=>h.elim
def pl (p:Uk):LV:=.row (p.map He)
def ids (l:Uk):LV:=.row (l.map λ(x:Int)=>[.int .i64 x])
theorem QF:Gv (.bool false) (.row []) 0:=⟨false,[],rfl,rfl,(λx hx=>by cases hx),rfl⟩
theorem Qo8:sg 0=.bool false:=rfl
theorem Qbp {z:Int}:(Fv z.natAbs).length=0↔z=0:=by
 constructor
 ·intro h;have h0:=Qj h;have:=(UE (C5 z.natAbs)).2 h0;rw [Gy] at this; omega
 ·rintro rfl; rw [show (0:Int).natAbs=0 from rfl,G0]; rfl
theorem Gn {α β:Type} {f:α->β} {l:List α} {i:Nat} {x:α} (h:l[i]? = some x):(l.map f)[i]? = some (f x):=by rw [Zd,h]; rfl
theorem Qq4 {α:Type} {f:α->Up} {sz:Nat} (l:List α) (h:∀ x,(f x).length=sz):∀ c∈l.map f,c.length=sz:=λc hc=>by
 obtain ⟨x,_,rfl⟩:=Za.1 hc;exact h x
theorem Qnu:mg 0=.row []:=by simp [mg,G0,lm]
theorem D4:He 0=[LV.bool false,LV.row []]:=by simp [He,Qo8,Qnu]
end Orr
namespace Orr
open Go Go.Proofs Tryz
set_option maxRecDepth 10000
theorem MQ {p:Uk} (hs:∀ z∈p,Fa z≤4294967295):sz (Ro p)≤4294967295:=by
 have key:∀ (p:Uk) (g:Nat),sz g≤4294967295->(∀ z∈p,Fa z≤4294967295)->sz (p.foldl (λg z=>Nat.gcd g z.natAbs) g)≤4294967295:=by
  intro p
  induction p with
  | nil=>exact λg h _=>h
  |
   cons z p ih =>
   intro g h hs;refine ih _ ?_ λy hy=>hs y (.tail _ hy)
   rcases Q3 g with h0 | h0
   ·subst h0; show sz (Nat.gcd 0 z.natAbs)<=_; rw [Nat.gcd_zero_left]; exact hs z (.head _)
   ·exact Qc (Sr (Nat.gcd_le_left _ h0)) h
 exact key p 0 (by decide) hs
theorem Qdp {l:Uq} {p:Uk} (hi:IsInts l p) (hs:∀ z∈p,Fa z≤4294967295):Uh 148 [.one (.row l)] [.agg (He ((Ro p:Nat):Int))]:=by
 refine Ft func148 rfl (ln 0 rfl rfl λhl=>?_);have hlp:=hi.len;refine Ub [.z 3,.r 3 (v:=lr (Fv (Ro (p.take 0)))) (by simp [Ro,G0,lm])] rfl ?_;refine ct 2 (S:=Unit) (λ_=>[(2,.v (.one (.ow 0 0))),(3,.v (lr (Fv (Ro p))))]) (λ_=>[.blk 34 [.bool false,.nils],.gone]) (λ_=>True) rfl ?_ ?_
 ·refine Ug (S:=Nat) 1 (λL1 i=>(12,.v (.oi i))::(3,.v (lr (Fv (Ro (p.take i)))))::L1) (λ_=>[.blk 34 [.bool false,.nils]]) (λi=>p.length-i) (λi=>i<=p.length) 0 (Qh _) rfl rfl λi hip=>?_
  by_cases h:i<p.length
  ·have hlt:i<l.length:=by omega
   obtain ⟨c,hc⟩:=gxE (l:=l) (i:=i) hlt;obtain ⟨z,hz⟩:=gxE (l:=p) (i:=i) h;obtain ⟨x,y,hc',b,r,rfl,rfl,hr,hzz⟩:=hi.get hz;rw [hc] at hc'; injection hc' with hc'; subst hc'
   have hsz:=hs z (Qa hz);have hg0:sz (Ro (p.take i))<=4294967295:=MQ λy hy=>hs y (Qo hy)
   have ezr:z.natAbs=val r:=by rw [hzz,Ri]
   have cn:=VB hr (by rw [<-ezr]; exact Qc hsz (by decide));rw [<-ezr] at cn;refine Ub [.t (by simp; omega),.x hc,.k cn] rfl ?_;refine Ug (S:=Nat×Nat) 2 (λL1 s=>(3,.v (lr (Fv s.1)))::(6,.v (lr (Fv s.2)))::L1) (λ_=>[.blk 34 [.bool false,.nils],.blk 34 [.bool b,.row (lm r)]]) (λs=>s.2) (λs=>Nat.gcd s.1 s.2=Nat.gcd (Ro (p.take i)) z.natAbs/\sz s.1<=4294967295/\sz s.2<=4294967295) (Ro (p.take i),z.natAbs) ⟨rfl,hg0,hsz⟩ rfl rfl λ⟨g,u⟩ ⟨j1,j2,j3⟩=>?_
   dsimp only at j1 j2 j3 ⊢;have hul:=Dh (m:=u);by_cases hu:0<u
   ·have cd:=sD (m:=g) (n:=u) (by omega) (by omega) hu;refine Ub [.t (by simp [Uz]; omega),.k cd] rfl ?_;exact rd (u,g % u) (Z5 _ hu) ⟨(Qng g u).trans j1,j3,Qc (Sr (Yh (Z5 _ hu))) j3⟩ rfl
   ·obtain rfl:u=0:=by omega
    rw [Nat.gcd_zero_right,<-Qbh hz] at j1;subst j1;by_cases h1:Ro (p.take (i+1))=1
    ·have e1:Fv (Ro (p.take (i+1)))=[1]:=by rw [h1,El (by decide)]; simp [G0]
     refine Ub [.f (by simp [G0,lm]),.t (by rw [e1]; rfl),.x (G5 (i:=0) (x:=1) (by rw [e1]; rfl)),.t rfl] rfl ?_;exact rc () trivial (by rw [h1,Qgl h1]; rfl)
    ·obtain ⟨g,hg⟩:=nmE (Ro (p.take (i+1)));rw [<-hg] at h1 j2 ⊢;by_cases h2:(Fv g).length=1
     ·obtain ⟨v,hv⟩:∃ v,Fv g=[v]:=by
       match hm:Fv g,h2 with
       | [v],_=>exact ⟨v,rfl⟩
      have hv1:v≠1:=λe=>h1 (by rw [<-Gy g,hv,e]; rfl)
      refine go tt [.f (by simp [G0,lm]),.t (by simp [Uz,h2]),.x (G5 (i:=0) (x:=v) (by rw [hv]; rfl)),.f (by simp; omega)] rfl (by simp [Uw] <;> omega) ?_;exact rd (i+1) (by omega) h (by rw [<-hg]; rfl)
     ·refine go tt [.f (by simp [G0,lm]),.f (by simp [Uz]; omega),.f rfl] rfl (by simp [Uw] <;> omega) ?_;exact rd (i+1) (by omega) h (by rw [<-hg]; rfl)
  ·obtain rfl:i=p.length:=by omega
   refine Ub [.f (by simp; omega)] rfl ?_;rw [Q5];exact rc () trivial rfl
 ·intro _ _;have cn:=VB (Lb (Ro p)) (by rw [Gy]; exact Qc (MQ hs) (by decide));rw [Gy] at cn;exact Ud [.k cn,.k (Pm false _)] rfl (by simp [U8]) trivial
end Orr
namespace Orr
def Bd (s:Nat) (p:Uk):Prop:=∀ z∈p,Fa z≤s
theorem My:Fa 0=0:=rfl
theorem Qdc {s:Nat} {p:Uk} (h:Bd s p) {i:Nat} {z:Int} (hz:p[i]? = some z):Fa z<=s:=h z (Qa hz)
theorem Fj {s:Nat} {p:Uk} (h:Bd s p) (k:Nat):Fa (p.getD k 0)<=s:=by
 rw [Qi];cases hk:p[k]? with
 | none=>rw [Kw,My]; exact Qh _
 | some z=>exact Qdc h hk
theorem Ux {s t:Nat} {p:Uk} (h:Bd s p) (ht:s<=t):Bd t p:=λz hz=>Qc (h z hz) ht
theorem VM {s:Nat}:Bd s []:=λz hz=>by cases hz
theorem Qru {s:Nat} {n:Nat} {g:Nat->Int} (h:∀ k,k<n->Fa (g k)<=s):Bd s ((List.range n).map g):=λz hz=>by
 obtain ⟨k,hk,rfl⟩:=Za.1 hz;exact h k (Kh.1 hk)
theorem tJ:∀ (l:Uk),∀ z∈trim l,z∈l
 | [],z,h=>by cases h
 |
  x::l,z,h=>by
  have ih:=tJ l;cases hl:trim l with
  |
   nil =>
   simp only [trim,hl] at h
   split at h
   ·cases h
   ·rw [Qk] at h; rw [h]; exact Qy ..
  |
   cons y k =>
   simp only [trim,hl] at h;rcases Ql.1 h with rfl | h
   ·exact Qy ..
   ·exact Qg _ (ih z (by rw [hl]; exact h))
theorem Rm (l:Uk):(trim l).length<=l.length:=by
 induction l with
 | nil=>exact Qm _
 |
  cons x l ih =>
  cases hl:trim l with
  | nil=>simp only [trim,hl]; split <;> simp
  | cons y k=>simp only [trim,hl]; rw [hl] at ih; simp at ih ⊢; exact ih
theorem Sp {s:Nat} {p:Uk} (h:Bd s p):Bd s (trim p):=λz hz=>h z (tJ p z hz)
theorem YP:∀ (l:Uk) (k:Nat),(trim l).getD k 0=l.getD k 0
 | [],k=>rfl
 |
  x::l,k=>by
  have ih:=YP l;cases hl:trim l with
  |
   nil =>
   rw [hl] at ih;simp only [trim,hl]
   split
   ·rename_i hx;cases k with
    | zero=>simp [hx]
    | succ k=>have:=ih k; simp at this ⊢; exact this
   ·cases k with
    | zero=>simp
    | succ k=>have:=ih k; simp at this ⊢; exact this
  |
   cons y m =>
   rw [hl] at ih;simp only [trim,hl];cases k with
   | zero=>simp
   | succ k=>have:=ih k; simp at this ⊢; exact this
def Au (n:Nat) (g:Nat->Int):Uk:=trim ((List.range n).map g)
theorem Fq (n:Nat) (g:Nat->Int):U7 (Au n g):=Tf _
theorem I1 (n:Nat) (g:Nat->Int):(Au n g).length<=n:=Qc (Rm _) (by simp)
theorem Sv (n:Nat) (g:Nat->Int) (k:Nat):(Au n g).getD k 0=if k<n then g k else 0:=by
 unfold Au;rw [YP,Qi,Zd]
 split
 ·rename_i h; rw [List.getElem?_range h]; rfl
 ·rename_i h; rw [List.getElem?_eq_none (by simpa using h)]; rfl
theorem JH {s n:Nat} {g:Nat->Int} (h:∀ k,k<n->Fa (g k)<=s):Bd s (Au n g):=Sp (Qru h)
def ZU (p q:Uk):Uk:=Au (max p.length q.length) λk=>p.getD k 0+q.getD k 0
def Mq (p q:Uk):Uk:=Au (max p.length q.length) λk=>p.getD k 0-q.getD k 0
def Me (p:Uk):Uk:=Au p.length λk=>-(p.getD k 0)
def Fo (p:Uk) (c:Int):Uk:=Au p.length λk=>p.getD k 0*c
def Gp (p:Uk):Uk:=Au (p.length-1) λk=>p.getD (k+1) 0*((k+1:Nat):Int)
theorem WG {s t:Nat} {p q:Uk} (h:Bd s p) (h':Bd t q):Bd (max s t+1) (ZU p q):=JH λk _=>Qc (YQ _ _) (by have:=Fj h k; have:=Fj h' k; omega)
theorem Da {s t:Nat} {p q:Uk} (h:Bd s p) (h':Bd t q):Bd (max s t+1) (Mq p q):=JH λk _=>Qc (xC _ _) (by have:=Fj h k; have:=Fj h' k; omega)
theorem PU {s:Nat} {p:Uk} (h:Bd s p):Bd s (Me p):=JH λk _=>by rw [Hq]; exact Fj h k
theorem Fz {s t:Nat} {p:Uk} {c:Int} (h:Bd s p) (hc:Fa c<=t):Bd (s+t) (Fo p c):=JH λk _=>Qc (Ge _ _) (by have:=Fj h k; omega)
theorem XU (p q:Uk):(ZU p q).length<=max p.length q.length:=I1 _ _
theorem M3 (p q:Uk):(Mq p q).length<=max p.length q.length:=I1 _ _
theorem XF (p:Uk):(Me p).length<=p.length:=I1 _ _
theorem Fu (p:Uk) (c:Int):(Fo p c).length<=p.length:=I1 _ _
theorem Mz (p:Uk):(Gp p).length<=p.length-1:=I1 _ _
theorem xB {k t:Nat} (h:k<2^t):Fa (k:Int)<=t:=by rw [Tz]; simpa using h
theorem Qbm {k:Nat} (h:k<274877906944):Fa (k:Int)<=4294967295:=Qc (xB (t:=38) (Kf h (by decide))) (by omega)
theorem zW {s t:Nat} {p:Uk} (h:Bd s p) (hl:p.length<=2^t):Bd (s+t) (Gp p):=JH λk hk=>Qc (Ge _ _) (by
 have:=Fj h (k+1);have:=xB (k:=k+1) (t:=t) (by omega);omega)
def Oa (x:Int) (b:Uk) (i:Nat) (o:Uk):Nat->Uk
 | 0=>o
 | k+1=>(Oa x b i o k).set (i+k) ((Oa x b i o k).getD (i+k) 0+x*b.getD k 0)
def Ak (a b o:Uk):Nat->Uk
 | 0=>o
 | i+1=>Oa (a.getD i 0) b i (Ak a b o i) b.length
def Gh (a b:Uk):Uk:=if a.length=0\/b.length=0 then [] else trim (Ak a b (List.replicate (a.length+b.length-1) 0) a.length)
theorem Ob (x:Int) (b:Uk) (i:Nat) (o:Uk) (k:Nat):(Oa x b i o k).length=o.length:=by
 induction k with
 | zero=>rfl
 | succ k ih=>simp [Oa,ih]
theorem Dz (a b o:Uk) (i:Nat):(Ak a b o i).length=o.length:=by
 induction i with
 | zero=>rfl
 | succ i ih=>simp [Ak,Ob,ih]
theorem Qgs (l:Uk) (i m:Nat) (v:Int) (h:i<l.length):(l.set i v).getD m 0=if m=i then v else l.getD m 0:=by
 rw [Qi,Yk,Qi];by_cases e:i=m
 ·subst e; simp [h]
 ·rw [if_neg e,if_neg (λh=>e h.symm)]
theorem Qbu (x:Int) (b:Uk) (i:Nat) (o:Uk) (k m:Nat) (h:i+k<=o.length):(Oa x b i o k).getD m 0=if i<=m/\m<i+k then o.getD m 0+x*b.getD (m-i) 0 else o.getD m 0:=by
 induction k with
 | zero=>simp only [Oa]; rw [if_neg (by omega)]
 |
  succ k ih =>
  have ih:=ih (by omega);simp only [Oa];rw [Qgs _ _ _ _ (by rw [Ob]; omega)];by_cases e:m=i+k
  ·subst e;rw [if_pos rfl,if_pos (by omega),show i+k-i=k from by omega];rw [ih,if_neg (by omega)]
  ·rw [if_neg e,ih];by_cases h1:i<=m/\m<i+k
   ·rw [if_pos h1,if_pos (by omega)]
   ·rw [if_neg h1,if_neg (by omega)]
theorem M4 {x y:Int} {s t:Nat} (hx:Fa x<=s) (hy:Fa y<=t):(x*y).natAbs<=2^(s+t):=by
 have h:=Qc (Ge x y) (show _<=s+t by omega);rw [Tz] at h; omega
theorem jK {x:Int} {b:Uk} {i:Nat} {o:Uk} {k M:Nat} (h:i+k<=o.length) (ho:∀ m,(o.getD m 0).natAbs<=i*M) (hx:∀ j,(x*b.getD j 0).natAbs<=M) (m:Nat):((Oa x b i o k).getD m 0).natAbs<=(i+1)*M:=by
 rw [Qbu x b i o k m h,Z9];have h1:=ho m
 split
 ·have h2:=hx (m-i);generalize i*M=q at *;omega
 ·omega
theorem jV {a b o:Uk} {i M:Nat} (h:∀ j,j<i->j+b.length<=o.length) (ho:∀ m,o.getD m 0=0) (hx:∀ i j,(a.getD i 0*b.getD j 0).natAbs<=M) (m:Nat):((Ak a b o i).getD m 0).natAbs<=i*M:=by
 induction i generalizing m with
 | zero=>simp only [Ak]; rw [ho]; simp
 |
  succ i ih =>
  simp only [Ak];exact jK (by rw [Dz]; exact h i (by omega)) (ih λj hj=>h j (by omega)) (hx i) m
theorem Ik {z:Int} {i s t:Nat} (h:z.natAbs<=i*2^s) (hi:i<2^t):Fa z<=s+t:=by
 rw [Tz];have h1:i*2^s<2^t*2^s:=Xl hi (Z2 (by decide));rw [<-Xd,Js t s] at h1;omega
theorem B6 (n m:Nat):(List.replicate n (0:Int)).getD m 0=0:=by
 rw [Qi,Jw]; split <;> rfl
theorem NX {s:Nat} {p:Uk} (h:∀ m,Fa (p.getD m 0)<=s):Bd s p:=λz hz=>by
 obtain ⟨i,hi⟩:=Zj.1 hz;have:=h i;rw [Qi,hi] at this;exact this
theorem Sw (a b:Uk):(Gh a b).length<=a.length+b.length-1:=by
 unfold Gh
 split
 ·simp
 ·refine Qc (Rm _) ?_;rw [Dz]; simp
theorem P9 {s t u:Nat} {a b:Uk} (ha:Bd s a) (hb:Bd t b) (hl:a.length<2^u):Bd (s+t+u) (Gh a b):=by
 unfold Gh
 split
 ·exact VM
 ·refine Sp (NX λm=>?_);exact Ik (jV (M:=2^(s+t)) (λj hj=>by simp; omega) (B6 _) (λi j=>M4 (Fj ha i) (Fj hb j)) m) hl
theorem Hp (a b:Uk):U7 (Gh a b):=by
 unfold Gh
 split
 ·rfl
 ·exact Tf _
def Lp (a:Uk) (n d:Int):Nat->Int×Int
 | 0=>(0,1)
 | k+1=>((Lp a n d k).1*n+a.getD (a.length-1-k) 0*(Lp a n d k).2,(Lp a n d k).2*d)
def Qup (a:Uk) (n d:Int):Int:=(Lp a n d a.length).1
theorem oY {a:Uk} {n d:Int} {s t k:Nat} (ha:Bd s a) (hn:Fa n<=t) (hd:Fa d<=t):Fa (Lp a n d k).1<=s+2+k*(t+1)/\Fa (Lp a n d k).2<=1+k*t:=by
 induction k with
 | zero=>exact ⟨by simp [Lp,My],by simp [Lp]; decide⟩
 |
  succ k ih =>
  obtain ⟨h1,h2⟩:=ih;have h3:=Fj ha (a.length-1-k);have e1:k*(t+1)=k*t+k:=by rw [Xi,Yu]
  rw [Z9,Z9];refine ⟨?_,?_⟩
  ·simp only [Lp];refine Qc (YQ _ _) ?_;have h4:=Ge (Lp a n d k).1 n;have h5:=Ge (a.getD (a.length-1-k) 0) (Lp a n d k).2;generalize k*t=q at *;rw [e1] at h1 ⊢;omega
  ·simp only [Lp];have h4:=Ge (Lp a n d k).2 d;generalize k*t=q at *;omega
end Orr
namespace Orr
theorem zA {x y:Int}:Dt x y=0↔x=y:=by
 unfold Dt;constructor
 ·intro h
  split at h
  ·omega
  ·split at h <;> omega
 ·rintro rfl; simp
theorem Hx {p:Uk} (h:U7 p) (h0:0<p.length):p.getD (p.length-1) 0≠0:=by
 induction p with
 | nil=>simp at h0
 |
  cons x l ih =>
  unfold U7 at h;cases hl:trim l with
  |
   nil =>
   simp only [trim,hl] at h
   split at h
   ·cases h
   ·rename_i hx;injection h with h1 h2;subst h2;simpa using hx
  |
   cons y k =>
   simp only [trim,hl] at h;injection h with h1 h2;rw [<-hl] at h2;have ih:=ih h2 (by rw [<-h2,hl]; simp);have h3:0<l.length:=by rw [<-h2,hl]; simp
   simp only [Q6,J9];obtain ⟨m,hm⟩:∃ m,l.length=m+1:=⟨l.length-1,by omega⟩;rw [hm] at ih ⊢;simpa using ih
end Orr
namespace Orr
theorem fY (p:Uk):(List.range p.length).map (λk=>p.getD k 0)=p:=by
 apply Xj;intro i;rw [Zd];rcases Zb i p.length with h | h
 ·rw [Xz h];simp [Qe h]
 ·rw [Qw (by simpa using h),Qw h]; rfl
theorem BB {p q:Uk} (hl:p.length=q.length) (h:∀ j,j<p.length->p.getD j 0=q.getD j 0):p=q:=by
 rw [<-fY p,<-fY q,<-hl];exact Xp λj hj=>h j (Kh.1 hj)
end Orr
namespace Orr
abbrev rl (q:Rat):Up:=[sg q.num,mg q.num,sg (q.den:Int),mg (q.den:Int)]
theorem Dv (n d:Int):Ro [n,d]=Int.gcd d n:=by
 unfold Ro;simp only [Z8,List.foldl_nil,Nat.gcd_zero_left];exact Nat.gcd_comm _ _
theorem uF {n d:Int} (hd:d≠0):(0:Int)<((Ro [n,d]:Nat):Int):=by
 rw [Dv];have:=Int.gcd_pos_of_ne_zero_left n hd;omega
theorem CJ (n d:Int):n % ((Ro [n,d]:Nat):Int)=0:=by
 rw [Dv]; exact Yo (Wv ..)
theorem CY (n d:Int):d % ((Ro [n,d]:Nat):Int)=0:=by
 rw [Dv]; exact Yo (Int.gcd_dvd_left ..)
theorem aH {n g:Int} (h:n % g=0):-n % g=0:=by
 exact Yo (Int.dvd_neg.2 (Vf h))
theorem eG {n d:Int} {s:Nat} (hd:d≠0) (h:Fa d<=s):Fa ((Ro [n,d]:Nat):Int)<=s:=by
 rw [Dv];refine Qc (Sr ?_) h;have:=Ku (by omega:0<d.natAbs) (show Int.gcd d n∣d.natAbs from Wy _ _);simpa using this
theorem aJ {n d:Int} (hd:0<d):n / ((Ro [n,d]:Nat):Int)=(Rat.divInt n d).num/\d / ((Ro [n,d]:Nat):Int)=((Rat.divInt n d).den:Int):=by
 rw [Dv,Rat.num_divInt,Wl,if_neg (by omega),Ys hd,Kq];refine ⟨rfl,?_⟩;rw [Int.natCast_ediv,Int.natAbs_of_nonneg (by omega)]
theorem Qnt {n d:Int} (hd:d<0):-n / ((Ro [n,d]:Nat):Int)=(Rat.divInt n d).num/\-d / ((Ro [n,d]:Nat):Int)=((Rat.divInt n d).den:Int):=by
 rw [Dv,Rat.num_divInt,Wl,if_neg (by omega),J4 hd,Ko,Kq];refine ⟨rfl,?_⟩;rw [Int.natCast_ediv,Int.ofNat_natAbs_of_nonpos (by omega)]
theorem XV (u g:Int):Fa (u / g)<=Fa u:=by
 unfold Fa;exact Sr (Int.natAbs_ediv_le_natAbs u g)
theorem Ad {n d:Int} {s:Nat} (h:Fa n<=s):Fa (Rat.divInt n d).num<=s:=by
 rw [Rat.num_divInt];refine Qc (XV _ _) ?_;unfold Fa;rw [J7];refine Qc (Sr ?_) h;have:d.sign.natAbs<=1:=by rcases Ap d with ⟨_,e⟩ | ⟨_,e⟩ | ⟨_,e⟩ <;> rw [e] <;> decide
 calc d.sign.natAbs*n.natAbs<=1*n.natAbs:=Q0 _ this
  _=n.natAbs:=Wm _
theorem Ac {n d:Int} {s:Nat} (h:Fa d<=s) (h1:1<=s):Fa ((Rat.divInt n d).den:Int)<=s:=by
 rw [Wl]
 split
 ·exact h1
 ·refine Qc (Sr ?_) h;exact Jz _ _
def Qs (s:Nat) (q:Rat):Prop:=Fa q.num<=s/\Fa (q.den:Int)<=s
theorem Qs.mono {s t:Nat} {q:Rat} (h:Qs s q) (ht:s<=t):Qs t q:=⟨Qc h.1 ht,Qc h.2 ht⟩
theorem Qs.divInt {s:Nat} {n d:Int} (h:Fa n<=s) (h':Fa d<=s) (h1:1<=s):Qs s (Rat.divInt n d):=⟨Ad h,Ac h' h1⟩
theorem E4 (q:Rat):(q.den:Int)≠0:=by have:=q.den_nz; omega
theorem den_pos (q:Rat):(0:Int)<(q.den:Int):=by have:=q.den_nz; omega
def Gx (n d:Int):Rat:=Rat.divInt n (if d=0 then 1 else d)
theorem Pe (q:Rat):Gx q.num q.den=q:=by
 unfold Gx;rw [if_neg (E4 q)]; exact Z4 q
def G7 (a b:Rat):Int:=Dt (a.num*(b.den:Int)) (b.num*(a.den:Int))
theorem Ng {a b:Rat}:G7 a b<0↔a<b:=by
 rw [Rat.lt_iff]; unfold G7 Dt;constructor
 ·intro h; split at h
  ·assumption
  ·split at h <;> omega
 ·intro h; rw [if_pos h]; decide
theorem L6 {a b:Rat}:0<G7 a b↔b<a:=by
 rw [Rat.lt_iff]; unfold G7 Dt;constructor
 ·intro h; split at h
  ·omega
  ·split at h
   ·assumption
   ·omega
 ·intro h; rw [if_neg (by omega),if_pos h]; decide
theorem Eh (a:Rat):G7 a a=0:=by unfold G7 Dt; simp
structure Crv where
 x:List Int
 y:List Int
 d:Int
abbrev cl (k:Crv):Up:=[pl k.x,pl k.y,sg k.d,mg k.d]
def Crv.d' (k:Crv):Int:=if k.d=0 then 1 else k.d
def Crv.g (k:Crv):Int:=if k.d'<0 then -((Ro (k.d'::(trim k.x++trim k.y)):Nat):Int) else (Ro (k.d'::(trim k.x++trim k.y)):Nat)
def Crv.norm (k:Crv):Crv:=⟨trim ((trim k.x).map (· / k.g)),trim ((trim k.y).map (· / k.g)),k.d' / k.g⟩
theorem ZO {l:Uk}:∀ z∈l,((Ro l:Nat):Int)∣z:=by
 have key:∀ (l:Uk) (g:Nat),(l.foldl (λg z=>Nat.gcd g z.natAbs) g∣g)/\∀ z∈l,l.foldl (λg z=>Nat.gcd g z.natAbs) g∣z.natAbs:=by
  intro l
  induction l with
  | nil=>intro g; exact ⟨Nat.dvd_refl _,by simp⟩
  |
   cons u l ih =>
   intro g;obtain ⟨h1,h2⟩:=ih (Nat.gcd g u.natAbs);refine ⟨Nat.dvd_trans h1 (Wy _ _),λz hz=>?_⟩;rcases Ql.1 hz with rfl | hz
   ·exact Nat.dvd_trans h1 (Nat.gcd_dvd_right _ _)
   ·exact h2 z hz
 intro z hz;have:=(key l 0).2 z hz;exact Wp.2 this
theorem Crv.d'_ne (k:Crv):k.d'≠0:=by unfold Crv.d'; split <;> omega
theorem Crv.gcd_ne (k:Crv):Ro (k.d'::(trim k.x++trim k.y))≠0:=by
 intro e;have h:=ZO (l:=k.d'::(trim k.x++trim k.y)) k.d' (Qy ..);rw [e] at h;exact k.d'_ne (by simpa using h)
theorem Crv.g_ne (k:Crv):k.g≠0:=by
 have h0:=k.gcd_ne;unfold Crv.g
 split <;> omega
theorem Crv.g_dvd (k:Crv):∀ z∈k.d'::(trim k.x++trim k.y),z % k.g=0:=by
 intro z hz;have h:=ZO z hz;refine Yo ?_;unfold Crv.g
 split
 ·exact Ua.2 h
 ·exact h
theorem Crv.isz_g (k:Crv) {s:Nat} (h:Fa k.d'<=s):Fa k.g<=s:=by
 have hd:=ZO (l:=k.d'::(trim k.x++trim k.y)) k.d' (Qy ..);have hle:Ro (k.d'::(trim k.x++trim k.y))<=k.d'.natAbs:=Ku (by have:=k.d'_ne; omega) (Wp.1 hd);refine Qc (Sr ?_) h;unfold Crv.g
 split <;> simp <;> exact hle
structure Cs (s n:Nat) (k:Crv):Prop where
 x:Bd s k.x
 y:Bd s k.y
 d:Fa k.d<=s
 lx:k.x.length<=n
 ly:k.y.length<=n
theorem Qg6 {k:Crv} {s:Nat} (h:Fa k.d<=s) (h1:1<=s):Fa k.d'<=s:=by unfold Crv.d'; split <;> first | exact h1 | exact h
theorem GH {s:Nat} {p:Uk} (h:Bd s p) (g:Int):Bd s (p.map (· / g)):=λz hz=>by
 obtain ⟨u,hu,rfl⟩:=Za.1 hz;exact Qc (XV u g) (h u hu)
theorem Cs.norm {s n:Nat} {k:Crv} (h:Cs s n k) (h1:1<=s):Cs s n k.norm:=by
 refine ⟨Sp (GH (Sp h.x) _),Sp (GH (Sp h.y) _),Qc (XV _ _) (Qg6 h.d h1),?_,?_⟩
 ·refine Qc (Rm _) ?_; rw [Q7]; exact Qc (Rm _) h.lx
 ·refine Qc (Rm _) ?_; rw [Q7]; exact Qc (Rm _) h.ly
theorem Cs.mono {s n t m:Nat} {k:Crv} (h:Cs s n k) (hs:s<=t) (hn:n<=m):Cs t m k:=⟨Ux h.x hs,Ux h.y hs,Qc h.d hs,Qc h.lx hn,Qc h.ly hn⟩
def ZR (k:Crv):Prop:=U7 k.x/\U7 k.y/\0<k.d/\Ro (k.d::(k.x++k.y))=1
theorem Crv.norm_of {k:Crv} (h:ZR k):k.norm=k:=by
 obtain ⟨h1,h2,h3,h4⟩:=h;have hd:k.d'=k.d:=by unfold Crv.d'; rw [if_neg (by omega)]
 have hx:trim k.x=k.x:=h1;have hy:trim k.y=k.y:=h2;have hg:k.g=1:=by unfold Crv.g; rw [hd,hx,hy,h4,if_neg (by omega)]; rfl
 unfold Crv.norm;rw [hg,hd,hx,hy];simp [hx,hy]
theorem xG {l:Uk} {g:Int} (hg:g≠0) (hga:g.natAbs=Ro l):Ro (l.map (· / g))=1:=by
 have key:∀ (l:Uk) (a:Nat),(∀ z∈l,g∣z)->l.foldl (λa z=>Nat.gcd a z.natAbs) (a*g.natAbs)=((l.map (· / g)).foldl (λa z=>Nat.gcd a z.natAbs) a)*g.natAbs:=by
  intro l
  induction l with
  | nil=>intro a _; rfl
  |
   cons z l ih =>
   intro a h;simp only [Z1,Z8];have hz:z.natAbs=(z / g).natAbs*g.natAbs:=by
    obtain ⟨q,rfl⟩:=h z (Qy ..);rw [Jd _ hg,J7,Zp]
   rw [hz,Nat.gcd_mul_right];exact ih _ λu hu=>h u (Qg _ hu)
 have h:=key l 0 λz hz=>X1.1 (by rw [hga]; exact X1.2 (ZO z hz))
 rw [Yi] at h;have h':Ro l=Ro (l.map (· / g))*g.natAbs:=h;rw [<-hga] at h';have hp:0<g.natAbs:=by omega
 exact Nat.eq_of_mul_eq_mul_right hp (by rw [Wm]; exact h'.symm)
theorem JV {l:Uk} {g:Int} (ht:U7 l) (hg:g≠0) (hd:∀ z∈l,g∣z):U7 (l.map (· / g)):=by
 induction l with
 | nil=>rfl
 |
  cons x l ih =>
  have hne:∀ z∈x::l,z≠0->z / g≠0:=λz hz h0 h1=>by
   obtain ⟨q,rfl⟩:=hd z hz;rw [Jd _ hg] at h1;rw [h1] at h0; simp at h0
  unfold U7 at ht ih ⊢;cases hl:trim l with
  |
   nil =>
   simp only [trim,hl] at ht
   split at ht
   ·cases ht
   ·rename_i hx;injection ht with _ h2;subst h2;simp [trim,hne x (Qy ..) hx]
  |
   cons y k =>
   simp only [trim,hl] at ht;injection ht with _ h2;have hll:trim l=l:=by rw [hl]; exact h2
   have ih:=ih hll λz hz=>hd z (Qg _ hz)
   rw [Z1];have hne2:l.map (· / g)≠[]:=by rw [<-hll,hl]; simp
   cases hm:l.map (· / g) with
   | nil=>exact absurd hm hne2
   |
    cons u w =>
    rw [hm] at ih;have e:trim (x / g::u::w)=match trim (u::w) with | []=>if x / g=0 then [] else [x / g] | y::k=>x / g::y::k:=rfl
    rw [e,ih]
theorem Crv.nml (k:Crv):ZR k.norm:=by
 have hg:=k.g_ne;have hdv:∀ z∈k.d'::(trim k.x++trim k.y),k.g∣z:=λz hz=>Vf (k.g_dvd z hz)
 have hx:=JV (g:=k.g) (Tf k.x) hg λz hz=>hdv z (by simp [hz])
 have hy:=JV (g:=k.g) (Tf k.y) hg λz hz=>hdv z (by simp [hz])
 refine ⟨Tf _,Tf _,?_,?_⟩
 ·show 0<k.d' / k.g;obtain ⟨q,hq⟩:=hdv k.d' (Qy ..);have h0:=k.d'_ne;have hgc:=k.gcd_ne;have e:k.d' / k.g=q:=by rw [hq,Jd _ hg]
  rw [e];unfold Crv.g at hq hg;have hq0:q≠0:=λe=>by rw [e,Wb] at hq; exact h0 hq
  split at hq
  ·rename_i hneg;rcases Wo hq0 with h | h
   ·have:=V8 (a:=-((Ro (k.d'::(trim k.x++trim k.y)):Nat):Int)) (b:=q) (by omega) h;omega
   ·exact h
  ·rename_i hneg;rcases Wo hq0 with h | h
   ·have:=V7 (a:=((Ro (k.d'::(trim k.x++trim k.y)):Nat):Int)) (b:=q) (by omega) h;omega
   ·exact h
 ·show Ro (k.d' / k.g::(trim ((trim k.x).map (· / k.g))++trim ((trim k.y).map (· / k.g))))=1;rw [show trim ((trim k.x).map (· / k.g))=(trim k.x).map (· / k.g) from hx,show trim ((trim k.y).map (· / k.g))=(trim k.y).map (· / k.g) from hy,<-Ye,<-Z1 (f:=(· / k.g))];refine xG hg ?_;unfold Crv.g
  split <;> omega
structure Pt where
 c:Crv
 id:Int
def U6 (p:Pt):Up:=[pl p.c.x,pl p.c.y,sg p.c.d,mg p.c.d,.int .i64 p.id]
def pts (l:List Pt):LV:=.row (l.map U6)
def Tr:List Pt->Int->Nat
 | [],_=>0
 | p::l,id=>if p.id<id then Tr l id+1 else 0
def has (l:List Pt) (id:Int):Bool:=match l[Tr l id]? with
 | some p=>decide (p.id=id)
 | none=>false
theorem nS (l:List Pt) (id:Int):Tr l id<=l.length:=by
 induction l with
 | nil=>exact Qm _
 | cons p l ih=>simp only [Tr]; split <;> simp <;> omega
theorem RU:∀ {l:List Pt} {id:Int} {k:Nat},(∀ j p,j<k->l[j]? = some p->p.id<id)->(k=l.length\/∃ p,l[k]? = some p/\¬p.id<id)->Tr l id=k
 |
  [],id,k,_,h=>by
  rcases h with h | ⟨p,h,_⟩
  ·subst h; rfl
  ·simp at h
 |
  q::l,id,0,_,h=>by
  rcases h with h | ⟨p,h,h2⟩
  ·simp at h
  ·simp at h; subst h; simp [Tr,h2]
 |
  q::l,id,k+1,h1,h=>by
  have hq:=h1 0 q (by omega) rfl;simp only [Tr,hq,if_true];rw [RU (k:=k) (λj p hj hp=>h1 (j+1) p (by omega) (by simpa using hp))];rcases h with h | ⟨p,h,h2⟩
  ·left; simpa using h
  ·right; exact ⟨p,by simpa using h,h2⟩
def put (l:List Pt) (q:Pt):List Pt:=l.take (Tr l q.id)++q::l.drop (Tr l q.id)
def KB (l:List Pt) (q:Pt):Int:=if has l q.id=true then 6 else if 6<=l.length then 9 else 0
def oR (s n:Nat) (p:Pt):Prop:=ZR p.c/\Cs s n p.c
theorem jO (l:List Pt) (q:Pt):(put l q).length=l.length+1:=by
 have:=nS l q.id;simp [put]; omega
theorem FU {l:List Pt} {q p:Pt} (h:p∈put l q):p=q\/p∈l:=by
 unfold put at h;rcases Qr.1 h with h | h
 ·exact .inr (Qo h)
 ·rcases Ql.1 h with h | h
  ·exact .inl h
  ·exact .inr (Qz h)
def Lr (a b:Crv):Bool:=decide (a.x=b.x/\a.y=b.y/\a.d=b.d)
def Bl (out:List Pt) (p:Pt):List Pt:=if out.any (λq=>Lr p.c q.c)=true then out else out++[p]
def Ta (l:List Pt):List Pt:=l.foldl Bl []
theorem Qco {out:List Pt} {p q:Pt} (h:q∈Bl out p):q∈out\/q=p:=by
 unfold Bl at h
 split at h
 ·exact .inl h
 ·rcases Qr.1 h with h | h
  ·exact .inl h
  ·exact .inr (by simpa using h)
theorem Qcn (out:List Pt) (p:Pt):(Bl out p).length<=out.length+1:=by
 unfold Bl; split <;> simp
theorem Tq {α β:Type} (f:β->α->β) (b:β) (l:List α) {i:Nat} {x:α} (h:l[i]? = some x):(l.take (i+1)).foldl f b=f ((l.take i).foldl f b) x:=by
 rw [Y5,h]; simp [Vr]
theorem VP (l:List Pt) (i:Nat):∀ q∈(l.take i).foldl Bl [],q∈l:=by
 induction i with
 | zero=>simp
 |
  succ i ih =>
  intro q hq;cases hi:l[i]? with
  |
   none =>
   rw [Qn (by have:=Jo.1 hi; omega)] at hq;rw [Qn (Jo.1 hi)] at ih;exact ih q hq
  |
   some x =>
   rw [Tq _ _ _ hi] at hq;rcases Qco hq with h | h
   ·exact ih q h
   ·subst h; exact Qa hi
theorem VS (l:List Pt) (i:Nat):((l.take i).foldl Bl []).length<=i:=by
 induction i with
 | zero=>simp
 |
  succ i ih =>
  cases hi:l[i]? with
  |
   none =>
   rw [Qn (by have:=Jo.1 hi; omega)];rw [Qn (Jo.1 hi)] at ih;omega
  |
   some x =>
   rw [Tq _ _ _ hi];have:=Qcn ((l.take i).foldl Bl []) x;omega
theorem Nc {l:List Pt} {q:Pt} (h:q∈Ta l):q∈l:=by
 have:=VP l l.length q;rw [Q5] at this;exact this h
theorem Oz (l:List Pt):(Ta l).length<=l.length:=by
 have:=VS l l.length;rwa [Q5] at this
def Hz (p:Uk) (q:Rat):Int:=Dt (Qup p q.num q.den) 0
abbrev qa (q:Rat):Up:=pl [-q.num,(q.den:Int)]::(rl q++rl q)
def Tj (sgn:Uk->Int):Nat->Uk->Int
 | 0,_=>0
 | k+1,p=>if p.length=0 then 0 else if sgn p=0 then Tj sgn k (Gp p) else sgn p
theorem XX (sgn:Uk->Int):∀ (k:Nat) (p:Uk),p.length<=k->Tj sgn k p=Tj sgn p.length p
 |
  0,p,h=>by
  have:p.length=0:=by omega
  rw [this]
 |
  k+1,p,h=>by
  cases hp:p.length with
  | zero=>simp [Tj,hp]
  |
   succ m =>
   simp only [Tj];have h1:=Mz p;rw [XX sgn k (Gp p) (by omega),XX sgn m (Gp p) (by omega)]
theorem uT (sgn:Uk->Int) {p:Uk} (h:p.length=0):Tj sgn p.length p=0:=by rw [h]; rfl
theorem uH (sgn:Uk->Int) {p:Uk} (h:0<p.length) (hs:sgn p≠0):Tj sgn p.length p=sgn p:=by
 obtain ⟨m,hm⟩:∃ m,p.length=m+1:=⟨p.length-1,by omega⟩;rw [hm]; simp only [Tj]; rw [if_neg (by omega),if_neg hs]
theorem uR (sgn:Uk->Int) {p:Uk} (h:0<p.length) (hs:sgn p=0):Tj sgn p.length p=Tj sgn (Gp p).length (Gp p):=by
 obtain ⟨m,hm⟩:∃ m,p.length=m+1:=⟨p.length-1,by omega⟩;rw [hm]; simp only [Tj]; rw [if_neg (by omega),if_pos hs];exact XX sgn m _ (by have:=Mz p; omega)
structure Tm where
 p:List Int
 lo:Rat
 hi:Rat
abbrev ta (t:Tm):Up:=pl t.p::(rl t.lo++rl t.hi)
abbrev tq (q:Rat):Tm:=⟨[-q.num,(q.den:Int)],q,q⟩
def Hd (sg:Uk->Int) (p:Uk):Int:=Tj sg p.length p
structure Pb (p:List Int):Prop where
 t:U7 p
 l:p.length<=64
 b:Bd 16777216 p
abbrev Qb (q:Rat):Prop:=Qs 16777216 q
abbrev Cb (k:Crv):Prop:=Cs 1048576 16 k
def Gd (a b:Crv):Uk:=Mq (Fo b.x a.d) (Fo a.x b.d)
def Gb (a b:Crv):Uk:=Mq (Fo b.y a.d) (Fo a.y b.d)
theorem gZ {a b:Crv} (ha:Cb a) (hb:Cb b):Pb (Gd a b)/\(Gd a b).length<=16/\Bd 2097153 (Gd a b):=by
 have h1:Bd 2097153 (Gd a b):=Ux (Da (Fz hb.x ha.d) (Fz ha.x hb.d)) (by omega);have h2:(Gd a b).length<=16:=by
  refine Qc (M3 _ _) ?_;have:=Fu b.x a.d; have:=Fu a.x b.d; have:=ha.lx; have:=hb.lx;omega
 exact ⟨⟨Fq _ _,by omega,Ux h1 (by omega)⟩,h2,h1⟩
theorem fO {a b:Crv} (ha:Cb a) (hb:Cb b):Pb (Gb a b)/\(Gb a b).length<=16/\Bd 2097153 (Gb a b):=by
 have h1:Bd 2097153 (Gb a b):=Ux (Da (Fz hb.y ha.d) (Fz ha.y hb.d)) (by omega);have h2:(Gb a b).length<=16:=by
  refine Qc (M3 _ _) ?_;have:=Fu b.y a.d; have:=Fu a.y b.d; have:=ha.ly; have:=hb.ly;omega
 exact ⟨⟨Fq _ _,by omega,Ux h1 (by omega)⟩,h2,h1⟩
def Ll (sg:Uk->Int) (a b:Pt):Ul->Bool
 | []=>decide (a.id<b.id)
 | p::l=>if 0<p.length then decide (0<Hd sg p) else Ll sg a b l
def Bt (sg:Uk->Int) (a b:Pt):Bool:=Ll sg a b [Gb b.c a.c,Gd b.c a.c]
def Tg (sg:Uk->Int) (a b:Pt):Bool:=Ll sg a b [Gd a.c b.c,Gb a.c b.c]
end Orr
namespace Orr
open Go
structure Ct where
 kind:Int
 i0:Int
 i1:Int
 i2:Int
 i3:Int
 p:List Int
 want:Int
abbrev C6 (c:Ct):Up:=[.int .i64 c.kind,.int .i64 c.i0,.int .i64 c.i1,.int .i64 c.i2,.int .i64 c.i3,pl c.p,.int .i64 c.want]
def Lh (p q:Uk):Uk:=if 0<p.length then p else q
def Cu:Uk->Uk->Bool
 | x::l,y::m=>if x=y then Cu l m else decide (x<y)
 | _,_=>false
def uI (a b:Ct):Bool:=Cu [a.kind,a.i0,a.i1,a.i2,a.i3] [b.kind,b.i0,b.i1,b.i2,b.i3]
def XE (out:List Ct) (c:Ct):Nat->Nat
 | 0=>0
 |
  k+1=>match out[k]? with
  | some x=>if uI c x=true then XE out c k else k+1
  | none=>k+1
theorem aI (out:List Ct) (c:Ct):∀ k,XE out c k<=k
 | 0=>Qm _
 |
  k+1=>by
  simp only [XE]
  split
  ·split
   ·exact Nat.le_succ_of_le (aI out c k)
   ·exact Qm _
  ·exact Qm _
theorem Qoe {out:List Ct} {c x:Ct} {k:Nat} (hx:out[k]? = some x) (h:uI c x=true):XE out c (k+1)=XE out c k:=by
 simp only [XE,hx,h,if_true]
theorem Qig {out:List Ct} {c x:Ct} {k:Nat} (hx:out[k]? = some x) (h:uI c x=false):XE out c (k+1)=k+1:=by
 simp [XE,hx,h]
def KJ (out:List Ct) (c:Ct):List Ct:=out.take (XE out c out.length)++c::out.drop (XE out c out.length)
theorem Qgz (out:List Ct) (c:Ct):(KJ out c).length=out.length+1:=by
 have:=aI out c out.length;simp [KJ]; omega
theorem Qg0 {out:List Ct} {c x:Ct} (h:x∈KJ out c):x=c\/x∈out:=by
 simp only [KJ,Qr,Ql] at h;rcases h with h | h | h
 ·exact .inr (Qo h)
 ·exact .inl h
 ·exact .inr (Qz h)
def Fg (l:List Ct):List Ct:=l.foldl KJ []
theorem bO (l:List Ct) (c:Ct):Fg (l++[c])=KJ (Fg l) c:=by simp [Fg,Vr]
theorem cQ {l:List Ct} {i:Nat} {c:Ct} (h:l[i]? = some c):Fg (l.take (i+1))=KJ (Fg (l.take i)) c:=by
 rw [Zw,h]; exact bO _ _
theorem IN:∀ (l acc:List Ct),(l.foldl KJ acc).length=acc.length+l.length
 | [],acc=>by simp
 | c::l,acc=>by simp only [Z8]; rw [IN l (KJ acc c),Qgz]; simp; omega
theorem Mh (l:List Ct):(Fg l).length=l.length:=by unfold Fg; rw [IN]; simp
theorem IB:∀ (l acc:List Ct) {x:Ct},x∈l.foldl KJ acc->x∈l\/x∈acc
 | [],acc,x,h=>.inr h
 |
  c::l,acc,x,h=>by
  simp only [Z8] at h;rcases IB l _ h with h | h
  ·exact .inl (Qg _ h)
  ·rcases Qg0 h with rfl | h
   ·exact .inl (Qy ..)
   ·exact .inr h
theorem Rr {l:List Ct} {x:Ct} (h:x∈Fg l):x∈l:=by
 rcases IB l [] h with h | h
 ·exact h
 ·cases h
theorem uB {α:Type} (l:List α) (z x:α) {k m':Nat} (hk:k<=l.length) (hm:m'=l.length-k) :
 ((l++[z]).take (k+1)++((l++[z]).drop k).take m'++(l++[z]).drop (k+1+m')).set k x=l.take k++x::l.drop k:=by
 subst hm;have e1:((l++[z]).drop k).take (l.length-k)=l.drop k:=by
  rw [Wg hk,Vq (by simp),Qn (by simp)]
 have e2:(l++[z]).drop (k+1+(l.length-k))=[]:=Yt (by simp; omega);rw [e1,e2,Zx];have e3:(l++[z]).take (k+1)=(l++[z]).take k++[(l++[z])[k]'(by simp; omega)]:=by rw [List.take_succ_eq_append_getElem]
 rw [e3,Vq hk,Zc,List.set_append,if_neg (by simp; omega)];simp [Zz hk]
def Al (a b:Pt):Uk:=Lh (Gd a.c b.c) (Gb a.c b.c)
def Ai (a b:Pt):Uk:=Lh (Gb b.c a.c) (Gd b.c a.c)
def QP (sg:Uk->Int) (a b:Pt):Ct:={ kind:=1,i0:=a.id,i1:=b.id,i2:=0,i3:=0,p:=Al a b,want:=Hd sg (Al a b) }
def Di (sg:Uk->Int) (a b:Pt):Ct:={ kind:=2,i0:=a.id,i1:=b.id,i2:=0,i3:=0,p:=Ai a b,want:=Hd sg (Ai a b) }
end Orr
namespace Orr
open Go Go.Proofs Tryz
set_option maxRecDepth 10000
abbrev pr (p:Uk):TV:=.one (pl p)
theorem Pa {p:Uk} {i:Nat} {z:Int} (h:p[i]? = some z):(p.map He)[i]? = some (He z):=Gn h
theorem NP (p:Uk):Uh 112 [pr p] [pr (trim p)]:=by
 refine Ft func112 rfl (ln 0 rfl rfl λhl=>?_);rw [Q7] at hl;refine Ub [] rfl ?_;refine lp (S:=Nat) 0 (λL1 n=>(3,.v (.oi n))::L1) (λ_=>[]) id (λn=>n<=p.length/\∀ j x,n<=j->p[j]? = some x->x=0) (p.map He).length ⟨by simp,λj x h1 h2=>by
  have:=(Qf.1 h2).1; simp at h1; omega⟩ rfl (λ_ _=>rfl) rfl λn ⟨h1,h2⟩=>?_
 cases n with
 | zero=>exact Ud [.f (by simp),.f rfl,.i 0] rfl (by rw [tZ h1 h2 (λh=>by omega)]; simp [pl]) (by simp [Uw])
 |
  succ n =>
  obtain ⟨x,hx⟩:=gxE (l:=p) (i:=n) (by omega);by_cases h0:x=0
  ·refine Uc [.t (by simp),.r 11 (v:=.oi n) (by simp),.x (Pa hx),.k Lf,.t (by simp [h0]),.r 17 (v:=.oi n) (by simp)] rfl ?_;exact rd n (by simp) ⟨by omega,λj y h3 h4=>by
    rcases Vl h3 with rfl | h3
    ·rw [hx] at h4; injection h4 with h4; rw [<-h4,h0]
    ·exact h2 j y h3 h4⟩ rfl
  ·exact Ud [.t (by simp),.r 11 (v:=.oi n) (by simp),.x (Pa hx),.k Lf,.f (by simp [h0]),.i (n+1)] rfl (by rw [tZ h1 h2 (λ_=>⟨x,hx,h0⟩)]; simp [pl,Jt]) (by simp [Uw] <;> omega)
theorem dB (p:Uk) (k:Nat):Uh 220 [pr p,.oi k] [.agg (He (p.getD k 0))]:=by
 by_cases h:k<p.length
 ·have hx:=Qe h;have e:p.getD k 0=p[k]:=by simp [List.getD,hx]
  rw [e];exact Ue func220 rfl [.t (by simp; omega),.x (Pa hx)] rfl
 ·have e:p.getD k 0=0:=by simp [List.getD,Qw (J6 h)]
  rw [e,D4];exact Ue func220 rfl [.f (by simp; omega)] rfl
def EW (f:Nat->Up) (z:Up) (n k:Nat):Uq:=(List.range n).map λi=>if i<k then f i else z
theorem A8 (f:Nat->Up) (z:Up) (n k:Nat):(EW f z n k).length=n:=by simp [EW]
theorem E8 (f:Nat->Up) (z:Up) (n:Nat):List.replicate n z=EW f z n 0:=by
 refine Xj λi=>?_
 simp only [EW,Jw,Zd];by_cases h:i<n
 ·simp [h]
 ·simp [h]
theorem QW (f:Nat->Up) (z:Up) (n:Nat):EW f z n n=(List.range n).map f:=by
 refine Xp λi hi=>?_
 rw [if_pos (Kh.1 hi)]
theorem QU (f:Nat->Up) (z:Up) {n k:Nat} (h:k<n):(EW f z n k).set k (f k)=EW f z n (k+1):=by
 refine Xj λi=>?_
 rw [Yk];simp only [EW,Zd,Q7,List.length_range,h,if_true];by_cases e:k=i
 ·subst e; simp [h]
 ·simp only [e,if_false];by_cases hi:i<n
  ·simp only [Xz hi,Yj];congr 1;by_cases h2:i<k
   ·rw [if_pos h2,if_pos (by omega)]
   ·rw [if_neg h2,if_neg (by omega)]
  ·simp [Qw,hi]
theorem zC {n fid:Nat} {l1 l2:Up} {g:Nat->Int} (hn:n<274877906944) (h:∀ k,k<n->EF prog fid [.oi k,.one (.sh l1),.one (.sh l2)] [.agg (He (g k))]):Uh 79 [.oi n,.one (.fn fid [] [.sh l1,.sh l2])] [pr (Au n g)]:=by
 refine Ft func79 rfl ?_;refine Uc [.i n,.i n,.r 10 (eI (b:=(n:Int)) (by simp))] rfl ?_;rw [E8 λk=>He (g k)];refine Ug (S:=Nat) 1 (λL1 k=>(11,.v (.oi k))::L1) (λk=>[.row false 34 2 (EW (λk=>He (g k)) [.bool false,.nils] n k)]) (λk=>n-k) (λk=>k<=n) 0 (Qh _) rfl rfl λk hk=>?_
 by_cases hlt:k<n
 ·refine go tt [.t (by simp; omega),.k (h k hlt),.i k] rfl (by simp [Uw,A8]; omega) ?_;have e:=QU (λk=>He (g k)) [.bool false,.nils] hlt;rw [e];exact rd (k+1) (by omega) hlt rfl
 ·obtain rfl:k=n:=by omega
  have e:EW (λk=>He (g k)) [.bool false,.nils] k k=((List.range k).map g).map He:=by rw [QW]; simp
  rw [e];exact Ud [.f (by simp),.k (NP _)] rfl
theorem dN {n fid:Nat} {l1:Up} {g:Nat->Int} (hn:n<274877906944) (h:∀ k,k<n->EF prog fid [.oi k,.one (.sh l1)] [.agg (He (g k))]):Uh 79 [.oi n,.one (.fn fid [] [.sh l1])] [pr (Au n g)]:=by
 refine Ft func79 rfl ?_;refine Uc [.i n,.i n,.r 10 (eI (b:=(n:Int)) (by simp))] rfl ?_;rw [E8 λk=>He (g k)];refine Ug (S:=Nat) 1 (λL1 k=>(11,.v (.oi k))::L1) (λk=>[.row false 34 2 (EW (λk=>He (g k)) [.bool false,.nils] n k)]) (λk=>n-k) (λk=>k<=n) 0 (Qh _) rfl rfl λk hk=>?_
 by_cases hlt:k<n
 ·refine go tt [.t (by simp; omega),.k (h k hlt),.i k] rfl (by simp [Uw,A8]; omega) ?_;have e:=QU (λk=>He (g k)) [.bool false,.nils] hlt;rw [e];exact rd (k+1) (by omega) hlt rfl
 ·obtain rfl:k=n:=by omega
  have e:EW (λk=>He (g k)) [.bool false,.nils] k k=((List.range k).map g).map He:=by rw [QW]; simp
  rw [e];exact Ud [.f (by simp),.k (NP _)] rfl
theorem Qrz {p q:Uk} (k:Nat) (hp:Bd 4294967295 p) (hq:Bd 4294967295 q):Uh 218 [.oi k,.one (.sh [pl p]),.one (.sh [pl q])] [.agg (He (p.getD k 0+q.getD k 0))] :=
 Ue func218 rfl [.k (dB p k),.k (dB q k),.k (VD (Uy _) (Uy _) (Fj hp k) (Fj hq k))] rfl
theorem Qsj {p q:Uk} (k:Nat) (hp:Bd 4294967295 p) (hq:Bd 4294967295 q):Uh 245 [.oi k,.one (.sh [pl p]),.one (.sh [pl q])] [.agg (He (p.getD k 0-q.getD k 0))] :=
 Ue func245 rfl [.k (dB p k),.k (dB q k),.k (Qei (Uy _) (Uy _) (Fj hp k) (Fj hq k))] rfl
theorem H7 {p:Uk} {k:Nat} (h:k<p.length):p[k]? = some (p.getD k 0):=by simp [List.getD,Qe h]
theorem Qd9 {p:Uk} {c:Int} {k:Nat} (hk:k<p.length) (hp:Bd 4294967295 p) (hc:Fa c<=4294967295):Uh 80 [.oi k,.one (.sh [pl p]),.one (.sh (He c))] [.agg (He (p.getD k 0*c))] :=
 Ue func80 rfl [.x (Pa (H7 hk)),.k (Nk (Uy _) (Uy _) (Fj hp k) hc)] rfl
theorem Qsc {p:Uk} {k:Nat} (hk:k<p.length) (hp:Bd 4294967295 p):Uh 295 [.oi k,.one (.sh [pl p])] [.agg (He (-(p.getD k 0)))] :=
 Ue func295 rfl [.x (Pa (H7 hk)),.k (NF (Uy _) (Fj hp k))] rfl
theorem Qae {p:Uk} {k:Nat} (hk:k+1<p.length) (hl:p.length<274877906944) (hp:Bd 4294967295 p):Uh 271 [.oi k,.one (.sh [pl p])] [.agg (He (p.getD (k+1) 0*((k+1:Nat):Int)))] :=
 Ue func271 rfl [.x (Pa (H7 hk)),.r 10 (eI (b:=((k+1:Nat):Int)) (by omega)),.k (zF (by omega)),.k (Nk (Uy _) (Uy _) (Fj hp _) (Qbm (show k+1<274877906944 by omega)))] rfl rfl (by simp [Uw] <;> omega)
theorem zG {p q:Uk} (hlp:p.length<274877906944) (hlq:q.length<274877906944) (hp:Bd 4294967295 p) (hq:Bd 4294967295 q):Uh 176 [pr p,pr q] [pr (ZU p q)] :=
 Ue func176 rfl [.r 9 (eI (b:=((max p.length q.length:Nat):Int)) (by simp; omega)),.k (zC (by omega) λk _=>Qrz k hp hq)] rfl
theorem GM {p q:Uk} (hlp:p.length<274877906944) (hlq:q.length<274877906944) (hp:Bd 4294967295 p) (hq:Bd 4294967295 q):Uh 205 [pr p,pr q] [pr (Mq p q)] :=
 Ue func205 rfl [.r 9 (eI (b:=((max p.length q.length:Nat):Int)) (by simp; omega)),.k (zC (by omega) λk _=>Qsj k hp hq)] rfl
theorem Qd0 {p:Uk} (hlp:p.length<274877906944) (hp:Bd 4294967295 p):Uh 274 [pr p] [pr (Me p)] :=
 Ue func274 rfl [.r 4 (eI (b:=(p.length:Int)) (by simp)),.k (dN hlp λk hk=>Qsc hk hp)] rfl
theorem Mr {p:Uk} {c:Int} (hlp:p.length<274877906944) (hp:Bd 4294967295 p) (hc:Fa c<=4294967295):Uh 36 [pr p,.agg (He c)] [pr (Fo p c)] :=
 Ue func36 rfl [.r 6 (eI (b:=(p.length:Int)) (by simp)),.k (zC hlp λk hk=>Qd9 hk hp hc)] rfl
theorem Iv {p:Uk} (hlp:p.length<274877906944) (hp:Bd 4294967295 p):Uh 242 [pr p] [pr (Gp p)] :=
 Ue func242 rfl [.r 6 (eI (b:=((p.length-1:Nat):Int)) (by simp; omega)),.k (dN (by omega) λk hk=>Qae (by omega) hlp hp)] rfl rfl (by simp [Uw]; omega)
theorem Lz {ls:Uq} {p:Uk} (hi:IsInts ls p) (hl:p.length<274877906944) (hs:Bd 4294967295 p):Uh 138 [.one (.row ls)] [pr (trim p)]:=by
 refine Ft func138 rfl ?_;have hlen:=hi.len;refine Uc [.i ls.length,.i ls.length] rfl ?_;rw [E8 λk=>He (p.getD k 0)];refine Ug (S:=Nat) 1 (λL1 k=>(11,.v (.oi k))::L1) (λk=>[.row false 34 2 (EW (λk=>He (p.getD k 0)) [.bool false,.nils] ls.length k)]) (λk=>ls.length-k) (λk=>k<=ls.length) 0 (Qh _) rfl rfl λk hk=>?_
 by_cases hlt:k<ls.length
 ·obtain ⟨x,y,hx,hxy⟩:=hi.get (H7 (p:=p) (k:=k) (by omega));have cn:=Bu hxy (Fj hs k);obtain ⟨b,l,rfl,rfl,_⟩:=hxy;refine go tt [.t (by simp; omega),.x hx,.k cn,.i k] rfl (by simp [Uw,A8]; omega) ?_;have e:=QU (λk=>He (p.getD k 0)) [.bool false,.nils] hlt;rw [e];exact rd (k+1) (by omega) hlt rfl
 ·obtain rfl:k=ls.length:=by omega
  have e:EW (λk=>He (p.getD k 0)) [.bool false,.nils] ls.length ls.length=p.map He:=by
   rw [QW,hlen];refine Xj λi=>?_
   by_cases hi:i<p.length
   ·simp [Xz hi,List.getD,Qe hi]
   ·simp [Qw,hi]
  rw [e];exact Ud [.f (by simp),.k (NP _)] rfl
theorem Hn {p:Uk} (ht:U7 p) (hl:p.length<274877906944) (hs:Bd 4294967295 p):Uh 138 [pr p] [pr p]:=by
 have:=Lz (Gi p) hl hs;rw [ht] at this; exact this
theorem Qni {p:Uk} {i:Nat} {z:Int} (h:p[i]? = some z):(p.map λ(x:Int)=>[LV.int .i64 x])[i]? = some [.int .i64 z]:=Gn h
theorem dK {p:Uk} (hl:p.length<274877906944) (hr:∀ z∈p,-9223372036854775808≤z/\z≤9223372036854775807):Uh 71 [.one (ids p)] [pr (trim p)]:=by
 refine Ft func71 rfl ?_;refine Uc [.r 7 (eI (b:=(p.length:Int)) (by simp)),.i p.length,.i p.length,.r 10 (eI (b:=(p.length:Int)) (by simp))] rfl ?_;rw [E8 λk=>He (p.getD k 0)];refine Ug (S:=Nat) 1 (λL1 k=>(11,.v (.oi k))::L1) (λk=>[.row false 34 2 (EW (λk=>He (p.getD k 0)) [.bool false,.nils] p.length k)]) (λk=>p.length-k) (λk=>k<=p.length) 0 (Qh _) rfl rfl λk hk=>?_
 by_cases hlt:k<p.length
 ·have hg:=H7 hlt;refine go tt [.t (by simp; omega),.x (Qni hg),.k (zF (hr _ (Qa hg))),.i k] rfl (by simp [Uw,A8]; omega) ?_;have e:=QU (λk=>He (p.getD k 0)) [.bool false,.nils] hlt;rw [e];exact rd (k+1) (by omega) hlt rfl
 ·obtain rfl:k=p.length:=by omega
  have e:EW (λk=>He (p.getD k 0)) [.bool false,.nils] p.length p.length=p.map He:=by
   rw [QW];refine Xj λi=>?_
   by_cases hi:i<p.length
   ·simp [Xz hi,List.getD,Qe hi]
   ·simp [Qw,hi]
  rw [e];exact Ud [.f (by simp),.k (NP _)] rfl
theorem nH (l:Uk) (i:Nat) (z:Int):(l.map He).set i (He z)=(l.set i z).map He:=by rw [Vu]
theorem MG (m:Nat):((List.replicate m [LV.bool false,LV.nils]).map λc=>c.map UC)=(List.replicate m (0:Int)).map He:=by
 simp [D4,UC]
theorem zH {p0 q:Uk} {s t:Nat} (tq:U7 q) (hlp:p0.length<137438953472) (hlq:q.length<137438953472) (hp:Bd s p0) (hq:Bd t q) (hst:s+t<=4294967000):Uh 177 [pr p0,pr q] [pr (Gh (trim p0) q)]:=by
 have cp:=Lz (Gi p0) (by omega) (Ux hp (show s<=4294967295 by omega));have hp:=Sp hp;have hlp:=Z3 (Rm p0) hlp;obtain ⟨p,ep⟩:=nmE (trim p0);rw [<-ep] at cp hp hlp ⊢;have cq:=Hn tq (by omega) (Ux hq (show t<=4294967295 by omega));by_cases h0:p.length=0
 ·have e:Gh p q=[]:=by unfold Gh; rw [if_pos (.inl h0)]
  rw [e];exact Ue func177 rfl [.k cp,.k cq,.t (by simp; exact Qj h0),.t rfl] rfl
 by_cases h1:q.length=0
 ·have e:Gh p q=[]:=by unfold Gh; rw [if_pos (.inr h1)]
  rw [e];exact Ue func177 rfl [.k cp,.k cq,.f (by simp; intro h; subst h; simp at h0),.t (by simp; exact Qj h1)] rfl
 refine Ft func177 rfl ?_;have e:Gh p q=trim (Ak p q (List.replicate (p.length+q.length-1) 0) p.length):=by unfold Gh; rw [if_neg (by omega)]
 rw [e];obtain ⟨N,hN⟩:=nmE (p.length+q.length-1);rw [<-hN];obtain ⟨o,ho⟩:=nmE (List.replicate N (0:Int));rw [<-ho];have hol:o.length=N:=by rw [ho]; simp
 have ho0:∀ m,o.getD m 0=0:=λm=>by rw [ho]; exact B6 N m
 refine Uc [.k cp,.k cq,.f (by simp; intro h; subst h; simp at h0),.f (by simp; intro h; subst h; simp at h1),.r 27 (eI (b:=(N:Int)) (by simp; omega)),.i N,.i N] rfl ?_;refine nl 0 rfl rfl rfl ?_;rw [MG,<-ho];refine Ug (S:=Nat) 1 (λL1 i=>(31,.v (.oi i))::L1) (λi=>[.row false 34 2 ((Ak p q o i).map He)]) (λi=>p.length-i) (λi=>i<=p.length) 0 (Qh _) rfl rfl λi hi=>?_
 by_cases hlt:i<p.length
 ·refine Ub [.t (by simp; omega),.x (Pa (H7 hlt))] rfl ?_;refine Ug (S:=Nat) 2 (λL1 k=>(38,.v (.oi k))::L1) (λk=>[.row false 34 2 ((Oa (p.getD i 0) q i (Ak p q o i) k).map He),.blk 34 (He (p.getD i 0))]) (λk=>q.length-k) (λk=>k<=q.length) 0 (Qh _) rfl rfl λk hk=>?_
  by_cases hk2:k<q.length
  ·have hm1:Fa ((Oa (p.getD i 0) q i (Ak p q o i) k).getD (i+k) 0)<=4294967295:=Qc (Ik (t:=39) (jK (by rw [Dz]; omega) (jV (λj hj=>by omega) ho0 (λi j=>M4 (Fj hp i) (Fj hq j))) (λj=>M4 (Fj hp i) (Fj hq j)) (i+k)) (Kf (show i+1<549755813888 by omega) (by decide))) (by omega);have hm2:Fa (p.getD i 0*q.getD k 0)<=4294967295:=Qc (Ge _ _) (by have:=Fj hp i; have:=Fj hq k; omega);have hg:(Oa (p.getD i 0) q i (Ak p q o i) k)[i+k]? = some ((Oa (p.getD i 0) q i (Ak p q o i) k).getD (i+k) 0):=H7 (by rw [Ob,Dz]; omega);refine go tt [.t (by simp; omega),.x (Pa (H7 hk2)),.i (i+k),.x (Pa hg),.k (Nk (Uy _) (Uy _) (Qc (Fj hp i) (by omega)) (Qc (Fj hq k) (by omega))),.k (VD (Uy _) (Uy _) hm1 hm2),.i (i+k)] rfl (by simp [Uw,Ob,Dz] <;> omega) ?_;rw [nH];exact rd (k+1) (by omega) hk2 rfl
  ·obtain rfl:k=q.length:=by omega
   exact go tt [.f (by simp)] rfl (by simp [Uw]; omega) (rd (i+1) (by omega) hlt rfl)
 ·obtain rfl:i=p.length:=by omega
  exact Ud [.f (by simp),.k (NP _)] rfl
theorem GP {p q:Uk} {s t:Nat} (tp:U7 p) (tq:U7 q) (hlp:p.length<137438953472) (hlq:q.length<137438953472) (hp:Bd s p) (hq:Bd t q) (hst:s+t<=4294967000):Uh 177 [pr p,pr q] [pr (Gh p q)]:=by
 have h:=zH tq hlp hlq hp hq hst;rw [show trim p=p from tp] at h;exact h
theorem PH {p q:Uk} (hlp:p.length<274877906944) (hlq:q.length<274877906944) (hp:Bd 4294967295 p) (hq:Bd 4294967295 q):Uh 107 [pr p,pr q] [.one (.bool (decide (trim p=trim q)))]:=by
 refine Ft func107 rfl ?_;have cp:=Lz (Gi p) hlp hp;have cq:=Lz (Gi q) hlq hq;have bp:=Sp hp;have bq:=Sp hq;have l1:=Rm p;have l2:=Rm q;obtain ⟨a,ha⟩:=nmE (trim p);obtain ⟨b,hb⟩:=nmE (trim q);rw [<-ha] at cp bp l1 ⊢;rw [<-hb] at cq bq l2 ⊢;by_cases hl:a.length=b.length
 ·refine Ub [.k cp,.k cq,.f (by simp; omega)] rfl ?_;refine Ug (S:=Nat) 0 (λL1 i=>(18,.v (.oi i))::L1) (λ_=>[]) (λi=>a.length-i) (λi=>i<=a.length/\a.take i=b.take i) 0 ⟨Qh _,rfl⟩ rfl rfl λi ⟨hi,he⟩=>?_
  by_cases hlt:i<a.length
  ·have ga:=H7 hlt;have gb:=H7 (p:=b) (k:=i) (by omega);have cc:=GB (Uy (a.getD i 0)) (Uy (b.getD i 0)) (Fj bp i) (Fj bq i);by_cases hz:a.getD i 0=b.getD i 0
   ·refine Uc [.t (by simp; omega),.x (Pa ga),.x (Pa gb),.k cc,.f (by simpa using zA.2 hz)] rfl ?_;exact rd (i+1) (by omega) ⟨hlt,by rw [Y5,Y5,he,ga,gb,hz]⟩ rfl
   ·exact Ud [.t (by simp; omega),.x (Pa ga),.x (Pa gb),.k cc,.t (by have:=mt zA.1 hz; simpa using this)] rfl (by rw [decide_eq_false]; intro h; exact hz (by rw [h])) trivial
  ·obtain rfl:i=a.length:=by omega
   rw [Q5,hl,Q5] at he;exact Ud [.f (by simp)] rfl (by rw [decide_eq_true he]) trivial
 ·exact Ud [.k cp,.k cq,.t (by simp; omega)] rfl (by rw [decide_eq_false]; intro h; exact hl (by rw [h])) trivial
theorem Qd3 {p:Uk} {n d:Int} {s t:Nat} (hl:p.length<274877906944) (hp:Bd s p) (hn:Fa n<=t) (hd:Fa d<=t) (hst:s+p.length*(t+1)+2*t+10<=4294967295):Uh 264 [pr p,.agg (He n),.agg (He d)] [.agg (He (Qup p n d))]:=by
 refine Ft func264 rfl ?_;refine Uc [.k (zF (z:=1) (by decide)),.r 13 (eI (b:=(p.length:Int)-1-((0:Nat):Int)) (by simp))] rfl ?_;refine nlb 3 rfl rfl rfl ?_;have e0:[LV.bool false,LV.nils].map UC=He (Lp p n d 0).1:=by simp [UC,Lp,D4]
 rw [e0];refine Ug (S:=Nat) 5 (λL1 j=>(9,.v (.oi ((p.length:Int)-1-(j:Int))))::L1) (λj=>[.blk 34 (He n),.blk 34 (He d),.blk 34 [.bool false,.nils],.blk 34 (He (Lp p n d j).1),.blk 34 (He (Lp p n d j).2)]) (λj=>p.length-j) (λj=>j<=p.length) 0 (Qh _) rfl rfl λj hj=>?_
 have hv:=oY (k:=j) hp hn hd;have hjl:j*(t+1)<=p.length*(t+1):=Q0 _ (by omega);have hjl2:j*t<=j*(t+1):=Zt _ (by omega);by_cases hlt:j<p.length
 ·have hc:=Fj hp (p.length-1-j);have hm1:Fa ((Lp p n d j).1*n)<=4294967295:=Qc (Ge _ _) (by omega);have hm2:Fa (p.getD (p.length-1-j) 0*(Lp p n d j).2)<=4294967295:=Qc (Ge _ _) (by omega);refine go tt [.t (by simp; omega),.k (Nk (Uy _) (Uy _) (by omega) (by omega)),.r 22 (eI (b:=((p.length-1-j:Nat):Int)) (by omega)),.x (Pa (H7 (p:=p) (k:=p.length-1-j) (by omega))),.k (Nk (Uy _) (Uy _) (by omega) (by omega)),.k (VD (Uy _) (Uy _) hm1 hm2),.k (Nk (Uy _) (Uy _) (by omega) (by omega)),.r 17 (eI (b:=(p.length:Int)-1-((j+1:Nat):Int)) (by omega))] rfl (by simp [Uw] <;> omega) ?_;exact rd (j+1) (by omega) hlt rfl
 ·obtain rfl:j=p.length:=by omega
  exact Ud [.f (by simp; omega)] rfl
theorem Db {p:Uk} (tp:U7 p) (hl:p.length<274877906944) (hp:Bd 4294967295 p):Uh 290 [pr p] [.agg (He (p.getD (p.length-1) 0))]:=by
 have cn:=Hn tp hl hp;by_cases h0:p=[]
 ·subst h0;exact Ue func290 rfl [.k cn,.t (by simp)] rfl (by simp [D4]) trivial
 ·have hpl:0<p.length:=J0.2 h0;exact Ue func290 rfl [.k cn,.f (by simpa using h0),.r 12 (eI (b:=((p.length-1:Nat):Int)) (by simp; omega)),.x (Pa (H7 (by omega)))] rfl rfl (by simp [Uw]; omega)
theorem Qra {a b:Int} {q:Rat} (h1:a=q.num) (h2:b=(q.den:Int)):[sg a,mg a,sg b,mg b]=rl q:=by rw [h1,h2]
theorem ZP {n d:Int} (h0:d≠0) (hn:Fa n<=4294967295) (hd:Fa d<=4294967295):Uh 145 [.agg (He n),.agg (He d)] [.agg (rl (Rat.divInt n d))]:=by
 have cg:=Qdp (Gi [n,d]) (λz hz=>by simp at hz; rcases hz with rfl | rfl <;> assumption);have gp:=uF (n:=n) h0;have gs:=eG (n:=n) h0 hd;have m1:=CJ n d;have m2:=CY n d;obtain ⟨g,hg⟩:=nmE (((Ro [n,d]:Nat):Int));rw [<-hg] at cg gp gs m1 m2;by_cases hneg:d<0
 ·obtain ⟨e1,e2⟩:=Qnt (n:=n) hneg;rw [<-hg] at e1 e2;rw [<-Qra e1 e2];exact Ue func145 rfl [.k cg,.t (by simpa using hneg),.k (NF (Uy n) hn),.k (NF (Uy d) hd),.k (Ax (Uy _) (Uy _) (by rw [Hq]; exact hn) gs (by omega) (aH m1)),.k (Ax (Uy _) (Uy _) (by rw [Hq]; exact hd) gs (by omega) (aH m2))] rfl
 ·obtain ⟨e1,e2⟩:=aJ (n:=n) (d:=d) (by omega);rw [<-hg] at e1 e2;rw [<-Qra e1 e2];exact Ue func145 rfl [.k cg,.f (by simpa using hneg),.k (Ax (Uy _) (Uy _) hn gs (by omega) m1),.k (Ax (Uy _) (Uy _) hd gs (by omega) m2)] rfl
theorem PS {x y x' y':LV} {n d:Int} (h1:Gv x y n) (h2:Gv x' y' d) (hn:Fa n<=4294967295) (hd:Fa d<=4294967295):Uh 99 [.agg [x,y,x',y']] [.agg (rl (Gx n d))]:=by
 have c1:=Bu h1 hn;have c2:=Bu h2 hd;obtain ⟨b,l,rfl,rfl,_⟩:=h1;obtain ⟨b',l',rfl,rfl,_⟩:=h2;by_cases h0:d=0
 ·have e:Gx n d=Rat.divInt n 1:=by unfold Gx; rw [if_pos h0]
  rw [e];exact Ue func99 rfl [.k c2,.k Lf,.t (by simpa using h0),.k (zF (z:=1) (by decide)),.k c1,.k (ZP (by decide) hn (by decide))] rfl
 ·have e:Gx n d=Rat.divInt n d:=by unfold Gx; rw [if_neg h0]
  rw [e];exact Ue func99 rfl [.k c2,.k Lf,.f (by simpa using h0),.k c1,.k (ZP h0 hn hd)] rfl
theorem ND {q:Rat} (hq:Qs 4294967295 q):Uh 99 [.agg (rl q)] [.agg (rl q)]:=by
 have:=PS (Uy q.num) (Uy (q.den:Int)) hq.1 hq.2;rwa [Pe] at this
theorem Qsw {n:Int} (hn:Fa n<=4294967295):Uh 86 [.agg (He n)] [.agg (rl (n:Rat))] :=
 Ue func86 rfl [.k (Bu (Uy n) hn),.k (zF (z:=1) (by decide))] rfl (by simp [rl]) trivial
theorem zN {a b:Rat} (ha:Qs 2147483647 a) (hb:Qs 2147483647 b):Uh 100 [.agg (rl a),.agg (rl b)] [.agg (He (a.num*(b.den:Int))),.agg (He (b.num*(a.den:Int))),.agg (He ((a.den:Int)*(b.den:Int)))] :=
 Ue func100 rfl [.k (ND (ha.mono (by decide))),.k (ND (hb.mono (by decide))),.k (Nk (Uy _) (Uy _) (Qc ha.1 (by decide)) (Qc hb.2 (by decide))),.k (Nk (Uy _) (Uy _) (Qc hb.1 (by decide)) (Qc ha.2 (by decide))),.k (Nk (Uy _) (Uy _) (Qc ha.2 (by decide)) (Qc hb.2 (by decide)))] rfl
theorem Bv {a b:Rat} (ha:Qs 2147483647 a) (hb:Qs 2147483647 b):Uh 51 [.agg (rl a),.agg (rl b)] [.oi (G7 a b)] :=
 Ue func51 rfl [.k (zN ha hb),.k (GB (Uy _) (Uy _) (Qc (Ge _ _) (by have:=ha.1; have:=hb.2; omega)) (Qc (Ge _ _) (by have:=hb.1; have:=ha.2; omega)))] rfl
theorem NC {x y x' y':LV} {n d:Int} (h1:Gv x y n) (h2:Gv x' y' d) (hn:Fa n<=4294967295) (hd:Fa d<=4294967295):Uh 50 [.agg [x,y,x',y'],.one (.row [])] [.agg (rl (Gx n d))]:=by
 have c1:=PS h1 h2 hn hd;obtain ⟨b,l,rfl,rfl,_⟩:=h1;obtain ⟨b',l',rfl,rfl,_⟩:=h2;refine Ft func50 rfl ?_;refine Ub [.k c1] rfl ?_;refine Ug (S:=Unit) 3 (λL1 _=>(12,.v (.oi 0))::L1) (λ_=>[.blk 40 [.bool b,.row (lm l),.bool b',.row (lm l')],.blk 40 [.bool false,.nils,.bool false,.nils],.blk 40 (rl (Gx n d))]) (λ_=>0) (λ_=>True) () trivial rfl rfl λ_ _=>?_
 exact Ud [.f (by simp)] rfl
theorem Bw {q:Rat} (hq:Qs 4294967295 q):Uh 50 [.agg (rl q),.one (.row [])] [.agg (rl q)]:=by
 have:=NC (Uy q.num) (Uy (q.den:Int)) hq.1 hq.2;rwa [Pe] at this
theorem Qml {q:Rat} (hq:Qs 4294967295 q):Uh 263 [.agg (rl q)] [.agg (rl q)]:=Ue func263 rfl [.k (Bw hq)] rfl
theorem dW {p:Uk} {q:Rat} {s t:Nat} (tp:U7 p) (hl:p.length<274877906944) (hp:Bd s p) (hq:Qs t q) (hst:s+p.length*(t+1)+2*t+10<=4294967295):Uh 231 [pr p,.agg (rl q)] [.oi (Hz p q)]:=by
 have cc:=GB (Uy (Qup p q.num q.den)) QF (Qc (oY hp hq.1 hq.2).1 (by omega)) (by decide);exact Ue func231 rfl [.k (Qml (hq.mono (by omega))),.k (Hn tp hl (Ux hp (by omega))),.k (Qd3 hl hp hq.1 hq.2 hst),.k cc] rfl
theorem Qer {p:Uk} {g:Int} (hl:p.length<274877906944) (hp:Bd 4294967295 p) (hg:Fa g≤4294967295) (h0:g≠0) (hd:∀ z∈p,z % g=0):Uh 151 [pr p,.agg (He g)] [pr (trim (p.map (· / g)))]:=by
 refine Ft func151 rfl ?_;refine Uc [.r 9 (eI (b:=(p.length:Int)) (by simp)),.i p.length,.i p.length,.r 12 (eI (b:=(p.length:Int)) (by simp))] rfl ?_;rw [E8 λk=>He (p.getD k 0 / g)];refine Ug (S:=Nat) 2 (λL1 k=>(13,.v (.oi k))::L1) (λk=>[.blk 34 (He g),.row false 34 2 (EW (λk=>He (p.getD k 0 / g)) [.bool false,.nils] p.length k)]) (λk=>p.length-k) (λk=>k<=p.length) 0 (Qh _) rfl rfl λk hk=>?_
 by_cases hlt:k<p.length
 ·have hg2:=H7 hlt;refine go tt [.t (by simp; omega),.x (Pa hg2),.k (Ax (Uy _) (Uy _) (Fj hp k) hg h0 (hd _ (Qa hg2))),.i k] rfl (by simp [Uw,A8]; omega) ?_;have e:=QU (λk=>He (p.getD k 0 / g)) [.bool false,.nils] hlt;rw [e];exact rd (k+1) (by omega) hlt rfl
 ·obtain rfl:k=p.length:=by omega
  have e:EW (λk=>He (p.getD k 0 / g)) [.bool false,.nils] p.length p.length=(p.map (· / g)).map He:=by
   rw [QW];refine Xj λi=>?_
   by_cases hi:i<p.length
   ·simp [Xz hi,List.getD,Qe hi]
   ·simp [Qw,hi]
  rw [e];exact Ud [.f (by simp),.k (Lz (Gi (p.map (· / g))) (by simp; exact hl) (GH hp g))] rfl
theorem DN (p:Uk):∀ c∈p.map He,c.length=2:=Qq4 p λ_=>rfl
theorem zM {lx ly:Uq} {px py:Uk} {x y:LV} {d:Int} (hx:IsInts lx px) (hy:IsInts ly py) (hd:Gv x y d) (hk:Cs 4294967294 1073741824 (Crv.mk px py d)):Uh 106 [.agg [.row lx,.row ly,x,y]] [.agg (cl (Crv.norm (Crv.mk px py d)))]:=by
 have hlx:=hk.lx;have hly:=hk.ly;simp only at hlx hly;have htx:=Rm px;have hty:=Rm py;have hd1:Fa (Crv.mk px py d).d'<=4294967295:=Qc (Qg6 hk.d (by omega)) (by omega);have hg1:=Crv.isz_g (Crv.mk px py d) hd1;have hg0:=Crv.g_ne (Crv.mk px py d);have hgd:=Crv.g_dvd (Crv.mk px py d);have cx:=Lz hx (by omega) (Ux hk.x (by omega));have cy:=Lz hy (by omega) (Ux hk.y (by omega));have cd:=Bu hd (Qc hk.d (by omega));have bx:Bd 4294967295 (trim px):=Ux (Sp hk.x) (by omega);have by_:Bd 4294967295 (trim py):=Ux (Sp hk.y) (by omega);obtain ⟨b,l,rfl,rfl,_⟩:=hd;obtain ⟨e,he⟩:=nmE ((Crv.mk px py d).d');obtain ⟨g,hgg⟩:=nmE ((Crv.mk px py d).g);obtain ⟨X,hX⟩:=nmE (trim px);obtain ⟨Y,hY⟩:=nmE (trim py);have hnorm:(Crv.mk px py d).norm=⟨trim (X.map (· / g)),trim (Y.map (· / g)),e / g⟩:=by rw [he,hgg,hX,hY]; rfl
 rw [hnorm];have hgdef:g=if e<0 then -((Ro (e::(X++Y)):Nat):Int) else (Ro (e::(X++Y)):Nat):=by rw [hgg,he,hX,hY]; rfl
 have hde:e=if d=0 then 1 else d:=by rw [he]; rfl
 simp only [<-he,<-hgg,<-hX,<-hY] at hd1 hg1 hg0 hgd htx hty cx cy bx by_;clear hnorm hgg he hX hY;refine Ft func106 rfl ?_;refine Ub [.k cx,.k cy,.k cd,.k Lf] rfl ?_;refine ct 1 (S:=Unit) (λ_=>[(2,.v (.one (.ow 1 0))),(3,.v (pr X)),(4,.v (pr Y)),(5,.v (.one (.ow 2 0)))]) (λ_=>[.blk 36 [.row lx,.row ly,.bool b,.row (lm l)],.blk 36 [.nils,.nils,.bool false,.nils],.blk 34 (He e)]) (λ_=>True) rfl ?_ ?_
 ·by_cases h0:d=0
  ·rw [hde,if_pos h0];exact go tt [.t (by simpa using h0),.k (zF (z:=1) (by decide))] rfl trivial (rc () trivial rfl)
  ·rw [hde,if_neg h0];exact go tt [.f (by simpa using h0)] rfl trivial (rc () trivial rfl)
 ·intro _ _;have hgi:IsInts ([He e]++X.map He++Y.map He) (e::(X++Y)):=by
   have:=Gi (e::(X++Y));simpa using this
  have hgs:∀ z∈e::(X++Y),Fa z≤4294967295:=λz hz=>by
   rcases Ql.1 hz with rfl | hz
   ·exact hd1
   ·rcases Qr.1 hz with hz | hz
    ·exact bx z hz
    ·exact by_ z hz
  have cg:=Qdp hgi hgs;have co1:=Qer (p:=X) (by omega) bx hg1 hg0 λz hz=>hgd z (Qg _ (X8 _ hz))
  have co2:=Qer (p:=Y) (by omega) by_ hg1 hg0 λz hz=>hgd z (Qg _ (Jf _ hz))
  have ce:=Ax (Uy e) (Uy g) hd1 hg1 hg0 (hgd e (Qy ..));have hszg:=MQ hgs;by_cases hneg:e<0
  ·rw [if_pos hneg] at hgdef;have cn:=NF (Uy ((Ro (e::(X++Y)):Nat):Int)) hszg;rw [<-hgdef] at cn;exact Ud [.lo,.s (DN X),.s (DN Y),.k cg,.t (by simpa using hneg),.k cn,.k ce,.k co1,.k co2] rfl rfl (by simp [Uw]; omega)
  ·rw [if_neg hneg] at hgdef;rw [<-hgdef] at cg;exact Ud [.lo,.s (DN X),.s (DN Y),.k cg,.f (by simpa using hneg),.k ce,.k co1,.k co2] rfl rfl (by simp [Uw]; omega)
theorem NT {k:Crv} (hn:ZR k) (hk:Cs 4294967294 1073741824 k):Uh 106 [.agg (cl k)] [.agg (cl k)]:=by
 have h:=zM (Gi k.x) (Gi k.y) (Uy k.d) hk;rw [Crv.norm_of hn] at h; exact h
theorem WN {lx ly:Uq} {px py:Uk} {x y:LV} {d:Int} (hx:IsInts lx px) (hy:IsInts ly py) (hd:Gv x y d) (hk:Cs 4294967294 1073741824 (Crv.mk px py d)) (h0:d≠0):Uh 117 [.one (.row lx),.one (.row ly),.agg [x,y]] [.agg (cl (Crv.norm (Crv.mk px py d))),.oi 0]:=by
 have cd:=Bu hd (Qc hk.d (by omega));have cn:=zM hx hy hd hk;obtain ⟨b,l,rfl,rfl,_⟩:=hd;exact Ue func117 rfl [.k cd,.k Lf,.f (by simpa using h0),.k cn] rfl
theorem Qqi {lx ly:Uq} {px py:Uk} (hx:IsInts lx px) (hy:IsInts ly py) (hk:Cs 4294967294 1073741824 (Crv.mk px py 0)):Uh 53 [.one (.row lx),.one (.row ly)] [.agg (cl (Crv.norm (Crv.mk px py 0)))] :=
 Ue func53 rfl [.k (zM hx hy QF hk)] rfl
def If (x y:Int):Crv:=Crv.norm ⟨trim [x],trim [y],0⟩
theorem wK {x y:Int} (hx:-9223372036854775808<=x/\x<=9223372036854775807) (hy:-9223372036854775808<=y/\y<=9223372036854775807):Cs 64 1 ⟨trim [x],trim [y],0⟩:=by
 have key:∀ z:Int,-9223372036854775808<=z/\z<=9223372036854775807->Fa z<=64:=λz hz=>by
  rw [Tz];have:(2:Nat)^64=18446744073709551616:=by decide
  omega
 refine ⟨Sp λz hz=>?_,Sp λz hz=>?_,Qh _,Rm [x],Rm [y]⟩
 ·rw [Qk] at hz; rw [hz]; exact key x hx
 ·rw [Qk] at hz; rw [hz]; exact key y hy
theorem dH {x y:Int} (hx:-9223372036854775808<=x/\x<=9223372036854775807) (hy:-9223372036854775808<=y/\y<=9223372036854775807):Uh 28 [.oi x,.oi y] [.agg (cl (If x y))] :=
 Ue func28 rfl [.k (dK (p:=[x]) (show 1<274877906944 by decide) (by intro z hz; rw [Qk] at hz; rw [hz]; exact hx)),.k (dK (p:=[y]) (show 1<274877906944 by decide) (by intro z hz; rw [Qk] at hz; rw [hz]; exact hy)),.k (Qqi (Gi _) (Gi _) ((wK hx hy).mono (by omega) (by omega)))] rfl
theorem dS {a b:Crv} (ha:ZR a) (hb:ZR b) (ca:Cs 4294967294 1073741824 a) (cb:Cs 4294967294 1073741824 b):Uh 60 [.agg (cl a),.agg (cl b)] [.one (.bool (Lr a b))]:=by
 have na:=NT ha ca;have nb:=NT hb cb;have alx:=ca.lx;have aly:=ca.ly;have blx:=cb.lx;have bly:=cb.ly;have sx:=PH (p:=a.x) (q:=b.x) (by omega) (by omega) (Ux ca.x (by omega)) (Ux cb.x (by omega));have sy:=PH (p:=a.y) (q:=b.y) (by omega) (by omega) (Ux ca.y (by omega)) (Ux cb.y (by omega));have sd:=GB (Uy a.d) (Uy b.d) (Qc ca.d (by omega)) (Qc cb.d (by omega));rw [ha.1,hb.1] at sx;rw [ha.2.1,hb.2.1] at sy;by_cases h1:a.x=b.x
 ·by_cases h2:a.y=b.y
  ·exact Ue func60 rfl [.k na,.k nb,.k sx,.t (by simpa using h1),.k sy,.t (by simpa using h2),.k sd] rfl (by simp [Lr,h1,h2,zA]) trivial
  ·exact Ue func60 rfl [.k na,.k nb,.k sx,.t (by simpa using h1),.k sy,.f (by simpa using h2)] rfl (by simp [Lr,h1,h2]) trivial
 ·exact Ue func60 rfl [.k na,.k nb,.k sx,.f (by simpa using h1),.f rfl] rfl (by simp [Lr,h1]) trivial
end Orr
