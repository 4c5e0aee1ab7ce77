/- Ntt L1 L2 L3 L4 L5 M1 P2 M2 DigL R1 R3 PolyL RatL R2 -/
import Derived.Test.YthgaepodbpcjdaaGreatPart03
import Derived.Laws.StructEq
import Derived.Test.YthgaepodbpcjdaaGreatProg
import Derived.Test.YthgaepodbpcjdaaGreatPart00
set_option linter.all false
namespace Orr
open Go Go.Proofs Tryz
theorem aJ (d:Nat) (x y:Int) (w:World):(Op.equalIn (d+1) 3 (.int .i64 x) (.int .i64 y)).run prog w=.ok (decide (x=y)) w:=by
 simp [Op.equalIn,runUnderlying3];rfl
noncomputable def ti3:TI prog:=O9 3 isAgg3 sizeOf3 underlying3 zeroValue3 typeInfo3 8 rfl
noncomputable def ti4:TI prog:=O9 4 isAgg4 sizeOf4 underlying4 zeroValue4 typeInfo4 1 rfl
noncomputable def ti5:TI prog:=O9 5 isAgg5 sizeOf5 underlying5 zeroValue5 typeInfo5 1 rfl
noncomputable def ti9:TI prog:=O9 9 isAgg9 sizeOf9 underlying9 zeroValue9 typeInfo9 16 rfl
noncomputable def ti22:TI prog:=O9 22 isAgg22 sizeOf22 underlying22 zeroValue22 typeInfo22 8 rfl
noncomputable def ti23:TI prog:=O9 23 isAgg23 sizeOf23 underlying23 zeroValue23 typeInfo23 8 rfl
noncomputable def ti27:TI prog:=O9 27 isAgg27 sizeOf27 underlying27 zeroValue27 typeInfo27 24 rfl
noncomputable def ti28:TI prog:=O9 28 isAgg28 sizeOf28 underlying28 zeroValue28 typeInfo28 24 rfl
noncomputable def ti30:TI prog:=GL (ks:=[1,1,1,1,1]) (ag:=[false,false,false,false,false]) 30 isAgg30 sizeOf30 underlying30 zeroValue30 typeInfo30 120 rfl ⟨sizeOf27,sizeOf27,sizeOf27,sizeOf27,sizeOf28,trivial⟩ ⟨isAgg27,isAgg27,isAgg27,isAgg27,isAgg28,trivial⟩ rfl
noncomputable def ti32:TI prog:=O9 32 isAgg32 sizeOf32 underlying32 zeroValue32 typeInfo32 24 rfl
noncomputable def ti33:TI prog:=O9 33 isAgg33 sizeOf33 underlying33 zeroValue33 typeInfo33 24 rfl
noncomputable def ti34:TI prog:=O9 34 isAgg34 sizeOf34 underlying34 zeroValue34 typeInfo34 24 rfl
noncomputable def ti36:TI prog:=GL (ks:=[1,1]) (ag:=[false,false]) 36 isAgg36 sizeOf36 underlying36 zeroValue36 typeInfo36 32 rfl ⟨sizeOf4,sizeOf34,trivial⟩ ⟨isAgg4,isAgg34,trivial⟩ rfl
noncomputable def ti38:TI prog:=GL (ks:=[2,2]) (ag:=[true,true]) 38 isAgg38 sizeOf38 underlying38 zeroValue38 typeInfo38 64 rfl ⟨sizeOf36,sizeOf36,trivial⟩ ⟨isAgg36,isAgg36,trivial⟩ rfl
noncomputable def ti40:TI prog:=GL (ks:=[1,4,4]) (ag:=[false,true,true]) 40 isAgg40 sizeOf40 underlying40 zeroValue40 typeInfo40 152 rfl ⟨sizeOf33,sizeOf38,sizeOf38,trivial⟩ ⟨isAgg33,isAgg38,isAgg38,trivial⟩ rfl
noncomputable def ti44:TI prog:=O9 44 isAgg44 sizeOf44 underlying44 zeroValue44 typeInfo44 8 rfl
abbrev bZ:List (Nat×Nat×String):=[(333,0,"Advance"),(70,0,"Begin"),(334,0,"Certs"),(55,0,"Clone"),(335,0,"Drop"),(336,0,"Events"),(341,0,"Go"),(35,0,"Ids"),(337,0,"Next"),(345,0,"Now"),(338,0,"Put"),(339,0,"Turn")]
theorem Qvl:∀ x∈bZ,∀ b o w,(method (prog.types.size+Made.depth) 45 (.pointer (some ⟨b,o,none⟩)) x.2.2).run prog w=.ok (x.1,.pointer (some ⟨b,o+x.2.1,none⟩)) w:=λx hx=>by
 simp only [bZ,Qm,Jl,or_false] at hx;rcases hx with rfl | rfl | rfl | rfl | rfl | rfl | rfl | rfl | rfl | rfl | rfl | rfl <;> first | exact As (E:=156) typeInfo45 rfl underlying45 | exact Lh (S:=156) (i:=0) typeInfo45 rfl underlying156 rfl underlying154 (λ_ h=>by cases h) sizeOf154 (by decide)
noncomputable def ti45:TI prog:={ O9 45 isAgg45 sizeOf45 underlying45 zeroValue45 typeInfo45 8 rfl with ms:=bZ,hms:=Qvl }
abbrev bX:List (Nat×Nat×String):=[(362,0,"Advance"),(70,0,"Begin"),(334,0,"Certs"),(56,0,"Clone"),(363,0,"Drop"),(336,0,"Events"),(341,0,"Go"),(337,0,"Next"),(345,0,"Now"),(364,0,"Put"),(365,0,"Turn"),(38,0,"Winner")]
theorem Qvm:∀ x∈bX,∀ b o w,(method (prog.types.size+Made.depth) 46 (.pointer (some ⟨b,o,none⟩)) x.2.2).run prog w=.ok (x.1,.pointer (some ⟨b,o+x.2.1,none⟩)) w:=λx hx=>by
 simp only [bX,Qm,Jl,or_false] at hx;rcases hx with rfl | rfl | rfl | rfl | rfl | rfl | rfl | rfl | rfl | rfl | rfl | rfl <;> first | exact As (E:=162) typeInfo46 rfl underlying46 | exact Lh (S:=162) (i:=0) typeInfo46 rfl underlying162 rfl underlying154 (λ_ h=>by cases h) sizeOf154 (by decide)
noncomputable def ti46:TI prog:={ O9 46 isAgg46 sizeOf46 underlying46 zeroValue46 typeInfo46 8 rfl with ms:=bX,hms:=Qvm }
abbrev bJ:List (Nat×Nat×String):=[(367,0,"Advance"),(70,0,"Begin"),(334,0,"Certs"),(57,0,"Clone"),(368,0,"Drop"),(336,0,"Events"),(341,0,"Go"),(36,0,"Ids"),(337,0,"Next"),(345,0,"Now"),(369,0,"Put"),(370,0,"Turn")]
theorem Qvn:∀ x∈bJ,∀ b o w,(method (prog.types.size+Made.depth) 47 (.pointer (some ⟨b,o,none⟩)) x.2.2).run prog w=.ok (x.1,.pointer (some ⟨b,o+x.2.1,none⟩)) w:=λx hx=>by
 simp only [bJ,Qm,Jl,or_false] at hx;rcases hx with rfl | rfl | rfl | rfl | rfl | rfl | rfl | rfl | rfl | rfl | rfl | rfl <;> first | exact As (E:=164) typeInfo47 rfl underlying47 | exact Lh (S:=164) (i:=0) typeInfo47 rfl underlying164 rfl underlying154 (λ_ h=>by cases h) sizeOf154 (by decide)
noncomputable def ti47:TI prog:={ O9 47 isAgg47 sizeOf47 underlying47 zeroValue47 typeInfo47 8 rfl with ms:=bJ,hms:=Qvn }
abbrev bY:List (Nat×Nat×String):=[(372,0,"Advance"),(70,0,"Begin"),(334,0,"Certs"),(58,0,"Clone"),(373,0,"Drop"),(336,0,"Events"),(341,0,"Go"),(39,0,"Ids"),(337,0,"Next"),(345,0,"Now"),(374,0,"Put"),(375,0,"Turn")]
theorem Qvo:∀ x∈bY,∀ b o w,(method (prog.types.size+Made.depth) 48 (.pointer (some ⟨b,o,none⟩)) x.2.2).run prog w=.ok (x.1,.pointer (some ⟨b,o+x.2.1,none⟩)) w:=λx hx=>by
 simp only [bY,Qm,Jl,or_false] at hx;rcases hx with rfl | rfl | rfl | rfl | rfl | rfl | rfl | rfl | rfl | rfl | rfl | rfl <;> first | exact As (E:=166) typeInfo48 rfl underlying48 | exact Lh (S:=166) (i:=0) typeInfo48 rfl underlying166 rfl underlying154 (λ_ h=>by cases h) sizeOf154 (by decide)
noncomputable def ti48:TI prog:={ O9 48 isAgg48 sizeOf48 underlying48 zeroValue48 typeInfo48 8 rfl with ms:=bY,hms:=Qvo }
abbrev bV:List (Nat×Nat×String):=[(377,0,"Advance"),(70,0,"Begin"),(334,0,"Certs"),(59,0,"Clone"),(378,0,"Drop"),(336,0,"Events"),(341,0,"Go"),(337,0,"Next"),(345,0,"Now"),(379,0,"Put"),(37,0,"Triples"),(380,0,"Turn")]
theorem Qvp:∀ x∈bV,∀ b o w,(method (prog.types.size+Made.depth) 49 (.pointer (some ⟨b,o,none⟩)) x.2.2).run prog w=.ok (x.1,.pointer (some ⟨b,o+x.2.1,none⟩)) w:=λx hx=>by
 simp only [bV,Qm,Jl,or_false] at hx;rcases hx with rfl | rfl | rfl | rfl | rfl | rfl | rfl | rfl | rfl | rfl | rfl | rfl <;> first | exact As (E:=168) typeInfo49 rfl underlying49 | exact Lh (S:=168) (i:=0) typeInfo49 rfl underlying168 rfl underlying154 (λ_ h=>by cases h) sizeOf154 (by decide)
noncomputable def ti49:TI prog:={ O9 49 isAgg49 sizeOf49 underlying49 zeroValue49 typeInfo49 8 rfl with ms:=bV,hms:=Qvp }
noncomputable def ti51:TI prog:=GL (ks:=[1,4,1,1,1,1,1]) (ag:=[false,true,false,false,false,false,false]) 51 isAgg51 sizeOf51 underlying51 zeroValue51 typeInfo51 112 rfl ⟨sizeOf44,sizeOf38,sizeOf45,sizeOf46,sizeOf47,sizeOf48,sizeOf49,trivial⟩ ⟨isAgg44,isAgg38,isAgg45,isAgg46,isAgg47,isAgg48,isAgg49,trivial⟩ rfl
set_option maxRecDepth 20000 in
theorem Qos (d:Nat) (x0 x1 x2 x3 x4 y0 y1 y2 y3 y4:Int) (w:World):(Op.equalIn (d+1+1) 53 (.agg #[.int .i64 x0,.int .i64 x1,.int .i64 x2,.int .i64 x3,.int .i64 x4]) (.agg #[.int .i64 y0,.int .i64 y1,.int .i64 y2,.int .i64 y3,.int .i64 y4])).run prog w=.ok (decide ([x0,x1,x2,x3,x4]=[y0,y1,y2,y3,y4])) w:=by
 rw [run_equalIn_array w (d+1) _ _ (n:=5) (e:=3) rfl rfl];rw [show List.range 5=[0,1,2,3,4] from rfl,show prog.cellsOf 3=1 from rfl];simp [Op.eqItems,Go.part,isAgg3,aJ];by_cases h0:x0=y0 <;> by_cases h1:x1=y1 <;> by_cases h2:x2=y2 <;> by_cases h3:x3=y3 <;> by_cases h4:x4=y4 <;> simp [h0,h1,h2,h3,h4]
theorem Quv (a b:Um) (ha:a.length=5) (hb:b.length=5) (w:World):(Op.equal 53 (.agg (a.map (Value.int .i64)).toArray) (.agg (b.map (Value.int .i64)).toArray)).run prog w=.ok (decide (a=b)) w:=by
 match a,ha,b,hb with
 | [x0,x1,x2,x3,x4],_,[y0,y1,y2,y3,y4],_=>exact Qos 9998 x0 x1 x2 x3 x4 y0 y1 y2 y3 y4 w
noncomputable def ti53:TI prog:={ tiA 53 isAgg53 sizeOf53 underlying53 zeroValue53 typeInfo53 40 rfl sizeOf3 with eqn:=some 5,heq:=λk h=>by injection h with h; subst h; exact ⟨eqGuardType53,Quv⟩ }
noncomputable def ti55:TI prog:=O9 55 isAgg55 sizeOf55 underlying55 zeroValue55 typeInfo55 24 rfl
noncomputable def ti58:TI prog:=O9 58 isAgg58 sizeOf58 underlying58 zeroValue58 typeInfo58 24 rfl
noncomputable def ti60:TI prog:=GL (ks:=[1,1,2]) (ag:=[false,false,true]) 60 isAgg60 sizeOf60 underlying60 zeroValue60 typeInfo60 80 rfl ⟨sizeOf33,sizeOf33,sizeOf36,trivial⟩ ⟨isAgg33,isAgg33,isAgg36,trivial⟩ rfl
noncomputable def ti62:TI prog:=GL (ks:=[4,1]) (ag:=[true,false]) 62 isAgg62 sizeOf62 underlying62 zeroValue62 typeInfo62 88 rfl ⟨sizeOf60,sizeOf3,trivial⟩ ⟨isAgg60,isAgg3,trivial⟩ rfl
noncomputable def ti64:TI prog:=GL (ks:=[1,1,1,5,4]) (ag:=[false,false,false,true,true]) 64 isAgg64 sizeOf64 underlying64 zeroValue64 typeInfo64 176 rfl ⟨sizeOf3,sizeOf3,sizeOf3,sizeOf62,sizeOf38,trivial⟩ ⟨isAgg3,isAgg3,isAgg3,isAgg62,isAgg38,trivial⟩ rfl
noncomputable def ti67:TI prog:=GL (ks:=[1,1,1]) (ag:=[false,false,false]) 67 isAgg67 sizeOf67 underlying67 zeroValue67 typeInfo67 24 rfl ⟨sizeOf22,sizeOf65,sizeOf3,trivial⟩ ⟨isAgg22,isAgg65,isAgg3,trivial⟩ rfl
noncomputable def ti91:TI prog:=O9 91 isAgg91 sizeOf91 underlying91 zeroValue91 typeInfo91 4 rfl
noncomputable def ti95:TI prog:=O9 95 isAgg95 sizeOf95 underlying95 zeroValue95 typeInfo95 24 rfl
noncomputable def ti97:TI prog:=GL (ks:=[1,1]) (ag:=[false,false]) 97 isAgg97 sizeOf97 underlying97 zeroValue97 typeInfo97 32 rfl ⟨sizeOf95,sizeOf4,trivial⟩ ⟨isAgg95,isAgg4,trivial⟩ rfl
noncomputable def ti99:TI prog:=GL (ks:=[2,2]) (ag:=[true,true]) 99 isAgg99 sizeOf99 underlying99 zeroValue99 typeInfo99 64 rfl ⟨sizeOf97,sizeOf97,trivial⟩ ⟨isAgg97,isAgg97,trivial⟩ rfl
noncomputable def ti108:TI prog:=O9 108 isAgg108 sizeOf108 underlying108 zeroValue108 typeInfo108 24 rfl
noncomputable def ti110:TI prog:=O9 110 isAgg110 sizeOf110 underlying110 zeroValue110 typeInfo110 16 rfl
noncomputable def ti111:TI prog:=tiA 111 isAgg111 sizeOf111 underlying111 zeroValue111 typeInfo111 80 rfl sizeOf110
noncomputable def ti114:TI prog:=O9 114 isAgg114 sizeOf114 underlying114 zeroValue114 typeInfo114 24 rfl
noncomputable def ti116:TI prog:=GL (ks:=[1,1,1]) (ag:=[false,false,false]) 116 isAgg116 sizeOf116 underlying116 zeroValue116 typeInfo116 40 rfl ⟨sizeOf3,sizeOf3,sizeOf114,trivial⟩ ⟨isAgg3,isAgg3,isAgg114,trivial⟩ rfl
set_option maxRecDepth 20000 in
theorem Qhi (d:Nat) (x0 x1 x2 y0 y1 y2:Int) (w:World):(Op.equalIn (d+1+1) 139 (.agg #[.int .i64 x0,.int .i64 x1,.int .i64 x2]) (.agg #[.int .i64 y0,.int .i64 y1,.int .i64 y2])).run prog w=.ok (decide ([x0,x1,x2]=[y0,y1,y2])) w:=by
 rw [run_equalIn_array w (d+1) _ _ (n:=3) (e:=3) rfl rfl];rw [show List.range 3=[0,1,2] from rfl,show prog.cellsOf 3=1 from rfl];simp [Op.eqItems,Go.part,isAgg3,aJ];by_cases h0:x0=y0 <;> by_cases h1:x1=y1 <;> by_cases h2:x2=y2 <;> simp [h0,h1,h2]
theorem jR (a b:Um) (ha:a.length=3) (hb:b.length=3) (w:World):(Op.equal 139 (.agg (a.map (Value.int .i64)).toArray) (.agg (b.map (Value.int .i64)).toArray)).run prog w=.ok (decide (a=b)) w:=by
 match a,ha,b,hb with
 | [x0,x1,x2],_,[y0,y1,y2],_=>exact Qhi 9998 x0 x1 x2 y0 y1 y2 w
noncomputable def ti139:TI prog:={ tiA 139 isAgg139 sizeOf139 underlying139 zeroValue139 typeInfo139 24 rfl sizeOf3 with eqn:=some 3,heq:=λk h=>by injection h with h; subst h; exact ⟨eqGuardType139,jR⟩ }
set_option maxRecDepth 20000 in
theorem Qhj (d:Nat) (x0 x1 x2 x3 y0 y1 y2 y3:Int) (w:World):(Op.equalIn (d+1+1) 140 (.agg #[.int .i64 x0,.int .i64 x1,.int .i64 x2,.int .i64 x3]) (.agg #[.int .i64 y0,.int .i64 y1,.int .i64 y2,.int .i64 y3])).run prog w=.ok (decide ([x0,x1,x2,x3]=[y0,y1,y2,y3])) w:=by
 rw [run_equalIn_array w (d+1) _ _ (n:=4) (e:=3) rfl rfl];rw [show List.range 4=[0,1,2,3] from rfl,show prog.cellsOf 3=1 from rfl];simp [Op.eqItems,Go.part,isAgg3,aJ];by_cases h0:x0=y0 <;> by_cases h1:x1=y1 <;> by_cases h2:x2=y2 <;> by_cases h3:x3=y3 <;> simp [h0,h1,h2,h3]
noncomputable def ti140:TI prog:=tiA 140 isAgg140 sizeOf140 underlying140 zeroValue140 typeInfo140 32 rfl sizeOf3
set_option maxRecDepth 20000 in
theorem Qhk (d:Nat) (x x0 x1 x2 x3 y y0 y1 y2 y3:Int) (w:World):(Op.equalIn (d+1+1+1) 142 (.agg #[.int .i64 x,.int .i64 x0,.int .i64 x1,.int .i64 x2,.int .i64 x3]) (.agg #[.int .i64 y,.int .i64 y0,.int .i64 y1,.int .i64 y2,.int .i64 y3])).run prog w=.ok (decide ([x,x0,x1,x2,x3]=[y,y0,y1,y2,y3])) w:=by
 rw [run_equalIn_struct w (d+1+1) 142 _ _ rfl Tryz.stoodInHeld142];have hf:(prog.fieldsOf 142).toList=[{ name := "Kind",type:=3,offset:=0,embedded:=false,tag := "",pkgPath := "",byteOffset:=0 },{ name := "Ids",type:=140,offset:=1,embedded:=false,tag := "",pkgPath := "",byteOffset:=8 }]:=by simp [Program.fieldsOf,underlying142]
 rw [hf];simp [Op.eqFields,Go.part,isAgg3,isAgg140,sizeOf140,sizeOf3,aJ,Qhj];by_cases h:x=y <;> by_cases h0:x0=y0 <;> by_cases h1:x1=y1 <;> by_cases h2:x2=y2 <;> by_cases h3:x3=y3 <;> simp [h,h0,h1,h2,h3]
theorem Qor (a b:Um) (ha:a.length=5) (hb:b.length=5) (w:World):(Op.equal 142 (.agg (a.map (Value.int .i64)).toArray) (.agg (b.map (Value.int .i64)).toArray)).run prog w=.ok (decide (a=b)) w:=by
 match a,ha,b,hb with
 | [x,x0,x1,x2,x3],_,[y,y0,y1,y2,y3],_=>exact Qhk 9997 x x0 x1 x2 x3 y y0 y1 y2 y3 w
noncomputable def ti142:TI prog:={ GL (ks:=[1,4]) (ag:=[false,true]) 142 isAgg142 sizeOf142 underlying142 zeroValue142 typeInfo142 40 rfl ⟨sizeOf3,sizeOf140,trivial⟩ ⟨isAgg3,isAgg140,trivial⟩ rfl with eqn:=some 5,heq:=λk h=>by injection h with h; subst h; exact ⟨eqGuardType142,Qor⟩ }
noncomputable def ti144:TI prog:=GL (ks:=[5,1,1]) (ag:=[true,false,false]) 144 isAgg144 sizeOf144 underlying144 zeroValue144 typeInfo144 72 rfl ⟨sizeOf142,sizeOf33,sizeOf3,trivial⟩ ⟨isAgg142,isAgg33,isAgg3,trivial⟩ rfl
noncomputable def ti149:TI prog:=GL (ks:=[1]) (ag:=[false]) 149 isAgg149 sizeOf149 underlying149 zeroValue149 typeInfo149 24 rfl ⟨sizeOf114,trivial⟩ ⟨isAgg114,trivial⟩ rfl
noncomputable def ti152:TI prog:=O9 152 isAgg152 sizeOf152 underlying152 zeroValue152 typeInfo152 24 rfl
noncomputable def ti154:TI prog:=GL (ks:=[1,9,1,1]) (ag:=[false,true,false,false]) 154 isAgg154 sizeOf154 underlying154 zeroValue154 typeInfo154 192 rfl ⟨sizeOf4,sizeOf40,sizeOf152,sizeOf3,trivial⟩ ⟨isAgg4,isAgg40,isAgg152,isAgg3,trivial⟩ rfl
noncomputable def ti156:TI prog:=GL (ks:=[12,1,1]) (ag:=[true,true,false]) 156 isAgg156 sizeOf156 underlying156 zeroValue156 typeInfo156 240 rfl ⟨sizeOf154,sizeOf149,sizeOf114,trivial⟩ ⟨isAgg154,isAgg149,isAgg114,trivial⟩ rfl
noncomputable def ti160:TI prog:=O9 160 isAgg160 sizeOf160 underlying160 zeroValue160 typeInfo160 24 rfl
noncomputable def ti162:TI prog:=GL (ks:=[12,1,1,1]) (ag:=[true,true,false,false]) 162 isAgg162 sizeOf162 underlying162 zeroValue162 typeInfo162 264 rfl ⟨sizeOf154,sizeOf149,sizeOf114,sizeOf160,trivial⟩ ⟨isAgg154,isAgg149,isAgg114,isAgg160,trivial⟩ rfl
noncomputable def ti164:TI prog:=GL (ks:=[12,1,1]) (ag:=[true,true,false]) 164 isAgg164 sizeOf164 underlying164 zeroValue164 typeInfo164 240 rfl ⟨sizeOf154,sizeOf149,sizeOf114,trivial⟩ ⟨isAgg154,isAgg149,isAgg114,trivial⟩ rfl
noncomputable def ti166:TI prog:=GL (ks:=[12,1,1]) (ag:=[true,true,false]) 166 isAgg166 sizeOf166 underlying166 zeroValue166 typeInfo166 240 rfl ⟨sizeOf154,sizeOf149,sizeOf114,trivial⟩ ⟨isAgg154,isAgg149,isAgg114,trivial⟩ rfl
noncomputable def ti168:TI prog:=GL (ks:=[12,1,1]) (ag:=[true,true,false]) 168 isAgg168 sizeOf168 underlying168 zeroValue168 typeInfo168 240 rfl ⟨sizeOf154,sizeOf149,sizeOf28,trivial⟩ ⟨isAgg154,isAgg149,isAgg28,trivial⟩ rfl
noncomputable def ti179:TI prog:=O9 179 isAgg179 sizeOf179 underlying179 zeroValue179 typeInfo179 24 rfl
noncomputable def ti181:TI prog:=O9 181 isAgg181 sizeOf181 underlying181 zeroValue181 typeInfo181 24 rfl
noncomputable def ti183:TI prog:=O9 183 isAgg183 sizeOf183 underlying183 zeroValue183 typeInfo183 24 rfl
noncomputable def ti184:TI prog:=O9 184 isAgg184 sizeOf184 underlying184 zeroValue184 typeInfo184 24 rfl
noncomputable def ti186:TI prog:=GL (ks:=[1,1,4,4]) (ag:=[false,false,true,true]) 186 isAgg186 sizeOf186 underlying186 zeroValue186 typeInfo186 176 rfl ⟨sizeOf183,sizeOf184,sizeOf99,sizeOf99,trivial⟩ ⟨isAgg183,isAgg184,isAgg99,isAgg99,trivial⟩ rfl
noncomputable def ti187:TI prog:=O9 187 isAgg187 sizeOf187 underlying187 zeroValue187 typeInfo187 24 rfl
noncomputable def ti188:TI prog:=O9 188 isAgg188 sizeOf188 underlying188 zeroValue188 typeInfo188 24 rfl
noncomputable def ti190:TI prog:=GL (ks:=[10,1,1,1]) (ag:=[true,false,false,false]) 190 isAgg190 sizeOf190 underlying190 zeroValue190 typeInfo190 232 rfl ⟨sizeOf186,sizeOf187,sizeOf3,sizeOf188,trivial⟩ ⟨isAgg186,isAgg187,isAgg3,isAgg188,trivial⟩ rfl
noncomputable def ti191:TI prog:=tiA 191 isAgg191 sizeOf191 underlying191 zeroValue191 typeInfo191 1160 rfl sizeOf190
noncomputable def ti193:TI prog:=GL (ks:=[1,1,1,4,65]) (ag:=[false,false,false,true,true]) 193 isAgg193 sizeOf193 underlying193 zeroValue193 typeInfo193 1264 rfl ⟨sizeOf3,sizeOf3,sizeOf181,sizeOf99,sizeOf191,trivial⟩ ⟨isAgg3,isAgg3,isAgg181,isAgg99,isAgg191,trivial⟩ rfl
noncomputable def ti209:TI prog:=O9 209 isAgg209 sizeOf209 underlying209 zeroValue209 typeInfo209 8 rfl
noncomputable def ti210:TI prog:=O9 210 isAgg210 sizeOf210 underlying210 zeroValue210 typeInfo210 8 rfl
noncomputable def ti217:TI prog:=tiA 217 isAgg217 sizeOf217 underlying217 zeroValue217 typeInfo217 176 rfl sizeOf62
theorem Qby (em:Bool) (n:Nat) (v:Int) (w:World):(Instr.checkKey em (n+1) 3 (.int .i64 v)).run prog w=.ok () w:=by
 rw [Instr.checkKey];simp [runUnderlying3]
theorem jX (em:Bool) (n:Nat) (a b c:Int) (w:World):(Instr.checkKey em (n+1+1) 139 (.agg #[.int .i64 a,.int .i64 b,.int .i64 c])).run prog w=.ok () w:=by
 rw [Instr.checkKey];simp [runUnderlying139];rw [show List.range' 0 3=[0,1,2] from rfl];simp [Go.part,isAgg3,sizeOf3,Qby]
theorem FU (em:Bool) (ks:Um) (hk:ks.length=3) (w:World):(Instr.checkKey em 10000 139 (An ks)).run prog w=.ok () w:=by
 match ks,hk with
 | [a,b,c],_=>exact jX em 9998 a b c w
theorem Qix:MapT prog 224 139 3 (.int .i64 0):=⟨runUnderlying224,⟨_,runUnderlying139,λ_ _=>rfl⟩,FU,λx y hx hy w=>jR x y hx hy w,zeroValue3,rfl⟩
noncomputable def ti224:TI prog:={ O9 224 isAgg224 sizeOf224 underlying224 zeroValue224 typeInfo224 8 rfl with md:=some (.int .i64 0),hmd:=λd h=>by injection h with h; subst h; exact ⟨139,3,Qix⟩ }
theorem Qiy:MapT prog 225 139 4 (.bool false):=⟨runUnderlying225,⟨_,runUnderlying139,λ_ _=>rfl⟩,FU,λx y hx hy w=>jR x y hx hy w,zeroValue4,rfl⟩
noncomputable def ti225:TI prog:={ O9 225 isAgg225 sizeOf225 underlying225 zeroValue225 typeInfo225 8 rfl with md:=some (.bool false),hmd:=λd h=>by injection h with h; subst h; exact ⟨139,4,Qiy⟩ }
noncomputable def ti266:TI prog:=GL (ks:=[7,1,1,9]) (ag:=[true,false,false,true]) 266 isAgg266 sizeOf266 underlying266 zeroValue266 typeInfo266 232 rfl ⟨sizeOf144,sizeOf4,sizeOf4,sizeOf40,trivial⟩ ⟨isAgg144,isAgg4,isAgg4,isAgg40,trivial⟩ rfl
noncomputable def ti284:TI prog:=O9 284 isAgg284 sizeOf284 underlying284 zeroValue284 typeInfo284 24 rfl
noncomputable def ti289:TI prog:=GL (ks:=[5,1,1,1,1]) (ag:=[true,false,false,false,false]) 289 isAgg289 sizeOf289 underlying289 zeroValue289 typeInfo289 104 rfl ⟨sizeOf142,sizeOf183,sizeOf3,sizeOf188,sizeOf4,trivial⟩ ⟨isAgg142,isAgg183,isAgg3,isAgg188,isAgg4,trivial⟩ rfl
noncomputable def ti305:TI prog:=tiA 305 isAgg305 sizeOf305 underlying305 zeroValue305 typeInfo305 72 rfl sizeOf32
noncomputable def ti317:TI prog:=O9 317 isAgg317 sizeOf317 underlying317 zeroValue317 typeInfo317 24 rfl
noncomputable def ti321:TI prog:=GL (ks:=[1]) (ag:=[false]) 321 isAgg321 sizeOf321 underlying321 zeroValue321 typeInfo321 24 rfl ⟨sizeOf284,trivial⟩ ⟨isAgg284,trivial⟩ rfl
noncomputable def ti337:TI prog:=GL (ks:=[1,1,4]) (ag:=[false,false,true]) 337 isAgg337 sizeOf337 underlying337 zeroValue337 typeInfo337 128 rfl ⟨sizeOf183,sizeOf183,sizeOf60,trivial⟩ ⟨isAgg183,isAgg183,isAgg60,trivial⟩ rfl
noncomputable def ti339:TI prog:=GL (ks:=[6,1]) (ag:=[true,false]) 339 isAgg339 sizeOf339 underlying339 zeroValue339 typeInfo339 136 rfl ⟨sizeOf337,sizeOf3,trivial⟩ ⟨isAgg337,isAgg3,trivial⟩ rfl
noncomputable def ti341:TI prog:=O9 341 isAgg341 sizeOf341 underlying341 zeroValue341 typeInfo341 24 rfl
noncomputable def ti345:TI prog:=tiA 345 isAgg345 sizeOf345 underlying345 zeroValue345 typeInfo345 272 rfl sizeOf339
noncomputable def ti364:TI prog:=O9 364 isAgg364 sizeOf364 underlying364 zeroValue364 typeInfo364 24 rfl
noncomputable def ti365:TI prog:=O9 365 isAgg365 sizeOf365 underlying365 zeroValue365 typeInfo365 24 rfl
noncomputable def tt:TT prog:=(.nd (.nd (.nd (.nd (.nd (.nd (.nd .nil ti3 .nil) ti4 .nil) ti5 (.nd .nil ti9 .nil)) ti22 (.nd (.nd (.nd .nil ti23 .nil) ti27 .nil) ti28 (.nd .nil ti30 .nil))) ti32 (.nd (.nd (.nd (.nd .nil ti33 .nil) ti34 .nil) ti36 (.nd .nil ti38 .nil)) ti40 (.nd (.nd (.nd .nil ti44 .nil) ti45 .nil) ti46 (.nd .nil ti47 .nil)))) ti48 (.nd (.nd (.nd (.nd (.nd .nil ti49 .nil) ti51 .nil) ti53 (.nd .nil ti55 .nil)) ti58 (.nd (.nd (.nd .nil ti60 .nil) ti62 .nil) ti64 (.nd .nil ti67 .nil))) ti91 (.nd (.nd (.nd (.nd .nil ti95 .nil) ti97 .nil) ti99 (.nd .nil ti108 .nil)) ti110 (.nd (.nd (.nd .nil ti111 .nil) ti114 .nil) ti116 (.nd .nil ti139 .nil))))) ti140 (.nd (.nd (.nd (.nd (.nd (.nd .nil ti142 .nil) ti144 .nil) ti149 (.nd .nil ti152 .nil)) ti154 (.nd (.nd (.nd .nil ti156 .nil) ti160 .nil) ti162 (.nd .nil ti164 .nil))) ti166 (.nd (.nd (.nd (.nd .nil ti168 .nil) ti179 .nil) ti181 (.nd .nil ti183 .nil)) ti184 (.nd (.nd (.nd .nil ti186 .nil) ti187 .nil) ti188 (.nd .nil ti190 .nil)))) ti191 (.nd (.nd (.nd (.nd (.nd .nil ti193 .nil) ti209 .nil) ti210 (.nd .nil ti217 .nil)) ti224 (.nd (.nd (.nd .nil ti225 .nil) ti266 .nil) ti284 (.nd .nil ti289 .nil))) ti305 (.nd (.nd (.nd (.nd .nil ti317 .nil) ti321 .nil) ti337 (.nd .nil ti339 .nil)) ti341 (.nd (.nd .nil ti345 .nil) ti364 (.nd .nil ti365 .nil))))))
instance:Mo prog:=⟨rfl⟩
theorem Ud {n : Nat} {Q : Exit -> Sg -> List OB -> Prop} {L L' : Sg} {B B' : List OB} {it it' : List It} {as0 : List Qv} {ob : List Prop} (hs : List (H Tryz.prog)) (h : (match run tt n 100000 it L B hs [] [] with
 | some (it, L, B, q, ob) => (match IX ob with
  | some ob => some (it, L, B, q.map (·.1), q.map (·.2), ob)
  | none => none)
 | none => none) = some (it', L', B', as0, as0, ob)) (k : AK Tryz.prog n Q it' L' B') (ho : U3 ob := by exact trivial) : AK Tryz.prog n Q it L B := go tt hs h ho k
theorem Ue {n : Nat} {Q : Exit -> Sg -> List OB -> Prop} {L L' : Sg} {B B' : List OB} {it it' : List It} {as0 : List Qv} {ob : List Prop} (hs : List (H Tryz.prog)) (h : (match run tt n 100000 it L B hs [] [] with
 | some (it, L, B, q, ob) => (match IX ob with
  | some ob => some (it, L, B, q.map (·.1), q.map (·.2), ob)
  | none => none)
 | none => none) = some (it', L', B', as0, as0, ob)) (k : AK Tryz.prog n Q it' L' B') (ho : U3 ob := by simp [U3]; omega) : AK Tryz.prog n Q it L B := go tt hs h ho k
theorem Ug {n : Nat} {f : FuncId} {fn : Func} {c : Code} {args res us : List TV} {as0 : List Qv} {ob : List Prop} (hf : Tryz.prog.funcs[f]? = some fn) (hh : (fn.body, fn.ntmps, (fn.name == "runtime.NumGoroutine"), Nat.ble args.length n) = (some c, n, false, true)) (hs : List (H Tryz.prog))
 (h : wE tt n c fn.results.toList args hs = some (us, as0, as0, ob)) (he : us = res := by exact rfl) (ho : U3 ob := by exact trivial) : AM Tryz.prog f args res := w tt hf hh hs h he ho
theorem Uf {n : Nat} {L : Sg} {B : List OB} {fn : Func} {res us : List TV} {it : List It} {as0 : List Qv} {ob : List Prop} (hs : List (H Tryz.prog)) (h : enE tt n fn.results.toList it L B hs = some (us, as0, as0, ob)) (he : us = res := by exact rfl) (ho : U3 ob := by exact trivial) : AK Tryz.prog n (RQ Tryz.prog fn n 0 λu B => u = res /\ B = []) it L B := en tt hs h he ho
theorem Uh {n : Nat} {L : Sg} {B : List OB} {fn : Func} {k : Nat} {res : List TV} {Bout : List OB} {it : List It} {as0 : List Qv} {ob : List Prop} (ps is : List Nat) (hs : List (H Tryz.prog)) (h : edE tt n k fn.results.toList it L B hs res Bout ps is = some (as0, as0, ob)) (ho : U3 ob := by exact trivial) : AK Tryz.prog n (RQ Tryz.prog fn n k λu B => u = res /\ B = Bout) it L B := ed tt ps is hs h ho
theorem Ui {n : Nat} {Q : Exit -> Sg -> List OB -> Prop} {L : Sg} {B : List OB} {S : Type} {c : Code} {r : List It} {L1 : Sg} (k : Nat) (st : Sg -> S -> Sg) (bs : S -> List OB) (μ : S -> Nat) (I : S -> Prop) (s0 : S) (h0 : I s0) (hL : prn (kJ c []) L = some L1) {as0 : List Qv} (hs : two (dK none L B (st L1 s0) (bs s0)) = some (as0, as0))
 (round : ∀ s, I s -> AK Tryz.prog n Q (.code c :: .rnd (some k) (λL B => ∃ s', μ s' < μ s /\ I s' /\ L = st L1 s' /\ B = bs s') :: r) (st L1 s) (bs s)) (hk : ∀ s, I s -> (bs s).length = k := by exact λ_ _ => rfl) : AK Tryz.prog n Q (.code (.loop c) :: r) L B := lp k st bs μ I s0 h0 hL hk hs round
abbrev Uj (f : Nat) (a r : List TV) : Prop := AM Tryz.prog f a r
end Orr
namespace Orr
open Go Go.Proofs Tryz
set_option maxRecDepth 10000
def lm (l:Uo):Us:=l.map λ(x:Nat)=>[.int .u32 (x:Int)]
abbrev lr (l:Uo):TV:=.one (.row (lm l))
theorem U7 (l:Uo):(lm l).length=l.length:=by simp [lm]
theorem G0 {l:Uo} {i x:Nat} (h:l[i]? = some x):(lm l)[i]? = some [.int .u32 (x:Int)]:=by simp [lm,h]
def vB:Uo->Uo
 | []=>[]
 |
  x::l=>match vB l with
  | []=>if x=0 then [] else [x]
  | r=>x::r
theorem Qq5 {l:Uo}:vB l=[]↔∀ x∈l,x=0:=by
 induction l with
 | nil=>simp [vB]
 |
  cons x l ih =>
  simp only [vB]
  split
  ·rename_i e;have h1:=ih.1 e;by_cases h:x=0
   ·simp [h]; exact h1
   ·simp [h]
  ·rename_i r hne;simp only [reduceCtorEq,Qm,forall_eq_or_imp,false_iff,not_and];exact λ_ h=>hne (ih.2 h)
theorem GE:∀ {l:Uo} {n:Nat},n<=l.length->(∀ j,n<=j->j<l.length->l[j]? = some 0)->(n=0\/∃ x,l[n-1]? = some x/\x≠0)->l.take n=vB l
 | [],n,h,_,_=>by simp at h; subst h; rfl
 |
  x::l,0,h,hz,_=>by
  rw [Vu];refine (Qq5.2 λy hy=>?_).symm;obtain ⟨j,hj⟩:=Zk.1 hy;have:=hz j (Qh _) (Qf.1 hj).1;rw [hj] at this; injection this
 |
  x::l,n+1,h,hz,ht=>by
  simp only [Q5,Nat.add_le_add_iff_right] at h;have hz':∀ j,n<=j->j<l.length->l[j]? = some 0:=λj h1 h2=>by simpa using hz (j+1) (by omega) (by simpa using h2)
  cases n with
  |
   zero =>
   have e:vB l=[]:=(GE (n:=0) h hz' (.inl rfl)).symm;rcases ht with h | ⟨y,h1,h2⟩
   ·omega
   ·simp at h1; subst h1; simp [vB,e,h2]
  |
   succ n =>
   have ih:=GE (n:=n+1) h hz' (.inr (by rcases ht with h | ⟨y,h1,h2⟩; (· omega); exact ⟨y,by simpa using h1,h2⟩));simp only [Ve,vB];rw [<-ih];cases hl:l with
   | nil=>rw [hl] at h; simp at h
   | cons y l'=>simp [Ve]
theorem Qzb (l:Uo):Uj 164 [lr l] [lr (vB l)]:=by
 refine Fv func164 rfl (ln 0 rfl rfl λhl=>?_);rw [U7] at hl;refine Ud [] rfl ?_;refine Ui (S:=Nat) 0 (λL1 n=>(3,.v (.oi n))::L1) (λ_=>[]) id (λn=>n<=l.length/\∀ j,n<=j->j<l.length->l[j]? = some 0) (lm l).length ⟨by rw [U7]; exact Ql _,λj h1 h2=>by rw [U7] at h1; omega⟩ rfl rfl λn ⟨h1,h2⟩=>?_
 cases n with
 | zero=>exact Uf [.f (by simp),.f rfl,.i 0] rfl (by rw [<-GE h1 h2 (.inl rfl)]; simp [lm]) (by simp [U3,Hu])
 |
  succ n =>
  obtain ⟨x,hx⟩:=gxE (l:=l) (i:=n) (by omega);by_cases h0:x=0
  ·refine go tt [.t (by simp),.r 11 (v:=.oi n) (by simp),.x (G0 hx),.t (by simp [h0]),.r 17 (v:=.oi n) (by simp)] rfl (by simp [U3,Hu]; omega) ?_;exact rd n (by simp) ⟨by omega,λj h3 h4=>by
    rcases Vk h3 with rfl | h3
    ·rw [hx,h0]
    ·exact h2 j h3 h4⟩ rfl
  ·exact Uf [.t (by simp),.r 11 (v:=.oi n) (by simp),.x (G0 hx),.f (by simp [h0]),.i (n+1)] rfl (by rw [<-GE h1 h2 (.inr ⟨x,hx,h0⟩)]; simp [lm]) (by simp [U3,Hu,U7] <;> omega)
def Sm (l:Uo):Prop:=∀ x∈l,x<4294967296
theorem vC:∀ l:Uo,Cut l (vB l).length/\l.take (vB l).length=vB l
 | []=>⟨⟨Ql _,λj _ h=>by simp at h,λh=>by simp [vB] at h⟩,rfl⟩
 |
  x::l=>by
  obtain ⟨⟨h1,h2,h3⟩,h4⟩:=vC l;simp only [vB]
  split
  ·rename_i e;rw [e] at h2 h3;by_cases h:x=0
   ·rw [if_pos h];refine ⟨⟨Qh _,λj _ hj=>?_,λh=>by simp at h⟩,rfl⟩;cases j with
    | zero=>simp [h]
    | succ j=>simpa using h2 j (Qh _) (by simpa using hj)
   ·rw [if_neg h];refine ⟨⟨by simp,λj h5 hj=>?_,λ_=>⟨x,rfl,h⟩⟩,rfl⟩;cases j with
    | zero=>simp at h5
    | succ j=>simpa using h2 j (Qh _) (by simpa using hj)
  ·rename_i r hne;refine ⟨⟨by simp [h1],λj h5 hj=>?_,λ_=>?_⟩,by simp [h4]⟩
   ·cases j with
    | zero=>simp at h5
    | succ j=>simpa using h2 j (by simpa using h5) (by simpa using hj)
   ·have hp:0<(vB l).length:=by
     cases e:vB l with
     | nil=>exact absurd e hne
     | cons=>simp
    obtain ⟨y,h5,h6⟩:=h3 hp;refine ⟨y,?_,h6⟩;rw [Q5,show (vB l).length+1-1=((vB l).length-1)+1 from by omega];simpa using h5
theorem xZ {l:Uo} (h:Sm l):vB l=Gb (val l):=by
 obtain ⟨h1,h2⟩:=vC l;refine Qiq ?_ ?_
 ·rw [<-h2]; exact Qoi h1 h
 ·rw [<-h2]; exact Qoj h1
theorem Lt (x:Nat):Sm (Gb x):=(Do x).1
theorem Rm {x k:Nat} (h:sz x<=k):32*(Gb x).length<=k+31:=by
 have:=Qph (Do x);rw [G9] at this; omega
theorem VO {l:Uo} (h:Sm l):Uj 164 [lr l] [lr (Gb (val l))]:=xZ h ▸ Qzb l
theorem Qis (l:Uo):∀ c∈lm l,c.length=1:=λc hc=>by
 obtain ⟨x,_,rfl⟩:=Za.1 hc; rfl
theorem KH {l:Uo} (h:Sm l) (hs:sz (val l)<=4294967296):Uj 103 [lr l] [lr (Gb (val l))] :=
 Ug func103 rfl [.k (VO h),.s (Qis (Gb (val l)))] rfl rfl (by have:=Rm hs; simp [U3,Hu,U7]; omega)
theorem HI {a:Uo} (ha:Sm a):∃ p,Uj 164 [lr a] [lr p]/\kN p/\val p=val a/\p.length<=a.length/\p=Gb (val a) :=
 ⟨_,VO ha,Do _,G9 _,by rw [<-xZ ha]; exact (vC a).1.1,rfl⟩
theorem Qeh {a b:Uo} (ha:Sm a) (hb:Sm b):Uj 162 [lr a,lr b] [.oi (ZS (val a) (val b))]:=by
 refine Fv func162 rfl (ln 0 rfl rfl λhl=>ln 1 rfl rfl λhl'=>?_);rw [U7] at hl hl';obtain ⟨p,ca,np,vp,lp',_⟩:=HI ha;obtain ⟨q,cb,nq,vq,lq,_⟩:=HI hb;rw [<-vp,<-vq];by_cases h:p.length=q.length
 ·refine go tt [.k ca,.k cb,.f (by simp [U7,h])] rfl (by simp [U3,Hu,U7] <;> omega) ?_;refine Ui (S:=Int) 0 (λL1 i=>(5,.v (.oi i))::L1) (λ_=>[]) (λi=>(i+1).toNat) (λi=>-1<=i/\i<p.length/\p.drop (i+1).toNat=q.drop (i+1).toNat) (((lm p).length:Int)-1) ⟨by omega,by simp [U7]; omega,by simp [U7,h]⟩ rfl rfl λi ⟨h1,h2,h3⟩=>?_
  rcases Kd i 0 with hi | hi
  ·obtain rfl:i=-1:=by omega
   exact Uf [.f (by decide)] rfl (by rw [eK]; exact congrArg val (by simpa using h3)) trivial
  ·obtain ⟨k,rfl⟩:=Kk hi;have e:((k:Int)+1).toNat=k+1:=by omega
   rw [e] at h3;obtain ⟨x,hx⟩:=gxE (l:=p) (i:=k) (by omega);obtain ⟨y,hy⟩:=gxE (l:=q) (i:=k) (by omega);rcases Kn x y with hxy | rfl | hxy
   ·exact Uf [.t (by simp),.x (G0 hx),.x (G0 hy),.t (by simp; omega)] rfl (by rw [MH (Qao np.1 h3 hx hy hxy)]) (by simp [U3,Hu,U7] <;> omega)
   ·refine go tt [.t (by simp),.x (G0 hx),.x (G0 hy),.f (by simp),.x (G0 hx),.x (G0 hy),.f (by simp)] rfl (by simp [U3,Hu,U7] <;> omega) ?_;exact rd ((k:Int)-1) (by omega) ⟨by omega,by omega,by rw [show ((k:Int)-1+1).toNat=k from by omega]; exact Qb7 h3 hx hy⟩ rfl
   ·exact Uf [.t (by simp),.x (G0 hx),.x (G0 hy),.f (by simp; omega),.x (G0 hx),.x (G0 hy),.t (by simp; omega)] rfl (by rw [MG (Qao nq.1 h3.symm hy hx hxy)]) (by simp [U3,Hu,U7] <;> omega)
 ·by_cases h2:p.length<q.length
  ·exact Uf [.k ca,.k cb,.t (by simp [U7]; omega),.t (by simp [U7]; omega)] rfl (by rw [MH (D5 np nq h2)]) (by simp [U3,Hu])
  ·exact Uf [.k ca,.k cb,.t (by simp [U7]; omega),.f (by simp [U7]; omega)] rfl (by rw [MG (D5 nq np (by omega))]) (by simp [U3,Hu])
theorem WP (m:Nat):List.replicate m [LV.int .u32 0]=lm (List.replicate m 0):=by simp [lm]
theorem Cq (l:Uo) (i x:Nat):(lm l).set i [.int .u32 (x:Int)]=lm (l.set i x):=by simp [lm,Vs]
theorem Dy {a b:Int} (h:a=b):TV.one (LV.int .u64 a)=.one (.int .u64 b):=h ▸ rfl
theorem Eo {a b:Int} (h:a=b):TV.one (LV.int .u32 a)=.one (.int .u32 b):=h ▸ rfl
theorem eI {a b:Int} (h:a=b):TV.one (LV.int .i64 a)=.oi b:=h ▸ rfl
theorem xJ (z:Int):IntKind.u32.wrap z=z % 4294967296:=by simp [IntKind.wrap,IntKind.bits,IntKind.signed]
theorem w64 (z:Int):IntKind.u64.wrap z=z % 18446744073709551616:=by simp [IntKind.wrap,IntKind.bits,IntKind.signed]
theorem Qrs {a b:Uo} (ha:Sm a) (hb:Sm b) (h1:sz (val a)<=4294967296) (h2:sz (val b)<=4294967296):Uj 224 [lr a,lr b] [lr (Gb (val a+val b))]:=by
 refine Fv func224 rfl ?_;obtain ⟨p,ca,np,vp,_,ep⟩:=HI ha;obtain ⟨q,cb,nq,vq,_,eq⟩:=HI hb;have lp':=Rm h1;have lq:=Rm h2;rw [<-ep] at lp';rw [<-eq] at lq;rw [<-vp,<-vq];refine Ud [.k ca,.k cb] rfl ?_;refine ct 1 (S:=Uo×Uo) (λs=>[(0,.v (lr s.1)),(1,.v (lr s.2))]) (λ_=>[]) (λs=>kN s.1/\kN s.2/\32*s.1.length<=4294967327/\s.2.length<=s.1.length/\val s.1+val s.2=val p+val q) rfl ?_ ?_
 ·by_cases h:p.length<q.length
  ·exact go tt [.t (by simp [U7]; omega)] rfl trivial (rc (q,p) ⟨nq,np,lq,Yk h,Ju _ _⟩ rfl)
  ·exact go tt [.f (by simp [U7]; omega)] rfl trivial (rc (p,q) ⟨np,nq,lp',J8 h,rfl⟩ rfl)
 ·intro ⟨p',q'⟩ ⟨np,nq,hp,hq,e⟩;dsimp only at np nq hp hq e;rw [<-e];clear ca cb e vp vq ep eq;refine go tt [.i ((lm p').length+1),.i ((lm p').length+1)] rfl (by simp [U3,Hu,U7] <;> omega) ?_;rw [WP];refine lp (S:=Nat×Uo×Nat) 1 (λL1 s=>(27,.v (.oi (s.1:Int)))::(6,.v (.one (.int .u64 (s.2.2:Int))))::L1) (λs=>[.row false 91 1 (lm s.2.1)]) (λs=>p'.length-s.1)
   (λs=>s.1<=p'.length/\s.2.1.length=p'.length+1/\Sm s.2.1/\s.2.2<=1/\val (s.2.1.take s.1)+s.2.2*4294967296^s.1=val (p'.take s.1)+val (q'.take s.1)) (0,List.replicate ((lm p').length+1) 0,0)
   ⟨Qh _,by simp [U7],λx hx=>by rw [Zx hx]; decide,Qh _,by simp [val]⟩ rfl (λ_ _=>rfl) rfl λ⟨i,o,c⟩ ⟨j1,j2,j3,j4,j5⟩=>?_
  dsimp only at j1 j2 j3 j4 j5 ⊢;by_cases hi:i<p'.length
  ·obtain ⟨x,hx⟩:=gxE (l:=p') (i:=i) hi;have xb:=np.1 x (Qc hx);have fin:∀ y s,(q'[i]? = some y\/q'.length<=i/\y=0)->y<4294967296->s=x+c+y->p'.length-(i+1)<p'.length-i/\i+1<=p'.length/\(o.set i (s % 4294967296)).length=p'.length+1/\Sm (o.set i (s % 4294967296))/\s / 4294967296<=1 /\
    val ((o.set i (s % 4294967296)).take (i+1))+s / 4294967296*4294967296^(i+1)=val (p'.take (i+1))+val (q'.take (i+1)):=λy s hy hyb hs =>
    ⟨by omega,hi,by simp [j2],Bs j3 i _ (by omega),by omega,kB (by omega) hx hy j5 hs⟩
   by_cases hi2:i<q'.length
   ·obtain ⟨y,hy⟩:=gxE (l:=q') (i:=i) hi2;have yb:=nq.1 y (Qc hy);refine go tt [.t (by simp [U7]; omega),.x (G0 hx),.t (by simp [U7]; omega),.x (G0 hy),.w 2,.r 50 (v:=.one (.int .u32 (((x+c+y) % 4294967296:Nat):Int))) (by simp [IntKind.wrap,IntKind.bits,IntKind.signed]),.i 32,.r 52 (v:=.one (.int .u64 (((x+c+y) / 4294967296:Nat):Int))) (by simp),.i i] rfl (by simp [U3,Hu,U7,IntKind.bits] <;> omega) ?_;rw [Cq];exact rd (i+1,o.set i ((x+c+y) % 4294967296),(x+c+y) / 4294967296) (fin y _ (.inl hy) yb rfl).1 (fin y _ (.inl hy) yb rfl).2 rfl
   ·refine go tt [.t (by simp [U7]; omega),.x (G0 hx),.f (by simp [U7]; omega),.w 0,.r 50 (v:=.one (.int .u32 (((x+c+0) % 4294967296:Nat):Int))) (by simp [IntKind.wrap,IntKind.bits,IntKind.signed]),.i 32,.r 52 (v:=.one (.int .u64 (((x+c+0) / 4294967296:Nat):Int))) (by simp),.i i] rfl (by simp [U3,Hu,U7,IntKind.bits] <;> omega) ?_;rw [Cq];exact rd (i+1,o.set i ((x+c+0) % 4294967296),(x+c+0) / 4294967296) (fin 0 _ (.inr ⟨by omega,rfl⟩) (by decide) rfl).1 (fin 0 _ (.inr ⟨by omega,rfl⟩) (by decide) rfl).2 rfl
  ·obtain rfl:i=p'.length:=by omega
   refine go tt [.f (by simp [U7]),.w 0,.r 59 (v:=.one (.int .u32 (c:Int))) (by simp [IntKind.wrap,IntKind.bits,IntKind.signed]; omega),.i (lm p').length] rfl (by simp [U3,Hu,U7,j2]) ?_;rw [U7,Cq];have e:val (o.set p'.length c)=val p'+val q':=by
    have h1:=ZU o p'.length c (by omega);rw [Qn (by simp; omega)] at h1;rw [Qn (Ql _),Qn hq] at j5;rw [h1,<-j5,Zq]
   rw [<-e];exact Uf [.k (VO (Bs j3 _ c (by omega)))] rfl
theorem wA {x y:Nat}:ZS x y<0↔x<y:=by unfold ZS; split <;> (try split) <;> omega
theorem Qrw {a b:Uo} (ha:Sm a) (hb:Sm b) (h1:sz (val a)<=4294967296):Uj 225 [lr a,lr b] (if val b<=val a then [lr (Gb (val a-val b)),.one (.bool true)] else [lr [],.one (.bool false)]):=by
 refine Fv func225 rfl ?_;obtain ⟨p,ca,np,vp,_,ep⟩:=HI ha;obtain ⟨q,cb,nq,vq,_,_⟩:=HI hb;have hp:=Rm h1;rw [<-ep] at hp;rw [<-vp,<-vq];have cc:=Qeh np.1 nq.1;by_cases hlt:val p<val q
 ·rw [if_neg (by omega)];exact Uf [.k ca,.k cb,.k cc,.t (by simpa using wA.2 hlt)] rfl
 rw [if_pos (by omega)];have hq:q.length<=p.length:=J8 λh=>hlt (D5 np nq h)
 refine go tt [.k ca,.k cb,.k cc,.f (by have:=mt wA.1 hlt; simpa using this),.i (lm p).length,.i (lm p).length] rfl (by simp [U3,Hu,U7] <;> omega) ?_;rw [WP];refine lp (S:=Nat×Uo×Nat) 1 (λL1 s=>(24,.v (.oi (s.1:Int)))::(7,.v (.one (.int .u64 (s.2.2:Int))))::L1) (λs=>[.row false 91 1 (lm s.2.1)]) (λs=>p.length-s.1)
  (λs=>s.1<=p.length/\s.2.1.length=p.length/\Sm s.2.1/\s.2.2<=1/\val (s.2.1.take s.1)+val (q.take s.1)=val (p.take s.1)+s.2.2*4294967296^s.1) (0,List.replicate (lm p).length 0,0)
  ⟨Qh _,by simp [U7],λx hx=>by rw [Zx hx]; decide,Qh _,by simp [val]⟩ rfl (λ_ _=>rfl) rfl λ⟨i,o,c⟩ ⟨j1,j2,j3,j4,j5⟩=>?_
 dsimp only at j1 j2 j3 j4 j5 ⊢;by_cases hi:i<p.length
 ·obtain ⟨x,hx⟩:=gxE (l:=p) (i:=i) hi;have xb:=np.1 x (Qc hx);have fin:∀ y s,(q[i]? = some y\/q.length<=i/\y=0)->y<4294967296->s=(x+18446744073709551616-c-y) % 18446744073709551616->p.length-(i+1)<p.length-i/\i+1<=p.length/\(o.set i (s % 4294967296)).length=p.length/\Sm (o.set i (s % 4294967296))/\s / 9223372036854775808<=1 /\
   val ((o.set i (s % 4294967296)).take (i+1))+val (q.take (i+1))=val (p.take (i+1))+s / 9223372036854775808*4294967296^(i+1):=λy s hy hyb hs=>by
   obtain ⟨h1,h2⟩:=Qk9 (o:=o) (by omega) hx hy xb hyb j4 j5 hs;exact ⟨by omega,hi,by simp [j2],Bs j3 i _ (by omega),h2,h1⟩
  by_cases hi2:i<q.length
  ·obtain ⟨y,hy⟩:=gxE (l:=q) (i:=i) hi2;have yb:=nq.1 y (Qc hy);obtain ⟨s,hs⟩:=nmE ((x+18446744073709551616-c-y) % 18446744073709551616);refine go tt [.t (by simp [U7]; omega),.x (G0 hx),.w 1,.r 32 (Dy (b:=(((x+18446744073709551616-c) % 18446744073709551616:Nat):Int)) (by rw [w64]; omega)),.t (by simp [U7]; omega),.x (G0 hy),.w 1,.r 43 (Dy (b:=(s:Int)) (by rw [w64]; omega)),.w 0,.r 47 (Eo (b:=((s % 4294967296:Nat):Int)) (by rw [xJ]; omega)),.i 63,.r 49 (Dy (b:=((s / 9223372036854775808:Nat):Int)) (by simp)),.i i] rfl (by simp [U3,Hu,U7,IntKind.bits] <;> omega) ?_;rw [Cq];exact rd (i+1,o.set i (s % 4294967296),s / 9223372036854775808) (fin y _ (.inl hy) yb hs).1 (fin y _ (.inl hy) yb hs).2 rfl
  ·obtain ⟨s,hs⟩:=nmE ((x+18446744073709551616-c-0) % 18446744073709551616);have hf:=fin 0 _ (.inr ⟨by omega,rfl⟩) (by decide) hs;refine go tt [.t (by simp [U7]; omega),.x (G0 hx),.w 1,.r 32 (Dy (b:=(s:Int)) (by rw [w64]; omega)),.f (by simp [U7]; omega),.w 0,.r 47 (Eo (b:=((s % 4294967296:Nat):Int)) (by rw [xJ]; omega)),.i 63,.r 49 (Dy (b:=((s / 9223372036854775808:Nat):Int)) (by simp)),.i i] rfl (by simp [U3,Hu,U7,IntKind.bits] <;> omega) ?_;rw [Cq];exact rd (i+1,o.set i (s % 4294967296),s / 9223372036854775808) hf.1 hf.2 rfl
 ·obtain rfl:i=p.length:=by omega
  have e:val o=val p-val q:=by
   rw [Qn (Nat.le_of_eq j2),Qn hq,Qn (Ql _)] at j5;have h1:=Bv o j3;rw [j2] at h1;rcases Nat.le_one_iff_eq_zero_or_eq_one.1 j4 with rfl | rfl <;> omega
  rw [<-e];exact Uf [.f (by simp [U7]),.k (VO j3)] rfl
theorem Qxs {a b:Uo} (ha:Sm a) (hb:Sm b) (h1:sz (val a)<=4294967296) (h2:sz (val b)<=4294967296):Uj 205 [lr a,lr b] [lr (Gb (val a*val b))]:=by
 refine Fv func205 rfl ?_;obtain ⟨p,ca,np,vp,_,ep⟩:=HI ha;obtain ⟨q,cb,nq,vq,_,eq⟩:=HI hb;have hp:=Rm h1;have hq:=Rm h2;rw [<-ep] at hp;rw [<-eq] at hq;rw [<-vp,<-vq];refine go tt [.k ca,.k cb,.i ((lm p).length+(lm q).length),.i ((lm p).length+(lm q).length)] rfl (by simp [U3,Hu,U7] <;> omega) ?_;rw [WP];refine lp (S:=Nat×Uo) 1 (λL1 s=>(24,.v (.oi (s.1:Int)))::L1) (λs=>[.row false 91 1 (lm s.2)]) (λs=>p.length-s.1)
  (λs=>s.1<=p.length/\s.2.length=p.length+q.length/\Sm s.2/\(∀ j,s.1+q.length<=j->j<s.2.length->s.2[j]? = some 0)/\val s.2=val (p.take s.1)*val q) (0,List.replicate ((lm p).length+(lm q).length) 0)
  ⟨Qh _,by simp [U7],λx hx=>by rw [Zx hx]; decide,λj _ hj=>by rw [Jz,if_pos (by simpa using hj)],by simp [val,TD]⟩ rfl (λ_ _=>rfl) rfl λ⟨i,o⟩ ⟨j1,j2,j3,j4,j5⟩=>?_
 dsimp only at j1 j2 j3 j4 j5 ⊢;by_cases hi:i<p.length
 ·obtain ⟨x,hx⟩:=gxE (l:=p) (i:=i) hi;have xb:=np.1 x (Qc hx);refine Ud [.t (by simp [U7]; omega),.x (G0 hx)] rfl ?_;refine lp (S:=Nat×Uo×Nat) 1 (λL1 s=>(31,.v (.oi (s.1:Int)))::(8,.v (.one (.int .u64 (s.2.2:Int))))::L1) (λs=>[.row false 91 1 (lm s.2.1)]) (λs=>q.length-s.1)
   (λs=>s.1<=q.length/\s.2.1.length=p.length+q.length/\Sm s.2.1/\(∀ j,i+q.length<=j->j<s.2.1.length->s.2.1[j]? = some 0)/\s.2.2<4294967296/\val s.2.1+s.2.2*4294967296^(i+s.1)=val (p.take i)*val q+4294967296^i*x*val (q.take s.1)) (0,o,0)
   ⟨Qh _,j2,j3,j4,by simp,by simp [val,j5]⟩ rfl (λ_ _=>rfl) rfl λ⟨k,o',c⟩ ⟨k1,k2,k3,k4,k5,k6⟩=>?_
  dsimp only at k1 k2 k3 k4 k5 k6 ⊢;by_cases hk:k<q.length
  ·obtain ⟨y,hy⟩:=gxE (l:=q) (i:=k) hk;have yb:=nq.1 y (Qc hy);obtain ⟨z,hz⟩:=gxE (l:=o') (i:=i+k) (by omega);have zb:=k3 z (Qc hz);have hm:=JY xb yb;have hm2:(x:Int)*(y:Int)=((x*y:Nat):Int):=by push_cast; rfl
   obtain ⟨s,hs⟩:=nmE (x*y+z+c);refine go tt [.t (by simp [U7]; omega),.x (G0 hy),.r 40 (Dy (b:=((x*y:Nat):Int)) (by push_cast; rfl)),.i (i+k),.x (G0 hz),.r 50 (Dy (b:=(s:Int)) (by omega)),.w 1,.r 56 (Eo (b:=((s % 4294967296:Nat):Int)) (by rw [xJ]; omega)),.i 32,.r 58 (Dy (b:=((s / 4294967296:Nat):Int)) (by simp)),.i (i+k)] rfl ?_ ?_
   ·simp [U3,Hu,U7,IntKind.bits] <;> omega
   ·rw [Cq];exact rd (k+1,o'.set (i+k) (s % 4294967296),s / 4294967296) (show q.length-(k+1)<q.length-k by omega) ⟨hk,by simp [k2],Bs k3 _ _ (by omega),λj h3 h4=>by
     rw [Yg (by omega)]; exact k4 j h3 (by simpa using h4),(show s / 4294967296<4294967296 from by omega),Qi6 hz hy k6 hs⟩ rfl
  ·obtain rfl:k=q.length:=by omega
   by_cases hq0:0<q.length
   ·refine go tt [.f (by simp [U7]),.t (by simp [U7]; omega),.w 1,.r 70 (Eo (b:=((c % 4294967296:Nat):Int)) (by rw [xJ]; omega)),.i (i+(lm q).length)] rfl (by simp [U3,Hu,U7,IntKind.bits] <;> omega) ?_;rw [Cq];refine rd (i+1,o'.set (i+(lm q).length) (c % 4294967296)) (show p.length-(i+1)<p.length-i by omega) ⟨hi,by simp [k2],Bs k3 _ _ (by omega),λj h3 h4=>?_,?_⟩ rfl
    ·rw [U7,List.getElem?_set_ne (by dsimp only at h3; omega)];exact k4 j (by dsimp only at h3; omega) (by simpa using h4)
    ·rw [U7];exact Qi5 (k4 _ (Ql _) (by omega)) hx k5 rfl k6
   ·have q0:q=[]:=Qj (by omega);refine go tt [.f (by simp [U7]),.f (by simp [U7,q0])] rfl (by simp [U3,Hu,U7,IntKind.bits] <;> omega) ?_;refine rd (i+1,o') (show p.length-(i+1)<p.length-i by omega) ⟨hi,k2,k3,λj h3 h4=>k4 j (by dsimp only at h3; omega) h4,?_⟩ rfl;have c0:c*4294967296^(i+q.length)=0/\val o'=0:=by
     subst q0;simp only [val,List.take_nil,Yz] at k6;omega
    rw [c0.2,q0]; rfl
 ·obtain rfl:i=p.length:=by omega
  rw [Qn (Ql _)] at j5;rw [<-j5];exact Uf [.f (by simp [U7]),.k (VO j3)] rfl
theorem o64 {k q:Nat} (hq:q<4294967296) (hb:4294967296*k+q<18446744073709551616):orI .u64 ((4294967296*k:Nat):Int) (q:Int)=((4294967296*k+q:Nat):Int):=by
 have e1:(BitVec.ofInt 64 ((4294967296*k:Nat):Int)).toNat=4294967296*k:=by rw [BitVec.toNat_ofInt]; omega
 have e2:(BitVec.ofInt 64 (q:Int)).toNat=q:=by rw [BitVec.toNat_ofInt]; omega
 show IntKind.u64.wrap ((BitVec.ofInt 64 ((4294967296*k:Nat):Int) ||| BitVec.ofInt 64 (q:Int)).toNat:Int)=_;rw [BitVec.toNat_or,e1,e2,Qvv hq,w64]; omega
theorem oM {k p:Nat} (hp:p<4294967296) (hb:4294967296*k+p<18446744073709551616):orI .u64 (p:Int) ((4294967296*k:Nat):Int)=((4294967296*k+p:Nat):Int):=by
 have:=o64 hp hb;unfold orI at this ⊢;rw [BitVec.or_comm]; exact this
theorem o32 {s k p:Nat} (hp:p<2^s) (h1:p<4294967296) (h2:2^s*k<4294967296) (hb:p+2^s*k<4294967296):orI .u32 (p:Int) ((2^s*k:Nat):Int)=((p+2^s*k:Nat):Int):=by
 have e1:(BitVec.ofInt 32 ((2^s*k:Nat):Int)).toNat=2^s*k:=by rw [BitVec.toNat_ofInt]; omega
 have e2:(BitVec.ofInt 32 (p:Int)).toNat=p:=by rw [BitVec.toNat_ofInt]; omega
 have e3:p ||| 2^s*k=p+2^s*k:=by
  have:=Wq (i:=s) (b:=p) hp k;rw [Nat.or_comm,<-this,Ju]
 show IntKind.u32.wrap ((BitVec.ofInt 32 (p:Int) ||| BitVec.ofInt 32 ((2^s*k:Nat):Int)).toNat:Int)=_;rw [BitVec.toNat_or,e1,e2,e3,xJ]; omega
theorem Qx2 {l:Uo} {v:Nat} (hl:Sm l) (hn:l.length<274877906944) (h0:0<v) (hv:v<4294967296):Uj 219 [lr l,.one (.int .u32 (v:Int))] [lr (Gb (val l / v)),.one (.int .u32 ((val l % v:Nat):Int))]:=by
 refine Fv func219 rfl ?_;refine go tt [.i (lm l).length,.i (lm l).length] rfl (by simp [U3,Hu,U7] <;> omega) ?_;rw [WP];refine lp (S:=Int×Uo×Nat) 1 (λL1 s=>(8,.v (.oi s.1))::(7,.v (.one (.int .u64 (s.2.2:Int))))::L1) (λs=>[.row false 91 1 (lm s.2.1)]) (λs=>(s.1+1).toNat)
  (λs=>-1<=s.1/\s.1<l.length/\s.2.1.length=l.length/\Sm s.2.1/\s.2.2<v/\val (l.drop (s.1+1).toNat)=v*val (s.2.1.drop (s.1+1).toNat)+s.2.2) (((lm l).length:Int)-1,List.replicate (lm l).length 0,0)
  ⟨by simp [U7]; omega,by simp [U7]; omega,by simp [U7],λx hx=>by rw [Zx hx]; decide,h0,by simp [U7,val]⟩ rfl (λ_ _=>rfl) rfl λ⟨i,o,r⟩ ⟨j1,j2,j3,j4,j5,j6⟩=>?_
 dsimp only at j1 j2 j3 j4 j5 j6 ⊢;rcases Kd i 0 with hi | hi
 ·obtain rfl:i=-1:=by omega
  simp only [show ((-1:Int)+1).toNat=0 from rfl,Xy] at j6;have e1:val l / v=val o:=by rw [j6,W9 h0,V2 j5,Xm]
  have e2:val l % v=r:=by rw [j6,Ua,Xu j5]
  rw [e1,e2];exact Uf [.f (by decide),.k (VO j4)] rfl rfl (by simp [U3,Hu,U7,IntKind.bits] <;> omega)
 ·obtain ⟨k,rfl⟩:=Kk hi;have e:((k:Int)+1).toNat=k+1:=by omega
  rw [e] at j6;obtain ⟨x,hx⟩:=gxE (l:=l) (i:=k) (by omega);have xb:=hl x (Qc hx);obtain ⟨s,hs⟩:=nmE (r*4294967296+x);obtain ⟨k1,k2,k3⟩:=Qjh hx xb (show k<o.length by omega) h0 j5 j6 hs;obtain ⟨q,hq⟩:=nmE (s / v);obtain ⟨u,hu⟩:=nmE (s % v);have hqi:(s:Int).tdiv v=(q:Int):=by rw [V6 (by omega),hq]; rfl
  have hui:(s:Int).tmod v=(u:Int):=by rw [Y5 (by omega),hu]; rfl
  rw [<-hq,<-hu] at k3;rw [<-hq] at k1;rw [<-hu] at k2;refine go tt [.t (by simp),.i 32,.r 21 (Dy (b:=((4294967296*r:Nat):Int)) (by omega)),.x (G0 hx),.r 27 (Dy (b:=(s:Int)) (by rw [o64 xb (by omega)]; omega)),
   .r 33 (Dy (b:=(q:Int)) hqi),.w 0,.r 34 (Eo (b:=((q % 4294967296:Nat):Int)) (by rw [xJ]; omega)),.r 38 (Dy (b:=(u:Int)) hui),.i k] rfl (by simp [U3,Hu,U7,IntKind.bits,hqi] <;> omega) ?_
  rw [Cq];exact rd ((k:Int)-1,o.set k (q % 4294967296),u) (by dsimp only; omega) ⟨by dsimp only; omega,by dsimp only; omega,by simp [j3],Bs j4 _ _ (by omega),k2,by dsimp only; rw [show ((k:Int)-1+1).toNat=k from by omega]; exact k3⟩ rfl
theorem UJ {i:Nat} {s:ByteArray} (h:∀ i,i<256->(s[i]?).map (·.toNat)=some (sz i)) (hi:i<256):(s[i]?).map (·.toNat)=some (sz i):=h i hi
set_option maxRecDepth 100000 in
theorem lZ {x:Nat} (hx:x<4294967296):Uj 245 [.one (.int .u32 (x:Int))] [.oi (sz x:Int)]:=by
 refine Fv func245 rfl ?_;have h31:sz x<=32:=Np.2 (by omega);by_cases h1:65536<=x
 ·have e1:sz x=16+sz (x / 2^16):=GM (by omega);obtain ⟨y,hy⟩:=nmE (x / 2^16);rw [<-hy] at e1;by_cases h2:256<=y
  ·have e2:sz y=8+sz (y / 2^8):=GM (by omega);obtain ⟨z,hz⟩:=nmE (y / 2^8);rw [<-hz] at e2;exact Uf [.t (by simp; omega),.i 16,.r 6 (Eo (b:=(y:Int)) (by simp [hy])),.t (by simp; omega),.i 8,.r 10 (Eo (b:=(z:Int)) (by simp [hz])),.y (UJ (i:=z) (by decide) (by omega))] rfl (by rw [e1,e2]; simp; omega) (by simp [U3,Hu,IntKind.bits] <;> omega)
  ·exact Uf [.t (by simp; omega),.i 16,.r 6 (Eo (b:=(y:Int)) (by simp [hy])),.f (by simp; omega),.y (UJ (i:=y) (by decide) (by omega))] rfl (by rw [e1]; simp) (by simp [U3,Hu,IntKind.bits] <;> omega)
 ·by_cases h2:256<=x
  ·have e2:sz x=8+sz (x / 2^8):=GM (by omega);obtain ⟨z,hz⟩:=nmE (x / 2^8);rw [<-hz] at e2;exact Uf [.f (by simp; omega),.t (by simp; omega),.i 8,.r 10 (Eo (b:=(z:Int)) (by simp [hz])),.y (UJ (i:=z) (by decide) (by omega))] rfl (by rw [e2]; simp) (by simp [U3,Hu,IntKind.bits] <;> omega)
  ·exact Uf [.f (by simp; omega),.f (by simp; omega),.y (UJ (i:=x) (by decide) (by omega))] rfl (by simp) (by simp [U3,Hu,IntKind.bits] <;> omega)
theorem Qtp {x:Nat} (hx:x<4294967296):Uj 220 [.one (.int .u32 (x:Int))] [.oi ((32-sz x:Nat):Int)]:=by
 have h31:sz x<=32:=Np.2 (by omega);exact Ug func220 rfl [.k (lZ hx)] rfl (by simp; omega) (by simp [U3,Hu] <;> omega)
theorem pL {l:Uo} (hl:Sm l) (hs:sz (val l)<=4294967296):Uj 206 [lr l] [.oi (sz (val l):Int)]:=by
 refine Fv func206 rfl ?_;obtain ⟨p,ca,np,vp,_,ep⟩:=HI hl;have hp:=Rm hs;rw [<-ep] at hp;rw [<-vp] at hs ⊢;by_cases h0:p=[]
 ·subst h0;exact Uf [.k ca,.t (by simp [lm])] rfl rfl (by simp [U3,Hu])
 ·have hpl:0<p.length:=J3.2 h0;obtain ⟨x,hx,hx0⟩:=np.2 h0;have xb:=np.1 x (Qc hx);have e:=dW np hx;have h31:sz x<=32:=Np.2 (by omega);have hn:(lm p).length≠0:=by rw [U7]; omega
  refine Uf [.k ca,.f (by simp [U7]; omega),.r 15 (eI (b:=((p.length-1:Nat):Int)) (by rw [U7]; omega)),.x (G0 hx),.k (lZ xb)] rfl (by rw [e,U7]; simp; omega) (by simp [U3,Hu,U7] <;> omega)
theorem tQ {s:Nat} (h:s<=31):((s:Nat):Int).tdiv 32=((0:Nat):Int):=by
 rw [V6 (by omega)]; omega
theorem Qka {s:Nat} (h:s<=31):((s:Nat):Int).tmod 32=(s:Int):=Int.tmod_eq_of_lt (by omega) (by omega)
theorem Qvk {s:Nat} (h:s<=31):max 0 (min (s:Int) 65536)=(s:Int):=by omega
theorem Qxx {a:Uo} {s:Nat} (ha:Sm a) (h1:sz (val a)<=4294967400) (hs:s<=31):Uj 253 [lr a,.oi s] [lr (Gb (val a*2^s))]:=by
 refine Fv func253 rfl ?_;obtain ⟨p,ca,np,vp,_,ep⟩:=HI ha;have hp:=Rm h1;rw [<-ep] at hp;rw [<-vp];have hq:((s:Nat):Int).tdiv 32=0:=tQ hs;by_cases h0:p=[]
 ·subst h0;exact Uf [.k ca,.t (by simp [lm])] rfl (by simp [val,Hb,lm]) (by simp [U3,Hu])
 have hpl:0<p.length:=J3.2 h0;refine go tt [.k ca,.r 15 (eI (b:=(s:Int)) (Qvk hs)),.f (by simp [U7]; omega),.r 20 (eI (b:=((0:Nat):Int)) (tQ hs)),.r 22 (eI (b:=(s:Int)) (Qka hs)),.r 28 (eI (b:=(((lm p).length+1:Nat):Int)) (by omega)),.i ((lm p).length+1),.i ((lm p).length+1)] rfl (by have e:=U7 p; simp only [U3,Hu]; omega) ?_;rw [WP];refine lp (S:=Nat×Uo) 1 (λL1 s=>(32,.v (.oi (s.1:Int)))::L1) (λs=>[.row false 91 1 (lm s.2)]) (λs=>p.length-s.1)
  (λr=>r.1<=p.length/\r.2.length=p.length+1/\Sm r.2/\(∃ z,r.2[r.1]? = some z/\z<2^s)/\val (r.2.take (r.1+1))=val (p.take r.1)*2^s) (0,List.replicate ((lm p).length+1) 0)
  ⟨Qh _,by simp [U7],λx hx=>by rw [Zx hx]; decide,⟨0,by simp,Z2 (by decide)⟩,by simp [val,J4]⟩ rfl (λ_ _=>rfl) rfl λ⟨i,o⟩ ⟨j1,j2,j3,⟨z,hz,hzs⟩,j5⟩=>?_
 dsimp only at j1 j2 j3 hz hzs j5 ⊢;by_cases hi:i<p.length
 ·obtain ⟨x,hx⟩:=gxE (l:=p) (i:=i) hi;have xb:=np.1 x (Qc hx);have zb:=j3 z (Qc hz);obtain ⟨k1,k2,k3,k4⟩:=Qkw hs hx xb hz hzs (by omega) j5;have hxs:=Qwc hs xb;have h31:2^s<=2^31:=Zs (by decide) hs;have ec:(x:Int)*2^s=((x*2^s:Nat):Int):=by push_cast; rfl
  obtain ⟨m,hm⟩:=nmE (x*2^s);rw [<-hm] at k1 k2 k3 k4 hxs ec;refine go tt [.t (by simp [U7]; omega),.x (G0 hx),.i s,.r 40 (Dy (b:=(m:Int)) ec),.i i,.x (G0 hz),.w 0,.r 52 (Eo (b:=((m % 4294967296:Nat):Int)) (by rw [xJ]; omega)),.r 53 (Eo (b:=((z+m % 4294967296:Nat):Int)) (by rw [k4,o32 hzs zb (by omega) (by omega)])),.i i,
   .i 32,.r 61 (Dy (b:=((m / 2^32:Nat):Int)) (by simp)),.w 0,.r 62 (Eo (b:=((m / 2^32 % 4294967296:Nat):Int)) (by rw [xJ]; omega)),.i (i+1)] rfl (by simp [U3,Hu,U7,IntKind.bits,ec] <;> omega) ?_
  rw [Cq,Cq];exact rd (i+1,(o.set i (z+m % 4294967296)).set (i+1) (m / 2^32 % 4294967296)) (show p.length-(i+1)<p.length-i by omega) ⟨hi,by simp [j2],Bs (Bs j3 _ _ (by omega)) _ _ (by omega),⟨_,by rw [Ja (by simp; omega)],by omega⟩,k3⟩ rfl
 ·obtain rfl:i=p.length:=by omega
  rw [Qn (by omega),Qn (Ql _)] at j5;rw [<-j5];exact Uf [.f (by simp [U7]),.k (VO j3)] rfl
theorem Qxy {a:Uo} {s:Nat} (ha:Sm a) (h1:sz (val a)<=4294967400) (hs:s<=31):Uj 223 [lr a,.oi s] [lr (Gb (val a / 2^s))]:=by
 refine Fv func223 rfl ?_;obtain ⟨p,ca,np,vp,_,ep⟩:=HI ha;have hp:=Rm h1;rw [<-ep] at hp;rw [<-vp];have hq:((s:Nat):Int).tdiv 32=0:=tQ hs;by_cases h0:p=[]
 ·subst h0;exact Uf [.k ca,.r 14 (eI (b:=(s:Int)) (Qvk hs)),.r 16 (eI (b:=((0:Nat):Int)) (tQ hs)),.r 18 (eI (b:=(s:Int)) (Qka hs)),.t (by simp [lm])] rfl (by simp [val,Hb,lm]) (by simp only [U3,Hu]; omega)
 have hpl:0<p.length:=J3.2 h0;refine go tt [.k ca,.r 14 (eI (b:=(s:Int)) (Qvk hs)),.r 16 (eI (b:=((0:Nat):Int)) (tQ hs)),.r 18 (eI (b:=(s:Int)) (Qka hs)),.f (by simp [U7]; omega),.r 27 (eI (b:=((lm p).length:Int)) (by omega)),.i (lm p).length,.i (lm p).length] rfl (by have e:=U7 p; simp only [U3,Hu]; omega) ?_;rw [WP];refine lp (S:=Nat×Uo) 1 (λL1 s=>(31,.v (.oi (s.1:Int)))::L1) (λs=>[.row false 91 1 (lm s.2)]) (λs=>p.length-s.1)
  (λr=>r.1<=p.length/\r.2.length=p.length/\Sm r.2/\val (r.2.take r.1)=val p / 2^s % 4294967296^r.1) (0,List.replicate (lm p).length 0)
  ⟨Qh _,by simp [U7],λx hx=>by rw [Zx hx]; decide,by simp [val]; omega⟩ rfl (λ_ _=>rfl) rfl λ⟨i,o⟩ ⟨j1,j2,j3,j5⟩=>?_
 dsimp only at j1 j2 j3 j5 ⊢;by_cases hi:i<p.length
 ·obtain ⟨x,hx⟩:=gxE (l:=p) (i:=i) hi;have xb:=np.1 x (Qc hx);have fin:∀ y m,(p[i+1]? = some y\/p.length<=i+1/\y=0)->m=(x+y*2^32) / 2^s->p.length-(i+1)<p.length-i/\i+1<=p.length/\(o.set i (m % 4294967296)).length=p.length/\Sm (o.set i (m % 4294967296))/\val ((o.set i (m % 4294967296)).take (i+1))=val p / 2^s % 4294967296^(i+1):=λy m hy hm =>
   ⟨by omega,hi,by simp [j2],Bs j3 _ _ (by omega),by subst hm; exact Qkx hs hx hy (by omega) np.1 j5⟩
  have hsp:0<2^s:=Z2 (by decide);by_cases hy0:i+1<p.length
  ·obtain ⟨y,hy⟩:=gxE (l:=p) (i:=i+1) hy0;have yb:=np.1 y (Qc hy);obtain ⟨v,hv⟩:=nmE (4294967296*y+x);obtain ⟨m,hm⟩:=nmE (v / 2^s);have hml:m<=v:=hm ▸ Jq _ _;have hf:=fin y m (.inl hy) (by rw [hm,hv]; congr 1; omega);refine go tt [.t (by simp [U7]; omega),.x (G0 hx),.t (by simp [U7]; omega),.x (G0 hy),.i 32,.r 57 (Dy (b:=((4294967296*y:Nat):Int)) (by omega)),.r 58 (Dy (b:=(v:Int)) (by rw [oM xb (by omega)]; omega)),
    .i s,.r 63 (Dy (b:=(m:Int)) (by rw [hm]; push_cast; rfl)),.w 0,.r 64 (Eo (b:=((m % 4294967296:Nat):Int)) (by rw [xJ]; omega)),.i i] rfl (by simp [U3,Hu,U7,IntKind.bits] <;> omega) ?_
   rw [Cq];exact rd (i+1,o.set i (m % 4294967296)) hf.1 hf.2 rfl
  ·obtain ⟨m,hm⟩:=nmE (x / 2^s);have hml:m<=x:=hm ▸ Jq _ _;have hf:=fin 0 m (.inr ⟨by omega,rfl⟩) (by rw [hm]; simp);refine go tt [.t (by simp [U7]; omega),.x (G0 hx),.f (by simp [U7]; omega),
    .i s,.r 63 (Dy (b:=(m:Int)) (by rw [hm]; push_cast; rfl)),.w 0,.r 64 (Eo (b:=((m % 4294967296:Nat):Int)) (by rw [xJ]; omega)),.i i] rfl (by simp [U3,Hu,U7,IntKind.bits] <;> omega) ?_
   rw [Cq];exact rd (i+1,o.set i (m % 4294967296)) hf.1 hf.2 rfl
 ·obtain rfl:i=p.length:=by omega
  have hvl:=Bv p np.1;rw [Qn (by omega),Xu (Z3 (Jq _ _) hvl)] at j5;rw [<-j5];exact Uf [.f (by simp [U7,j2]),.k (VO j3)] rfl
def uF:Nat->Nat->Uo
 | 0,_=>[]
 | k+1,v=>v % 4294967296::uF k (v / 4294967296)
theorem Qg3:∀ {l:Uo},Sm l->l=uF l.length (val l)
 | [],_=>rfl
 |
  x::l,h=>by
  have hx:=h x (.head _);have ih:=Qg3 (l:=l) λy hy=>h y (.tail _ hy)
  simp only [Q5,uF,val];rw [show (x+4294967296*val l) % 4294967296=x by omega,show (x+4294967296*val l) / 4294967296=val l by omega,<-ih]
theorem mD {l:Uo} {k v:Nat} (h:Sm l) (hk:l.length=k) (hv:val l=v):uF k v=l:=by
 rw [<-hk,<-hv]; exact (Qg3 h).symm
theorem jV:∀ {k v:Nat},(uF k v).length=k/\Sm (uF k v)/\(v<4294967296^k->val (uF k v)=v)
 | 0,v=>⟨rfl,λx hx=>by (cases hx),λh=>by simp at h; subst h; rfl⟩
 |
  k+1,v=>by
  obtain ⟨h1,h2,h3⟩:=jV (k:=k) (v:=v / 4294967296);refine ⟨by simp [uF,h1],λx hx=>?_,λh=>?_⟩
  ·rcases Qm.1 hx with rfl | hx
   ·exact Z4 _ (by decide)
   ·exact h2 x hx
  ·simp only [uF,val];rw [h3 (by rw [Zr] at h; exact X9 (by rw [Zq]; exact h))];omega
theorem Qgl {a:Uo} {s n:Nat} (ha:Sm a) (h1:sz (val a)<=4294967400) (hs:s<=31) (hn:n<274877906944) (h0:0<n) (hv:val a*2^s<4294967296^n) :
 U6 prog 221 [lr a,.oi s,.oi n] [] [.one (.orow 0 1 none)] [.row false 91 1 (lm (uF n (val a*2^s)))]:=by
 refine Fv func221 rfl ?_;obtain ⟨v,hvv⟩:=nmE (val a*2^s);have cs:=Qxx ha h1 hs;rw [<-hvv] at cs hv ⊢;have hl:(Gb v).length<=n:=by
  apply Classical.byContradiction;intro hh;have h2:=FB (Do v) (λe=>by rw [e] at hh; simp at hh);rw [G9] at h2;have h3:4294967296^n<=4294967296^((Gb v).length-1):=Zs (by decide) (by omega);omega
 refine go tt [.i n,.i n,.k cs,.s (Qis (Gb v)),.i (Gb v).length] rfl (by simp [U3,Hu,U7] <;> omega) ?_;have e:List.take 0 (List.replicate n [LV.int .u32 0])++(List.take (Gb v).length (lm (Gb v))++List.drop (0+(Gb v).length) (List.replicate n [LV.int .u32 0]))=lm (uF n v):=by
  rw [mD (l:=Gb v++List.replicate (n-(Gb v).length) 0) (λx hx=>?_) (by simp; omega) (by rw [Bu,TD,G9]; simp)]
  ·rw [Vu,Yj,Qn (by rw [U7]; exact Ql _)];simp [lm]
  ·rcases Qr.1 hx with hx | hx
   ·exact Lt v x hx
   ·rw [Zx hx]; decide
 rw [e];exact Uh [] [0] [] rfl
theorem IU {pre x post:Uo} {i u:Nat} (h:x[i]? = some u):(lm (pre++x++post))[pre.length+i]? = some [.int .u32 (u:Int)]:=G0 (by
 have hi:=(Qf.1 h).1;rw [Zd,Z8 (by omega),Jj,Zi hi]; exact h)
theorem Qlo {pre x post:Uo} {i v:Nat} (h:i<x.length):(lm (pre++x++post)).set (pre.length+i) [.int .u32 (v:Int)]=lm (pre++x.set i v++post):=by
 rw [Cq,Zd,List.set_append_right _ _ (by omega),Jj,List.set_append_left _ _ h,<-Zd]
theorem Qnt {pre x post ly:Uo} {top nx xn x1 x2:Nat} (D:Dig x ly ly.length top nx xn x1 x2) (hn:ly.length<274877906944) :
 U6 prog 222 [.one (.orow 0 1 (some (pre.length,x.length))),lr ly] [.row true 91 1 (lm (pre++x++post))] [.one (.int .u32 ((val x / val ly:Nat):Int))] [.row true 91 1 (lm (pre++uF x.length (val x % val ly)++post))]:=by
 refine Fv func222 rfl ?_;have hxl:=D.hx;have hn2:=D.hn;have hb:=D.bnd;obtain ⟨head,hh⟩:=nmE (xn*2^32+x1);obtain ⟨g0,hg0⟩:=nmE (head / top);obtain ⟨r0,hr0⟩:=nmE (head % top);have hst:=D.start;rw [<-hh,<-hg0] at hst;have ht0:=D.top0;have hg0l:g0<=head:=hg0 ▸ Jq _ _;have hr0l:r0<top:=hr0 ▸ Z4 _ ht0;have htd:(head:Int).tdiv top=(g0:Int):=by rw [V6 (by omega),hg0]; rfl
 have htm:(head:Int).tmod top=(r0:Int):=by rw [Y5 (by omega),hr0]; rfl
 refine go tt [.r 23 (eI (b:=(ly.length:Int)) (by rw [U7])),.r 26 (eI (b:=((ly.length-1:Nat):Int)) (by omega)),.x (G0 D.ltop),.r 32 (eI (b:=((ly.length-2:Nat):Int)) (by omega)),.x (G0 D.lnx),
  .i ly.length,.x (IU D.xn),.i 32,.r 41 (Dy (b:=((4294967296*xn:Nat):Int)) (by omega)),.r 44 (eI (b:=((ly.length-1:Nat):Int)) (by omega)),.i (ly.length-1),.x (IU D.x1),.r 48 (Dy (b:=(head:Int)) (by rw [o64 hb.2.2.2.1 (by omega)]; omega)),
  .r 51 (Dy (b:=(g0:Int)) htd),.r 54 (Dy (b:=(r0:Int)) htm)] rfl ?_ ?_
 ·simp only [U3,Hu,htd,IntKind.bits]; omega
 refine ct 2 (S:=Nat) (λg=>[(0,.v (.one (.orow 0 1 (some (pre.length,x.length))))),(1,.v (lr ly)),(5,.v (.oi (ly.length:Int))),(9,.v (.one (.int .u64 (g:Int))))]) (λ_=>[.row true 91 1 (lm (pre++x++post))]) (λg=>val x / val ly<=g/\(g-1)*val ly<=val x/\g<=4294967296) rfl ?_ ?_
 ·refine lp (S:=Nat×Nat) 1 (λL1 s=>(9,.v (.one (.int .u64 (s.1:Int))))::(10,.v (.one (.int .u64 (s.2:Int))))::L1) (λ_=>[.row true 91 1 (lm (pre++x++post))]) (λs=>4294967296-s.2)
   (λs=>s.1*top+s.2=xn*2^32+x1/\val x / val ly<=s.1/\s.2<4294967296/\s.1<18446744073709551616) (g0,r0)
   ⟨by rw [<-hh,hg0,hr0,Nat.mul_comm]; exact Nat.div_add_mod _ _,hst,by dsimp only; omega,by dsimp only; omega⟩ rfl (λ_ _=>rfl) rfl λ⟨g,r⟩ ⟨j1,j2,j3,j4⟩=>?_
  dsimp only at j1 j2 j3 j4 ⊢;by_cases hge:4294967296<=g
  ·have hrd:=D.round j1 j2 (.inl hge);by_cases h2:4294967296<=r+top
   ·exact go tt [.t (by simp; omega),.t rfl,.r 73 (Dy (b:=((g-1:Nat):Int)) (by omega)),.t (by simp; omega)] rfl (by simp [U3,Hu] <;> omega) (rc (g-1) ⟨hrd.2.1,(hrd.2.2.2 h2).1,(hrd.2.2.2 h2).2⟩ rfl)
   ·exact go tt [.t (by simp; omega),.t rfl,.r 73 (Dy (b:=((g-1:Nat):Int)) (by omega)),.f (by simp; omega)] rfl (by simp [U3,Hu] <;> omega) (rd (g-1,r+top) (by dsimp only; omega) ⟨hrd.2.2.1,hrd.2.1,by dsimp only; omega,by dsimp only; omega⟩ rfl)
  ·have hgn:=JY (x:=g) (y:=nx) (by omega) hb.2.1;by_cases hc:r*2^32+x2<g*nx
   ·have hrd:=D.round j1 j2 (.inr hc);have e1:(g:Int)*(nx:Int)=((g*nx:Nat):Int):=by push_cast; rfl
    obtain ⟨m,hm⟩:=nmE (g*nx);rw [<-hm] at e1 hgn hc;by_cases h2:4294967296<=r+top
    ·exact go tt [.f (by simp; omega),.r 60 (Dy (b:=(m:Int)) e1),.i 32,.r 62 (Dy (b:=((4294967296*r:Nat):Int)) (by omega)),.r 65 (eI (b:=((ly.length-2:Nat):Int)) (by omega)),.i (ly.length-2),.x (IU D.x2),.r 69 (Dy (b:=((4294967296*r+x2:Nat):Int)) (o64 hb.2.2.2.2 (by omega))),.t (by simp; omega),.r 73 (Dy (b:=((g-1:Nat):Int)) (by omega)),.t (by simp; omega)] rfl (by simp only [U3,Hu,e1,IntKind.bits]; omega) (rc (g-1) ⟨hrd.2.1,(hrd.2.2.2 h2).1,(hrd.2.2.2 h2).2⟩ rfl)
    ·exact go tt [.f (by simp; omega),.r 60 (Dy (b:=(m:Int)) e1),.i 32,.r 62 (Dy (b:=((4294967296*r:Nat):Int)) (by omega)),.r 65 (eI (b:=((ly.length-2:Nat):Int)) (by omega)),.i (ly.length-2),.x (IU D.x2),.r 69 (Dy (b:=((4294967296*r+x2:Nat):Int)) (o64 hb.2.2.2.2 (by omega))),.t (by simp; omega),.r 73 (Dy (b:=((g-1:Nat):Int)) (by omega)),.f (by simp; omega)] rfl (by simp only [U3,Hu,e1,IntKind.bits]; omega) (rd (g-1,r+top) (by dsimp only; omega) ⟨hrd.2.2.1,hrd.2.1,by dsimp only; omega,by dsimp only; omega⟩ rfl)
   ·have hf:=D.fin j1 (by omega) (by omega);have e1:(g:Int)*(nx:Int)=((g*nx:Nat):Int):=by push_cast; rfl
    obtain ⟨m,hm⟩:=nmE (g*nx);rw [<-hm] at e1 hgn hc;exact go tt [.f (by simp; omega),.r 60 (Dy (b:=(m:Int)) e1),.i 32,.r 62 (Dy (b:=((4294967296*r:Nat):Int)) (by omega)),.r 65 (eI (b:=((ly.length-2:Nat):Int)) (by omega)),.i (ly.length-2),.x (IU D.x2),.r 69 (Dy (b:=((4294967296*r+x2:Nat):Int)) (o64 hb.2.2.2.2 (by omega))),.f (by simp; omega)] rfl (by simp only [U3,Hu,e1,IntKind.bits]; omega) (rc g ⟨j2,hf,by omega⟩ rfl)
 ·intro g ⟨q1,q2,q3⟩;refine Ud [.r 80 (eI (b:=(ly.length:Int)) (by rw [U7]))] rfl ?_;refine lp (S:=Nat×Uo×Nat×Nat) 1 (λL1 s=>(81,.v (.oi (s.1:Int)))::(11,.v (.one (.int .u64 (s.2.2.1:Int))))::(12,.v (.one (.int .u64 (s.2.2.2:Int))))::L1) (λs=>[.row true 91 1 (lm (pre++s.2.1++post))]) (λs=>ly.length-s.1)
   (λs=>s.1<=ly.length/\s.2.1.length=ly.length+1/\Sm s.2.1/\s.2.2.2<=1/\s.2.2.1<4294967296/\val (s.2.1.take s.1)+g*val (ly.take s.1)=val (x.take s.1)+(s.2.2.1+s.2.2.2)*4294967296^s.1/\s.2.1.drop s.1=x.drop s.1) (0,x,0,0)
   ⟨Qh _,hxl,D.xb,Qh _,by simp,by simp [val],rfl⟩ rfl (λ_ _=>rfl) rfl λ⟨i,o,cy,bw⟩ ⟨j1,j2,j3,j4,j5,j6,j7⟩=>?_
  dsimp only at j1 j2 j3 j4 j5 j6 j7 ⊢;by_cases hi:i<ly.length
  ·obtain ⟨w1,hw1⟩:=gxE (l:=ly) (i:=i) hi;obtain ⟨u,hu⟩:=gxE (l:=x) (i:=i) (by omega);have wb:=D.lb w1 (Qc hw1);have ub:=D.xb u (Qc hu);have hou:=(UD j7).trans hu;have hgw:g*w1<=18446744069414584320:=by
    have:=Zc q3 (show w1<=4294967295 by omega);omega
   obtain ⟨s,hs⟩:=nmE (((u+18446744073709551616-(g*w1+cy) % 4294967296) % 18446744073709551616+18446744073709551616-bw) % 18446744073709551616);have hstep:=yG (o:=o) (by omega) hu hw1 ub j4 j6 rfl hs;have e1:(g:Int)*(w1:Int)=((g*w1:Nat):Int):=by push_cast; rfl
   obtain ⟨m,hm⟩:=nmE (g*w1);rw [<-hm] at e1 hgw hs hstep;obtain ⟨p,hp⟩:=nmE (m+cy);rw [<-hp] at hs hstep;refine go tt [.t (by simp; omega),.x (G0 hw1),.r 89 (Dy (b:=(m:Int)) e1),.r 91 (Dy (b:=(p:Int)) (by omega)),.i 32,.r 93 (Dy (b:=((p / 2^32:Nat):Int)) (by simp)),.i i,.x (IU hou),.w 1,.r 100 (Eo (b:=((p % 4294967296:Nat):Int)) (by rw [xJ]; omega)),.w 1,.r 102 (Dy (b:=(((u+18446744073709551616-p % 4294967296) % 18446744073709551616:Nat):Int)) (by rw [w64]; omega)),.w 0,.r 104 (Dy (b:=(s:Int)) (by rw [w64]; omega)),
    .w 0,.r 108 (Eo (b:=((s % 4294967296:Nat):Int)) (by rw [xJ]; omega)),.i 63,.r 110 (Dy (b:=((s / 2^63:Nat):Int)) (by simp)),.i i] rfl (by simp only [U3,Hu,e1,IntKind.bits,U7,Qu]; omega) ?_
   rw [Qlo (by omega)];exact rd (i+1,o.set i (s % 4294967296),p / 2^32,s / 2^63) (by dsimp only; omega) ⟨hi,by simp [j2],Bs j3 _ _ (by omega),hstep.2,by dsimp only; omega,hstep.1,OJ j7⟩ rfl
  ·obtain rfl:i=ly.length:=by omega
   have hon:=(UD j7).trans D.xn;rw [Qn (l:=ly) (Ql _)] at j6;obtain ⟨s,hs⟩:=nmE (((xn+18446744073709551616-cy) % 18446744073709551616+18446744073709551616-bw) % 18446744073709551616);obtain ⟨oa,hoa⟩:=nmE (o.set ly.length (s % 4294967296));have oal:oa.length=ly.length+1:=by rw [hoa,Xd]; exact j2
   have oab:Sm oa:=hoa ▸ Bs j3 _ _ (by omega);by_cases AP:s / 2^63=0
   ·have hf:=D.fin0 j2 j5 j4 q1 j6 hs AP;refine go tt [.f (by simp),.i ly.length,.x (IU hon),.w 1,.r 119 (Dy (b:=(((xn+18446744073709551616-cy) % 18446744073709551616:Nat):Int)) (by rw [w64]; omega)),.w 0,.r 121 (Dy (b:=(s:Int)) (by rw [w64]; omega)),.w 0,.r 125 (Eo (b:=((s % 4294967296:Nat):Int)) (by rw [xJ]; omega)),.i ly.length,.i 63,.r 128 (Dy (b:=((s / 2^63:Nat):Int)) (by simp)),.t (by simp; omega),.w 0,.r 131 (Eo (b:=((val x / val ly:Nat):Int)) (by rw [xJ]; omega))] rfl (by simp only [U3,Hu,IntKind.bits,U7,Qu]; omega) ?_;rw [Qlo (by omega),<-mD (l:=o.set ly.length (s % 4294967296)) (k:=x.length) (hoa ▸ oab) (by rw [<-hoa,oal,hxl]) hf.2];exact Uh [] [0] [] rfl
   ·have hf:=D.fin1 j2 j3 j5 j4 q2 j6 hs AP;rw [<-hoa] at hf;obtain ⟨v1,hv1⟩:=gxE (l:=oa) (i:=ly.length) (by omega);refine go tt [.f (by simp),.i ly.length,.x (IU hon),.w 1,.r 119 (Dy (b:=(((xn+18446744073709551616-cy) % 18446744073709551616:Nat):Int)) (by rw [w64]; omega)),.w 0,.r 121 (Dy (b:=(s:Int)) (by rw [w64]; omega)),.w 0,.r 125 (Eo (b:=((s % 4294967296:Nat):Int)) (by rw [xJ]; omega)),.i ly.length,.i 63,.r 128 (Dy (b:=((s / 2^63:Nat):Int)) (by simp)),.f (by simp; omega),.r 133 (eI (b:=(ly.length:Int)) (by rw [U7]))] rfl (by simp only [U3,Hu,IntKind.bits,U7,Qu]; omega) ?_;rw [Qlo (by omega),<-hoa];refine lp (S:=Nat×Uo×Nat) 1 (λL1 s=>(134,.v (.oi (s.1:Int)))::(18,.v (.one (.int .u64 (s.2.2:Int))))::L1) (λs=>[.row true 91 1 (lm (pre++s.2.1++post))]) (λs=>ly.length-s.1)
     (λs=>s.1<=ly.length/\s.2.1.length=ly.length+1/\Sm s.2.1/\s.2.2<=1/\val (s.2.1.take s.1)+s.2.2*4294967296^s.1=val (oa.take s.1)+val (ly.take s.1)/\s.2.1.drop s.1=oa.drop s.1) (0,oa,0)
     ⟨Qh _,oal,oab,Qh _,by simp [val],rfl⟩ rfl (λ_ _=>rfl) rfl λ⟨j,o2,bk⟩ ⟨r1,r2,r3,r4,r5,r6⟩=>?_
    dsimp only at r1 r2 r3 r4 r5 r6 ⊢;by_cases hj:j<ly.length
    ·obtain ⟨w1,hw1⟩:=gxE (l:=ly) (i:=j) hj;obtain ⟨u,hu⟩:=gxE (l:=oa) (i:=j) (by omega);have wb:=D.lb w1 (Qc hw1);have ub:=oab u (Qc hu);have hou:=(UD r6).trans hu;obtain ⟨m,hm⟩:=nmE (u+bk+w1);have hstep:=kB (o:=o2) (by omega) hu (.inl hw1) r5 hm;refine go tt [.t (by simp; omega),.x (G0 hw1),.i j,.x (IU hou),.r 148 (Dy (b:=(m:Int)) (by omega)),.w 0,.r 152 (Eo (b:=((m % 4294967296:Nat):Int)) (by rw [xJ]; omega)),.i 32,.r 154 (Dy (b:=((m / 4294967296:Nat):Int)) (by simp)),.i j] rfl (by simp only [U3,Hu,IntKind.bits,U7,Qu]; omega) ?_;rw [Qlo (by omega)];exact rd (j+1,o2.set j (m % 4294967296),m / 4294967296) (by dsimp only; omega) ⟨hj,by simp [r2],Bs r3 _ _ (by omega),by dsimp only; omega,hstep,OJ r6⟩ rfl
    ·obtain rfl:j=ly.length:=by omega
     have hon2:=(UD r6).trans hv1;have vb:=oab v1 (Qc hv1);rw [Qn (l:=ly) (Ql _)] at r5;have hf2:=D.fin2 oal oab r2 r3 hv1 r4 hf.2 r5;refine go tt [.f (by simp),.i ly.length,.x (IU hon2),.w 1,.r 165 (Eo (b:=(((v1+bk) % 4294967296:Nat):Int)) (by rw [xJ]; omega)),.i ly.length,.w 0,.r 168 (Eo (b:=((g % 4294967296:Nat):Int)) (by rw [xJ]; omega)),.w 0,.r 169 (Eo (b:=((val x / val ly:Nat):Int)) (Qy9 hf.1 D.qlt))] rfl (by simp only [U3,Hu,IntKind.bits,U7,Qu]; omega) ?_;rw [Qlo (by omega),<-mD (l:=o2.set ly.length ((v1+bk) % 4294967296)) (k:=x.length) (Bs r3 _ _ (by omega)) (by rw [Xd,r2,hxl]) hf2];exact Uh [] [0] [] rfl
theorem Qfu {o ly:Uo} {lo top nx xn x1 x2:Nat} (hlo:lo+(ly.length+1)<=o.length) (D:Dig (UQ o lo ly.length) ly ly.length top nx xn x1 x2) (hn:ly.length<274877906944) :
 U6 prog 222 [.one (.orow 0 1 (some (lo,ly.length+1))),lr ly] [.row true 91 1 (lm o)] [.one (.int .u32 ((val (UQ o lo ly.length) / val ly:Nat):Int))] [.row true 91 1 (lm (o.take lo++uF (ly.length+1) (val (UQ o lo ly.length) % val ly)++o.drop (lo+ly.length+1)))]:=by
 have:=Qnt (pre:=o.take lo) (post:=o.drop (lo+ly.length+1)) D hn;have e1:(o.take lo).length=lo:=by rw [Qq]; omega
 have e2:=GO (o:=o) (i:=lo) (n:=ly.length) (by omega);rw [e1,e2,VR] at this;exact this
theorem wV {a b:Uo} (ha:Sm a) (hb:Sm b) (h1:sz (val a)<=4294967296) (h2:sz (val b)<=4294967296) (hy:0<val b):Uj 185 [lr a,lr b] [lr (Gb (val a / val b)),lr (Gb (val a % val b)),.oi 0]:=by
 refine Fv func185 rfl ?_;obtain ⟨p,ca,np,vp,_,ep⟩:=HI ha;obtain ⟨q,cb,nq,vq,_,eq⟩:=HI hb;have hp:=Rm h1;have hq:=Rm h2;rw [<-ep] at hp;rw [<-eq] at hq;rw [<-vp,<-vq];rw [<-vp] at h1;rw [<-vq] at h2 hy;have q0:q≠[]:=λe=>by rw [e] at hy; simp [val] at hy
 have qp:0<q.length:=J3.2 q0;have c1:¬((lm q).length:Int)=0:=by rw [U7]; omega
 by_cases hlt:p.length<q.length
 ·have hv:=D5 np nq hlt;rw [V2 hv,Xu hv,Hb];exact Uf [.k ca,.k cb,.f (by simpa using c1),.t (by simp [U7]; omega),.k (KH np.1 h1)] rfl rfl (by simp [U3,Hu])
 by_cases hone:q.length=1
 ·obtain ⟨y,rfl⟩:∃ y,q=[y]:=by
   match q,hone with
   | [y],_=>exact ⟨y,rfl⟩
  have yb:=nq.1 y (.head _);have vy:val [y]=y:=by simp [val]
  rw [vy] at hy ⊢;have co:=Qx2 np.1 (by omega) hy yb;have sm:Sm [val p % y]:=λz hz=>by
   simp at hz; subst hz; exact Nat.lt_trans (Z4 _ hy) yb
  have cc:=VO sm;rw [show val [val p % y]=val p % y from by simp [val]] at cc;exact Uf [.k ca,.k cb,.f (by simp [lm]),.f (by simp [U7]; omega),.t (by simp [lm]),.x (G0 (l:=[y]) (i:=0) rfl),.k co,.k cc] rfl rfl (by simp [U3,Hu])
 ·have hle:q.length<=p.length:=J8 hlt;obtain ⟨y1,hy1,hy10⟩:=nq.2 q0;have y1b:=nq.1 y1 (Qc hy1);have hszy:=dW nq hy1;have hsz1:sz y1<=32:=Np.2 (by omega);have hsz0:0<sz y1:=Qwm (by omega);obtain ⟨s,hs⟩:=nmE (32-sz y1);have hs31:s<=31:=by omega
  have Eo:(2:Nat)^32=4294967296:=by decide
  obtain ⟨x,hx⟩:=nmE (val p);obtain ⟨y,hyv⟩:=nmE (val q);have cl:=Qtp y1b;rw [<-hs] at cl;have hvx:val p*2^s<4294967296^(p.length+1):=by
   have h1:=Bv p np.1;rw [Zr];exact Z6 (Xn h1 (show 0<2^s from Z2 (by decide))) (Zu _ (by rw [<-Eo]; exact Zs (by decide) (by omega)))
  have hvy:val q*2^s<4294967296^q.length:=by
   have h1:=FT (val q);rw [<-Eo,<-Ks];have h2:val q*2^s<2^sz (val q)*2^s:=Xn h1 (Z2 (by decide));rw [<-Xf] at h2;rw [show 32*q.length=sz (val q)+s from by omega];exact h2
  have cx:=Qgl np.1 (show sz (val p)<=4294967400 by omega) hs31 (show p.length+1<274877906944 by omega) (by omega) hvx;have cy:=Qgl nq.1 (show sz (val q)<=4294967400 by omega) hs31 (show q.length<274877906944 by omega) qp hvy;obtain ⟨hXl,hXb,hXv⟩:=jV (k:=p.length+1) (v:=val p*2^s);obtain ⟨hYl,hYb,hYv⟩:=jV (k:=q.length) (v:=val q*2^s);have hXv:=hXv hvx;have hYv:=hYv hvy;obtain ⟨X,hX⟩:=nmE (uF (p.length+1) (val p*2^s));obtain ⟨Y,hY⟩:=nmE (uF q.length (val q*2^s));rw [<-hX] at hXl hXb hXv cx;rw [<-hY] at hYl hYb hYv cy;have hyB:4294967296^(q.length-1)<=val q:=FB nq q0;have hR:=cK hXv hYv hXl hXb hYl hYb (show 2<=q.length by omega) (Bv p np.1) hyB hle;refine go tt [.k ca,.k cb,.f (by simpa using c1),.f (by simp [U7]; omega),.f (by simp [U7]; omega),.r 49 (eI (b:=((q.length-1:Nat):Int)) (by rw [U7]; omega)),.x (G0 hy1),.k cl,.r 57 (eI (b:=((p.length+1:Nat):Int)) (by rw [U7]; omega)),.c [0] cx,.r 62 (eI (b:=(q.length:Int)) (by rw [U7])),.c [1] cy,.r 65 (eI (b:=(q.length:Int)) (by rw [U7,hYl])),.r 70 (eI (b:=((p.length-q.length+1:Nat):Int)) (by rw [U7]; omega)),.i (p.length-q.length+1),.i (p.length-q.length+1),.r 73 (eI (b:=((p.length-q.length+1:Nat):Int)) (by simp))] rfl ?_ ?_
  ·simp only [U3,Hu,IntKind.bits,U7];omega
  ·rw [WP];refine pb 1 rfl rfl ?_;refine lp (S:=Int×Uo×Uo) 3 (λL1 s=>(13,.v (.oi s.1))::L1) (λs=>[.row false 91 1 (lm s.2.2),.gone,.row false 91 1 (lm s.2.1)]) (λs=>(s.1+1).toNat)
    (λs=>-1<=s.1/\s.1<p.length-q.length+1/\s.2.1.length=p.length-q.length+1/\Sm s.2.1/\Rest s.2.2 Y p.length q.length (s.1+1).toNat/\val (s.2.1.drop (s.1+1).toNat)*4294967296^(s.1+1).toNat*val Y+val s.2.2=val X) (((p.length-q.length+1:Nat):Int)-1,List.replicate (p.length-q.length+1) 0,X)
    ⟨by dsimp only; omega,by dsimp only; omega,by simp,λx hx=>by rw [List.eq_of_mem_replicate hx]; decide,by simpa using hR,by simp [val]⟩ rfl (λ_ _=>rfl) rfl λ⟨i,oq,ox⟩ ⟨j1,j2,j3,j4,j5,j6⟩=>?_
   dsimp only at j1 j2 j3 j4 j5 j6 ⊢;rcases Kd i 0 with hi | hi
   ·obtain rfl:i=-1:=by omega
    simp only [show ((-1:Int)+1).toNat=0 from rfl,Xy,Vd,Yw] at j5 j6;have hlt':val ox<val q*2^s:=by have:=j5.lt; rw [hYv] at this; simpa using this
    have hfin:=Qkb (x:=val p) (y:=val q) (s:=s) (r:=val ox) (q:=oq) hy (by rw [<-hXv,<-hYv]; exact j6) hlt';have hoxl:=j5.ol;have hox:=dF (o:=ox) (n:=q.length) (by omega) (Nat.lt_trans hlt' hvy);have hszm:sz (val (ox.take q.length))<=4294967400:=by
     rw [hox,hfin.2];have h1:=Qla (val p % val q) (2^s);have h2':=Rh (Yk (Z4 (val p) hy));have h3:sz (2^s)<=s+1:=Np.2 (Nat.pow_lt_pow_right (by decide) (by omega));omega
    have cs:=Qxy (a:=ox.take q.length) (λu hu=>j5.ob u (Qo hu)) hszm hs31;rw [hox,hfin.2,Nat.mul_div_cancel _ (Z2 (by decide))] at cs;have cq:=VO j4;rw [hfin.1] at cq;exact Uf [.f (by decide),.p 2,.p 0,.k cq,.i q.length,.r 95 (v:=lr (ox.take q.length)) (by simp [lm]),.k cs] rfl rfl (by simp [U3,Hu,U7]; omega)
   ·obtain ⟨k,rfl⟩:=Kk hi;have e:((k:Int)+1).toNat=k+1:=by omega
    rw [e] at j5 j6;obtain ⟨top,nx,xn,x1,x2,D⟩:=j5.dig;have hoxl:=j5.ol;have hm:=j5.hm;have cd:=Qfu (o:=ox) (lo:=k) (by omega) (hYl.symm ▸ D) (by omega);rw [hYl] at cd;have hwl:=GO (o:=ox) (i:=k) (n:=q.length) (by omega);have hwlt:val (UQ ox k q.length) % val Y<4294967296^(q.length+1):=by
     have h3:=Bv (UQ ox k q.length) D.xb;rw [hwl] at h3;exact Z3 (Nat.mod_le _ _) h3
    obtain ⟨d1,d2,d3⟩:=jV (k:=q.length+1) (v:=val (UQ ox k q.length) % val Y);have hnx:=j5.next (w':=uF (q.length+1) (val (UQ ox k q.length) % val Y)) (d1.trans hwl.symm) d2 (d3 hwlt) (q:=oq) (by omega) j6;have hdg:=D.qlt;refine go tt [.t (by simp),.i k,.i (k+q.length+1),.r 87 (v:=.one (.orow 0 1 (some (k,q.length+1)))) (by rw [show k+q.length+1-k=q.length+1 by omega]),.c [0] cd,.i k] rfl ?_ ?_
    ·simp only [U3,U7]; omega
    ·rw [Cq];refine rd ((k:Int)-1,oq.set k (val (UQ ox k q.length) / val Y),ox.take k++uF (q.length+1) (val (UQ ox k q.length) % val Y)++ox.drop (k+q.length+1)) (by dsimp only; omega) ⟨by dsimp only; omega,by dsimp only; omega,by simp [j3],Bs j4 _ _ hdg,?_,?_⟩ rfl
     ·dsimp only; rw [show ((k:Int)-1+1).toNat=k from by omega]; exact hnx.1
     ·dsimp only; rw [show ((k:Int)-1+1).toNat=k from by omega]; exact hnx.2
def sg (z:Int):LV:=.bool (decide (z<0))
def mg (z:Int):LV:=.row (lm (Gb z.natAbs))
abbrev G8 (z:Int):Ur:=[sg z,mg z]
def Gd (x y:LV) (z:Int):Prop:=∃ b l,x=.bool b/\y=.row (lm l)/\Sm l/\z=Fb b (val l)
theorem U4 (z:Int):Gd (sg z) (mg z) z:=by
 refine ⟨_,_,rfl,rfl,Lt _,?_⟩;rw [G9];unfold Fb;by_cases h:z<0 <;> simp [h] <;> omega
theorem Qvt (b:Bool) (m:Nat):[LV.bool (b && decide (0<m)),LV.row (lm (Gb m))]=G8 (Fb b m):=by
 simp only [G8,sg,mg,LD,Ru]
theorem D2 {m:Nat}:0<(Gb m).length↔0<m:=by
 rcases Q3 m with h | h
 ·subst h; rw [Hb]; simp
 ·rw [E7 (by omega)]; simp [h]
theorem P5 (b:Bool) (m:Nat):Uj 102 [lr (Gb m),.one (.bool b)] [.agg (G8 (Fb b m))]:=by
 rw [<-Qvt];have e:=D2 (m:=m);cases b with
 | false=>exact Ug func102 rfl [.f rfl] rfl
 | true=>exact Ug func102 rfl [.t rfl] rfl (by simp [U7,e]) trivial
theorem Py {b:Bool} {m:Nat} {k:Nat} (h:Fe (Fb b m)<=k):sz m<=k:=by
 unfold Fe at h; rwa [Ru] at h
theorem Mm {x y:LV} {z:Int} (hi:Gd x y z) (hs:Fe z<=4294967295):Uj 66 [.agg [x,y]] [.agg (G8 z)]:=by
 obtain ⟨b,l,rfl,rfl,hl,rfl⟩:=hi;exact Ug func66 rfl [.k (KH hl (Qa (Py hs) (by decide))),.k (P5 _ _)] rfl
theorem FZ (b:Bool) (m:Nat):Fb (!b) m=-(Fb b m):=by unfold Fb; cases b <;> simp
theorem BG {x y:LV} {z:Int} (hi:Gd x y z) (hs:Fe z<=4294967295):Uj 105 [.agg [x,y]] [.agg (G8 (-z))]:=by
 obtain ⟨b,l,rfl,rfl,hl,rfl⟩:=hi;rw [<-FZ];exact Ug func105 rfl [.k (KH hl (Qa (Py hs) (by decide))),.k (P5 _ _)] rfl
theorem P0 {x y x' y':LV} {z z':Int} (hi:Gd x y z) (hi':Gd x' y' z') (hs:Fe z<=4294967295) (hs':Fe z'<=4294967295):Uj 160 [.agg [x,y],.agg [x',y']] [.agg (G8 (z*z'))]:=by
 obtain ⟨b,l,rfl,rfl,hl,rfl⟩:=hi;obtain ⟨b',l',rfl,rfl,hl',rfl⟩:=hi';have e:Fb b (val l)*Fb b' (val l')=Fb (b != b') (val l*val l'):=by
  unfold Fb; cases b <;> cases b' <;> simp [Int.neg_mul,Int.mul_neg]
 rw [e];exact Ug func160 rfl [.k (Qxs hl hl' (Qa (Py hs) (by decide)) (Qa (Py hs') (by decide))),.k (P5 _ _)] rfl
theorem BN {a b:Uo} (ha:Sm a) (hb:Sm b) (h1:sz (val a)<=4294967296) (h:val b<=val a):Uj 225 [lr a,lr b] [lr (Gb (val a-val b)),.one (.bool true)]:=by
 have:=Qrw ha hb h1; rwa [if_pos h] at this
theorem Qfj {a b:Uo} (ha:Sm a) (hb:Sm b) (h1:sz (val a)<=4294967296) (h:val a<val b):Uj 225 [lr a,lr b] [lr [],.one (.bool false)]:=by
 have:=Qrw ha hb h1; rwa [if_neg (by omega)] at this
theorem KN {x y x' y':LV} {z z':Int} (hi:Gd x y z) (hi':Gd x' y' z') (hs:Fe z<=4294967295) (hs':Fe z'<=4294967295):Uj 244 [.agg [x,y],.agg [x',y']] [.agg (G8 (z+z'))]:=by
 obtain ⟨b,l,rfl,rfl,hl,rfl⟩:=hi;obtain ⟨b',l',rfl,rfl,hl',rfl⟩:=hi';have s1:=Qa (Py hs) (show 4294967295<=4294967296 by decide);have s2:=Qa (Py hs') (show 4294967295<=4294967296 by decide);by_cases hb:b=b'
 ·subst hb;have e:Fb b (val l)+Fb b (val l')=Fb b (val l+val l'):=by unfold Fb; cases b <;> simp <;> omega
  rw [e];exact Ug func244 rfl [.t (by simp),.k (Qrs hl hl' s1 s2),.k (P5 _ _)] rfl
 ·by_cases hle:val l'<=val l
  ·have e:Fb b (val l)+Fb b' (val l')=Fb b (val l-val l'):=by unfold Fb; cases b <;> cases b' <;> simp at hb ⊢ <;> omega
   rw [e];exact Ug func244 rfl [.f (by simpa using hb),.k (BN hl hl' s1 hle),.t rfl,.k (P5 _ _)] rfl
  ·have e:Fb b (val l)+Fb b' (val l')=Fb b' (val l'-val l):=by unfold Fb; cases b <;> cases b' <;> simp at hb ⊢ <;> omega
   rw [e];exact Ug func244 rfl [.f (by simpa using hb),.k (Qfj hl hl' s1 (by omega)),.f rfl,.k (BN hl' hl s2 (by omega)),.k (P5 _ _)] rfl
theorem Qfr {x y x' y':LV} {z z':Int} (hi:Gd x y z) (hi':Gd x' y' z') (hs:Fe z<=4294967295) (hs':Fe z'<=4294967295):Uj 217 [.agg [x,y],.agg [x',y']] [.agg (G8 (z-z'))]:=by
 obtain ⟨b',l',rfl,rfl,hl',rfl⟩:=hi';have hn:Gd (.bool (!b')) (.row (lm l')) (-(Fb b' (val l'))):=⟨_,_,rfl,rfl,hl',(FZ _ _).symm⟩;rw [Int.sub_eq_add_neg];have hi2:=hi;obtain ⟨b,l,rfl,rfl,hl,_⟩:=hi;exact Ug func217 rfl [.k (KN hi2 hn hs (by rw [Hm]; exact hs'))] rfl
theorem Qgd {x y:LV} {z:Int} (hi:Gd x y z) (hs:Fe z<=4294967295):Uj 161 [.agg [x,y]] [.oi (Int.sign z)]:=by
 obtain ⟨b,l,rfl,rfl,hl,rfl⟩:=hi;have s1:=Qa (Py hs) (show 4294967295<=4294967296 by decide);have cb:=pL hl s1;by_cases h0:val l=0
 ·have e:Fb b (val l)=0:=by unfold Fb; rw [h0]; cases b <;> simp
  rw [e];exact Ug func161 rfl [.k cb,.t (by simp [EO,h0])] rfl
 ·have AP:sz (val l)≠0:=λh=>h0 (EO.1 h)
  cases b
  ·have e:(Fb false (val l)).sign=1:=Int.sign_eq_one_of_pos (by unfold Fb; simp; omega);rw [e];exact Ug func161 rfl [.k cb,.f (by simp; omega),.f rfl] rfl
  ·have e:(Fb true (val l)).sign=-1:=Int.sign_eq_neg_one_of_neg (by unfold Fb; simp; omega);rw [e];exact Ug func161 rfl [.k cb,.f (by simp; omega),.t rfl] rfl
theorem HN {x y x' y':LV} {z z':Int} (hi:Gd x y z) (hi':Gd x' y' z') (hs:Fe z<=4294967295) (hs':Fe z'<=4294967295):Uj 99 [.agg [x,y],.agg [x',y']] [.oi (Lb z z')]:=by
 have c1:=Qgd hi hs;have c2:=Qgd hi' hs';obtain ⟨b,l,rfl,rfl,hl,hz⟩:=hi;obtain ⟨b',l',rfl,rfl,hl',hz'⟩:=hi';have k1:=A0 z;have k2:=A0 z';have zl:z.natAbs=val l:=by rw [hz,Ru]
 have zl':z'.natAbs=val l':=by rw [hz',Ru]
 by_cases h1:z.sign<z'.sign
 ·have e:Lb z z'=-1:=by unfold Lb; rw [if_pos (by omega)]
  rw [e];exact Ug func99 rfl [.k c1,.k c2,.t (by simpa using h1)] rfl
 ·by_cases h2:z'.sign<z.sign
  ·have e:Lb z z'=1:=by unfold Lb; rw [if_neg (by omega),if_pos (by omega)]
   rw [e];exact Ug func99 rfl [.k c1,.k c2,.f (by simpa using h1),.t (by simpa using h2)] rfl
  ·by_cases h3:z.sign<0
   ·have e:ZS (val l') (val l)=Lb z z':=by unfold Lb ZS; rw [<-zl,<-zl']; split <;> split <;> (try split) <;> (try split) <;> omega
    have cc:=Qeh hl' hl;rw [e] at cc;exact Ug func99 rfl [.k c1,.k c2,.f (by simpa using h1),.f (by simpa using h2),.t (by simpa using h3),.k cc] rfl
   ·have e:ZS (val l) (val l')=Lb z z':=by unfold Lb ZS; rw [<-zl,<-zl']; split <;> split <;> (try split) <;> (try split) <;> omega
    have cc:=Qeh hl hl';rw [e] at cc;exact Ug func99 rfl [.k c1,.k c2,.f (by simpa using h1),.f (by simpa using h2),.f (by simpa using h3),.k cc] rfl
theorem Dl {z:Int}:Uj 11 [.agg (G8 z)] [.one (.bool (decide (z=0)))] :=
 Ug func11 rfl [] rfl (by simp only [U7]; congr 3; have:=D2 (m:=z.natAbs); rw [decide_eq_decide]; omega) trivial
theorem BH {z:Int} (h1:-9223372036854775808<=z/\z<=9223372036854775807):Uj 67 [.oi z] [.agg (G8 z)]:=by
 obtain ⟨m,hm⟩:=nmE (z.natAbs);have sm:Sm [m % 4294967296,m / 4294967296]:=λx hx=>by
  simp at hx; rcases hx with rfl | rfl <;> omega
 have hv:val [m % 4294967296,m / 4294967296]=m:=by simp only [val]; omega
 have cn:=KH sm (by rw [hv]; exact Qa (Np.2 (show m<2^64 by omega)) (show 64<=4294967296 by decide));rw [hv] at cn;by_cases hz:z<0
 ·have e:Fb true m=z:=by unfold Fb; simp; omega
  have cm:=P5 true m;rw [e] at cm;exact Ug func67 rfl [.w 0,.r 5 (Dy (b:=((18446744073709551616-m:Nat):Int)) (by rw [w64]; omega)),.t (by simpa using hz),.w 0,.r 9 (Dy (b:=(m:Int)) (by rw [w64]; omega)),.w 0,.r 11 (Eo (b:=((m % 4294967296:Nat):Int)) (by rw [xJ]; omega)),.i 32,.r 13 (Dy (b:=((m / 4294967296:Nat):Int)) (by simp)),.k cn,.r 18 (v:=.one (.bool true)) (by simp [hz]),.k cm] rfl rfl (by simp [U3,IntKind.bits] <;> omega)
 ·have e:Fb false m=z:=by unfold Fb; simp; omega
  have cm:=P5 false m;rw [e] at cm;exact Ug func67 rfl [.w 0,.r 5 (Dy (b:=(m:Int)) (by rw [w64]; omega)),.f (by simpa using hz),.w 0,.r 11 (Eo (b:=((m % 4294967296:Nat):Int)) (by rw [xJ]; omega)),.i 32,.r 13 (Dy (b:=((m / 4294967296:Nat):Int)) (by simp)),.k cn,.r 18 (v:=.one (.bool false)) (by simp; omega),.k cm] rfl rfl (by simp [U3,IntKind.bits] <;> omega)
theorem pI {m n:Nat} (h1:sz m<=4294967296) (h2:sz n<=4294967296) (hn:0<n):Uj 185 [lr (Gb m),lr (Gb n)] [lr (Gb (m / n)),lr (Gb (m % n)),.oi 0]:=by
 have:=wV (Lt m) (Lt n) (by rw [G9]; exact h1) (by rw [G9]; exact h2) (by rw [G9]; exact hn);rwa [G9,G9] at this
theorem Qbn {x y x' y':LV} {z z':Int} (hi:Gd x y z) (hi':Gd x' y' z') (hs:Fe z<=4294967295) (hs':Fe z'<=4294967295) (hz:z'≠0):Uj 186 [.agg [x,y],.agg [x',y']] [.agg (G8 (z / z')),.agg (G8 (z % z')),.oi 0]:=by
 obtain ⟨b,l,rfl,rfl,hl,hz1⟩:=hi;obtain ⟨b',l',rfl,rfl,hl',hz2⟩:=hi';have zl:z.natAbs=val l:=by rw [hz1,Ru]
 have zl':z'.natAbs=val l':=by rw [hz2,Ru]
 have s1:sz (val l)<=4294967296:=Qa (Py (hz1 ▸ hs)) (by decide);have s2:sz (val l')<=4294967296:=Qa (Py (hz2 ▸ hs')) (by decide);have hp:0<z'.natAbs:=by omega
 have e1:z=if b=true then -(z.natAbs:Int) else (z.natAbs:Int):=by rw [zl]; exact hz1
 have e2:z'=if b'=true then -(z'.natAbs:Int) else (z'.natAbs:Int):=by rw [zl']; exact hz2
 have cd:=wV hl hl' s1 s2 (by omega);rw [<-zl,<-zl'] at cd;have s0:sz (z.natAbs % z'.natAbs)<=4294967296:=Qa (Rh (Yk (Z4 _ hp))) (by rw [zl']; exact s2);cases b with
 |
  false =>
  obtain ⟨d1,d2⟩:=CB e2 hp e1;rw [d1,d2];exact Ug func186 rfl [.k cd,.f rfl,.k (P5 _ _),.k (P5 _ _),.f rfl,.f rfl] rfl
 |
  true =>
  by_cases h0:z.natAbs % z'.natAbs=0
  ·obtain ⟨d1,d2⟩:=PM e2 hp e1 h0;rw [d1,d2];exact Ug func186 rfl [.k cd,.f rfl,.k (P5 _ _),.k (P5 _ _),.t rfl,.f (by rw [h0,Hb]; rfl)] rfl
  ·obtain ⟨d1,d2⟩:=CN e2 hp e1 (by omega);rw [d1,d2];have ca:=Qrs (a:=Gb (z.natAbs / z'.natAbs)) (b:=[1]) (Lt _) (λx hx=>by simp at hx; subst hx; decide) (by rw [G9]; exact Qa (Rh (Jq _ _)) (by rw [zl]; exact s1)) (by decide);have cs:=BN (a:=l') (b:=Gb (z.natAbs % z'.natAbs)) hl' (Lt _) s2 (by rw [G9,<-zl']; exact Yk (Z4 _ hp));rw [G9] at ca cs;rw [<-zl'] at cs;have hl0:=D2 (m:=z.natAbs % z'.natAbs);exact Ug func186 rfl [.k cd,.f rfl,.k (P5 _ _),.k (P5 _ _),.t rfl,.t (by simp [U7]; omega),.k ca,.k cs,.k (P5 _ _),.k (P5 _ _)] rfl
theorem Ia {x y x' y':LV} {z z':Int} (hi:Gd x y z) (hi':Gd x' y' z') (hs:Fe z<=4294967295) (hs':Fe z'<=4294967295) (hz:z'≠0) (hd:z % z'=0):Uj 124 [.agg [x,y],.agg [x',y']] [.agg (G8 (z / z')),.oi 0]:=by
 have cd:=Qbn hi hi' hs hs' hz;obtain ⟨b,l,rfl,rfl,_⟩:=hi;obtain ⟨b',l',rfl,rfl,_⟩:=hi';exact Ug func124 rfl [.k cd,.f rfl,.f (by rw [hd]; simp [U7,Hb])] rfl
end Orr
namespace Orr
open Go
abbrev Q02 (l:Uo):LV:=.row (lm l)
def Rz (l:Um):Nat:=l.foldl (λg z=>Nat.gcd g z.natAbs) 0
theorem Qci {l:Um} {i:Nat} {z:Int} (h:l[i]? = some z):Rz (l.take (i+1))=Nat.gcd (Rz (l.take i)) z.natAbs:=by
 unfold Rz;rw [Y7,h];simp [Vq]
theorem Qoy (g x:Nat):Nat.gcd x (g % x)=Nat.gcd g x:=by
 rw [Nat.gcd_comm g x,Nat.gcd_rec x g,Nat.gcd_comm]
theorem AI (l:Um):l.foldl (λg z=>Nat.gcd g z.natAbs) 1=1:=by
 induction l with
 | nil=>rfl
 | cons z l ih=>simp [ih]
theorem Qhz {l:Um} {i:Nat} (h:Rz (l.take i)=1):Rz l=1:=by
 have e:l=l.take i++l.drop i:=(Zh i l).symm;unfold Rz at h ⊢;rw [e,Vq,h,AI]
def trim:Um->Um
 | []=>[]
 |
  x::l=>match trim l with
  | []=>if x=0 then [] else [x]
  | y::k=>x::y::k
theorem WC:∀ {l:Um},(∀ x∈l,x=0)->trim l=[]
 | [],_=>rfl
 |
  x::l,h=>by
  have ih:=WC (l:=l) (λy hy=>h y (Qg _ hy));simp [trim,ih,h x (Qy ..)]
theorem xQ:∀ {l:Um} {m:Nat} {y:Int},(∀ j x,m<j->l[j]? = some x->x=0)->l[m]? = some y->y≠0->trim l=l.take (m+1)
 | [],m,y,_,h,_=>by simp at h
 |
  x::l,0,y,h1,h2,h3=>by
  have h0:trim l=[]:=WC λz hz=>by
   obtain ⟨j,hj⟩:=Zk.1 hz;exact h1 (j+1) z (by omega) (by simpa using hj)
  simp at h2;subst h2;simp [trim,h0,h3]
 |
  x::l,m+1,y,h1,h2,h3=>by
  have ih:=xQ (l:=l) (m:=m) (y:=y) (λj z hj hz=>h1 (j+1) z (by omega) (by simpa using hz)) (by simpa using h2) h3;cases hl:l with
  | nil=>subst hl; simp at h2
  |
   cons u k =>
   subst hl;rw [Ve] at ih;simp only [trim] at ih ⊢;rw [ih];simp
def Ff (l:Um):Prop:=trim l=l
theorem Rq:∀ (l:Um),Ff (trim l)
 | []=>rfl
 |
  x::l=>by
  have ih:=Rq l;unfold Ff at ih ⊢;cases h:trim l with
  | nil=>by_cases hx:x=0 <;> simp [trim,h,hx]
  |
   cons y k =>
   rw [h] at ih;simp only [trim,h] at ih ⊢;rw [ih]
theorem sK {l:Um} {m:Nat} (hm:m<=l.length) (h1:∀ j x,m<=j->l[j]? = some x->x=0) (h2:0<m->∃ y,l[m-1]? = some y/\y≠0):trim l=l.take m:=by
 rcases Q3 m with h0 | h0
 ·subst h0;rw [WC λz hz=>?_]; rfl;obtain ⟨j,hj⟩:=Zk.1 hz;exact h1 j z (by omega) hj
 ·obtain ⟨y,hy,hy0⟩:=h2 h0;have:=xQ (l:=l) (m:=m-1) (y:=y) (λj x hj hx=>h1 j x (by omega) hx) hy hy0;rwa [show m-1+1=m from by omega] at this
def IsInts:Us->Um->Prop
 | [],[]=>True
 | x::l,z::p=>(∃ a b,x=[a,b]/\Gd a b z)/\IsInts l p
 | _,_=>False
theorem IsInts.len:∀ {l:Us} {p:Um},IsInts l p->l.length=p.length
 | [],[],_=>rfl
 | x::l,z::p,h=>by simp [h.2.len]
 | [],_::_,h=>h.elim
 | _::_,[],h=>h.elim
theorem IsInts.get:∀ {l:Us} {p:Um},IsInts l p->∀ {i:Nat} {z:Int},p[i]? = some z->∃ a b,l[i]? = some [a,b]/\Gd a b z
 | [],[],_,i,z,h=>by simp at h
 |
  x::l,y::p,h,0,z,hz=>by
  simp at hz; subst hz;obtain ⟨a,b,rfl,hi⟩:=h.1;exact ⟨a,b,rfl,hi⟩
 | x::l,y::p,h,i+1,z,hz=>by simpa using h.2.get (i:=i) (by simpa using hz)
 | [],_::_,h,_,_,_=>h.elim
 | _::_,[],h,_,_,_=>h.elim
theorem Gn:∀ (p:Um),IsInts (p.map G8) p
 | []=>trivial
 | z::p=>⟨⟨_,_,rfl,U4 z⟩,Gn p⟩
theorem IsInts.append:∀ {l l':Us} {p p':Um},IsInts l p->IsInts l' p'->IsInts (l++l') (p++p')
 | [],_,[],_,_,h=>h
 | x::l,_,z::p,_,h,h'=>⟨h.1,h.2.append h'⟩
 | [],_,_::_,_,h,_=>h.elim
 | _::_,_,[],_,h,_=>h.elim
def pl (p:Um):LV:=.row (p.map G8)
def ids (l:Um):LV:=.row (l.map λ(x:Int)=>[.int .i64 x])
theorem QB:Gd (.bool false) (.row []) 0:=⟨false,[],rfl,rfl,(λx hx=>by cases hx),rfl⟩
theorem Qqo:sg 0=.bool false:=rfl
theorem Qcq {z:Int}:(Gb z.natAbs).length=0↔z=0:=by
 constructor
 ·intro h;have h0:=Qj h;have:=(FC (Do z.natAbs)).2 h0;rw [G9] at this; omega
 ·rintro rfl; rw [show (0:Int).natAbs=0 from rfl,Hb]; rfl
theorem G5 {α β:Type} {f:α->β} {l:List α} {i:Nat} {x:α} (h:l[i]? = some x):(l.map f)[i]? = some (f x):=by rw [Q8,h]; rfl
theorem Qsj {α:Type} {f:α->Ur} {sz:Nat} (l:List α) (h:∀ x,(f x).length=sz):∀ c∈l.map f,c.length=sz:=λc hc=>by
 obtain ⟨x,_,rfl⟩:=Za.1 hc;exact h x
theorem Qpa:mg 0=.row []:=by simp [mg,Hb,lm]
theorem Lm:G8 0=[LV.bool false,LV.row []]:=by simp [G8,Qqo,Qpa]
end Orr
namespace Orr
open Go Go.Proofs Tryz
set_option maxRecDepth 10000
theorem MC {p:Um} (hs:∀ z∈p,Fe z≤4294967295):sz (Rz p)≤4294967295:=by
 have key:∀ (p:Um) (g:Nat),sz g≤4294967295->(∀ z∈p,Fe z≤4294967295)->sz (p.foldl (λg z=>Nat.gcd g z.natAbs) g)≤4294967295:=by
  intro p
  induction p with
  | nil=>exact λg h _=>h
  |
   cons z p ih =>
   intro g h hs;refine ih _ ?_ λy hy=>hs y (.tail _ hy)
   rcases Q3 g with h0 | h0
   ·subst h0; show sz (Nat.gcd 0 z.natAbs)<=_; rw [Nat.gcd_zero_left]; exact hs z (.head _)
   ·exact Qa (Rh (Nat.gcd_le_left _ h0)) h
 exact key p 0 (by decide) hs
theorem Qep {l:Us} {p:Um} (hi:IsInts l p) (hs:∀ z∈p,Fe z≤4294967295):Uj 123 [.one (.row l)] [.agg (G8 ((Rz p:Nat):Int))]:=by
 refine Fv func123 rfl (ln 0 rfl rfl λhl=>?_);have hlp:=hi.len;refine Ud [.z 3,.r 3 (v:=lr (Gb (Rz (p.take 0)))) (by simp [Rz,Hb,lm])] rfl ?_;refine ct 2 (S:=Unit) (λ_=>[(2,.v (.one (.ow 0 0))),(3,.v (lr (Gb (Rz p))))]) (λ_=>[.blk 36 [.bool false,.nils],.gone]) (λ_=>True) rfl ?_ ?_
 ·refine Ui (S:=Nat) 1 (λL1 i=>(12,.v (.oi i))::(3,.v (lr (Gb (Rz (p.take i)))))::L1) (λ_=>[.blk 36 [.bool false,.nils]]) (λi=>p.length-i) (λi=>i<=p.length) 0 (Qh _) rfl rfl λi hip=>?_
  by_cases h:i<p.length
  ·have hlt:i<l.length:=by omega
   obtain ⟨c,hc⟩:=gxE (l:=l) (i:=i) hlt;obtain ⟨z,hz⟩:=gxE (l:=p) (i:=i) h;obtain ⟨x,y,hc',b,r,rfl,rfl,hr,hzz⟩:=hi.get hz;rw [hc] at hc'; injection hc' with hc'; subst hc'
   have hsz:=hs z (Qc hz);have hg0:sz (Rz (p.take i))<=4294967295:=MC λy hy=>hs y (Qo hy)
   have ezr:z.natAbs=val r:=by rw [hzz,Ru]
   have cn:=KH hr (by rw [<-ezr]; exact Qa hsz (by decide));rw [<-ezr] at cn;refine Ud [.t (by simp; omega),.x hc,.k cn] rfl ?_;refine Ui (S:=Nat×Nat) 2 (λL1 s=>(3,.v (lr (Gb s.1)))::(6,.v (lr (Gb s.2)))::L1) (λ_=>[.blk 36 [.bool false,.nils],.blk 36 [.bool b,.row (lm r)]]) (λs=>s.2) (λs=>Nat.gcd s.1 s.2=Nat.gcd (Rz (p.take i)) z.natAbs/\sz s.1<=4294967295/\sz s.2<=4294967295) (Rz (p.take i),z.natAbs) ⟨rfl,hg0,hsz⟩ rfl rfl λ⟨g,u⟩ ⟨j1,j2,j3⟩=>?_
   dsimp only at j1 j2 j3 ⊢;have hul:=D2 (m:=u);by_cases hu:0<u
   ·have cd:=pI (m:=g) (n:=u) (by omega) (by omega) hu;refine Ud [.t (by simp [U7]; omega),.k cd] rfl ?_;exact rd (u,g % u) (Z4 _ hu) ⟨(Qoy g u).trans j1,j3,Qa (Rh (Yk (Z4 _ hu))) j3⟩ rfl
   ·obtain rfl:u=0:=by omega
    rw [Nat.gcd_zero_right,<-Qci hz] at j1;subst j1;by_cases h1:Rz (p.take (i+1))=1
    ·have e1:Gb (Rz (p.take (i+1)))=[1]:=by rw [h1,E7 (by decide)]; simp [Hb]
     refine Ud [.f (by simp [Hb,lm]),.t (by rw [e1]; rfl),.x (G0 (i:=0) (x:=1) (by rw [e1]; rfl)),.t rfl] rfl ?_;exact rc () trivial (by rw [h1,Qhz h1]; rfl)
    ·obtain ⟨g,hg⟩:=nmE (Rz (p.take (i+1)));rw [<-hg] at h1 j2 ⊢;by_cases h2:(Gb g).length=1
     ·obtain ⟨v,hv⟩:∃ v,Gb g=[v]:=by
       match hm:Gb g,h2 with
       | [v],_=>exact ⟨v,rfl⟩
      have hv1:v≠1:=λe=>h1 (by rw [<-G9 g,hv,e]; rfl)
      refine go tt [.f (by simp [Hb,lm]),.t (by simp [U7,h2]),.x (G0 (i:=0) (x:=v) (by rw [hv]; rfl)),.f (by simp; omega)] rfl (by simp [U3] <;> omega) ?_;exact rd (i+1) (by omega) h (by rw [<-hg]; rfl)
     ·refine go tt [.f (by simp [Hb,lm]),.f (by simp [U7]; omega),.f rfl] rfl (by simp [U3] <;> omega) ?_;exact rd (i+1) (by omega) h (by rw [<-hg]; rfl)
  ·obtain rfl:i=p.length:=by omega
   refine Ud [.f (by simp; omega)] rfl ?_;rw [Q6];exact rc () trivial rfl
 ·intro _ _;have cn:=KH (Lt (Rz p)) (by rw [G9]; exact Qa (MC hs) (by decide));rw [G9] at cn;exact Uf [.k cn,.k (P5 false _)] rfl (by simp [Fb]) trivial
end Orr
namespace Orr
open Go
def Ti:Uo->Nat
 | []=>0
 | x::l=>x+10000*Ti l
def Dg (l:Uo):Prop:=∀ x∈l,x<10000
def Gi (x:Nat):Uo:=if h:x=0 then [] else (x % 10000)::Gi (x / 10000)
termination_by x
decreasing_by omega
theorem Hx:Gi 0=[]:=by unfold Gi; simp
theorem YS {x:Nat} (h:x≠0):Gi x=(x % 10000)::Gi (x / 10000):=by rw [Gi]; simp [h]
theorem Re (x:Nat):Ti (Gi x)=x:=by
 induction x using Nat.strongRecOn with
 |
  _ x ih =>
  rcases Q3 x with h | h
  ·subst h; rw [Hx]; rfl
  ·rw [YS (by omega)];simp only [Ti];rw [ih _ (by omega)]; omega
theorem Ck (x:Nat):Dg (Gi x):=by
 induction x using Nat.strongRecOn with
 |
  _ x ih =>
  rcases Q3 x with h | h
  ·subst h; rw [Hx]; intro y hy; cases hy
  ·rw [YS (by omega)];intro y hy;rcases Qm.1 hy with rfl | hy
   ·omega
   ·exact ih _ (by omega) y hy
theorem MP {x:Nat}:(Gi x).length=0↔x=0:=by
 constructor
 ·intro h;have h0:=Qj h;have:=Re x;rw [h0] at this;exact this.symm
 ·rintro rfl; rw [Hx]; rfl
theorem Ig {x:Nat} (h:x≠0):(Gi (x / 10000)).length+1=(Gi x).length:=by rw [YS h]; rfl
theorem Qb3 {x:Nat} (h:x<1000000000000):(Gi x).length<=3:=by
 by_cases h0:x=0
 ·subst h0; rw [Hx]; exact Qh _
 ·have h1:=Ig h0;by_cases h2:x / 10000=0
  ·rw [h2,Hx] at h1; simp at h1; omega
  ·have h3:=Ig h2;by_cases h4:x / 10000 / 10000=0
   ·rw [h4,Hx] at h3; simp at h3; omega
   ·have h5:=Ig h4;have h6:x / 10000 / 10000 / 10000=0:=by omega
    rw [h6,Hx] at h5; simp at h5; omega
theorem Mn (x:Nat):(Gi x).length<=sz x:=by
 induction x using Nat.strongRecOn with
 |
  _ x ih =>
  by_cases h0:x=0
  ·subst h0; rw [Hx]; exact Qh _
  ·have h1:=Ig h0;have h2:=ih (x / 10000) (by omega);have h3:sz (x / 10000)+1<=sz x:=by
    have h4:x<2^sz x:=FT x;rcases hs:sz x with _ | k
    ·rw [hs] at h4; simp at h4; omega
    ·rw [hs] at h4;have:sz (x / 10000)<=k:=Np.2 (by rw [Zr] at h4; omega);omega
   omega
theorem Po (a b:Uo):Ti (a++b)=Ti a+10000^a.length*Ti b:=by
 induction a with
 | nil=>simp [Ti]
 |
  cons x a ih =>
  simp only [Xb,Ti,ih,Q5,Zr];rw [Xj,<-Xz,Zq 10000 (10000^a.length)]; omega
theorem Tt {l:Uo} {i x:Nat} (h:l[i]? = some x):Ti (l.take (i+1))=Ti (l.take i)+10000^i*x:=by
 have hi:=(Qf.1 h).1;rw [show l.take (i+1)=l.take i++[x] by rw [Zv,h]; rfl,Po,Qq,Zy (by omega)];simp [Ti]
theorem CE:∀ {l:Uo},Dg l->Ti l<10000^l.length
 | [],_=>by simp [Ti]
 |
  x::l,h=>by
  have h1:=h x (Qy ..);have h2:=CE (l:=l) λy hy=>h y (Qg _ hy)
  simp only [Ti,Q5,Zr]; omega
theorem CO:∀ {l:Uo},(∀ x∈l,x=0)->Ti l=0
 | [],_=>rfl
 |
  x::l,h=>by
  have h1:=h x (Qy ..);have h2:=CO (l:=l) λy hy=>h y (Qg _ hy)
  simp [Ti,h1,h2]
theorem Dg.take {l:Uo} (h:Dg l) (k:Nat):Dg (l.take k):=λx hx=>h x (Qo hx)
theorem Dg.snoc {l:Uo} (h:Dg l) {x:Nat} (hx:x<10000):Dg (l++[x]):=by
 intro y hy;rcases Qr.1 hy with hy | hy
 ·exact h y hy
 ·rw [Qk.1 hy]; exact hx
theorem Dg.nil:Dg []:=λx h=>by cases h
theorem mB:∀ {l:Uo},Dg l->(∀ x,l[l.length-1]? = some x->x≠0)->l=Gi (Ti l)
 | [],_,_=>by rw [Ti,Hx]
 |
  x::l,h,hl=>by
  have h1:=h x (Qy ..);have h2:l=Gi (Ti l):=mB (λy hy=>h y (Qg _ hy)) λy hy=>hl y (by
   rcases l with _ | ⟨z,t⟩
   ·simp at hy
   ·simpa using hy)
  have h3:x+10000*Ti l≠0:=by
   intro e;have hx:x=0:=by omega
   have hd:Ti l=0:=by omega
   rw [hd,Hx] at h2;subst h2;exact hl x rfl hx
  simp only [Ti];rw [YS h3,show (x+10000*Ti l) % 10000=x by omega,show (x+10000*Ti l) / 10000=Ti l by omega,<-h2]
theorem uU {l:Uo} {m:Nat} (hd:Dg l) (hm:m<=l.length) (h1:∀ j x,m<=j->l[j]? = some x->x=0) (h2:0<m->∃ y,l[m-1]? = some y/\y≠0):l.take m=Gi (Ti l):=by
 have e:Ti l=Ti (l.take m):=by
  conv=>lhs; rw [<-Zh m l,Po]
  rw [CO (l:=l.drop m) λx hx=>?_]
  ·omega
  ·obtain ⟨j,hj⟩:=Zk.1 hx;rw [Xc] at hj;exact h1 (m+j) x (by omega) hj
 rw [e];refine mB (hd.take m) λx hx=>?_
 have hl:(l.take m).length=m:=by rw [Qq]; omega
 rw [hl] at hx;rcases Q3 m with h0 | h0
 ·subst h0; simp at hx
 ·obtain ⟨y,hy,hy0⟩:=h2 h0;rw [Kf (by omega),hy] at hx;injection hx with hx; rw [<-hx]; exact hy0
theorem OZ {o c i d m P V:Nat} (hP:P=10000^i) (h:o+c*P=V):o+P*((c+d*m) % 10000)+(c+d*m) / 10000*(P*10000)=V+P*d*m:=by
 have e:=Xe (c+d*m) 10000;generalize (c+d*m) / 10000=q at *;generalize (c+d*m) % 10000=r at *;have e2:P*(c+d*m)=P*(10000*q+r):=by rw [e]
 grind
theorem XV {x y:Nat} (h:x<=y):(Gi x).length<=(Gi y).length:=by
 induction y using Nat.strongRecOn generalizing x with
 |
  _ y ih =>
  by_cases h0:x=0
  ·subst h0; rw [Hx]; exact Qh _
  ·have h1:=Ig h0;have h2:=Ig (x:=y) (by omega);have:=ih (y / 10000) (by omega) (x:=x / 10000) (Nat.div_le_div_right h);omega
theorem Qb2 {n x:Nat} (h:10000^n<=x):n+1<=(Gi x).length:=by
 have h1:=CE (Ck x);rw [Re] at h1;have h2:n<(Gi x).length:=(Nat.pow_lt_pow_iff_right (by decide)).1 (Z3 h h1);omega
theorem uK {x y:Nat} (h:(Gi x).length<(Gi y).length):x<y:=by
 rcases Zb x y with h1 | h1
 ·exact h1
 ·have:=XV h1; omega
theorem Qb4 {k y:Nat} (h:y<10000^k):(Gi y).length<=k:=by
 induction k generalizing y with
 |
  zero =>
  have:y=0:=by simpa using h
  subst this; rw [Hx]; exact Ql _
 |
  succ k ih =>
  by_cases hy0:y=0
  ·subst hy0; rw [Hx]; exact Qh _
  ·have h8:=Ig hy0;have:=ih (y:=y / 10000) (by rw [Zr] at h; omega);omega
theorem Qgz {o:Uo} (h:Dg o) (hl:o.length<=(Gi (Ti o)).length):o=Gi (Ti o):=by
 refine mB h λx hx h0=>?_
 subst h0;have hne:0<o.length:=by
  rcases o with _ | ⟨a,o⟩
  ·simp at hx
  ·simp
 have h1:Ti o=Ti (o.take (o.length-1)):=by
  have:=Tt hx;rw [show o.length-1+1=o.length by omega,Q6] at this;omega
 have h2:=CE (h.take (o.length-1));rw [<-h1,Qq,Zy (by omega)] at h2;have:=Qb4 h2;omega
theorem XU {l:Uo} {j d:Nat} (h:l[j]? = some d):Ti (l.drop j)=d+10000*Ti (l.drop (j+1)):=by
 obtain ⟨hj,he⟩:=Qf.1 h;rw [Zp hj,he]; rfl
theorem HO {l:Uo} {j y:Nat} (h:j<l.length):(l.set j y).drop j=y::l.drop (j+1):=by
 rw [Zp (by simpa using h)];simp only [List.getElem_set_self];rw [List.drop_set_of_lt (by omega)]
theorem Dg.set {l:Uo} (h:Dg l) {j y:Nat} (hy:y<10000):Dg (l.set j y):=by
 intro x hx;rcases Jp hx with hx | rfl
 ·exact h x hx
 ·exact hy
theorem Dg.zeros (n:Nat):Dg (List.replicate n 0):=by
 intro x hx; rw [Zx hx]; decide
theorem uG {V kd d:Nat} (hk:0<kd):(d+10000*V) / kd=(V % kd*10000+d) / kd+10000*(V / kd)/\(d+10000*V) % kd=(V % kd*10000+d) % kd/\(d<10000->(V % kd*10000+d) / kd<10000):=by
 have e:=Xe V kd;have e2:d+10000*V=(V % kd*10000+d)+kd*(10000*(V / kd)):=by
  conv=>lhs; rw [<-e]
  grind
 refine ⟨?_,?_,λhd=>?_⟩
 ·rw [e2,Wc _ _ hk]
 ·rw [e2,Ka]
 ·have:=Z4 V hk;exact (Vv hk).2 (by grind)
theorem MM (l:Uo) (j:Nat) (h:j<=l.length):Ti l=Ti (l.take j)+10000^j*Ti (l.drop j):=by
 conv=>lhs; rw [<-Zh j l,Po]
 rw [Qq,Zy h]
theorem CM {a b:Uo} {j d e:Nat} (ha:Dg a) (hd:a[j]? = some d) (he:b[j]? = some e) (hs:a.drop (j+1)=b.drop (j+1)) (h:d<e):Ti a<Ti b:=by
 have h1:=(Qf.1 hd).1;have h2:=(Qf.1 he).1;rw [MM a j (by omega),MM b j (by omega),XU hd,XU he,hs];have h3:=CE (ha.take j);rw [Qq,Zy (by omega)] at h3;generalize 10000^j=P at *;have h4:P*(d+10000*Ti (b.drop (j+1)))+P<=P*(e+10000*Ti (b.drop (j+1))):=by
  rw [<-W4]; exact Zu _ (by omega)
 omega
def dl (l:Uo):LV:=.row (l.map λ(x:Nat)=>[.int .i64 (x:Int)])
theorem Tx (l:Uo):(l.map λ(x:Nat)=>[LV.int .i64 (x:Int)]).length=l.length:=by simp
theorem Gy {l:Uo} {i x:Nat} (h:l[i]? = some x):(l.map λ(x:Nat)=>[LV.int .i64 (x:Int)])[i]? = some [.int .i64 (x:Int)]:=by rw [Q8,h]; rfl
abbrev nd (x:Nat):LV:=dl (Gi x)
end Orr
namespace Orr
open Go Go.Proofs Tryz
set_option maxRecDepth 10000
abbrev By (l:Uo):Us:=l.map λ(x:Nat)=>[.int .i64 (x:Int)]
theorem Qul (l:Uo):∀ c∈By l,c.length=1:=λc hc=>by obtain ⟨x,_,rfl⟩:=Za.1 hc; rfl
theorem HB {l:Uo} (hd:Dg l):Uj 200 [.one (.row (By l))] [.one (nd (Ti l))]:=by
 refine Fv func200 rfl (ln 0 rfl rfl λhl=>?_);rw [Q9] at hl;refine Ud [] rfl ?_;refine lp (S:=Nat) 0 (λL1 n=>(3,.v (.oi n))::L1) (λ_=>[]) id (λn=>n<=l.length/\∀ j x,n<=j->l[j]? = some x->x=0) (By l).length ⟨by simp,λj x h1 h2=>by
  have:=(Qf.1 h2).1; simp at h1; omega⟩ rfl (λ_ _=>rfl) rfl λn ⟨h1,h2⟩=>?_
 cases n with
 | zero=>exact Uf [.g 8 false (by simp),.f rfl,.i 0] rfl (by have:=uU hd h1 h2 (λh=>by omega); unfold nd; rw [<-this]; simp [dl]) (by simp [U3])
 |
  succ n =>
  obtain ⟨x,hx⟩:=gxE (l:=l) (i:=n) (by omega);by_cases h0:x=0
  ·refine Ue [.g 8 true (by simp),.r 11 (v:=.oi n) (by simp),.x (Gy hx),.t (by simp [h0]),.r 17 (v:=.oi n) (by simp)] rfl ?_;exact rd n (by simp) ⟨by omega,λj y h3 h4=>by
    rcases Vk h3 with rfl | h3
    ·rw [hx] at h4; injection h4 with h4; rw [<-h4,h0]
    ·exact h2 j y h3 h4⟩ rfl
  ·exact Uf [.g 8 true (by simp),.r 11 (v:=.oi n) (by simp),.x (Gy hx),.f (by simp [h0]),.i (n+1)] rfl (by have:=uU hd h1 h2 (λ_=>⟨x,hx,h0⟩); unfold nd; rw [<-this]; simp [dl,List.map_take]) (by simp [U3] <;> omega)
theorem lL {x kd:Nat} (hxs:sz x<=100000000) (hk:0<kd/\kd<=65536):Uj 187 [.one (nd x),.oi kd] [.one (nd (x / kd)),.oi ((x % kd:Nat):Int)]:=by
 have hln:=Qa (Mn x) hxs;obtain ⟨l,hl⟩:=nmE (Gi x);have hx:Ti l=x:=by rw [hl,Re]
 have hd:Dg l:=by rw [hl]; exact Ck x
 show Uj 187 [.one (.row (By (Gi x))),.oi kd] _;rw [<-hl] at hln ⊢;rw [<-hx];have hll:=Tx l;refine Fv func187 rfl ?_;refine Ue [.i (By l).length,.i (By l).length] rfl ?_;rw [hll,show List.replicate l.length [LV.int .i64 0]=By (List.replicate l.length 0) from by simp [By]];refine Ui (S:=Nat×Uo×Nat) 1 (λL1 s=>(8,.v (.oi ((s.1:Int)-1)))::(7,.v (.oi (s.2.2:Int)))::L1) (λs=>[.row false 3 1 (By s.2.1)]) (λs=>s.1) (λs=>s.1<=l.length/\s.2.1.length=l.length/\Dg s.2.1/\Ti (s.2.1.drop s.1)=Ti (l.drop s.1) / kd/\s.2.2=Ti (l.drop s.1) % kd) (l.length,List.replicate l.length 0,0) ⟨Ql _,by simp,Dg.zeros _,by simp [Ti],by simp [Ti]⟩ rfl rfl λ⟨k,o,R⟩ ⟨j1,j2,j3,j4,hR⟩=>?_
 dsimp only at j1 j2 j3 j4 hR ⊢;cases k with
 |
  zero =>
  have cc:=HB j3;rw [Xy,Xy] at j4;rw [j4] at cc;exact Uf [.f (by simp),.k cc] rfl (by rw [hR,Xy]) trivial
 |
  succ k =>
  obtain ⟨d,hdk⟩:=gxE (l:=l) (i:=k) (by omega);have hd0:=hd d (Qc hdk);have hdd:=XU hdk;obtain ⟨s1,s2,s3⟩:=uG (V:=Ti (l.drop (k+1))) (kd:=kd) (d:=d) hk.1;rw [<-hdd] at s1 s2;have hr:=Z4 (Ti (l.drop (k+1))) hk.1;rw [<-hR] at s1 s2 s3 hr;have e:((k+1:Nat):Int)-1=(k:Int):=by omega
  have htd:((R:Int)*10000+(d:Int)).tdiv (kd:Int)=(((R*10000+d) / kd:Nat):Int):=rfl;have hle:=Jq (R*10000+d) kd;have htb:0<=((R:Int)*10000+(d:Int)).tdiv (kd:Int)/\((R:Int)*10000+(d:Int)).tdiv (kd:Int)<=655369999:=by
   rw [htd]; revert hle; generalize (R*10000+d) / kd=Q; intro hle; omega
  rw [e];refine Ue [.t (by simp),.x (Gy hdk),.r 26 (eI (b:=((R*10000+d:Nat):Int)) (by omega)),.r 31 (eI (b:=(((R*10000+d) / kd:Nat):Int)) (by rfl)),.i k,.r 35 (eI (b:=(((R*10000+d) % kd:Nat):Int)) (by rfl))] rfl ?_;exact rd (k,o.set k ((R*10000+d) / kd),(R*10000+d) % kd) (by dsimp only; omega) ⟨by dsimp only; omega,by simp [j2],j3.set (s3 hd0),by dsimp only; rw [HO (by omega)]; simp only [Ti]; rw [j4,s1],by dsimp only; exact s2.symm⟩ (by simp [By,List.map_set]; rfl)
theorem Qwl (x k:Nat):sz (x / k)<=sz x:=Rh (Jq _ _)
theorem nN {x y:Nat} {o:Uo} (h:Gb x=o++Gb y) (h0:y≠0):Gb x=(o++[y % 4294967296])++Gb (y / 4294967296):=by
 rw [h,E7 h0]; simp
theorem Qo7 (o:Uo) (z:Nat):lm (o++[z])=lm o++[[.int .u32 (z:Int)]]:=by simp [lm]
theorem Qx0 {x:Nat} (hx:sz x<=100000000):Uj 127 [.one (nd x)] [lr (Gb x)]:=by
 have hlx:=Rm hx;refine Fv func127 rfl ?_;refine Ud [.o 3 91 1] rfl ?_;refine Ui (S:=Nat×Uo) 1 (λL1 s=>(0,.v (.one (nd s.1)))::(3,.v (.one (.orow 0 1 none)))::L1) (λs=>[.row false 91 1 (lm s.2)]) (λs=>s.1) (λs=>Gb x=s.2++Gb s.1/\s.1<=x) (x,[]) ⟨rfl,Ql _⟩ rfl rfl λ⟨y,o⟩ ⟨j1,j2⟩=>?_
 dsimp only at j1 j2 ⊢;by_cases h0:y=0
 ·subst h0;rw [Hb,Zw] at j1;rw [j1];exact Uf [.f (by simp [Hx])] rfl
 ·have hs:=nN j1 h0;have hsy:sz y<=100000000:=Qa (Rh j2) hx;have c1:=lL (x:=y) (kd:=65536) hsy (by decide);have c2:=lL (x:=y / 65536) (kd:=65536) (Qa (Qwl _ _) hsy) (by decide);have hl:(Gi y).length≠0:=λh=>h0 (MP.1 h)
  have ol:o.length<=(Gb x).length:=by rw [j1]; simp
  have e:y / 65536 % 65536*65536+y % 65536=y % 4294967296:=by omega
  have e2:y / 65536 / 65536=y / 4294967296:=by omega
  refine go tt [.t (by simp; omega),.k c1,.k c2,.r 26 (Eo (b:=((y % 4294967296:Nat):Int)) (by omega)),.s (sz:=1) (l:=[[.int .u32 ((y % 4294967296:Nat):Int)]]) (λc hc=>by rw [Qk.1 hc]; rfl)] rfl (by simp [U3,U7]; omega) ?_;rw [<-e2] at hs;exact rd (y / 65536 / 65536,o++[y % 4294967296]) (by dsimp only; omega) ⟨hs,by dsimp only; omega⟩ (by rw [Qo7]; rfl)
abbrev ri (z:Int):Ur:=[nd z.natAbs,sg z]
theorem Qyw (b:Bool) (m:Nat):[nd m,LV.bool (b && decide (0<m))]=ri (Fb b m):=by
 simp only [ri,sg,Ru,LD]
theorem Qvq (x:Nat):(0<(Gi x).length)↔0<x:=by
 have:=MP (x:=x); omega
theorem Nw (b:Bool) (m:Nat):Uj 132 [.one (nd m),.one (.bool b)] [.agg (ri (Fb b m))]:=by
 rw [<-Qyw];have e:=Qvq m;cases b with
 | false=>exact Ug func132 rfl [.g 7 false rfl] rfl
 | true=>exact Ug func132 rfl [.g 7 true rfl] rfl (by simp [e]) trivial
theorem Dw {z:Int}:Uj 128 [.agg (ri z)] [.one (.bool (decide (z=0)))] :=
 Ug func128 rfl [] rfl (by have h:=MP (x:=z.natAbs); simp only [Tx]; congr 3; rw [decide_eq_decide]; omega) trivial
theorem QU {z:Int}:Uj 129 [.agg (ri z)] [.agg (ri (-z))]:=by
 have h:=Nw (!decide (z<0)) z.natAbs;have e:Fb (!decide (z<0)) z.natAbs=-z:=by unfold Fb; by_cases h:z<0 <;> simp [h] <;> omega
 rw [e] at h;exact Ug func129 rfl [.k h] rfl
theorem Qt0 {z:Int} (hz:Fe z<=100000000):Uj 79 [.agg (ri z)] [.agg (G8 z)] :=
 Ug func79 rfl [.k (Qx0 hz)] rfl
theorem eBo {a b:Bool} (h:a=b):TV.one (LV.bool a)=.one (.bool b):=h ▸ rfl
theorem Ii (l:Uo) (x:Nat):By (l++[x])=By l++[[.int .i64 (x:Int)]]:=by simp [By]
theorem uW {x y:Nat} {o:Uo} (h:Gi x=o++Gi y) (h0:y≠0):Gi x=(o++[y % 10000])++Gi (y / 10000):=by
 rw [h,YS h0]; simp
theorem Qt2 {b:Bool} {x:Nat} (hx:x<=4000000000000000000) (hb:b=true->0<x):Uj 81 [.oi (Fb b x)] [.agg (ri (Fb b x))]:=by
 have hl:(Gi x).length<=100:=by
  have:=Mn x;have h2:sz x<=64:=Np.2 (by omega);omega
 have hm:=Nw b x;refine Fv func81 rfl ?_;cases b with
 |
  false =>
  show AK prog _ _ _ (VA 0 [.oi x]) [];refine Ud [.f (by simp <;> omega),.r 3 (eBo (b:=false) (by simp)),.f rfl,.o 4 3 1] rfl ?_;refine Ui (S:=Nat×Uo) 2 (λL1 s=>(0,.v (.oi (s.1:Int)))::(4,.v (.one (.orow 1 1 none)))::L1) (λs=>[.blk 97 [.nils,.bool false],.row false 3 1 (By s.2)]) (λs=>s.1) (λs=>Gi x=s.2++Gi s.1/\s.1<=x) (x,[]) ⟨rfl,Ql _⟩ rfl rfl λ⟨y,o⟩ ⟨j1,j2⟩=>?_
  dsimp only at j1 j2 ⊢;by_cases h0:y=0
  ·subst h0;rw [Hx,Zw] at j1;rw [<-j1];exact Uf [.f (by simp),.k hm] rfl
  ·have hs:=uW j1 h0;have ol:o.length<=(Gi x).length:=by rw [j1]; simp
   refine go tt [.t (by simp; omega),.r 18 (eI (b:=((y % 10000:Nat):Int)) (by rfl)),.s (sz:=1) (l:=[[.int .i64 ((y % 10000:Nat):Int)]]) (λc hc=>by rw [Qk.1 hc]; rfl),.r 22 (eI (b:=((y / 10000:Nat):Int)) (by rfl))] rfl (by simp [U3,Tx]; omega) ?_;exact rd (y / 10000,o++[y % 10000]) (by dsimp only; omega) ⟨hs,by dsimp only; omega⟩ (by rw [Ii]; rfl)
 |
  true =>
  show AK prog _ _ _ (VA 0 [.oi (-(x:Int))]) [];refine Ue [.f (by simp <;> omega),.r 3 (eBo (b:=true) (by simpa using hb rfl)),.t rfl,.r 0 (eI (b:=(x:Int)) (by omega)),.o 4 3 1] rfl ?_;refine Ui (S:=Nat×Uo) 2 (λL1 s=>(0,.v (.oi (s.1:Int)))::(4,.v (.one (.orow 1 1 none)))::L1) (λs=>[.blk 97 [.nils,.bool false],.row false 3 1 (By s.2)]) (λs=>s.1) (λs=>Gi x=s.2++Gi s.1/\s.1<=x) (x,[]) ⟨rfl,Ql _⟩ rfl rfl λ⟨y,o⟩ ⟨j1,j2⟩=>?_
  dsimp only at j1 j2 ⊢;by_cases h0:y=0
  ·subst h0;rw [Hx,Zw] at j1;rw [<-j1];exact Uf [.f (by simp),.k hm] rfl
  ·have hs:=uW j1 h0;have ol:o.length<=(Gi x).length:=by rw [j1]; simp
   refine go tt [.t (by simp; omega),.r 18 (eI (b:=((y % 10000:Nat):Int)) (by rfl)),.s (sz:=1) (l:=[[.int .i64 ((y % 10000:Nat):Int)]]) (λc hc=>by rw [Qk.1 hc]; rfl),.r 22 (eI (b:=((y / 10000:Nat):Int)) (by rfl))] rfl (by simp [U3,Tx]; omega) ?_;exact rd (y / 10000,o++[y % 10000]) (by dsimp only; omega) ⟨hs,by dsimp only; omega⟩ (by rw [Ii]; rfl)
theorem XQ {n:Int} (hn:-4000000000000000000<=n/\n<=4000000000000000000):Uj 81 [.oi n] [.agg (ri n)]:=by
 have e:Fb (decide (n<0)) n.natAbs=n:=by unfold Fb; by_cases h:n<0 <;> simp [h] <;> omega
 have h:=Qt2 (b:=decide (n<0)) (x:=n.natAbs) (by omega) (λh=>by have:=of_decide_eq_true h; omega);rwa [e] at h
theorem UC (x:Nat):(By (Gi x)).length=(Gi x).length:=Tx _
theorem Qcx (z:Int):∀ c∈[[LV.int .i64 z]],c.length=1:=λc hc=>by rw [Qk.1 hc]; rfl
theorem Qx7 {x:Nat} (h:x<=1000000000):(Gi x).length<=3:=Qb3 (by omega)
theorem tdn (n:Nat):((n:Nat):Int).tdiv 10000=((n / 10000:Nat):Int):=rfl
theorem WB (n:Nat):((n:Nat):Int).tdiv 2=((n / 2:Nat):Int):=rfl
theorem UT {x mu c0:Nat} (hx:sz x<=100000000) (hmu:mu<=65536) (hc:c0<=1000000000):Uj 188 [.one (nd x),.oi mu,.oi c0] [.one (nd (x*mu+c0))]:=by
 have hxl:=Qa (Mn x) hx;have hll:=UC x;show Uj 188 [.one (.row (By (Gi x))),.oi mu,.oi c0] _;refine Fv func188 rfl ?_;refine Ue [.r 11 (eI (b:=(((Gi x).length+2:Nat):Int)) (by rw [hll]; omega)),.i 0,.i ((Gi x).length+2)] rfl ?_;refine Ui (S:=Nat×Nat×Uo) 1 (λL1 s=>(8,.v (.oi (s.1:Int)))::(7,.v (.one (.orow 0 1 none)))::(2,.v (.oi (s.2.1:Int)))::L1.filter (λx=>x.1 != 12)) (λs=>[.row false 3 1 (By s.2.2)]) (λs=>((Gi x).length-s.1)*4+(Gi s.2.1).length) (λs=>Dg s.2.2/\s.2.2.length=s.1/\Ti s.2.2+s.2.1*10000^s.1=Ti ((Gi x).take s.1)*mu+c0/\(s.1<=(Gi x).length\/s.1+(Gi s.2.1).length<=(Gi x).length+3)/\s.2.1<=1000000000) (0,c0,[]) ⟨Dg.nil,rfl,by simp [Ti],.inl (Qh _),hc⟩ rfl rfl λs hs=>?_
 obtain ⟨i,c,o⟩:=s;obtain ⟨hp0,hp1,hp2,hp3,hp4⟩:=hs;dsimp only at hp0 hp1 hp2 hp3 hp4 ⊢;have hcl:=Qx7 (x:=c) hp4;by_cases h1:i<(Gi x).length
 ·obtain ⟨d,hd⟩:=gxE (l:=(Gi x)) (i:=i) h1;have hd9:=Ck x d (Qc hd);have hdm:d*mu<=9999*65536:=Zc (by omega) hmu;have hc3:=Qx7 (x:=(c+d*mu) / 10000) (by omega);have hol:(By o).length=i:=by rw [Tx,hp1]
  refine go tt [.g 17 true Ul,.t rfl,.T,.x (Gy hd),.r 33 (eI (b:=((d*mu:Nat):Int)) (by simp)),.r 34 (eI (b:=((c+d*mu:Nat):Int)) (by omega)),.r 37 (eI (b:=(((c+d*mu) % 10000:Nat):Int)) (by rfl)),.s (sz:=1) (Qcx _),.r 41 (eI (b:=(((c+d*mu) / 10000:Nat):Int)) (by rfl))] rfl (by simp [U3,hol,tdn,WB,-Int.natCast_add,-Int.natCast_mul]; omega) ?_;exact rd (i+1,(c+d*mu) / 10000,o++[(c+d*mu) % 10000]) (by dsimp only; omega) ⟨hp0.snoc (Nat.mod_lt _ (by decide)),by dsimp only; rw [List.length_append]; show o.length+1=_; omega,by
   dsimp only;rw [Po,Tt hd,hp1,Nat.pow_succ]; simp only [Ti,Nat.mul_zero,Nat.add_zero]; have:=OZ (d:=d) (m:=mu) rfl hp2; rw [this]; grind,.inl (by dsimp only; omega),by dsimp only; omega⟩ (by rw [Ii]; rfl)
 ·by_cases h2:0<c
  ·have hdc:=Ig (x:=c) (by omega);have hol:(By o).length=i:=by rw [Tx,hp1]
   refine go tt [.g 17 false Uk,.T,.F,.r 37 (eI (b:=((c % 10000:Nat):Int)) (by rfl)),.s (sz:=1) (Qcx _),.r 41 (eI (b:=((c / 10000:Nat):Int)) (by rfl))] rfl (by simp [U3,hol,tdn,WB,-Int.natCast_add]; omega) ?_;exact rd (i+1,c / 10000,o++[c % 10000]) (by dsimp only; omega) ⟨hp0.snoc (Nat.mod_lt _ (by decide)),by dsimp only; rw [List.length_append]; show o.length+1=_; omega,by
    dsimp only;rw [Po,hp1,Nat.pow_succ]; simp only [Ti,Nat.mul_zero,Nat.add_zero]; have:=OZ (d:=0) (m:=mu) rfl hp2; simp only [Nat.zero_mul,Nat.mul_zero,Nat.add_zero] at this; rw [this,List.take_of_length_le (by omega),List.take_of_length_le (by omega)],.inr (by dsimp only; omega),by dsimp only; omega⟩ (by rw [Ii]; rfl)
  ·have cc:=HB hp0;rw [show Ti o=x*mu+c0 from by
    have h:=hp2; rw [Qn (by omega),Re,show c=0 by omega] at h; omega] at cc
   exact Uf [.g 17 false Uk,.F,.k cc] rfl
theorem Qdo {l:Uo} {j d:Nat} (h:l[j]? = some d):val (l.drop j)=d+4294967296*val (l.drop (j+1)):=by
 have hi:=(Qf.1 h).1;rw [Zp hi,(Qf.1 h).2]; rfl
theorem PR:∀ (l:Uo) (j:Nat),val (l.drop j)<=val l
 | l,0=>Ql _
 | [],j+1=>by simp
 |
  x::l,j+1=>by
  have:=PR l j;rw [Wh]; simp only [val]; omega
theorem Qm1 {l:Uo} (hu:∀ u∈l,u<4294967296) (hl:l.length≤1099511627776) (hx:sz (val l)≤100000000):Uj 152 [lr l] [.one (nd (val l))]:=by
 have hll:=U7 l;show Uj 152 [.one (.row (lm l))] _;refine Fv func152 rfl ?_;refine Ue [.z 3,.r 7 (eI (b:=((l.length:Nat):Int)-1) (by rw [hll]))] rfl ?_;refine Ui (S:=Nat×Uo) 0 (λL1 s=>(4,.v (.oi ((s.1:Int)-1)))::(3,.v (.one (.row (By s.2))))::L1) (λ_=>[]) (λs=>s.1) (λs=>s.1<=l.length/\s.2=Gi (val (l.drop s.1))) (l.length,[]) ⟨Nat.le_refl _,by dsimp only; rw [List.drop_eq_nil_of_le (Nat.le_refl _)]; show []=Gi 0; rw [Hx]⟩ rfl rfl λs hs=>?_
 obtain ⟨j,o⟩:=s;obtain ⟨hj,ho⟩:=hs;dsimp only at hj ho ⊢;subst ho;cases j with
 | zero=>exact Uf [.f (by simp)] rfl (by rw [Xy]; rfl) trivial
 |
  succ j =>
  obtain ⟨d,hd⟩:=gxE (l:=l) (i:=j) (by omega);have hd9:=hu d (Qc hd);have hdd:=Qdo hd;have hle:=PR l j;have hs2:sz (val (l.drop (j+1))*65536+d / 65536)<=100000000:=Qa (Rh (by omega)) hx;have hs1:sz (val (l.drop (j+1)))<=100000000:=Qa (Rh (by omega)) hx;have c1:=UT (x:=val (l.drop (j+1))) (mu:=65536) (c0:=d / 65536) hs1 (by omega) (by omega);have c2:=UT (x:=val (l.drop (j+1))*65536+d / 65536) (mu:=65536) (c0:=d % 65536) hs2 (by omega) (by omega);have ej:((j+1:Nat):Int)-1=(j:Int):=by omega
  have e2:(val (l.drop (j+1))*65536+d / 65536)*65536+d % 65536=val (l.drop j):=by rw [hdd]; omega
  rw [e2] at c2;rw [ej];refine go tt [.T,.x (G0 hd),.r 17 (Eo (b:=((d / 65536:Nat):Int)) (by rfl)),.k c1,.x (G0 hd),.r 25 (Eo (b:=((d % 65536:Nat):Int)) (by rfl)),.k c2] rfl (by simp [U3,IntKind.bits]; omega) ?_;exact rd (j,Gi (val (l.drop j))) (by dsimp only; omega) ⟨by dsimp only; omega,rfl⟩ rfl
theorem pE {x y:Nat} (hx:sz x<=200000000) (hy:sz y<=200000000):Uj 149 [.one (nd x),.one (nd y)] [.oi (ZS x y)]:=by
 have hxl:=Qa (Mn x) hx;have hyl:=Qa (Mn y) hy;have lx:=UC x;have ly:=UC y;show Uj 149 [.one (.row (By (Gi x))),.one (.row (By (Gi y)))] _;refine Fv func149 rfl ?_;by_cases hl:(Gi x).length=(Gi y).length
 ·refine Ue [.f (by simp; omega),.r 18 (eI (b:=((Gi x).length:Int)-1) (by rw [lx]))] rfl ?_;refine Ui (S:=Nat) 0 (λL1 j=>(5,.v (.oi ((j:Int)-1)))::L1) (λ_=>[]) (λj=>j) (λj=>j<=(Gi x).length/\(Gi x).drop j=(Gi y).drop j) (Gi x).length ⟨Ql _,by rw [Yv (Ql _),Yv (by omega)]⟩ rfl rfl λj hs=>?_
  obtain ⟨hj,hp⟩:=hs;cases j with
  |
   zero =>
   have hxy:x=y:=by rw [Xy,Xy] at hp; rw [<-Re x,<-Re y,hp]
   exact Uf [.f (by simp)] rfl (by rw [eK hxy]) trivial
  |
   succ j =>
   obtain ⟨d,hd⟩:=gxE (l:=(Gi x)) (i:=j) (by omega);obtain ⟨e,he⟩:=gxE (l:=(Gi y)) (i:=j) (by omega);have ej:((j+1:Nat):Int)-1=(j:Int):=by omega
   rw [ej];by_cases h2:d=e
   ·refine Ue [.T,.x (Gy hd),.x (Gy he),.f (by simp [h2])] rfl ?_;exact rd j (by omega) ⟨by omega,by rw [Zp (by omega:j<(Gi x).length),Zp (by omega:j<(Gi y).length),hp,(Qf.1 hd).2,(Qf.1 he).2,h2]⟩ rfl
   ·by_cases h3:d<e
    ·have hxy:=CM (Ck x) hd he hp h3;rw [Re,Re] at hxy;exact Uf [.T,.x (Gy hd),.x (Gy he),.t (by simp; omega),.x (Gy hd),.x (Gy he),.T] rfl (by rw [MH hxy]) trivial
    ·have hxy:=CM (Ck y) he hd hp.symm (by omega);rw [Re,Re] at hxy;exact Uf [.T,.x (Gy hd),.x (Gy he),.t (by simp; omega),.x (Gy hd),.x (Gy he),.F] rfl (by rw [MG hxy]) trivial
 ·by_cases hlt:(Gi x).length<(Gi y).length
  ·exact Uf [.t (by simp; omega),.T] rfl (by rw [MH (uK hlt)]) trivial
  ·exact Uf [.t (by simp; omega),.F] rfl (by rw [MG (uK (by omega))]) trivial
theorem YT {o c s P V:Nat} (h:o+c*P=V):o+P*((c+s) % 10000)+(c+s) / 10000*(P*10000)=V+P*s:=by
 have e:=Xe (c+s) 10000;generalize (c+s) / 10000=q at *;generalize (c+s) % 10000=r at *;have e2:P*(c+s)=P*(10000*q+r):=by rw [e]
 grind
theorem I9 {l:Uo} {i:Nat} (h:l.length<=i):Ti (l.take (i+1))=Ti (l.take i):=by rw [Qn (by omega),Qn h]
theorem eO {l:Uo} {p v u:Nat} (h:l[p]? = some v):Ti (l.set p u)+10000^p*v=Ti l+10000^p*u:=by
 have hp:=(Qf.1 h).1;rw [MM (l.set p u) p (by rw [Xd]; omega),MM l p (by omega),XU h,HO hp,List.take_set_of_le (Ql _)];simp only [Ti];generalize 10000^p=P;grind
theorem Ij {l:Uo} {p u:Nat} (h:p<l.length):Ti ((l.set p u).take (p+1))=Ti (l.take p)+10000^p*u:=by
 rw [Tt (l:=l.set p u) (i:=p) (x:=u) (by simp [h]),List.take_set_of_le (Ql _)]
structure AddI (x y:Nat) (s:Nat×Nat×List Nat):Prop where
 d:Dg s.2.2
 l:s.2.2.length=s.1
 v:Ti s.2.2+s.2.1*10000^s.1=Ti ((Gi x).take s.1)+Ti ((Gi y).take s.1)
 c:s.2.1<=1
 b:s.1<=max (Gi x).length (Gi y).length\/s.1=max (Gi x).length (Gi y).length+1/\10000^(max (Gi x).length (Gi y).length)<=x+y/\s.2.1=0
theorem Qtg {x y:Nat} (hx:sz x<=200000000) (hy:sz y<=200000000):Uj 148 [.one (nd x),.one (nd y)] [.one (nd (x+y))]:=by
 have hxl:=Qa (Mn x) hx;have hyl:=Qa (Mn y) hy;have lx:=UC x;have ly:=UC y;show Uj 148 [.one (.row (By (Gi x))),.one (.row (By (Gi y)))] _;refine Fv func148 rfl ?_;refine Ud [.o 5 3 1] rfl ?_;refine Ui (S:=Nat×Nat×Uo) 1 (λL1 s=>(7,.v (.oi (s.1:Int)))::(6,.v (.oi (s.2.1:Int)))::(5,.v (.one (.orow 0 1 none)))::L1) (λs=>[.row false 3 1 (By s.2.2)]) (λs=>(max (Gi x).length (Gi y).length-s.1)*2+s.2.1) (AddI x y) (0,0,[]) ⟨Dg.nil,rfl,by simp [Ti],by decide,.inl (Qh _)⟩ rfl rfl λs hs=>?_
 obtain ⟨i,c,o⟩:=s;obtain ⟨hp0,hp1,hp2,hp3,hp4⟩:=hs;dsimp only at hp0 hp1 hp2 hp3 hp4 ⊢;have hol:(By o).length=i:=by rw [Tx,hp1]
 by_cases h1:i<(Gi x).length
 ·obtain ⟨d,hd⟩:=gxE (l:=(Gi x)) (i:=i) h1;have hd9:=Ck x d (Qc hd);by_cases h2:i<(Gi y).length
  ·obtain ⟨e,he⟩:=gxE (l:=(Gi y)) (i:=i) h2;have he9:=Ck y e (Qc he);refine go tt [.g 12 true Ul,.g 18 true rfl,.t rfl,.T,.x (Gy hd),.r 33 (eI (b:=((c+d:Nat):Int)) (by omega)),.T,.x (Gy he),.r 43 (eI (b:=((c+(d+e):Nat):Int)) (by omega)),.r 46 (eI (b:=(((c+(d+e)) % 10000:Nat):Int)) (by rfl)),.s (sz:=1) (Qcx _),.r 50 (eI (b:=(((c+(d+e)) / 10000:Nat):Int)) (by rfl))] rfl (by simp [U3,hol,tdn,WB,-Int.natCast_add]; omega) ?_;exact rd (i+1,(c+(d+e)) / 10000,o++[(c+(d+e)) % 10000]) (by dsimp only; omega) ⟨hp0.snoc (Nat.mod_lt _ (by decide)),by dsimp only; rw [List.length_append]; show o.length+1=_; omega,by
    dsimp only;rw [Po,hp1,Nat.pow_succ]; simp only [Ti,Nat.mul_zero,Nat.add_zero]; have:=YT (s:=d+e) hp2; rw [this,Tt hd,Tt he]; grind,by dsimp only; omega,.inl (by dsimp only; omega)⟩ (by rw [Ii]; rfl)
  ·refine go tt [.g 12 true Ul,.g 18 true rfl,.t rfl,.T,.x (Gy hd),.r 33 (eI (b:=((c+d:Nat):Int)) (by omega)),.F,.r 46 (eI (b:=(((c+d) % 10000:Nat):Int)) (by rfl)),.s (sz:=1) (Qcx _),.r 50 (eI (b:=(((c+d) / 10000:Nat):Int)) (by rfl))] rfl (by simp [U3,hol,tdn,WB,-Int.natCast_add]; omega) ?_;exact rd (i+1,(c+d) / 10000,o++[(c+d) % 10000]) (by dsimp only; omega) ⟨hp0.snoc (Nat.mod_lt _ (by decide)),by dsimp only; rw [List.length_append]; show o.length+1=_; omega,by
    dsimp only;rw [Po,hp1,Nat.pow_succ]; simp only [Ti,Nat.mul_zero,Nat.add_zero]; have:=YT (s:=d) hp2; rw [this,Tt hd,I9 (l:=Gi y) (by omega)]; grind,by dsimp only; omega,.inl (by dsimp only; omega)⟩ (by rw [Ii]; rfl)
 ·by_cases h2:i<(Gi y).length
  ·obtain ⟨e,he⟩:=gxE (l:=(Gi y)) (i:=i) h2;have he9:=Ck y e (Qc he);refine go tt [.g 12 false Uk,.g 18 true Ul,.t rfl,.F,.T,.x (Gy he),.r 43 (eI (b:=((c+e:Nat):Int)) (by omega)),.r 46 (eI (b:=(((c+e) % 10000:Nat):Int)) (by rfl)),.s (sz:=1) (Qcx _),.r 50 (eI (b:=(((c+e) / 10000:Nat):Int)) (by rfl))] rfl (by simp [U3,hol,tdn,WB,-Int.natCast_add]; omega) ?_;exact rd (i+1,(c+e) / 10000,o++[(c+e) % 10000]) (by dsimp only; omega) ⟨hp0.snoc (Nat.mod_lt _ (by decide)),by dsimp only; rw [List.length_append]; show o.length+1=_; omega,by
    dsimp only;rw [Po,hp1,Nat.pow_succ]; simp only [Ti,Nat.mul_zero,Nat.add_zero]; have:=YT (s:=e) hp2; rw [this,Tt he,I9 (l:=Gi x) (by omega)]; grind,by dsimp only; omega,.inl (by dsimp only; omega)⟩ (by rw [Ii]; rfl)
  ·by_cases h3:0<c
   ·refine go tt [.g 12 false Uk,.g 18 false Uk,.T,.F,.F,.r 46 (eI (b:=((c % 10000:Nat):Int)) (by rfl)),.s (sz:=1) (Qcx _),.r 50 (eI (b:=((c / 10000:Nat):Int)) (by rfl))] rfl (by simp [U3,hol,tdn,WB,-Int.natCast_add]; omega) ?_;exact rd (i+1,c / 10000,o++[c % 10000]) (by dsimp only; omega) ⟨hp0.snoc (Nat.mod_lt _ (by decide)),by dsimp only; rw [List.length_append]; show o.length+1=_; omega,by
     dsimp only;rw [Po,hp1,Nat.pow_succ]; simp only [Ti,Nat.mul_zero,Nat.add_zero]; have:=YT (s:=0) hp2; rw [Nat.add_zero,Nat.mul_zero,Nat.add_zero] at this; rw [this,I9 (l:=Gi y) (by omega),I9 (l:=Gi x) (by omega)],by dsimp only; omega,.inr ⟨by dsimp only; omega,by
      have h:=hp2; rw [List.take_of_length_le (by omega),List.take_of_length_le (by omega),Re,Re,show c=1 by omega,Nat.one_mul,show i=(max (Gi x).length (Gi y).length) by omega] at h; omega,by dsimp only; omega⟩⟩ (by rw [Ii]; rfl)
   ·have hv:Ti o=x+y:=by
     have h:=hp2;rw [Qn (by omega),Qn (by omega),Re,Re,show c=0 by omega] at h;omega
    have hfin:o=Gi (x+y):=by
     have h:=Qgz (o:=o) hp0;rw [hv] at h;refine h ?_;have m1:=XV (x:=x) (y:=x+y) (by omega);have m2:=XV (x:=y) (y:=x+y) (by omega);rcases hp4 with hb | ⟨_,hb,_⟩
     ·omega
     ·have:=Qb2 hb; omega
    exact Uf [.g 12 false Uk,.g 18 false Uk,.F] rfl (by rw [hfin]; rfl) trivial
theorem YM {o b a c P u d e c':Nat} (h:o+b=a+c*P) (hs:u+e+c=d+10000*c'):(o+P*u)+(b+P*e)=(a+P*d)+c'*(P*10000):=by
 have e2:P*(u+e+c)=P*(d+10000*c'):=by rw [hs]
 grind
theorem QS (o:Uo) (i u:Nat):By (o.set i u)=(By o).set i [.int .i64 (u:Int)]:=by simp [By,Vs]
theorem mX {x y:Nat} (hx:sz x<=200000000) (hy:sz y<=200000000) (hyx:y<=x):Uj 150 [.one (nd x),.one (nd y)] [.one (nd (x-y))]:=by
 have hxl:=Qa (Mn x) hx;have hyl:=Qa (Mn y) hy;have lx:=UC x;have ly:=UC y;have hmy:=XV hyx;show Uj 150 [.one (.row (By (Gi x))),.one (.row (By (Gi y)))] _;refine Fv func150 rfl ?_;refine Ue [.i (By (Gi x)).length,.i (By (Gi x)).length] rfl ?_;rw [lx,show List.replicate (Gi x).length [LV.int .i64 0]=By (List.replicate (Gi x).length 0) from by simp [By]];refine Ui (S:=Nat×Nat×Uo) 1 (λL1 s=>(14,.v (.oi (s.1:Int)))::(6,.v (.oi (s.2.1:Int)))::L1) (λs=>[.row false 3 1 (By s.2.2)]) (λs=>(Gi x).length-s.1) (λs=>s.1<=(Gi x).length/\s.2.2.length=(Gi x).length/\Dg s.2.2/\Ti (s.2.2.take s.1)+Ti ((Gi y).take s.1)=Ti ((Gi x).take s.1)+s.2.1*10000^s.1/\s.2.1<=1) (0,0,List.replicate (Gi x).length 0) ⟨Qh _,Jd ..,Dg.zeros _,by simp [Ti],Qh _⟩ rfl rfl λs hs=>?_
 obtain ⟨i,c,o⟩:=s;obtain ⟨hp0,hp1,hp2,hp3,hp4⟩:=hs;dsimp only at hp0 hp1 hp2 hp3 hp4 ⊢;have hol:(By o).length=(Gi x).length:=by rw [Tx,hp1]
 by_cases h1:i<(Gi x).length
 ·obtain ⟨d,hd⟩:=gxE (l:=(Gi x)) (i:=i) h1;have hd9:=Ck x d (Qc hd);by_cases h2:i<(Gi y).length
  ·obtain ⟨e,he⟩:=gxE (l:=(Gi y)) (i:=i) h2;have he9:=Ck y e (Qc he);by_cases h3:d<c+e
   ·refine go tt [.T,.x (Gy hd),.T,.x (Gy he),.T,.r 36 (eI (b:=((d+10000-c-e:Nat):Int)) (by omega)),.i i] rfl (by simp [U3,hol,tdn,WB,-Int.natCast_add]; omega) ?_;exact rd (i+1,1,o.set i (d+10000-c-e)) (by dsimp only; omega) ⟨by dsimp only; omega,by dsimp only; rw [List.length_set]; exact hp1,hp2.set (by omega),by
     dsimp only;rw [Ij (by omega),Tt hd,Tt he,Nat.pow_succ]; exact YM hp3 (u:=d+10000-c-e) (d:=d) (e:=e) (c':=1) (by omega),by dsimp only; omega⟩ (by rw [QS]; rfl)
   ·refine go tt [.T,.x (Gy hd),.T,.x (Gy he),.r 32 (eI (b:=((d-c-e:Nat):Int)) (by omega)),.F,.i i] rfl (by simp [U3,hol,tdn,WB,-Int.natCast_add]; omega) ?_;exact rd (i+1,0,o.set i (d-c-e)) (by dsimp only; omega) ⟨by dsimp only; omega,by dsimp only; rw [List.length_set]; exact hp1,hp2.set (by omega),by
     dsimp only;rw [Ij (by omega),Tt hd,Tt he,Nat.pow_succ]; exact YM hp3 (u:=d-c-e) (d:=d) (e:=e) (c':=0) (by omega),by dsimp only; omega⟩ (by rw [QS]; rfl)
  ·have hy0:Ti ((Gi y).take (i+1))=Ti ((Gi y).take i)+10000^i*0:=by rw [I9 (by omega),Yz,Xm]
   by_cases h3:d<c
   ·refine go tt [.T,.x (Gy hd),.F,.T,.r 36 (eI (b:=((d+10000-c:Nat):Int)) (by omega)),.i i] rfl (by simp [U3,hol,tdn,WB,-Int.natCast_add]; omega) ?_;exact rd (i+1,1,o.set i (d+10000-c)) (by dsimp only; omega) ⟨by dsimp only; omega,by dsimp only; rw [List.length_set]; exact hp1,hp2.set (by omega),by
     dsimp only;rw [Ij (by omega),Tt hd,hy0,Nat.pow_succ]; exact YM hp3 (u:=d+10000-c) (d:=d) (e:=0) (c':=1) (by omega),by dsimp only; omega⟩ (by rw [QS]; rfl)
   ·refine go tt [.T,.x (Gy hd),.r 22 (eI (b:=((d-c:Nat):Int)) (by omega)),.F,.F,.i i] rfl (by simp [U3,hol,tdn,WB,-Int.natCast_add]; omega) ?_;exact rd (i+1,0,o.set i (d-c)) (by dsimp only; omega) ⟨by dsimp only; omega,by dsimp only; rw [List.length_set]; exact hp1,hp2.set (by omega),by
     dsimp only;rw [Ij (by omega),Tt hd,hy0,Nat.pow_succ]; exact YM hp3 (u:=d-c) (d:=d) (e:=0) (c':=0) (by omega),by dsimp only; omega⟩ (by rw [QS]; rfl)
 ·have hi:i=(Gi x).length:=by omega
  have hv:Ti o=x-y:=by
   have h:=hp3;rw [Qn (by omega),Qn (by omega),Qn (by omega),Re,Re] at h;have hlt:=CE hp2;rw [hp1,<-hi] at hlt;have hc0:c=0:=by
    rcases Q3 c with h0 | h0
    ·exact h0
    ·exfalso;have:c=1:=by omega
     rw [this,Wn] at h; omega
   rw [hc0] at h; omega
  have cc:=HB hp2;rw [hv] at cc;exact Uf [.F,.k cc] rfl
theorem CC {o o2 c P u v s V:Nat} (h:o+c*P=V) (hs:o2+P*v=o+P*u) {q:Nat} (hu:u+10000*q=v+c+s):o2+q*(P*10000)=V+P*s:=by
 have e2:P*(u+10000*q)=P*(v+c+s):=by rw [hu]
 grind
theorem Qx8 (S:Nat):S % 10000+10000*(S / 10000)=S:=We S 10000
structure MulI (x y i d:Nat) (s:Nat×Nat×List Nat):Prop where
 l:s.2.2.length=(Gi x).length+(Gi y).length
 dg:Dg s.2.2
 v:Ti s.2.2+s.2.1*10000^(i+s.1)=Ti ((Gi x).take i)*y+10000^i*d*Ti ((Gi y).take s.1)
 c:s.2.1<10000
 b:s.1<=(Gi y).length/\(∀ j v,i+(Gi y).length<=j->s.2.2[j]? = some v->v=0)\/s.1=(Gi y).length+1/\s.2.1=0/\∀ j v,i+(Gi y).length+1<=j->s.2.2[j]? = some v->v=0
theorem Qtr {x y:Nat} (hx:sz x<=200000000) (hy:sz y<=200000000):Uj 151 [.one (nd x),.one (nd y)] [.one (nd (x*y))]:=by
 have hxl:=Qa (Mn x) hx;have hyl:=Qa (Mn y) hy;have lx:=UC x;have ly:=UC y;show Uj 151 [.one (.row (By (Gi x))),.one (.row (By (Gi y)))] _;refine Fv func151 rfl ?_;refine Ue [.r 14 (eI (b:=(((Gi x).length+(Gi y).length:Nat):Int)) (by rw [lx,ly]; omega)),.i ((Gi x).length+(Gi y).length),.i ((Gi x).length+(Gi y).length)] rfl ?_;rw [show List.replicate ((Gi x).length+(Gi y).length) [LV.int .i64 0]=By (List.replicate ((Gi x).length+(Gi y).length) 0) from by simp [By]];refine Ui (S:=Nat×Uo) 1 (λL1 s=>(18,.v (.oi (s.1:Int)))::L1) (λs=>[.row false 3 1 (By s.2)]) (λs=>(Gi x).length-s.1) (λs=>s.1<=(Gi x).length/\s.2.length=(Gi x).length+(Gi y).length/\Dg s.2/\Ti s.2=Ti ((Gi x).take s.1)*y/\∀ j v,s.1+(Gi y).length<=j->s.2[j]? = some v->v=0) (0,List.replicate ((Gi x).length+(Gi y).length) 0) ⟨Qh _,Jd ..,Dg.zeros _,by rw [CO (λx hx=>Zx hx)]; simp [Ti],λj v _ hv=>Zx (Qc hv)⟩ rfl rfl λs hs=>?_
 obtain ⟨i,o⟩:=s;obtain ⟨hp0,hp1,hp2,hp3,hp4⟩:=hs;dsimp only at hp0 hp1 hp2 hp3 hp4 ⊢;by_cases h1:i<(Gi x).length
 ·obtain ⟨d,hd⟩:=gxE (l:=(Gi x)) (i:=i) h1;have hd9:=Ck x d (Qc hd);refine Ud [.T] rfl ?_;refine Ui (S:=Nat×Nat×Uo) 1 (λL1 s=>(8,.v (.oi (s.1:Int)))::(7,.v (.oi (s.2.1:Int)))::L1) (λs=>[.row false 3 1 (By s.2.2)]) (λs=>((Gi y).length-s.1)*2+min s.2.1 1) (MulI x y i d) (0,0,o) ⟨hp1,hp2,by dsimp only; rw [hp3]; simp [Ti],by show 0<10000; decide,.inl ⟨Nat.zero_le _,hp4⟩⟩ rfl rfl λs hs=>?_
  obtain ⟨k,c,o2⟩:=s;obtain ⟨hq0,hq1,hq2,hq3,hq4⟩:=hs;dsimp only at hq0 hq1 hq2 hq3 hq4 ⊢;have hol:(By o2).length=(Gi x).length+(Gi y).length:=by rw [Tx,hq0]
  by_cases h2:k<(Gi y).length
  ·obtain ⟨e,he⟩:=gxE (l:=(Gi y)) (i:=k) h2;have he9:=Ck y e (Qc he);have hde:d*e<=9999*9999:=Zc (by omega) (by omega);obtain ⟨v,hoi⟩:=gxE (l:=o2) (i:=i+k) (by omega);have hv9:=hq1 v (Qc hoi);refine go tt [.g 25 true Ul,.t rfl,.r 34 (eI (b:=((i+k:Nat):Int)) (by omega)),.i (i+k),.x (Gy hoi),.r 38 (eI (b:=((v+c:Nat):Int)) (by omega)),.T,.x (Gy hd),.x (Gy he),.r 52 (eI (b:=((d*e:Nat):Int)) (by simp)),.r 53 (eI (b:=((v+c+d*e:Nat):Int)) (by omega)),.r 57 (eI (b:=((i+k:Nat):Int)) (by omega)),.r 59 (eI (b:=(((v+c+d*e) % 10000:Nat):Int)) (by rfl)),.i (i+k),.r 62 (eI (b:=(((v+c+d*e) / 10000:Nat):Int)) (by rfl))] rfl (by simp [U3,hol,tdn,WB,-Int.natCast_add,-Int.natCast_mul]; omega) ?_;exact rd (k+1,(v+c+d*e) / 10000,o2.set (i+k) ((v+c+d*e) % 10000)) (by dsimp only; omega) ⟨by dsimp only; rw [List.length_set]; exact hq0,hq1.set (Nat.mod_lt _ (by decide)),by
    dsimp only;rw [<-Nat.add_assoc i k 1,Nat.pow_succ]; have:=CC hq2 (eO hoi (u:=((v+c)+(d*e)) % 10000)) (s:=d*e) (q:=((v+c)+(d*e)) / 10000) (by rw [Qx8]); rw [this,Tt he,Nat.pow_add]; grind,by dsimp only; omega,.inl ⟨by dsimp only; omega,λj w hj hw=>(by
     dsimp only at hw;rcases hq4 with ⟨_,h⟩ | ⟨_,_,h⟩ <;> (rw [Yg (by omega)] at hw; exact h j w (by omega) hw))⟩⟩ (by rw [QS]; rfl)
  ·by_cases h3:0<c
   ·have hk:k=(Gi y).length:=by omega
    have hz:∀ j v,i+(Gi y).length<=j->o2[j]? = some v->v=0:=by
     rcases hq4 with ⟨_,h⟩ | ⟨_,h,_⟩
     ·exact h
     ·omega
    obtain ⟨v,hoi⟩:=gxE (l:=o2) (i:=i+k) (by omega);have hv0:v=0:=hz (i+k) v (by omega) hoi;have hv9:=hq1 v (Qc hoi);refine go tt [.g 25 false Uk,.T,.r 34 (eI (b:=((i+k:Nat):Int)) (by omega)),.i (i+k),.x (Gy hoi),.r 38 (eI (b:=((v+c:Nat):Int)) (by omega)),.F,.r 57 (eI (b:=((i+k:Nat):Int)) (by omega)),.r 59 (eI (b:=(((v+c) % 10000:Nat):Int)) (by rfl)),.i (i+k),.r 62 (eI (b:=(((v+c) / 10000:Nat):Int)) (by rfl))] rfl (by simp [U3,hol,tdn,WB,-Int.natCast_add]; omega) ?_;exact rd (k+1,(v+c) / 10000,o2.set (i+k) ((v+c) % 10000)) (by dsimp only; omega) ⟨by dsimp only; rw [List.length_set]; exact hq0,hq1.set (Nat.mod_lt _ (by decide)),by
     dsimp only;rw [<-Nat.add_assoc i k 1,Nat.pow_succ]; have:=CC hq2 (eO hoi (u:=(v+c) % 10000)) (s:=0) (q:=(v+c) / 10000) (by rw [Qx8]; rfl); rw [this,Nat.mul_zero,Nat.add_zero,I9 (by omega)],by dsimp only; omega,.inr ⟨by dsimp only; omega,by dsimp only; omega,λj w hj hw=>(by
      dsimp only at hw;rw [Yg (by omega)] at hw; exact hz j w (by omega) hw)⟩⟩ (by rw [QS]; rfl)
   ·refine Ue [.g 25 false Uk,.F] rfl ?_;exact rd (i+1,o2) (by dsimp only; omega) ⟨by dsimp only; omega,hq0,hq1,by
     dsimp only;rw [Tt hd,X4]; have h:=hq2; rw [show c=0 by omega,Qn (l:=Gi y) (i:=k) (by omega),Re] at h; rw [Yl,Xm] at h; exact h,by
     dsimp only;rcases hq4 with ⟨_,h⟩ | ⟨_,_,h⟩
     ·exact λj w hj hw=>h j w (by omega) hw
     ·exact λj w hj hw=>h j w (by omega) hw⟩ rfl
 ·have hv:Ti o=x*y:=by rw [hp3,Qn (by omega),Re]
  have cc:=HB hp2;rw [hv] at cc;exact Uf [.F,.k cc] rfl
theorem eG {x y:Nat}:ZS x y<=0↔x<=y:=by
 unfold ZS;constructor
 ·intro h; split at h
  ·omega
  ·split at h <;> omega
 ·intro h; split
  ·omega
  ·split <;> omega
theorem Qb5 {R y lo:Nat} (h1:y*lo<=R) (h2:R<y*(lo+1)):R / y=lo/\R % y=R-y*lo:=by
 have hy:0<y:=by
  rcases Q3 y with h | h
  ·subst h; simp at h2
  ·exact h
 have e:R / y=lo:=Nat.div_eq_of_lt_le (by rw [Zq]; exact h1) (by rw [Zq]; exact h2);refine ⟨e,?_⟩;have:=Xe R y;rw [e] at this; omega
theorem Qlb {R y:Nat} (h:R<y*10000):sz R<=sz y+14:=by
 refine Np.2 (Z6 h ?_);have:=FT y;rw [Xf];have e:(2:Nat)^14=16384:=by decide
 rw [e]; exact Zc (by omega) (by decide)
theorem Qdi (y:Nat):sz (y*10000)<=sz y+14:=by
 refine Np.2 ?_;have:=FT y;rw [Xf];have e:(2:Nat)^14=16384:=by decide
 rw [e]; omega
theorem pO {x y:Nat} (hx:sz x<=90000000) (hy:sz y<=90000000) (hy0:0<y):Uj 157 [.one (nd x),.one (nd y)] [.one (nd (x / y)),.one (nd (x % y))]:=by
 have hxl:=Qa (Mn x) hx;have hyl:=Qa (Mn y) hy;have lx:=UC x;show Uj 157 [.one (.row (By (Gi x))),.one (nd y)] _;refine Fv func157 rfl ?_;refine Ue [.i (By (Gi x)).length,.i (By (Gi x)).length,.z 7,.r 17 (eI (b:=((Gi x).length:Int)-1) (by rw [lx]))] rfl ?_;rw [lx,show List.replicate (Gi x).length [LV.int .i64 0]=By (List.replicate (Gi x).length 0) from by simp [By]];refine Ui (S:=Nat×Uo×Uo) 1 (λL1 s=>(8,.v (.oi ((s.1:Int)-1)))::(7,.v (.one (.row (By s.2.1))))::L1) (λs=>[.row false 3 1 (By s.2.2)]) (λs=>s.1) (λs=>s.1<=(Gi x).length/\s.2.2.length=(Gi x).length/\Dg s.2.2/\Ti (s.2.2.drop s.1)=Ti ((Gi x).drop s.1) / y/\s.2.1=Gi (Ti ((Gi x).drop s.1) % y)) ((Gi x).length,[],List.replicate (Gi x).length 0) ⟨Nat.le_refl _,List.length_replicate ..,Dg.zeros _,by dsimp only; rw [List.drop_eq_nil_of_le (by simp),List.drop_eq_nil_of_le (Nat.le_refl _)]; simp [Ti],by dsimp only; rw [List.drop_eq_nil_of_le (Nat.le_refl _)]; simp [Ti,Hx]⟩ rfl rfl λs hs=>?_
 obtain ⟨j,R,o⟩:=s;obtain ⟨hp0,hp1,hp2,hp3,hp4⟩:=hs;dsimp only at hp0 hp1 hp2 hp3 hp4 ⊢;cases j with
 |
  zero =>
  have cc:=HB hp2;rw [Xy,Xy,Re] at hp3;rw [Xy,Re] at hp4;rw [hp3] at cc;exact Uf [.f (by simp),.k cc] rfl (by rw [hp4]; rfl) trivial
 |
  succ j =>
  obtain ⟨d,hd⟩:=gxE (l:=(Gi x)) (i:=j) (by omega);have hd9:=Ck x d (Qc hd);have hdd:=XU hd;obtain ⟨hq1,hq2,hq3⟩:=uG (V:=Ti ((Gi x).drop (j+1))) (kd:=y) (d:=d) hy0;rw [<-hdd] at hq1 hq2;have hq3:=hq3 hd9;obtain ⟨rr,hrr0⟩:=nmE (Ti ((Gi x).drop (j+1)) % y);have hrr:rr<y:=by rw [hrr0]; exact Z4 _ hy0
  rw [<-hrr0] at hp4 hq1 hq2 hq3;subst hp4;have hrl:(Gi rr).length<=(Gi y).length:=XV (by omega);have hR:rr*10000+d<y*10000:=by omega
  have hRs:=Qlb hR;have hdv:Dg (d::Gi rr):=λz hz=>by
   rcases Qm.1 hz with rfl | hz
   ·exact hd9
   ·exact Ck rr z hz
  have cc:=HB hdv;rw [show Ti (d::Gi rr)=rr*10000+d from by simp only [Ti]; rw [Re]; omega] at cc;have hol:(By o).length=(Gi x).length:=by rw [Tx,hp1]
  have hrrl:=Tx (Gi rr);have ej:((j+1:Nat):Int)-1=(j:Int):=by omega
  rw [ej];refine go tt [.T,.x (Gy hd),.lo,.s (sz:=1) (Qul (Gi rr)),.k cc] rfl (by simp [U3,UC]; omega) ?_;refine Ui (S:=Nat×Nat) 2 (λL1 s=>(9,.v (.oi (s.1:Int)))::(10,.v (.oi (s.2:Int)))::L1) (λ_=>[.row false 3 1 (By o),.gone]) (λs=>s.2-s.1) (λs=>s.1<=s.2/\s.2<=9999/\y*s.1<=rr*10000+d/\rr*10000+d<y*(s.2+1)) (0,9999) ⟨by decide,by decide,by dsimp only; omega,by dsimp only; omega⟩ rfl rfl λs hs=>?_
  obtain ⟨lo,hi⟩:=s;obtain ⟨hb0,hb1,hb2,hb3⟩:=hs;dsimp only at hb0 hb1 hb2 hb3 ⊢;by_cases h2:lo<hi
  ·obtain ⟨m,hm⟩:=nmE ((lo+hi+1) / 2);have hym:y*m<=y*10000:=Zu y (by omega);have c1:=UT (x:=y) (mu:=m) (c0:=0) (by omega) (by omega) (by omega);have c2:=pE (x:=y*m+0) (y:=rr*10000+d) (Qa (Rh (show _<=y*10000 by omega)) (Qa (Qdi y) (by omega))) (by omega);by_cases h3:y*m+0<=rr*10000+d
   ·refine go tt [.T,.r 35 (eI (b:=((lo+hi:Nat):Int)) (by omega)),.r 36 (eI (b:=((lo+hi+1:Nat):Int)) (by omega)),.r 37 (eI (b:=(m:Int)) (by rw [hm]; rfl)),.k c1,.k c2,.t (decide_eq_true (eG.2 h3))] rfl (by simp [U3,WB,-Int.natCast_add]; omega) ?_;exact rd (m,hi) (by dsimp only; omega) ⟨by dsimp only; omega,hb1,by dsimp only; omega,hb3⟩ rfl
   ·refine go tt [.T,.r 35 (eI (b:=((lo+hi:Nat):Int)) (by omega)),.r 36 (eI (b:=((lo+hi+1:Nat):Int)) (by omega)),.r 37 (eI (b:=(m:Int)) (by rw [hm]; rfl)),.k c1,.k c2,.f (decide_eq_false λh=>h3 (eG.1 h)),.r 46 (eI (b:=((m-1:Nat):Int)) (by omega))] rfl (by simp [U3,WB,-Int.natCast_add]; omega) ?_;exact rd (lo,m-1) (by dsimp only; omega) ⟨by dsimp only; omega,by dsimp only; omega,hb2,by dsimp only; rw [show m-1+1=m by omega]; omega⟩ rfl
  ·have hlh:lo=hi:=by omega
   have hfd:=Qb5 hb2 (by rw [hlh]; exact hb3);have c1:=UT (x:=y) (mu:=lo) (c0:=0) (by omega) (by omega) (by omega);have c2:=mX (x:=rr*10000+d) (y:=y*lo+0) (by omega) (Qa (Rh (show _<=rr*10000+d by omega)) (by omega)) (by omega);rw [show rr*10000+d-(y*lo+0)=Ti ((Gi x).drop j) % y from by rw [hq2,hfd.2]; omega] at c2;refine go tt [.F,.i j,.k c1,.k c2] rfl (by simp [U3,hol,tdn,WB,-Int.natCast_add]; omega) ?_;exact rd (j,Gi (Ti ((Gi x).drop j) % y),o.set j lo) (by dsimp only; omega) ⟨by dsimp only; omega,by dsimp only; rw [List.length_set]; exact hp1,hp2.set (by omega),by
    dsimp only;rw [HO (by omega)]; simp only [Ti]; rw [hp3,hq1,hfd.1],rfl⟩ (by rw [QS]; rfl)
end Orr
namespace Orr
def Bd (s:Nat) (p:Um):Prop:=∀ z∈p,Fe z≤s
theorem Nf:Fe 0=0:=rfl
theorem Qed {s:Nat} {p:Um} (h:Bd s p) {i:Nat} {z:Int} (hz:p[i]? = some z):Fe z<=s:=h z (Qc hz)
theorem Ft {s:Nat} {p:Um} (h:Bd s p) (k:Nat):Fe (p.getD k 0)<=s:=by
 rw [Qi];cases hk:p[k]? with
 | none=>rw [Kx,Nf]; exact Qh _
 | some z=>exact Qed h hk
theorem U5 {s t:Nat} {p:Um} (h:Bd s p) (ht:s<=t):Bd t p:=λz hz=>Qa (h z hz) ht
theorem ZO {s:Nat}:Bd s []:=λz hz=>by cases hz
theorem Qta {s:Nat} {n:Nat} {g:Nat->Int} (h:∀ k,k<n->Fe (g k)<=s):Bd s ((List.range n).map g):=λz hz=>by
 obtain ⟨k,hk,rfl⟩:=Za.1 hz;exact h k (Kj.1 hk)
theorem sU:∀ (l:Um),∀ z∈trim l,z∈l
 | [],z,h=>by cases h
 |
  x::l,z,h=>by
  have ih:=sU l;cases hl:trim l with
  |
   nil =>
   simp only [trim,hl] at h
   split at h
   ·cases h
   ·rw [Qk] at h; rw [h]; exact Qy ..
  |
   cons y k =>
   simp only [trim,hl] at h;rcases Qm.1 h with rfl | h
   ·exact Qy ..
   ·exact Qg _ (ih z (by rw [hl]; exact h))
theorem H7 (l:Um):(trim l).length<=l.length:=by
 induction l with
 | nil=>exact Ql _
 |
  cons x l ih =>
  cases hl:trim l with
  | nil=>simp only [trim,hl]; split <;> simp
  | cons y k=>simp only [trim,hl]; rw [hl] at ih; simp at ih ⊢; exact ih
theorem Tw {s:Nat} {p:Um} (h:Bd s p):Bd s (trim p):=λz hz=>h z (sU p z hz)
theorem VG:∀ (l:Um) (k:Nat),(trim l).getD k 0=l.getD k 0
 | [],k=>rfl
 |
  x::l,k=>by
  have ih:=VG l;cases hl:trim l with
  |
   nil =>
   rw [hl] at ih;simp only [trim,hl]
   split
   ·rename_i hx;cases k with
    | zero=>simp [hx]
    | succ k=>have:=ih k; simp at this ⊢; exact this
   ·cases k with
    | zero=>simp
    | succ k=>have:=ih k; simp at this ⊢; exact this
  |
   cons y m =>
   rw [hl] at ih;simp only [trim,hl];cases k with
   | zero=>simp
   | succ k=>have:=ih k; simp at this ⊢; exact this
def A6 (n:Nat) (g:Nat->Int):Um:=trim ((List.range n).map g)
theorem Fy (n:Nat) (g:Nat->Int):Ff (A6 n g):=Rq _
theorem Oa (n:Nat) (g:Nat->Int):(A6 n g).length<=n:=Qa (H7 _) (by simp)
theorem Pa (n:Nat) (g:Nat->Int) (k:Nat):(A6 n g).getD k 0=if k<n then g k else 0:=by
 unfold A6;rw [VG,Qi,Q8]
 split
 ·rename_i h; rw [List.getElem?_range h]; rfl
 ·rename_i h; rw [List.getElem?_eq_none (by simpa using h)]; rfl
theorem YY {s n:Nat} {g:Nat->Int} (h:∀ k,k<n->Fe (g k)<=s):Bd s (A6 n g):=Tw (Qta h)
def A7 (p q:Um):Um:=A6 (max p.length q.length) λk=>p.getD k 0+q.getD k 0
def M7 (p q:Um):Um:=A6 (max p.length q.length) λk=>p.getD k 0-q.getD k 0
def Ms (p:Um):Um:=A6 p.length λk=>-(p.getD k 0)
def Fw (p:Um) (c:Int):Um:=A6 p.length λk=>p.getD k 0*c
def Gx (p:Um):Um:=A6 (p.length-1) λk=>p.getD (k+1) 0*((k+1:Nat):Int)
theorem YV {s t:Nat} {p q:Um} (h:Bd s p) (h':Bd t q):Bd (max s t+1) (A7 p q):=YY λk _=>Qa (QD _ _) (by have:=Ft h k; have:=Ft h' k; omega)
theorem Du {s t:Nat} {p q:Um} (h:Bd s p) (h':Bd t q):Bd (max s t+1) (M7 p q):=YY λk _=>Qa (jI _ _) (by have:=Ft h k; have:=Ft h' k; omega)
theorem MJ {s:Nat} {p:Um} (h:Bd s p):Bd s (Ms p):=YY λk _=>by rw [Hm]; exact Ft h k
theorem Ge {s t:Nat} {p:Um} {c:Int} (h:Bd s p) (hc:Fe c<=t):Bd (s+t) (Fw p c):=YY λk _=>Qa (Ga _ _) (by have:=Ft h k; omega)
theorem Og (p q:Um):(A7 p q).length<=max p.length q.length:=Oa _ _
theorem Nh (p q:Um):(M7 p q).length<=max p.length q.length:=Oa _ _
theorem XA (p:Um):(Ms p).length<=p.length:=Oa _ _
theorem Fx (p:Um) (c:Int):(Fw p c).length<=p.length:=Oa _ _
theorem Ng (p:Um):(Gx p).length<=p.length-1:=Oa _ _
theorem jA {k t:Nat} (h:k<2^t):Fe (k:Int)<=t:=by rw [Sw]; simpa using h
theorem Qcn {k:Nat} (h:k<274877906944):Fe (k:Int)<=4294967295:=Qa (jA (t:=38) (Kh h (by decide))) (by omega)
theorem xR {s t:Nat} {p:Um} (h:Bd s p) (hl:p.length<=2^t):Bd (s+t) (Gx p):=YY λk hk=>Qa (Ga _ _) (by
 have:=Ft h (k+1);have:=jA (k:=k+1) (t:=t) (by omega);omega)
def Ol (x:Int) (b:Um) (i:Nat) (o:Um):Nat->Um
 | 0=>o
 | k+1=>(Ol x b i o k).set (i+k) ((Ol x b i o k).getD (i+k) 0+x*b.getD k 0)
def Au (a b o:Um):Nat->Um
 | 0=>o
 | i+1=>Ol (a.getD i 0) b i (Au a b o i) b.length
def Gk (a b:Um):Um:=if a.length=0\/b.length=0 then [] else trim (Au a b (List.replicate (a.length+b.length-1) 0) a.length)
theorem Om (x:Int) (b:Um) (i:Nat) (o:Um) (k:Nat):(Ol x b i o k).length=o.length:=by
 induction k with
 | zero=>rfl
 | succ k ih=>simp [Ol,ih]
theorem Lj (a b o:Um) (i:Nat):(Au a b o i).length=o.length:=by
 induction i with
 | zero=>rfl
 | succ i ih=>simp [Au,Om,ih]
theorem Qh6 (l:Um) (i m:Nat) (v:Int) (h:i<l.length):(l.set i v).getD m 0=if m=i then v else l.getD m 0:=by
 rw [Qi,Yn,Qi];by_cases e:i=m
 ·subst e; simp [h]
 ·rw [if_neg e,if_neg (λh=>e h.symm)]
theorem Qcu (x:Int) (b:Um) (i:Nat) (o:Um) (k m:Nat) (h:i+k<=o.length):(Ol x b i o k).getD m 0=if i<=m/\m<i+k then o.getD m 0+x*b.getD (m-i) 0 else o.getD m 0:=by
 induction k with
 | zero=>simp only [Ol]; rw [if_neg (by omega)]
 |
  succ k ih =>
  have ih:=ih (by omega);simp only [Ol];rw [Qh6 _ _ _ _ (by rw [Om]; omega)];by_cases e:m=i+k
  ·subst e;rw [if_pos rfl,if_pos (by omega),show i+k-i=k from by omega];rw [ih,if_neg (by omega)]
  ·rw [if_neg e,ih];by_cases h1:i<=m/\m<i+k
   ·rw [if_pos h1,if_pos (by omega)]
   ·rw [if_neg h1,if_neg (by omega)]
theorem Ni {x y:Int} {s t:Nat} (hx:Fe x<=s) (hy:Fe y<=t):(x*y).natAbs<=2^(s+t):=by
 have h:=Qa (Ga x y) (show _<=s+t by omega);rw [Sw] at h; omega
theorem yF {x:Int} {b:Um} {i:Nat} {o:Um} {k M:Nat} (h:i+k<=o.length) (ho:∀ m,(o.getD m 0).natAbs<=i*M) (hx:∀ j,(x*b.getD j 0).natAbs<=M) (m:Nat):((Ol x b i o k).getD m 0).natAbs<=(i+1)*M:=by
 rw [Qcu x b i o k m h,Xa];have h1:=ho m
 split
 ·have h2:=hx (m-i);generalize i*M=q at *;omega
 ·omega
theorem yU {a b o:Um} {i M:Nat} (h:∀ j,j<i->j+b.length<=o.length) (ho:∀ m,o.getD m 0=0) (hx:∀ i j,(a.getD i 0*b.getD j 0).natAbs<=M) (m:Nat):((Au a b o i).getD m 0).natAbs<=i*M:=by
 induction i generalizing m with
 | zero=>simp only [Au]; rw [ho]; simp
 |
  succ i ih =>
  simp only [Au];exact yF (by rw [Lj]; exact h i (by omega)) (ih λj hj=>h j (by omega)) (hx i) m
theorem Iw {z:Int} {i s t:Nat} (h:z.natAbs<=i*2^s) (hi:i<2^t):Fe z<=s+t:=by
 rw [Sw];have h1:i*2^s<2^t*2^s:=Xn hi (Z2 (by decide));rw [<-Xf,Ju t s] at h1;omega
theorem Cn (n m:Nat):(List.replicate n (0:Int)).getD m 0=0:=by
 rw [Qi,Jz]; split <;> rfl
theorem BZ {s:Nat} {p:Um} (h:∀ m,Fe (p.getD m 0)<=s):Bd s p:=λz hz=>by
 obtain ⟨i,hi⟩:=Zk.1 hz;have:=h i;rw [Qi,hi] at this;exact this
theorem Tv (a b:Um):(Gk a b).length<=a.length+b.length-1:=by
 unfold Gk
 split
 ·simp
 ·refine Qa (H7 _) ?_;rw [Lj]; simp
theorem Pk {s t u:Nat} {a b:Um} (ha:Bd s a) (hb:Bd t b) (hl:a.length<2^u):Bd (s+t+u) (Gk a b):=by
 unfold Gk
 split
 ·exact ZO
 ·refine Tw (BZ λm=>?_);exact Iw (yU (M:=2^(s+t)) (λj hj=>by simp; omega) (Cn _) (λi j=>Ni (Ft ha i) (Ft hb j)) m) hl
theorem Hz (a b:Um):Ff (Gk a b):=by
 unfold Gk
 split
 ·rfl
 ·exact Rq _
def Ed (a:Um) (n d:Int):Nat->Int×Int
 | 0=>(0,1)
 | k+1=>((Ed a n d k).1*n+a.getD (a.length-1-k) 0*(Ed a n d k).2,(Ed a n d k).2*d)
def Qvy (a:Um) (n d:Int):Int:=(Ed a n d a.length).1
theorem Qap {a:Um} {n d:Int} {s t k:Nat} (ha:Bd s a) (hn:Fe n<=t) (hd:Fe d<=t):Fe (Ed a n d k).1<=s+2+k*(t+1)/\Fe (Ed a n d k).2<=1+k*t:=by
 induction k with
 | zero=>exact ⟨by simp [Ed,Nf],by simp [Ed]; decide⟩
 |
  succ k ih =>
  obtain ⟨h1,h2⟩:=ih;have h3:=Ft ha (a.length-1-k);have e1:k*(t+1)=k*t+k:=by rw [Xj,Yw]
  rw [Xa,Xa];refine ⟨?_,?_⟩
  ·simp only [Ed];refine Qa (QD _ _) ?_;have h4:=Ga (Ed a n d k).1 n;have h5:=Ga (a.getD (a.length-1-k) 0) (Ed a n d k).2;generalize k*t=q at *;rw [e1] at h1 ⊢;omega
  ·simp only [Ed];have h4:=Ga (Ed a n d k).2 d;generalize k*t=q at *;omega
end Orr
namespace Orr
theorem jJ {x y:Int}:Lb x y=0↔x=y:=by
 unfold Lb;constructor
 ·intro h
  split at h
  ·omega
  ·split at h <;> omega
 ·rintro rfl; simp
theorem H8 {p:Um} (h:Ff p) (h0:0<p.length):p.getD (p.length-1) 0≠0:=by
 induction p with
 | nil=>simp at h0
 |
  cons x l ih =>
  unfold Ff at h;cases hl:trim l with
  |
   nil =>
   simp only [trim,hl] at h
   split at h
   ·cases h
   ·rename_i hx;injection h with h1 h2;subst h2;simpa using hx
  |
   cons y k =>
   simp only [trim,hl] at h;injection h with h1 h2;rw [<-hl] at h2;have ih:=ih h2 (by rw [<-h2,hl]; simp);have h3:0<l.length:=by rw [<-h2,hl]; simp
   simp only [Q5,Yb];obtain ⟨m,hm⟩:∃ m,l.length=m+1:=⟨l.length-1,by omega⟩;rw [hm] at ih ⊢;simpa using ih
end Orr
namespace Orr
theorem gX (p:Um):(List.range p.length).map (λk=>p.getD k 0)=p:=by
 apply Xl;intro i;rw [Q8];rcases Zb i p.length with h | h
 ·rw [X2 h];simp [Qe h]
 ·rw [Qw (by simpa using h),Qw h]; rfl
theorem DY {p q:Um} (hl:p.length=q.length) (h:∀ j,j<p.length->p.getD j 0=q.getD j 0):p=q:=by
 rw [<-gX p,<-gX q,<-hl];exact Xq λj hj=>h j (Kj.1 hj)
end Orr
namespace Orr
abbrev rl (q:Rat):Ur:=[sg q.num,mg q.num,sg (q.den:Int),mg (q.den:Int)]
theorem Ld (n d:Int):Rz [n,d]=Int.gcd d n:=by
 unfold Rz;simp only [Z9,List.foldl_nil,Nat.gcd_zero_left];exact Nat.gcd_comm _ _
theorem fV {n d:Int} (hd:d≠0):(0:Int)<((Rz [n,d]:Nat):Int):=by
 rw [Ld];have:=Int.gcd_pos_of_ne_zero_left n hd;omega
theorem DL (n d:Int):n % ((Rz [n,d]:Nat):Int)=0:=by
 rw [Ld]; exact Jx (Wv ..)
theorem DI (n d:Int):d % ((Rz [n,d]:Nat):Int)=0:=by
 rw [Ld]; exact Jx (Int.gcd_dvd_left ..)
theorem iR {n g:Int} (h:n % g=0):-n % g=0:=by
 exact Jx (Int.dvd_neg.2 (Vf h))
theorem aN {n d:Int} {s:Nat} (hd:d≠0) (h:Fe d<=s):Fe ((Rz [n,d]:Nat):Int)<=s:=by
 rw [Ld];refine Qa (Rh ?_) h;have:=Kv (by omega:0<d.natAbs) (show Int.gcd d n∣d.natAbs from W0 _ _);simpa using this
theorem iY {n d:Int} (hd:0<d):n / ((Rz [n,d]:Nat):Int)=(Rat.divInt n d).num/\d / ((Rz [n,d]:Nat):Int)=((Rat.divInt n d).den:Int):=by
 rw [Ld,Rat.num_divInt,Wm,if_neg (by omega),Yu hd,Kq];refine ⟨rfl,?_⟩;rw [Int.natCast_ediv,Int.natAbs_of_nonneg (by omega)]
theorem Qo9 {n d:Int} (hd:d<0):-n / ((Rz [n,d]:Nat):Int)=(Rat.divInt n d).num/\-d / ((Rz [n,d]:Nat):Int)=((Rat.divInt n d).den:Int):=by
 rw [Ld,Rat.num_divInt,Wm,if_neg (by omega),J7 hd,Ko,Kq];refine ⟨rfl,?_⟩;rw [Int.natCast_ediv,Int.ofNat_natAbs_of_nonpos (by omega)]
theorem XC (u g:Int):Fe (u / g)<=Fe u:=by
 unfold Fe;exact Rh (Int.natAbs_ediv_le_natAbs u g)
theorem Pe {n d:Int} {s:Nat} (h:Fe n<=s):Fe (Rat.divInt n d).num<=s:=by
 rw [Rat.num_divInt];refine Qa (XC _ _) ?_;unfold Fe;rw [J9];refine Qa (Rh ?_) h;have:d.sign.natAbs<=1:=by rcases A0 d with ⟨_,e⟩ | ⟨_,e⟩ | ⟨_,e⟩ <;> rw [e] <;> decide
 calc d.sign.natAbs*n.natAbs<=1*n.natAbs:=Q0 _ this
  _=n.natAbs:=Wn _
theorem Pd {n d:Int} {s:Nat} (h:Fe d<=s) (h1:1<=s):Fe ((Rat.divInt n d).den:Int)<=s:=by
 rw [Wm]
 split
 ·exact h1
 ·refine Qa (Rh ?_) h;exact Jq _ _
def Qs (s:Nat) (q:Rat):Prop:=Fe q.num<=s/\Fe (q.den:Int)<=s
theorem Qs.mono {s t:Nat} {q:Rat} (h:Qs s q) (ht:s<=t):Qs t q:=⟨Qa h.1 ht,Qa h.2 ht⟩
theorem Qs.divInt {s:Nat} {n d:Int} (h:Fe n<=s) (h':Fe d<=s) (h1:1<=s):Qs s (Rat.divInt n d):=⟨Pe h,Pd h' h1⟩
theorem Dm (q:Rat):(q.den:Int)≠0:=by have:=q.den_nz; omega
theorem den_pos (q:Rat):(0:Int)<(q.den:Int):=by have:=q.den_nz; omega
def Gh (n d:Int):Rat:=Rat.divInt n (if d=0 then 1 else d)
theorem Su (q:Rat):Gh q.num q.den=q:=by
 unfold Gh;rw [if_neg (Dm q)]; exact Z5 q
def He (a b:Rat):Int:=Lb (a.num*(b.den:Int)) (b.num*(a.den:Int))
theorem Ny {a b:Rat}:He a b<0↔a<b:=by
 rw [Rat.lt_iff]; unfold He Lb;constructor
 ·intro h; split at h
  ·assumption
  ·split at h <;> omega
 ·intro h; rw [if_pos h]; decide
theorem En {a b:Rat}:0<He a b↔b<a:=by
 rw [Rat.lt_iff]; unfold He Lb;constructor
 ·intro h; split at h
  ·omega
  ·split at h
   ·assumption
   ·omega
 ·intro h; rw [if_neg (by omega),if_pos h]; decide
theorem E4 (a:Rat):He a a=0:=by unfold He Lb; simp
end Orr
namespace Orr
open Go Go.Proofs Tryz
set_option maxRecDepth 10000
abbrev fr (q:Rat):Ur:=ri q.num++ri (q.den:Int)
theorem Ih:Gi 1=[1]:=by rw [YS (by decide)]; rw [Hx]
theorem Ae {n:Int}:Uj 80 [.agg (ri n),.agg (ri 1)] [.agg (fr (n:Rat))]:=by
 have h0:(By (Gi (1:Int).natAbs))[0]? = some [LV.int .i64 1]:=by rw [show (1:Int).natAbs=1 from rfl,Ih]; rfl
 have h1:decide (((By (Gi (1:Int).natAbs)).length:Int)=1)=true:=by rw [show (1:Int).natAbs=1 from rfl,Ih]; rfl
 exact Ug func80 rfl [.k (Dw (z:=1)),.f rfl,.f rfl,.g 19 true h1,.x h0,.t rfl] rfl
theorem KR {n:Int} (hn:-4000000000000000000<=n/\n<=4000000000000000000):Uj 33 [.oi n,.oi 1] [.agg (fr (n:Rat))] :=
 Ug func33 rfl [.k (XQ hn),.k (XQ (n:=1) (by decide)),.k Ae] rfl
theorem wR {q:Rat} (hq:Qs 100000000 q):Uj 32 [.agg (fr q)] [.agg (rl q)] :=
 Ug func32 rfl [.k (Qt0 hq.1),.k (Qt0 hq.2)] rfl
end Orr
