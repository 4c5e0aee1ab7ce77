/- Ntt L1 L2 L3 L4 L5 M1 P2 M2 PolyL RatL CrvL CrowdL PredL CertL Y1 Y2 Q1 C1 -/
import Derived.Test.YtiegdkolbckfdaaGreatPart03
import Derived.Laws.StructEq
import Derived.Test.YtiegdkolbckfdaaGreatProg
import Derived.Test.YtiegdkolbckfdaaGreatPart00
set_option linter.all false
namespace Orr
open Go Go.Proofs Tryz
theorem lU (d:Nat) (x y:Int) (w:World):(Op.equalIn (d+1) 3 (.int .i64 x) (.int .i64 y)).run prog w=.ok (decide (x=y)) w:=by
 simp [Op.equalIn,runUnderlying3];rfl
noncomputable def ti3:TI prog:=Ow 3 isAgg3 sizeOf3 underlying3 zeroValue3 typeInfo3 8 rfl
noncomputable def ti4:TI prog:=Ow 4 isAgg4 sizeOf4 underlying4 zeroValue4 typeInfo4 1 rfl
noncomputable def ti5:TI prog:=Ow 5 isAgg5 sizeOf5 underlying5 zeroValue5 typeInfo5 1 rfl
noncomputable def ti9:TI prog:=Ow 9 isAgg9 sizeOf9 underlying9 zeroValue9 typeInfo9 16 rfl
noncomputable def ti22:TI prog:=Ow 22 isAgg22 sizeOf22 underlying22 zeroValue22 typeInfo22 24 rfl
noncomputable def ti23:TI prog:=Ow 23 isAgg23 sizeOf23 underlying23 zeroValue23 typeInfo23 8 rfl
noncomputable def ti26:TI prog:=FI (ks:=[1,1,1]) (ag:=[false,false,false]) 26 isAgg26 sizeOf26 underlying26 zeroValue26 typeInfo26 24 rfl ⟨sizeOf23,sizeOf24,sizeOf3,trivial⟩ ⟨isAgg23,isAgg24,isAgg3,trivial⟩ rfl
noncomputable def ti30:TI prog:=Ow 30 isAgg30 sizeOf30 underlying30 zeroValue30 typeInfo30 8 rfl
noncomputable def ti32:TI prog:=Ow 32 isAgg32 sizeOf32 underlying32 zeroValue32 typeInfo32 24 rfl
noncomputable def ti33:TI prog:=Ow 33 isAgg33 sizeOf33 underlying33 zeroValue33 typeInfo33 24 rfl
noncomputable def ti34:TI prog:=Ow 34 isAgg34 sizeOf34 underlying34 zeroValue34 typeInfo34 24 rfl
noncomputable def ti36:TI prog:=FI (ks:=[1,1]) (ag:=[false,false]) 36 isAgg36 sizeOf36 underlying36 zeroValue36 typeInfo36 32 rfl ⟨sizeOf4,sizeOf34,trivial⟩ ⟨isAgg4,isAgg34,trivial⟩ rfl
noncomputable def ti38:TI prog:=FI (ks:=[1,1,2]) (ag:=[false,false,true]) 38 isAgg38 sizeOf38 underlying38 zeroValue38 typeInfo38 80 rfl ⟨sizeOf33,sizeOf33,sizeOf36,trivial⟩ ⟨isAgg33,isAgg33,isAgg36,trivial⟩ rfl
noncomputable def ti40:TI prog:=FI (ks:=[4,1]) (ag:=[true,false]) 40 isAgg40 sizeOf40 underlying40 zeroValue40 typeInfo40 88 rfl ⟨sizeOf38,sizeOf3,trivial⟩ ⟨isAgg38,isAgg3,trivial⟩ rfl
noncomputable def ti42:TI prog:=FI (ks:=[2,2]) (ag:=[true,true]) 42 isAgg42 sizeOf42 underlying42 zeroValue42 typeInfo42 64 rfl ⟨sizeOf36,sizeOf36,trivial⟩ ⟨isAgg36,isAgg36,trivial⟩ rfl
noncomputable def ti44:TI prog:=FI (ks:=[1,1,1,5,4]) (ag:=[false,false,false,true,true]) 44 isAgg44 sizeOf44 underlying44 zeroValue44 typeInfo44 176 rfl ⟨sizeOf3,sizeOf3,sizeOf3,sizeOf40,sizeOf42,trivial⟩ ⟨isAgg3,isAgg3,isAgg3,isAgg40,isAgg42,trivial⟩ rfl
set_option maxRecDepth 20000 in
theorem Qnc (d:Nat) (x0 x1 x2 x3 x4 y0 y1 y2 y3 y4:Int) (w:World):(Op.equalIn (d+1+1) 46 (.agg #[.int .i64 x0,.int .i64 x1,.int .i64 x2,.int .i64 x3,.int .i64 x4]) (.agg #[.int .i64 y0,.int .i64 y1,.int .i64 y2,.int .i64 y3,.int .i64 y4])).run prog w=.ok (decide ([x0,x1,x2,x3,x4]=[y0,y1,y2,y3,y4])) w:=by
 rw [run_equalIn_array w (d+1) _ _ (n:=5) (e:=3) rfl rfl];rw [show List.range 5=[0,1,2,3,4] from rfl,show prog.cellsOf 3=1 from rfl];simp [Op.eqItems,Go.part,isAgg3,lU];by_cases h0:x0=y0 <;> by_cases h1:x1=y1 <;> by_cases h2:x2=y2 <;> by_cases h3:x3=y3 <;> by_cases h4:x4=y4 <;> simp [h0,h1,h2,h3,h4]
theorem Qtk (a b:Uj) (ha:a.length=5) (hb:b.length=5) (w:World):(Op.equal 46 (.agg (a.map (Value.int .i64)).toArray) (.agg (b.map (Value.int .i64)).toArray)).run prog w=.ok (decide (a=b)) w:=by
 match a,ha,b,hb with
 | [x0,x1,x2,x3,x4],_,[y0,y1,y2,y3,y4],_=>exact Qnc 9998 x0 x1 x2 x3 x4 y0 y1 y2 y3 y4 w
noncomputable def ti46:TI prog:={ tiA 46 isAgg46 sizeOf46 underlying46 zeroValue46 typeInfo46 40 rfl sizeOf3 with eqn:=some 5,heq:=λk h=>by injection h with h; subst h; exact ⟨eqGuardType46,Qtk⟩ }
noncomputable def ti49:TI prog:=Ow 49 isAgg49 sizeOf49 underlying49 zeroValue49 typeInfo49 24 rfl
noncomputable def ti53:TI prog:=Ow 53 isAgg53 sizeOf53 underlying53 zeroValue53 typeInfo53 24 rfl
noncomputable def ti54:TI prog:=Ow 54 isAgg54 sizeOf54 underlying54 zeroValue54 typeInfo54 24 rfl
noncomputable def ti56:TI prog:=Ow 56 isAgg56 sizeOf56 underlying56 zeroValue56 typeInfo56 24 rfl
noncomputable def ti58:TI prog:=FI (ks:=[1,1]) (ag:=[false,false]) 58 isAgg58 sizeOf58 underlying58 zeroValue58 typeInfo58 32 rfl ⟨sizeOf56,sizeOf4,trivial⟩ ⟨isAgg56,isAgg4,trivial⟩ rfl
noncomputable def ti60:TI prog:=FI (ks:=[2,2]) (ag:=[true,true]) 60 isAgg60 sizeOf60 underlying60 zeroValue60 typeInfo60 64 rfl ⟨sizeOf58,sizeOf58,trivial⟩ ⟨isAgg58,isAgg58,trivial⟩ rfl
noncomputable def ti66:TI prog:=Ow 66 isAgg66 sizeOf66 underlying66 zeroValue66 typeInfo66 24 rfl
noncomputable def ti68:TI prog:=FI (ks:=[1,1,1,1,1]) (ag:=[false,false,false,false,false]) 68 isAgg68 sizeOf68 underlying68 zeroValue68 typeInfo68 120 rfl ⟨sizeOf54,sizeOf54,sizeOf54,sizeOf54,sizeOf66,trivial⟩ ⟨isAgg54,isAgg54,isAgg54,isAgg54,isAgg66,trivial⟩ rfl
set_option maxRecDepth 20000 in
theorem Qnd (d:Nat) (x0 x1 x2 y0 y1 y2:Int) (w:World):(Op.equalIn (d+1+1) 76 (.agg #[.int .i64 x0,.int .i64 x1,.int .i64 x2]) (.agg #[.int .i64 y0,.int .i64 y1,.int .i64 y2])).run prog w=.ok (decide ([x0,x1,x2]=[y0,y1,y2])) w:=by
 rw [run_equalIn_array w (d+1) _ _ (n:=3) (e:=3) rfl rfl];rw [show List.range 3=[0,1,2] from rfl,show prog.cellsOf 3=1 from rfl];simp [Op.eqItems,Go.part,isAgg3,lU];by_cases h0:x0=y0 <;> by_cases h1:x1=y1 <;> by_cases h2:x2=y2 <;> simp [h0,h1,h2]
theorem pM (a b:Uj) (ha:a.length=3) (hb:b.length=3) (w:World):(Op.equal 76 (.agg (a.map (Value.int .i64)).toArray) (.agg (b.map (Value.int .i64)).toArray)).run prog w=.ok (decide (a=b)) w:=by
 match a,ha,b,hb with
 | [x0,x1,x2],_,[y0,y1,y2],_=>exact Qnd 9998 x0 x1 x2 y0 y1 y2 w
noncomputable def ti76:TI prog:={ tiA 76 isAgg76 sizeOf76 underlying76 zeroValue76 typeInfo76 24 rfl sizeOf3 with eqn:=some 3,heq:=λk h=>by injection h with h; subst h; exact ⟨eqGuardType76,pM⟩ }
noncomputable def ti82:TI prog:=Ow 82 isAgg82 sizeOf82 underlying82 zeroValue82 typeInfo82 8 rfl
abbrev mB:List (Nat×Nat×String):=[(358,0,"Advance"),(127,0,"Begin"),(359,0,"Certs"),(41,0,"Clone"),(360,0,"Drop"),(361,0,"Events"),(365,0,"Go"),(65,0,"Ids"),(370,0,"Next"),(369,0,"Now"),(362,0,"Put"),(363,0,"Turn")]
theorem Qub:∀ x∈mB,∀ b o w,(method (prog.types.size+Made.depth) 83 (.pointer (some ⟨b,o,none⟩)) x.2.2).run prog w=.ok (x.1,.pointer (some ⟨b,o+x.2.1,none⟩)) w:=λx hx=>by
 simp only [mB,Qm,Ji,or_false] at hx;rcases hx with rfl | rfl | rfl | rfl | rfl | rfl | rfl | rfl | rfl | rfl | rfl | rfl <;> first | exact Ai (E:=184) typeInfo83 rfl underlying83 | exact D2 (S:=184) (i:=0) typeInfo83 rfl underlying184 rfl underlying180 (λ_ h=>by cases h) sizeOf180 (by decide)
noncomputable def ti83:TI prog:={ Ow 83 isAgg83 sizeOf83 underlying83 zeroValue83 typeInfo83 8 rfl with ms:=mB,hms:=Qub }
abbrev mD:List (Nat×Nat×String):=[(387,0,"Advance"),(127,0,"Begin"),(359,0,"Certs"),(42,0,"Clone"),(388,0,"Drop"),(361,0,"Events"),(365,0,"Go"),(370,0,"Next"),(369,0,"Now"),(389,0,"Put"),(390,0,"Turn"),(68,0,"Winner")]
theorem Quc:∀ x∈mD,∀ b o w,(method (prog.types.size+Made.depth) 84 (.pointer (some ⟨b,o,none⟩)) x.2.2).run prog w=.ok (x.1,.pointer (some ⟨b,o+x.2.1,none⟩)) w:=λx hx=>by
 simp only [mD,Qm,Ji,or_false] at hx;rcases hx with rfl | rfl | rfl | rfl | rfl | rfl | rfl | rfl | rfl | rfl | rfl | rfl <;> first | exact Ai (E:=187) typeInfo84 rfl underlying84 | exact D2 (S:=187) (i:=0) typeInfo84 rfl underlying187 rfl underlying180 (λ_ h=>by cases h) sizeOf180 (by decide)
noncomputable def ti84:TI prog:={ Ow 84 isAgg84 sizeOf84 underlying84 zeroValue84 typeInfo84 8 rfl with ms:=mD,hms:=Quc }
abbrev mL:List (Nat×Nat×String):=[(392,0,"Advance"),(127,0,"Begin"),(359,0,"Certs"),(43,0,"Clone"),(393,0,"Drop"),(361,0,"Events"),(365,0,"Go"),(66,0,"Ids"),(370,0,"Next"),(369,0,"Now"),(394,0,"Put"),(395,0,"Turn")]
theorem Qud:∀ x∈mL,∀ b o w,(method (prog.types.size+Made.depth) 85 (.pointer (some ⟨b,o,none⟩)) x.2.2).run prog w=.ok (x.1,.pointer (some ⟨b,o+x.2.1,none⟩)) w:=λx hx=>by
 simp only [mL,Qm,Ji,or_false] at hx;rcases hx with rfl | rfl | rfl | rfl | rfl | rfl | rfl | rfl | rfl | rfl | rfl | rfl <;> first | exact Ai (E:=189) typeInfo85 rfl underlying85 | exact D2 (S:=189) (i:=0) typeInfo85 rfl underlying189 rfl underlying180 (λ_ h=>by cases h) sizeOf180 (by decide)
noncomputable def ti85:TI prog:={ Ow 85 isAgg85 sizeOf85 underlying85 zeroValue85 typeInfo85 8 rfl with ms:=mL,hms:=Qud }
abbrev mE:List (Nat×Nat×String):=[(397,0,"Advance"),(127,0,"Begin"),(359,0,"Certs"),(44,0,"Clone"),(398,0,"Drop"),(361,0,"Events"),(365,0,"Go"),(69,0,"Ids"),(370,0,"Next"),(369,0,"Now"),(399,0,"Put"),(400,0,"Turn")]
theorem Que:∀ x∈mE,∀ b o w,(method (prog.types.size+Made.depth) 86 (.pointer (some ⟨b,o,none⟩)) x.2.2).run prog w=.ok (x.1,.pointer (some ⟨b,o+x.2.1,none⟩)) w:=λx hx=>by
 simp only [mE,Qm,Ji,or_false] at hx;rcases hx with rfl | rfl | rfl | rfl | rfl | rfl | rfl | rfl | rfl | rfl | rfl | rfl <;> first | exact Ai (E:=191) typeInfo86 rfl underlying86 | exact D2 (S:=191) (i:=0) typeInfo86 rfl underlying191 rfl underlying180 (λ_ h=>by cases h) sizeOf180 (by decide)
noncomputable def ti86:TI prog:={ Ow 86 isAgg86 sizeOf86 underlying86 zeroValue86 typeInfo86 8 rfl with ms:=mE,hms:=Que }
abbrev mA:List (Nat×Nat×String):=[(402,0,"Advance"),(127,0,"Begin"),(359,0,"Certs"),(45,0,"Clone"),(403,0,"Drop"),(361,0,"Events"),(365,0,"Go"),(370,0,"Next"),(369,0,"Now"),(404,0,"Put"),(67,0,"Triples"),(405,0,"Turn")]
theorem Quf:∀ x∈mA,∀ b o w,(method (prog.types.size+Made.depth) 87 (.pointer (some ⟨b,o,none⟩)) x.2.2).run prog w=.ok (x.1,.pointer (some ⟨b,o+x.2.1,none⟩)) w:=λx hx=>by
 simp only [mA,Qm,Ji,or_false] at hx;rcases hx with rfl | rfl | rfl | rfl | rfl | rfl | rfl | rfl | rfl | rfl | rfl | rfl <;> first | exact Ai (E:=193) typeInfo87 rfl underlying87 | exact D2 (S:=193) (i:=0) typeInfo87 rfl underlying193 rfl underlying180 (λ_ h=>by cases h) sizeOf180 (by decide)
noncomputable def ti87:TI prog:={ Ow 87 isAgg87 sizeOf87 underlying87 zeroValue87 typeInfo87 8 rfl with ms:=mA,hms:=Quf }
noncomputable def ti89:TI prog:=FI (ks:=[1,4,1,1,1,1,1]) (ag:=[false,true,false,false,false,false,false]) 89 isAgg89 sizeOf89 underlying89 zeroValue89 typeInfo89 112 rfl ⟨sizeOf82,sizeOf42,sizeOf83,sizeOf84,sizeOf85,sizeOf86,sizeOf87,trivial⟩ ⟨isAgg82,isAgg42,isAgg83,isAgg84,isAgg85,isAgg86,isAgg87,trivial⟩ rfl
noncomputable def ti112:TI prog:=Ow 112 isAgg112 sizeOf112 underlying112 zeroValue112 typeInfo112 16 rfl
noncomputable def ti113:TI prog:=tiA 113 isAgg113 sizeOf113 underlying113 zeroValue113 typeInfo113 80 rfl sizeOf112
set_option maxRecDepth 20000 in
theorem Qf2 (d:Nat) (x0 x1 x2 x3 y0 y1 y2 y3:Int) (w:World):(Op.equalIn (d+1+1) 116 (.agg #[.int .i64 x0,.int .i64 x1,.int .i64 x2,.int .i64 x3]) (.agg #[.int .i64 y0,.int .i64 y1,.int .i64 y2,.int .i64 y3])).run prog w=.ok (decide ([x0,x1,x2,x3]=[y0,y1,y2,y3])) w:=by
 rw [run_equalIn_array w (d+1) _ _ (n:=4) (e:=3) rfl rfl];rw [show List.range 4=[0,1,2,3] from rfl,show prog.cellsOf 3=1 from rfl];simp [Op.eqItems,Go.part,isAgg3,lU];by_cases h0:x0=y0 <;> by_cases h1:x1=y1 <;> by_cases h2:x2=y2 <;> by_cases h3:x3=y3 <;> simp [h0,h1,h2,h3]
noncomputable def ti116:TI prog:=tiA 116 isAgg116 sizeOf116 underlying116 zeroValue116 typeInfo116 32 rfl sizeOf3
set_option maxRecDepth 20000 in
theorem Qf3 (d:Nat) (x x0 x1 x2 x3 y y0 y1 y2 y3:Int) (w:World):(Op.equalIn (d+1+1+1) 118 (.agg #[.int .i64 x,.int .i64 x0,.int .i64 x1,.int .i64 x2,.int .i64 x3]) (.agg #[.int .i64 y,.int .i64 y0,.int .i64 y1,.int .i64 y2,.int .i64 y3])).run prog w=.ok (decide ([x,x0,x1,x2,x3]=[y,y0,y1,y2,y3])) w:=by
 rw [run_equalIn_struct w (d+1+1) 118 _ _ rfl Tryz.stoodInHeld118];have hf:(prog.fieldsOf 118).toList=[{ name := "Kind",type:=3,offset:=0,embedded:=false,tag := "",pkgPath := "",byteOffset:=0 },{ name := "Ids",type:=116,offset:=1,embedded:=false,tag := "",pkgPath := "",byteOffset:=8 }]:=by simp [Program.fieldsOf,underlying118]
 rw [hf];simp [Op.eqFields,Go.part,isAgg3,isAgg116,sizeOf116,sizeOf3,lU,Qf2];by_cases h:x=y <;> by_cases h0:x0=y0 <;> by_cases h1:x1=y1 <;> by_cases h2:x2=y2 <;> by_cases h3:x3=y3 <;> simp [h,h0,h1,h2,h3]
theorem Qnb (a b:Uj) (ha:a.length=5) (hb:b.length=5) (w:World):(Op.equal 118 (.agg (a.map (Value.int .i64)).toArray) (.agg (b.map (Value.int .i64)).toArray)).run prog w=.ok (decide (a=b)) w:=by
 match a,ha,b,hb with
 | [x,x0,x1,x2,x3],_,[y,y0,y1,y2,y3],_=>exact Qf3 9997 x x0 x1 x2 x3 y y0 y1 y2 y3 w
noncomputable def ti118:TI prog:={ FI (ks:=[1,4]) (ag:=[false,true]) 118 isAgg118 sizeOf118 underlying118 zeroValue118 typeInfo118 40 rfl ⟨sizeOf3,sizeOf116,trivial⟩ ⟨isAgg3,isAgg116,trivial⟩ rfl with eqn:=some 5,heq:=λk h=>by injection h with h; subst h; exact ⟨eqGuardType118,Qnb⟩ }
noncomputable def ti120:TI prog:=FI (ks:=[5,1,1]) (ag:=[true,false,false]) 120 isAgg120 sizeOf120 underlying120 zeroValue120 typeInfo120 72 rfl ⟨sizeOf118,sizeOf33,sizeOf3,trivial⟩ ⟨isAgg118,isAgg33,isAgg3,trivial⟩ rfl
noncomputable def ti124:TI prog:=Ow 124 isAgg124 sizeOf124 underlying124 zeroValue124 typeInfo124 4 rfl
noncomputable def ti140:TI prog:=FI (ks:=[1,1,1]) (ag:=[false,false,false]) 140 isAgg140 sizeOf140 underlying140 zeroValue140 typeInfo140 40 rfl ⟨sizeOf3,sizeOf3,sizeOf53,trivial⟩ ⟨isAgg3,isAgg3,isAgg53,trivial⟩ rfl
noncomputable def ti163:TI prog:=Ow 163 isAgg163 sizeOf163 underlying163 zeroValue163 typeInfo163 24 rfl
noncomputable def ti165:TI prog:=Ow 165 isAgg165 sizeOf165 underlying165 zeroValue165 typeInfo165 24 rfl
noncomputable def ti166:TI prog:=Ow 166 isAgg166 sizeOf166 underlying166 zeroValue166 typeInfo166 24 rfl
noncomputable def ti168:TI prog:=FI (ks:=[1,1,4,4]) (ag:=[false,false,true,true]) 168 isAgg168 sizeOf168 underlying168 zeroValue168 typeInfo168 176 rfl ⟨sizeOf165,sizeOf166,sizeOf60,sizeOf60,trivial⟩ ⟨isAgg165,isAgg166,isAgg60,isAgg60,trivial⟩ rfl
noncomputable def ti169:TI prog:=Ow 169 isAgg169 sizeOf169 underlying169 zeroValue169 typeInfo169 24 rfl
noncomputable def ti170:TI prog:=Ow 170 isAgg170 sizeOf170 underlying170 zeroValue170 typeInfo170 24 rfl
noncomputable def ti172:TI prog:=FI (ks:=[10,1,1,1]) (ag:=[true,false,false,false]) 172 isAgg172 sizeOf172 underlying172 zeroValue172 typeInfo172 232 rfl ⟨sizeOf168,sizeOf169,sizeOf3,sizeOf170,trivial⟩ ⟨isAgg168,isAgg169,isAgg3,isAgg170,trivial⟩ rfl
noncomputable def ti173:TI prog:=tiA 173 isAgg173 sizeOf173 underlying173 zeroValue173 typeInfo173 1160 rfl sizeOf172
noncomputable def ti175:TI prog:=FI (ks:=[1,1,1,4,65]) (ag:=[false,false,false,true,true]) 175 isAgg175 sizeOf175 underlying175 zeroValue175 typeInfo175 1264 rfl ⟨sizeOf3,sizeOf3,sizeOf163,sizeOf60,sizeOf173,trivial⟩ ⟨isAgg3,isAgg3,isAgg163,isAgg60,isAgg173,trivial⟩ rfl
noncomputable def ti177:TI prog:=FI (ks:=[1,4,4]) (ag:=[false,true,true]) 177 isAgg177 sizeOf177 underlying177 zeroValue177 typeInfo177 152 rfl ⟨sizeOf33,sizeOf42,sizeOf42,trivial⟩ ⟨isAgg33,isAgg42,isAgg42,trivial⟩ rfl
noncomputable def ti178:TI prog:=Ow 178 isAgg178 sizeOf178 underlying178 zeroValue178 typeInfo178 24 rfl
noncomputable def ti180:TI prog:=FI (ks:=[1,9,1,1]) (ag:=[false,true,false,false]) 180 isAgg180 sizeOf180 underlying180 zeroValue180 typeInfo180 192 rfl ⟨sizeOf4,sizeOf177,sizeOf178,sizeOf3,trivial⟩ ⟨isAgg4,isAgg177,isAgg178,isAgg3,trivial⟩ rfl
noncomputable def ti182:TI prog:=FI (ks:=[1]) (ag:=[false]) 182 isAgg182 sizeOf182 underlying182 zeroValue182 typeInfo182 24 rfl ⟨sizeOf53,trivial⟩ ⟨isAgg53,trivial⟩ rfl
noncomputable def ti184:TI prog:=FI (ks:=[12,1,1]) (ag:=[true,true,false]) 184 isAgg184 sizeOf184 underlying184 zeroValue184 typeInfo184 240 rfl ⟨sizeOf180,sizeOf182,sizeOf53,trivial⟩ ⟨isAgg180,isAgg182,isAgg53,trivial⟩ rfl
noncomputable def ti185:TI prog:=Ow 185 isAgg185 sizeOf185 underlying185 zeroValue185 typeInfo185 24 rfl
noncomputable def ti187:TI prog:=FI (ks:=[12,1,1,1]) (ag:=[true,true,false,false]) 187 isAgg187 sizeOf187 underlying187 zeroValue187 typeInfo187 264 rfl ⟨sizeOf180,sizeOf182,sizeOf53,sizeOf185,trivial⟩ ⟨isAgg180,isAgg182,isAgg53,isAgg185,trivial⟩ rfl
noncomputable def ti189:TI prog:=FI (ks:=[12,1,1]) (ag:=[true,true,false]) 189 isAgg189 sizeOf189 underlying189 zeroValue189 typeInfo189 240 rfl ⟨sizeOf180,sizeOf182,sizeOf53,trivial⟩ ⟨isAgg180,isAgg182,isAgg53,trivial⟩ rfl
noncomputable def ti191:TI prog:=FI (ks:=[12,1,1]) (ag:=[true,true,false]) 191 isAgg191 sizeOf191 underlying191 zeroValue191 typeInfo191 240 rfl ⟨sizeOf180,sizeOf182,sizeOf53,trivial⟩ ⟨isAgg180,isAgg182,isAgg53,trivial⟩ rfl
noncomputable def ti193:TI prog:=FI (ks:=[12,1,1]) (ag:=[true,true,false]) 193 isAgg193 sizeOf193 underlying193 zeroValue193 typeInfo193 240 rfl ⟨sizeOf180,sizeOf182,sizeOf66,trivial⟩ ⟨isAgg180,isAgg182,isAgg66,trivial⟩ rfl
noncomputable def ti208:TI prog:=Ow 208 isAgg208 sizeOf208 underlying208 zeroValue208 typeInfo208 24 rfl
noncomputable def ti220:TI prog:=Ow 220 isAgg220 sizeOf220 underlying220 zeroValue220 typeInfo220 8 rfl
noncomputable def ti221:TI prog:=Ow 221 isAgg221 sizeOf221 underlying221 zeroValue221 typeInfo221 8 rfl
noncomputable def ti256:TI prog:=tiA 256 isAgg256 sizeOf256 underlying256 zeroValue256 typeInfo256 176 rfl sizeOf40
theorem Qat (em:Bool) (n:Nat) (v:Int) (w:World):(Instr.checkKey em (n+1) 3 (.int .i64 v)).run prog w=.ok () w:=by
 rw [Instr.checkKey];simp [runUnderlying3]
theorem kL (em:Bool) (n:Nat) (a b c:Int) (w:World):(Instr.checkKey em (n+1+1) 76 (.agg #[.int .i64 a,.int .i64 b,.int .i64 c])).run prog w=.ok () w:=by
 rw [Instr.checkKey];simp [runUnderlying76];rw [show List.range' 0 3=[0,1,2] from rfl];simp [Go.part,isAgg3,sizeOf3,Qat]
theorem SZ (em:Bool) (ks:Uj) (hk:ks.length=3) (w:World):(Instr.checkKey em 10000 76 (Ad ks)).run prog w=.ok () w:=by
 match ks,hk with
 | [a,b,c],_=>exact kL em 9998 a b c w
theorem Qhg:MapT prog 263 76 3 (.int .i64 0):=⟨runUnderlying263,⟨_,runUnderlying76,λ_ _=>rfl⟩,SZ,λx y hx hy w=>pM x y hx hy w,zeroValue3,rfl⟩
noncomputable def ti263:TI prog:={ Ow 263 isAgg263 sizeOf263 underlying263 zeroValue263 typeInfo263 8 rfl with md:=some (.int .i64 0),hmd:=λd h=>by injection h with h; subst h; exact ⟨76,3,Qhg⟩ }
theorem Qhh:MapT prog 264 76 4 (.bool false):=⟨runUnderlying264,⟨_,runUnderlying76,λ_ _=>rfl⟩,SZ,λx y hx hy w=>pM x y hx hy w,zeroValue4,rfl⟩
noncomputable def ti264:TI prog:={ Ow 264 isAgg264 sizeOf264 underlying264 zeroValue264 typeInfo264 8 rfl with md:=some (.bool false),hmd:=λd h=>by injection h with h; subst h; exact ⟨76,4,Qhh⟩ }
noncomputable def ti268:TI prog:=FI (ks:=[5,1,1,1,1]) (ag:=[true,false,false,false,false]) 268 isAgg268 sizeOf268 underlying268 zeroValue268 typeInfo268 104 rfl ⟨sizeOf118,sizeOf165,sizeOf3,sizeOf170,sizeOf4,trivial⟩ ⟨isAgg118,isAgg165,isAgg3,isAgg170,isAgg4,trivial⟩ rfl
noncomputable def ti277:TI prog:=tiA 277 isAgg277 sizeOf277 underlying277 zeroValue277 typeInfo277 72 rfl sizeOf32
noncomputable def ti280:TI prog:=FI (ks:=[7,1,1,9]) (ag:=[true,false,false,true]) 280 isAgg280 sizeOf280 underlying280 zeroValue280 typeInfo280 232 rfl ⟨sizeOf120,sizeOf4,sizeOf4,sizeOf177,trivial⟩ ⟨isAgg120,isAgg4,isAgg4,isAgg177,trivial⟩ rfl
noncomputable def ti308:TI prog:=Ow 308 isAgg308 sizeOf308 underlying308 zeroValue308 typeInfo308 24 rfl
noncomputable def ti310:TI prog:=Ow 310 isAgg310 sizeOf310 underlying310 zeroValue310 typeInfo310 24 rfl
noncomputable def ti327:TI prog:=FI (ks:=[1,1,4]) (ag:=[false,false,true]) 327 isAgg327 sizeOf327 underlying327 zeroValue327 typeInfo327 128 rfl ⟨sizeOf165,sizeOf165,sizeOf38,trivial⟩ ⟨isAgg165,isAgg165,isAgg38,trivial⟩ rfl
noncomputable def ti329:TI prog:=FI (ks:=[6,1]) (ag:=[true,false]) 329 isAgg329 sizeOf329 underlying329 zeroValue329 typeInfo329 136 rfl ⟨sizeOf327,sizeOf3,trivial⟩ ⟨isAgg327,isAgg3,trivial⟩ rfl
noncomputable def ti331:TI prog:=Ow 331 isAgg331 sizeOf331 underlying331 zeroValue331 typeInfo331 24 rfl
noncomputable def ti335:TI prog:=tiA 335 isAgg335 sizeOf335 underlying335 zeroValue335 typeInfo335 272 rfl sizeOf329
noncomputable def ti340:TI prog:=Ow 340 isAgg340 sizeOf340 underlying340 zeroValue340 typeInfo340 24 rfl
noncomputable def ti344:TI prog:=FI (ks:=[1]) (ag:=[false]) 344 isAgg344 sizeOf344 underlying344 zeroValue344 typeInfo344 24 rfl ⟨sizeOf310,trivial⟩ ⟨isAgg310,trivial⟩ rfl
noncomputable def ti368:TI prog:=Ow 368 isAgg368 sizeOf368 underlying368 zeroValue368 typeInfo368 24 rfl
noncomputable def ti369:TI prog:=Ow 369 isAgg369 sizeOf369 underlying369 zeroValue369 typeInfo369 24 rfl
noncomputable def tt:TT prog:=(.nd (.nd (.nd (.nd (.nd (.nd (.nd .nil ti3 .nil) ti4 .nil) ti5 (.nd .nil ti9 .nil)) ti22 (.nd (.nd (.nd .nil ti23 .nil) ti26 .nil) ti30 (.nd .nil ti32 .nil))) ti33 (.nd (.nd (.nd (.nd .nil ti34 .nil) ti36 .nil) ti38 (.nd .nil ti40 .nil)) ti42 (.nd (.nd (.nd .nil ti44 .nil) ti46 .nil) ti49 (.nd .nil ti53 .nil)))) ti54 (.nd (.nd (.nd (.nd (.nd .nil ti56 .nil) ti58 .nil) ti60 (.nd .nil ti66 .nil)) ti68 (.nd (.nd (.nd .nil ti76 .nil) ti82 .nil) ti83 (.nd .nil ti84 .nil))) ti85 (.nd (.nd (.nd (.nd .nil ti86 .nil) ti87 .nil) ti89 (.nd .nil ti112 .nil)) ti113 (.nd (.nd (.nd .nil ti116 .nil) ti118 .nil) ti120 (.nd .nil ti124 .nil))))) ti140 (.nd (.nd (.nd (.nd (.nd (.nd .nil ti163 .nil) ti165 .nil) ti166 (.nd .nil ti168 .nil)) ti169 (.nd (.nd (.nd .nil ti170 .nil) ti172 .nil) ti173 (.nd .nil ti175 .nil))) ti177 (.nd (.nd (.nd (.nd .nil ti178 .nil) ti180 .nil) ti182 (.nd .nil ti184 .nil)) ti185 (.nd (.nd (.nd .nil ti187 .nil) ti189 .nil) ti191 (.nd .nil ti193 .nil)))) ti208 (.nd (.nd (.nd (.nd (.nd .nil ti220 .nil) ti221 .nil) ti256 (.nd .nil ti263 .nil)) ti264 (.nd (.nd (.nd .nil ti268 .nil) ti277 .nil) ti280 (.nd .nil ti308 .nil))) ti310 (.nd (.nd (.nd (.nd .nil ti327 .nil) ti329 .nil) ti331 (.nd .nil ti335 .nil)) ti340 (.nd (.nd .nil ti344 .nil) ti368 (.nd .nil ti369 .nil))))))
instance:Mo prog:=⟨rfl⟩
theorem Ua {n : Nat} {Q : Exit -> Sg -> List OB -> Prop} {L L' : Sg} {B B' : List OB} {it it' : List It} {as0 : List Qv} {ob : List Prop} (hs : List (H Tryz.prog)) (h : (match run tt n 100000 it L B hs [] [] with
 | some (it, L, B, q, ob) => (match AZ ob with
  | some ob => some (it, L, B, q.map (·.1), q.map (·.2), ob)
  | none => none)
 | none => none) = some (it', L', B', as0, as0, ob)) (k : AK Tryz.prog n Q it' L' B') (ho : Uz ob := by exact trivial) : AK Tryz.prog n Q it L B := go tt hs h ho k
theorem Ub {n : Nat} {Q : Exit -> Sg -> List OB -> Prop} {L L' : Sg} {B B' : List OB} {it it' : List It} {as0 : List Qv} {ob : List Prop} (hs : List (H Tryz.prog)) (h : (match run tt n 100000 it L B hs [] [] with
 | some (it, L, B, q, ob) => (match AZ ob with
  | some ob => some (it, L, B, q.map (·.1), q.map (·.2), ob)
  | none => none)
 | none => none) = some (it', L', B', as0, as0, ob)) (k : AK Tryz.prog n Q it' L' B') (ho : Uz ob := by simp [Uz]; omega) : AK Tryz.prog n Q it L B := go tt hs h ho k
theorem Ud {n : Nat} {f : FuncId} {fn : Func} {c : Code} {args res us : List TV} {as0 : List Qv} {ob : List Prop} (hf : Tryz.prog.funcs[f]? = some fn) (hh : (fn.body, fn.ntmps, (fn.name == "runtime.NumGoroutine"), Nat.ble args.length n) = (some c, n, false, true)) (hs : List (H Tryz.prog))
 (h : wE tt n c fn.results.toList args hs = some (us, as0, as0, ob)) (he : us = res := by exact rfl) (ho : Uz ob := by exact trivial) : EN Tryz.prog f args res := w tt hf hh hs h he ho
theorem Uc {n : Nat} {L : Sg} {B : List OB} {fn : Func} {res us : List TV} {it : List It} {as0 : List Qv} {ob : List Prop} (hs : List (H Tryz.prog)) (h : enE tt n fn.results.toList it L B hs = some (us, as0, as0, ob)) (he : us = res := by exact rfl) (ho : Uz ob := by exact trivial) : AK Tryz.prog n (RQ Tryz.prog fn n 0 λu B => u = res /\ B = []) it L B := en tt hs h he ho
theorem Ue {n : Nat} {L : Sg} {B : List OB} {fn : Func} {k : Nat} {res : List TV} {Bout : List OB} {it : List It} {as0 : List Qv} {ob : List Prop} (ps is : List Nat) (hs : List (H Tryz.prog)) (h : edE tt n k fn.results.toList it L B hs res Bout ps is = some (as0, as0, ob)) (ho : Uz ob := by exact trivial) : AK Tryz.prog n (RQ Tryz.prog fn n k λu B => u = res /\ B = Bout) it L B := ed tt ps is hs h ho
theorem Uf {n : Nat} {Q : Exit -> Sg -> List OB -> Prop} {L : Sg} {B : List OB} {S : Type} {c : Code} {r : List It} {L1 : Sg} (k : Nat) (st : Sg -> S -> Sg) (bs : S -> List OB) (μ : S -> Nat) (I : S -> Prop) (s0 : S) (h0 : I s0) (hL : prn (vV c []) L = some L1) {as0 : List Qv} (hs : two (bO none L B (st L1 s0) (bs s0)) = some (as0, as0))
 (round : ∀ s, I s -> AK Tryz.prog n Q (.code c :: .rnd (some k) (λL B => ∃ s', μ s' < μ s /\ I s' /\ L = st L1 s' /\ B = bs s') :: r) (st L1 s) (bs s)) (hk : ∀ s, I s -> (bs s).length = k := by exact λ_ _ => rfl) : AK Tryz.prog n Q (.code (.loop c) :: r) L B := lp k st bs μ I s0 h0 hL hk hs round
abbrev Ug (f : Nat) (a r : List TV) : Prop := EN Tryz.prog f a r
end Orr
namespace Orr
open Go Go.Proofs Tryz
set_option maxRecDepth 10000
def lm (l:Ul):Up:=l.map λ(x:Nat)=>[.int .u32 (x:Int)]
abbrev lr (l:Ul):TV:=.one (.row (lm l))
theorem U4 (l:Ul):(lm l).length=l.length:=by simp [lm]
theorem G8 {l:Ul} {i x:Nat} (h:l[i]? = some x):(lm l)[i]? = some [.int .u32 (x:Int)]:=by simp [lm,h]
def yL:Ul->Ul
 | []=>[]
 |
  x::l=>match yL l with
  | []=>if x=0 then [] else [x]
  | r=>x::r
theorem Qps {l:Ul}:yL l=[]↔∀ x∈l,x=0:=by
 induction l with
 | nil=>simp [yL]
 |
  cons x l ih =>
  simp only [yL]
  split
  ·rename_i e;have h1:=ih.1 e;by_cases h:x=0
   ·simp [h]; exact h1
   ·simp [h]
  ·rename_i r hne;simp only [reduceCtorEq,Qm,forall_eq_or_imp,false_iff,not_and];exact λ_ h=>hne (ih.2 h)
theorem FO:∀ {l:Ul} {n:Nat},n<=l.length->(∀ j,n<=j->j<l.length->l[j]? = some 0)->(n=0\/∃ x,l[n-1]? = some x/\x≠0)->l.take n=yL l
 | [],n,h,_,_=>by simp at h; subst h; rfl
 |
  x::l,0,h,hz,_=>by
  rw [Vu];refine (Qps.2 λy hy=>?_).symm;obtain ⟨j,hj⟩:=Zj.1 hy;have:=hz j (Qh _) (Qf.1 hj).1;rw [hj] at this; injection this
 |
  x::l,n+1,h,hz,ht=>by
  simp only [Q7,Nat.add_le_add_iff_right] at h;have hz':∀ j,n<=j->j<l.length->l[j]? = some 0:=λj h1 h2=>by simpa using hz (j+1) (by omega) (by simpa using h2)
  cases n with
  |
   zero =>
   have e:yL l=[]:=(FO (n:=0) h hz' (.inl rfl)).symm;rcases ht with h | ⟨y,h1,h2⟩
   ·omega
   ·simp at h1; subst h1; simp [yL,e,h2]
  |
   succ n =>
   have ih:=FO (n:=n+1) h hz' (.inr (by rcases ht with h | ⟨y,h1,h2⟩; (· omega); exact ⟨y,by simpa using h1,h2⟩));simp only [Vd,yL];rw [<-ih];cases hl:l with
   | nil=>rw [hl] at h; simp at h
   | cons y l'=>simp [Vd]
theorem Qx2 (l:Ul):Ug 118 [lr l] [lr (yL l)]:=by
 refine Fw func118 rfl (ln 0 rfl rfl λhl=>?_);rw [U4] at hl;refine Ua [] rfl ?_;refine Uf (S:=Nat) 0 (λL1 n=>(3,.v (.oi n))::L1) (λ_=>[]) id (λn=>n<=l.length/\∀ j,n<=j->j<l.length->l[j]? = some 0) (lm l).length ⟨by rw [U4]; exact Ql _,λj h1 h2=>by rw [U4] at h1; omega⟩ rfl rfl λn ⟨h1,h2⟩=>?_
 cases n with
 | zero=>exact Uc [.f (by simp),.f rfl,.i 0] rfl (by rw [<-FO h1 h2 (.inl rfl)]; simp [lm]) (by simp [Uz,Ho])
 |
  succ n =>
  obtain ⟨x,hx⟩:=gxE (l:=l) (i:=n) (by omega);by_cases h0:x=0
  ·refine go tt [.t (by simp),.r 11 (v:=.oi n) (by simp),.x (G8 hx),.t (by simp [h0]),.r 17 (v:=.oi n) (by simp)] rfl (by simp [Uz,Ho]; omega) ?_;exact rd n (by simp) ⟨by omega,λj h3 h4=>by
    rcases Vk h3 with rfl | h3
    ·rw [hx,h0]
    ·exact h2 j h3 h4⟩ rfl
  ·exact Uc [.t (by simp),.r 11 (v:=.oi n) (by simp),.x (G8 hx),.f (by simp [h0]),.i (n+1)] rfl (by rw [<-FO h1 h2 (.inr ⟨x,hx,h0⟩)]; simp [lm]) (by simp [Uz,Ho,U4] <;> omega)
def Sm (l:Ul):Prop:=∀ x∈l,x<4294967296
theorem yE:∀ l:Ul,Cut l (yL l).length/\l.take (yL l).length=yL l
 | []=>⟨⟨Ql _,λj _ h=>by simp at h,λh=>by simp [yL] at h⟩,rfl⟩
 |
  x::l=>by
  obtain ⟨⟨h1,h2,h3⟩,h4⟩:=yE l;simp only [yL]
  split
  ·rename_i e;rw [e] at h2 h3;by_cases h:x=0
   ·rw [if_pos h];refine ⟨⟨Qh _,λj _ hj=>?_,λh=>by simp at h⟩,rfl⟩;cases j with
    | zero=>simp [h]
    | succ j=>simpa using h2 j (Qh _) (by simpa using hj)
   ·rw [if_neg h];refine ⟨⟨by simp,λj h5 hj=>?_,λ_=>⟨x,rfl,h⟩⟩,rfl⟩;cases j with
    | zero=>simp at h5
    | succ j=>simpa using h2 j (Qh _) (by simpa using hj)
  ·rename_i r hne;refine ⟨⟨by simp [h1],λj h5 hj=>?_,λ_=>?_⟩,by simp [h4]⟩
   ·cases j with
    | zero=>simp at h5
    | succ j=>simpa using h2 j (by simpa using h5) (by simpa using hj)
   ·have hp:0<(yL l).length:=by
     cases e:yL l with
     | nil=>exact absurd e hne
     | cons=>simp
    obtain ⟨y,h5,h6⟩:=h3 hp;refine ⟨y,?_,h6⟩;rw [Q7,show (yL l).length+1-1=((yL l).length-1)+1 from by omega];simpa using h5
theorem zJ {l:Ul} (h:Sm l):yL l=Fy (val l):=by
 obtain ⟨h1,h2⟩:=yE l;refine Qha ?_ ?_
 ·rw [<-h2]; exact Qm1 h1 h
 ·rw [<-h2]; exact Qm2 h1
theorem Ld (x:Nat):Sm (Fy x):=(C9 x).1
theorem Rt {x k:Nat} (h:sz x<=k):32*(Fy x).length<=k+31:=by
 have:=Qn3 (C9 x);rw [G5] at this; omega
theorem VG {l:Ul} (h:Sm l):Ug 118 [lr l] [lr (Fy (val l))]:=zJ h ▸ Qx2 l
theorem Qhb (l:Ul):∀ c∈lm l,c.length=1:=λc hc=>by
 obtain ⟨x,_,rfl⟩:=Q9.1 hc; rfl
theorem VA {l:Ul} (h:Sm l) (hs:sz (val l)<=4294967296):Ug 154 [lr l] [lr (Fy (val l))] :=
 Ud func154 rfl [.k (VG h),.s (Qhb (Fy (val l)))] rfl rfl (by have:=Rt hs; simp [Uz,Ho,U4]; omega)
theorem HY {a:Ul} (ha:Sm a):∃ p,Ug 118 [lr a] [lr p]/\vT p/\val p=val a/\p.length<=a.length/\p=Fy (val a) :=
 ⟨_,VG ha,C9 _,G5 _,by rw [<-zJ ha]; exact (yE a).1.1,rfl⟩
theorem Qdf {a b:Ul} (ha:Sm a) (hb:Sm b):Ug 146 [lr a,lr b] [.oi (ZV (val a) (val b))]:=by
 refine Fw func146 rfl (ln 0 rfl rfl λhl=>ln 1 rfl rfl λhl'=>?_);rw [U4] at hl hl';obtain ⟨p,ca,np,vp,lp',_⟩:=HY ha;obtain ⟨q,cb,nq,vq,lq,_⟩:=HY hb;rw [<-vp,<-vq];by_cases h:p.length=q.length
 ·refine go tt [.k ca,.k cb,.f (by simp [U4,h])] rfl (by simp [Uz,Ho,U4] <;> omega) ?_;refine Uf (S:=Int) 0 (λL1 i=>(5,.v (.oi i))::L1) (λ_=>[]) (λi=>(i+1).toNat) (λi=>-1<=i/\i<p.length/\p.drop (i+1).toNat=q.drop (i+1).toNat) (((lm p).length:Int)-1) ⟨by omega,by simp [U4]; omega,by simp [U4,h]⟩ rfl rfl λi ⟨h1,h2,h3⟩=>?_
  rcases K8 i 0 with hi | hi
  ·obtain rfl:i=-1:=by omega
   exact Uc [.f (by decide)] rfl (by rw [dD]; exact congrArg val (by simpa using h3)) trivial
  ·obtain ⟨k,rfl⟩:=Kj hi;have e:((k:Int)+1).toNat=k+1:=by omega
   rw [e] at h3;obtain ⟨x,hx⟩:=gxE (l:=p) (i:=k) (by omega);obtain ⟨y,hy⟩:=gxE (l:=q) (i:=k) (by omega);rcases Km x y with hxy | rfl | hxy
   ·exact Uc [.t (by simp),.x (G8 hx),.x (G8 hy),.t (by simp; omega)] rfl (by rw [PI (iL np.1 h3 hx hy hxy)]) (by simp [Uz,Ho,U4] <;> omega)
   ·refine go tt [.t (by simp),.x (G8 hx),.x (G8 hy),.f (by simp),.x (G8 hx),.x (G8 hy),.f (by simp)] rfl (by simp [Uz,Ho,U4] <;> omega) ?_;exact rd ((k:Int)-1) (by omega) ⟨by omega,by omega,by rw [show ((k:Int)-1+1).toNat=k from by omega]; exact Qa1 h3 hx hy⟩ rfl
   ·exact Uc [.t (by simp),.x (G8 hx),.x (G8 hy),.f (by simp; omega),.x (G8 hx),.x (G8 hy),.t (by simp; omega)] rfl (by rw [PE (iL nq.1 h3.symm hy hx hxy)]) (by simp [Uz,Ho,U4] <;> omega)
 ·by_cases h2:p.length<q.length
  ·exact Uc [.k ca,.k cb,.t (by simp [U4]; omega),.t (by simp [U4]; omega)] rfl (by rw [PI (Do np nq h2)]) (by simp [Uz,Ho])
  ·exact Uc [.k ca,.k cb,.t (by simp [U4]; omega),.f (by simp [U4]; omega)] rfl (by rw [PE (Do nq np (by omega))]) (by simp [Uz,Ho])
theorem WQ (m:Nat):List.replicate m [LV.int .u32 0]=lm (List.replicate m 0):=by simp [lm]
theorem Cc (l:Ul) (i x:Nat):(lm l).set i [.int .u32 (x:Int)]=lm (l.set i x):=by simp [lm,Vs]
theorem Di {a b:Int} (h:a=b):TV.one (LV.int .u64 a)=.one (.int .u64 b):=h ▸ rfl
theorem E6 {a b:Int} (h:a=b):TV.one (LV.int .u32 a)=.one (.int .u32 b):=h ▸ rfl
theorem eI {a b:Int} (h:a=b):TV.one (LV.int .i64 a)=.oi b:=h ▸ rfl
theorem zV (z:Int):IntKind.u32.wrap z=z % 4294967296:=by simp [IntKind.wrap,IntKind.bits,IntKind.signed]
theorem w64 (z:Int):IntKind.u64.wrap z=z % 18446744073709551616:=by simp [IntKind.wrap,IntKind.bits,IntKind.signed]
theorem Qqg {a b:Ul} (ha:Sm a) (hb:Sm b) (h1:sz (val a)<=4294967296) (h2:sz (val b)<=4294967296):Ug 227 [lr a,lr b] [lr (Fy (val a+val b))]:=by
 refine Fw func227 rfl ?_;obtain ⟨p,ca,np,vp,_,ep⟩:=HY ha;obtain ⟨q,cb,nq,vq,_,eq⟩:=HY hb;have lp':=Rt h1;have lq:=Rt h2;rw [<-ep] at lp';rw [<-eq] at lq;rw [<-vp,<-vq];refine Ua [.k ca,.k cb] rfl ?_;refine ct 1 (S:=Ul×Ul) (λs=>[(0,.v (lr s.1)),(1,.v (lr s.2))]) (λ_=>[]) (λs=>vT s.1/\vT s.2/\32*s.1.length<=4294967327/\s.2.length<=s.1.length/\val s.1+val s.2=val p+val q) rfl ?_ ?_
 ·by_cases h:p.length<q.length
  ·exact go tt [.t (by simp [U4]; omega)] rfl trivial (rc (q,p) ⟨nq,np,lq,Yf h,Jr _ _⟩ rfl)
  ·exact go tt [.f (by simp [U4]; omega)] rfl trivial (rc (p,q) ⟨np,nq,lp',J4 h,rfl⟩ rfl)
 ·intro ⟨p',q'⟩ ⟨np,nq,hp,hq,e⟩;dsimp only at np nq hp hq e;rw [<-e];clear ca cb e vp vq ep eq;refine go tt [.i ((lm p').length+1),.i ((lm p').length+1)] rfl (by simp [Uz,Ho,U4] <;> omega) ?_;rw [WQ];refine lp (S:=Nat×Ul×Nat) 1 (λL1 s=>(27,.v (.oi (s.1:Int)))::(6,.v (.one (.int .u64 (s.2.2:Int))))::L1) (λs=>[.row false 124 1 (lm s.2.1)]) (λs=>p'.length-s.1)
   (λs=>s.1<=p'.length/\s.2.1.length=p'.length+1/\Sm s.2.1/\s.2.2<=1/\val (s.2.1.take s.1)+s.2.2*4294967296^s.1=val (p'.take s.1)+val (q'.take s.1)) (0,List.replicate ((lm p').length+1) 0,0)
   ⟨Qh _,by simp [U4],λx hx=>by rw [Zx hx]; decide,Qh _,by simp [val]⟩ rfl (λ_ _=>rfl) rfl λ⟨i,o,c⟩ ⟨j1,j2,j3,j4,j5⟩=>?_
  dsimp only at j1 j2 j3 j4 j5 ⊢;by_cases hi:i<p'.length
  ·obtain ⟨x,hx⟩:=gxE (l:=p') (i:=i) hi;have xb:=np.1 x (Qa hx);have fin:∀ y s,(q'[i]? = some y\/q'.length<=i/\y=0)->y<4294967296->s=x+c+y->p'.length-(i+1)<p'.length-i/\i+1<=p'.length/\(o.set i (s % 4294967296)).length=p'.length+1/\Sm (o.set i (s % 4294967296))/\s / 4294967296<=1 /\
    val ((o.set i (s % 4294967296)).take (i+1))+s / 4294967296*4294967296^(i+1)=val (p'.take (i+1))+val (q'.take (i+1)):=λy s hy hyb hs =>
    ⟨by omega,hi,by simp [j2],Bb j3 i _ (by omega),by omega,vS (by omega) hx hy j5 hs⟩
   by_cases hi2:i<q'.length
   ·obtain ⟨y,hy⟩:=gxE (l:=q') (i:=i) hi2;have yb:=nq.1 y (Qa hy);refine go tt [.t (by simp [U4]; omega),.x (G8 hx),.t (by simp [U4]; omega),.x (G8 hy),.w 2,.r 50 (v:=.one (.int .u32 (((x+c+y) % 4294967296:Nat):Int))) (by simp [IntKind.wrap,IntKind.bits,IntKind.signed]),.i 32,.r 52 (v:=.one (.int .u64 (((x+c+y) / 4294967296:Nat):Int))) (by simp),.i i] rfl (by simp [Uz,Ho,U4,IntKind.bits] <;> omega) ?_;rw [Cc];exact rd (i+1,o.set i ((x+c+y) % 4294967296),(x+c+y) / 4294967296) (fin y _ (.inl hy) yb rfl).1 (fin y _ (.inl hy) yb rfl).2 rfl
   ·refine go tt [.t (by simp [U4]; omega),.x (G8 hx),.f (by simp [U4]; omega),.w 0,.r 50 (v:=.one (.int .u32 (((x+c+0) % 4294967296:Nat):Int))) (by simp [IntKind.wrap,IntKind.bits,IntKind.signed]),.i 32,.r 52 (v:=.one (.int .u64 (((x+c+0) / 4294967296:Nat):Int))) (by simp),.i i] rfl (by simp [Uz,Ho,U4,IntKind.bits] <;> omega) ?_;rw [Cc];exact rd (i+1,o.set i ((x+c+0) % 4294967296),(x+c+0) / 4294967296) (fin 0 _ (.inr ⟨by omega,rfl⟩) (by decide) rfl).1 (fin 0 _ (.inr ⟨by omega,rfl⟩) (by decide) rfl).2 rfl
  ·obtain rfl:i=p'.length:=by omega
   refine go tt [.f (by simp [U4]),.w 0,.r 59 (v:=.one (.int .u32 (c:Int))) (by simp [IntKind.wrap,IntKind.bits,IntKind.signed]; omega),.i (lm p').length] rfl (by simp [Uz,Ho,U4,j2]) ?_;rw [U4,Cc];have e:val (o.set p'.length c)=val p'+val q':=by
    have h1:=QO o p'.length c (by omega);rw [Qn (by simp; omega)] at h1;rw [Qn (Ql _),Qn hq] at j5;rw [h1,<-j5,Zp]
   rw [<-e];exact Uc [.k (VG (Bb j3 _ c (by omega)))] rfl
theorem kE {x y:Nat}:ZV x y<0↔x<y:=by unfold ZV; split <;> (try split) <;> omega
theorem Qqk {a b:Ul} (ha:Sm a) (hb:Sm b) (h1:sz (val a)<=4294967296):Ug 228 [lr a,lr b] (if val b<=val a then [lr (Fy (val a-val b)),.one (.bool true)] else [lr [],.one (.bool false)]):=by
 refine Fw func228 rfl ?_;obtain ⟨p,ca,np,vp,_,ep⟩:=HY ha;obtain ⟨q,cb,nq,vq,_,_⟩:=HY hb;have hp:=Rt h1;rw [<-ep] at hp;rw [<-vp,<-vq];have cc:=Qdf np.1 nq.1;by_cases hlt:val p<val q
 ·rw [if_neg (by omega)];exact Uc [.k ca,.k cb,.k cc,.t (by simpa using kE.2 hlt)] rfl
 rw [if_pos (by omega)];have hq:q.length<=p.length:=J4 λh=>hlt (Do np nq h)
 refine go tt [.k ca,.k cb,.k cc,.f (by have:=mt kE.1 hlt; simpa using this),.i (lm p).length,.i (lm p).length] rfl (by simp [Uz,Ho,U4] <;> omega) ?_;rw [WQ];refine lp (S:=Nat×Ul×Nat) 1 (λL1 s=>(24,.v (.oi (s.1:Int)))::(7,.v (.one (.int .u64 (s.2.2:Int))))::L1) (λs=>[.row false 124 1 (lm s.2.1)]) (λs=>p.length-s.1)
  (λs=>s.1<=p.length/\s.2.1.length=p.length/\Sm s.2.1/\s.2.2<=1/\val (s.2.1.take s.1)+val (q.take s.1)=val (p.take s.1)+s.2.2*4294967296^s.1) (0,List.replicate (lm p).length 0,0)
  ⟨Qh _,by simp [U4],λx hx=>by rw [Zx hx]; decide,Qh _,by simp [val]⟩ rfl (λ_ _=>rfl) rfl λ⟨i,o,c⟩ ⟨j1,j2,j3,j4,j5⟩=>?_
 dsimp only at j1 j2 j3 j4 j5 ⊢;by_cases hi:i<p.length
 ·obtain ⟨x,hx⟩:=gxE (l:=p) (i:=i) hi;have xb:=np.1 x (Qa hx);have fin:∀ y s,(q[i]? = some y\/q.length<=i/\y=0)->y<4294967296->s=(x+18446744073709551616-c-y) % 18446744073709551616->p.length-(i+1)<p.length-i/\i+1<=p.length/\(o.set i (s % 4294967296)).length=p.length/\Sm (o.set i (s % 4294967296))/\s / 9223372036854775808<=1 /\
   val ((o.set i (s % 4294967296)).take (i+1))+val (q.take (i+1))=val (p.take (i+1))+s / 9223372036854775808*4294967296^(i+1):=λy s hy hyb hs=>by
   obtain ⟨h1,h2⟩:=Qjv (o:=o) (by omega) hx hy xb hyb j4 j5 hs;exact ⟨by omega,hi,by simp [j2],Bb j3 i _ (by omega),h2,h1⟩
  by_cases hi2:i<q.length
  ·obtain ⟨y,hy⟩:=gxE (l:=q) (i:=i) hi2;have yb:=nq.1 y (Qa hy);obtain ⟨s,hs⟩:=nmE ((x+18446744073709551616-c-y) % 18446744073709551616);refine go tt [.t (by simp [U4]; omega),.x (G8 hx),.w 1,.r 32 (Di (b:=(((x+18446744073709551616-c) % 18446744073709551616:Nat):Int)) (by rw [w64]; omega)),.t (by simp [U4]; omega),.x (G8 hy),.w 1,.r 43 (Di (b:=(s:Int)) (by rw [w64]; omega)),.w 0,.r 47 (E6 (b:=((s % 4294967296:Nat):Int)) (by rw [zV]; omega)),.i 63,.r 49 (Di (b:=((s / 9223372036854775808:Nat):Int)) (by simp)),.i i] rfl (by simp [Uz,Ho,U4,IntKind.bits] <;> omega) ?_;rw [Cc];exact rd (i+1,o.set i (s % 4294967296),s / 9223372036854775808) (fin y _ (.inl hy) yb hs).1 (fin y _ (.inl hy) yb hs).2 rfl
  ·obtain ⟨s,hs⟩:=nmE ((x+18446744073709551616-c-0) % 18446744073709551616);have hf:=fin 0 _ (.inr ⟨by omega,rfl⟩) (by decide) hs;refine go tt [.t (by simp [U4]; omega),.x (G8 hx),.w 1,.r 32 (Di (b:=(s:Int)) (by rw [w64]; omega)),.f (by simp [U4]; omega),.w 0,.r 47 (E6 (b:=((s % 4294967296:Nat):Int)) (by rw [zV]; omega)),.i 63,.r 49 (Di (b:=((s / 9223372036854775808:Nat):Int)) (by simp)),.i i] rfl (by simp [Uz,Ho,U4,IntKind.bits] <;> omega) ?_;rw [Cc];exact rd (i+1,o.set i (s % 4294967296),s / 9223372036854775808) hf.1 hf.2 rfl
 ·obtain rfl:i=p.length:=by omega
  have e:val o=val p-val q:=by
   rw [Qn (Nat.le_of_eq j2),Qn hq,Qn (Ql _)] at j5;have h1:=Cq o j3;rw [j2] at h1;rcases Nat.le_one_iff_eq_zero_or_eq_one.1 j4 with rfl | rfl <;> omega
  rw [<-e];exact Uc [.f (by simp [U4]),.k (VG j3)] rfl
theorem Qwg {a b:Ul} (ha:Sm a) (hb:Sm b) (h1:sz (val a)<=4294967296) (h2:sz (val b)<=4294967296):Ug 78 [lr a,lr b] [lr (Fy (val a*val b))]:=by
 refine Fw func78 rfl ?_;obtain ⟨p,ca,np,vp,_,ep⟩:=HY ha;obtain ⟨q,cb,nq,vq,_,eq⟩:=HY hb;have hp:=Rt h1;have hq:=Rt h2;rw [<-ep] at hp;rw [<-eq] at hq;rw [<-vp,<-vq];refine go tt [.k ca,.k cb,.i ((lm p).length+(lm q).length),.i ((lm p).length+(lm q).length)] rfl (by simp [Uz,Ho,U4] <;> omega) ?_;rw [WQ];refine lp (S:=Nat×Ul) 1 (λL1 s=>(24,.v (.oi (s.1:Int)))::L1) (λs=>[.row false 124 1 (lm s.2)]) (λs=>p.length-s.1)
  (λs=>s.1<=p.length/\s.2.length=p.length+q.length/\Sm s.2/\(∀ j,s.1+q.length<=j->j<s.2.length->s.2[j]? = some 0)/\val s.2=val (p.take s.1)*val q) (0,List.replicate ((lm p).length+(lm q).length) 0)
  ⟨Qh _,by simp [U4],λx hx=>by rw [Zx hx]; decide,λj _ hj=>by rw [Jv,if_pos (by simpa using hj)],by simp [val,TK]⟩ rfl (λ_ _=>rfl) rfl λ⟨i,o⟩ ⟨j1,j2,j3,j4,j5⟩=>?_
 dsimp only at j1 j2 j3 j4 j5 ⊢;by_cases hi:i<p.length
 ·obtain ⟨x,hx⟩:=gxE (l:=p) (i:=i) hi;have xb:=np.1 x (Qa hx);refine Ua [.t (by simp [U4]; omega),.x (G8 hx)] rfl ?_;refine lp (S:=Nat×Ul×Nat) 1 (λL1 s=>(31,.v (.oi (s.1:Int)))::(8,.v (.one (.int .u64 (s.2.2:Int))))::L1) (λs=>[.row false 124 1 (lm s.2.1)]) (λs=>q.length-s.1)
   (λs=>s.1<=q.length/\s.2.1.length=p.length+q.length/\Sm s.2.1/\(∀ j,i+q.length<=j->j<s.2.1.length->s.2.1[j]? = some 0)/\s.2.2<4294967296/\val s.2.1+s.2.2*4294967296^(i+s.1)=val (p.take i)*val q+4294967296^i*x*val (q.take s.1)) (0,o,0)
   ⟨Qh _,j2,j3,j4,by simp,by simp [val,j5]⟩ rfl (λ_ _=>rfl) rfl λ⟨k,o',c⟩ ⟨k1,k2,k3,k4,k5,k6⟩=>?_
  dsimp only at k1 k2 k3 k4 k5 k6 ⊢;by_cases hk:k<q.length
  ·obtain ⟨y,hy⟩:=gxE (l:=q) (i:=k) hk;have yb:=nq.1 y (Qa hy);obtain ⟨z,hz⟩:=gxE (l:=o') (i:=i+k) (by omega);have zb:=k3 z (Qa hz);have hm:=XP xb yb;have hm2:(x:Int)*(y:Int)=((x*y:Nat):Int):=by push_cast; rfl
   obtain ⟨s,hs⟩:=nmE (x*y+z+c);refine go tt [.t (by simp [U4]; omega),.x (G8 hy),.r 40 (Di (b:=((x*y:Nat):Int)) (by push_cast; rfl)),.i (i+k),.x (G8 hz),.r 50 (Di (b:=(s:Int)) (by omega)),.w 1,.r 56 (E6 (b:=((s % 4294967296:Nat):Int)) (by rw [zV]; omega)),.i 32,.r 58 (Di (b:=((s / 4294967296:Nat):Int)) (by simp)),.i (i+k)] rfl ?_ ?_
   ·simp [Uz,Ho,U4,IntKind.bits] <;> omega
   ·rw [Cc];exact rd (k+1,o'.set (i+k) (s % 4294967296),s / 4294967296) (show q.length-(k+1)<q.length-k by omega) ⟨hk,by simp [k2],Bb k3 _ _ (by omega),λj h3 h4=>by
     rw [Yb (by omega)]; exact k4 j h3 (by simpa using h4),(show s / 4294967296<4294967296 from by omega),Qhp hz hy k6 hs⟩ rfl
  ·obtain rfl:k=q.length:=by omega
   by_cases hq0:0<q.length
   ·refine go tt [.f (by simp [U4]),.t (by simp [U4]; omega),.w 1,.r 70 (E6 (b:=((c % 4294967296:Nat):Int)) (by rw [zV]; omega)),.i (i+(lm q).length)] rfl (by simp [Uz,Ho,U4,IntKind.bits] <;> omega) ?_;rw [Cc];refine rd (i+1,o'.set (i+(lm q).length) (c % 4294967296)) (show p.length-(i+1)<p.length-i by omega) ⟨hi,by simp [k2],Bb k3 _ _ (by omega),λj h3 h4=>?_,?_⟩ rfl
    ·rw [U4,List.getElem?_set_ne (by dsimp only at h3; omega)];exact k4 j (by dsimp only at h3; omega) (by simpa using h4)
    ·rw [U4];exact Qho (k4 _ (Ql _) (by omega)) hx k5 rfl k6
   ·have q0:q=[]:=Qj (by omega);refine go tt [.f (by simp [U4]),.f (by simp [U4,q0])] rfl (by simp [Uz,Ho,U4,IntKind.bits] <;> omega) ?_;refine rd (i+1,o') (show p.length-(i+1)<p.length-i by omega) ⟨hi,k2,k3,λj h3 h4=>k4 j (by dsimp only at h3; omega) h4,?_⟩ rfl;have c0:c*4294967296^(i+q.length)=0/\val o'=0:=by
     subst q0;simp only [val,List.take_nil,Yw] at k6;omega
    rw [c0.2,q0]; rfl
 ·obtain rfl:i=p.length:=by omega
  rw [Qn (Ql _)] at j5;rw [<-j5];exact Uc [.f (by simp [U4]),.k (VG j3)] rfl
theorem o64 {k q:Nat} (hq:q<4294967296) (hb:4294967296*k+q<18446744073709551616):orI .u64 ((4294967296*k:Nat):Int) (q:Int)=((4294967296*k+q:Nat):Int):=by
 have e1:(BitVec.ofInt 64 ((4294967296*k:Nat):Int)).toNat=4294967296*k:=by rw [BitVec.toNat_ofInt]; omega
 have e2:(BitVec.ofInt 64 (q:Int)).toNat=q:=by rw [BitVec.toNat_ofInt]; omega
 show IntKind.u64.wrap ((BitVec.ofInt 64 ((4294967296*k:Nat):Int) ||| BitVec.ofInt 64 (q:Int)).toNat:Int)=_;rw [BitVec.toNat_or,e1,e2,Qul hq,w64]; omega
theorem oM {k p:Nat} (hp:p<4294967296) (hb:4294967296*k+p<18446744073709551616):orI .u64 (p:Int) ((4294967296*k:Nat):Int)=((4294967296*k+p:Nat):Int):=by
 have:=o64 hp hb;unfold orI at this ⊢;rw [BitVec.or_comm]; exact this
theorem o32 {s k p:Nat} (hp:p<2^s) (h1:p<4294967296) (h2:2^s*k<4294967296) (hb:p+2^s*k<4294967296):orI .u32 (p:Int) ((2^s*k:Nat):Int)=((p+2^s*k:Nat):Int):=by
 have e1:(BitVec.ofInt 32 ((2^s*k:Nat):Int)).toNat=2^s*k:=by rw [BitVec.toNat_ofInt]; omega
 have e2:(BitVec.ofInt 32 (p:Int)).toNat=p:=by rw [BitVec.toNat_ofInt]; omega
 have e3:p ||| 2^s*k=p+2^s*k:=by
  have:=Wp (i:=s) (b:=p) hp k;rw [Nat.or_comm,<-this,Jr]
 show IntKind.u32.wrap ((BitVec.ofInt 32 (p:Int) ||| BitVec.ofInt 32 ((2^s*k:Nat):Int)).toNat:Int)=_;rw [BitVec.toNat_or,e1,e2,e3,zV]; omega
theorem Qwr {l:Ul} {v:Nat} (hl:Sm l) (hn:l.length<274877906944) (h0:0<v) (hv:v<4294967296):Ug 222 [lr l,.one (.int .u32 (v:Int))] [lr (Fy (val l / v)),.one (.int .u32 ((val l % v:Nat):Int))]:=by
 refine Fw func222 rfl ?_;refine go tt [.i (lm l).length,.i (lm l).length] rfl (by simp [Uz,Ho,U4] <;> omega) ?_;rw [WQ];refine lp (S:=Int×Ul×Nat) 1 (λL1 s=>(8,.v (.oi s.1))::(7,.v (.one (.int .u64 (s.2.2:Int))))::L1) (λs=>[.row false 124 1 (lm s.2.1)]) (λs=>(s.1+1).toNat)
  (λs=>-1<=s.1/\s.1<l.length/\s.2.1.length=l.length/\Sm s.2.1/\s.2.2<v/\val (l.drop (s.1+1).toNat)=v*val (s.2.1.drop (s.1+1).toNat)+s.2.2) (((lm l).length:Int)-1,List.replicate (lm l).length 0,0)
  ⟨by simp [U4]; omega,by simp [U4]; omega,by simp [U4],λx hx=>by rw [Zx hx]; decide,h0,by simp [U4,val]⟩ rfl (λ_ _=>rfl) rfl λ⟨i,o,r⟩ ⟨j1,j2,j3,j4,j5,j6⟩=>?_
 dsimp only at j1 j2 j3 j4 j5 j6 ⊢;rcases K8 i 0 with hi | hi
 ·obtain rfl:i=-1:=by omega
  simp only [show ((-1:Int)+1).toNat=0 from rfl,X2] at j6;have e1:val l / v=val o:=by rw [j6,W6 h0,V1 j5,Xk]
  have e2:val l % v=r:=by rw [j6,W7,Xs j5]
  rw [e1,e2];exact Uc [.f (by decide),.k (VG j4)] rfl rfl (by simp [Uz,Ho,U4,IntKind.bits] <;> omega)
 ·obtain ⟨k,rfl⟩:=Kj hi;have e:((k:Int)+1).toNat=k+1:=by omega
  rw [e] at j6;obtain ⟨x,hx⟩:=gxE (l:=l) (i:=k) (by omega);have xb:=hl x (Qa hx);obtain ⟨s,hs⟩:=nmE (r*4294967296+x);obtain ⟨k1,k2,k3⟩:=Qhz hx xb (show k<o.length by omega) h0 j5 j6 hs;obtain ⟨q,hq⟩:=nmE (s / v);obtain ⟨u,hu⟩:=nmE (s % v);have hqi:(s:Int).tdiv v=(q:Int):=by rw [V5 (by omega),hq]; rfl
  have hui:(s:Int).tmod v=(u:Int):=by rw [Y3 (by omega),hu]; rfl
  rw [<-hq,<-hu] at k3;rw [<-hq] at k1;rw [<-hu] at k2;refine go tt [.t (by simp),.i 32,.r 21 (Di (b:=((4294967296*r:Nat):Int)) (by omega)),.x (G8 hx),.r 27 (Di (b:=(s:Int)) (by rw [o64 xb (by omega)]; omega)),
   .r 33 (Di (b:=(q:Int)) hqi),.w 0,.r 34 (E6 (b:=((q % 4294967296:Nat):Int)) (by rw [zV]; omega)),.r 38 (Di (b:=(u:Int)) hui),.i k] rfl (by simp [Uz,Ho,U4,IntKind.bits,hqi] <;> omega) ?_
  rw [Cc];exact rd ((k:Int)-1,o.set k (q % 4294967296),u) (by dsimp only; omega) ⟨by dsimp only; omega,by dsimp only; omega,by simp [j3],Bb j4 _ _ (by omega),k2,by dsimp only; rw [show ((k:Int)-1+1).toNat=k from by omega]; exact k3⟩ rfl
theorem WP {i:Nat} {s:ByteArray} (h:∀ i,i<256->(s[i]?).map (·.toNat)=some (sz i)) (hi:i<256):(s[i]?).map (·.toNat)=some (sz i):=h i hi
set_option maxRecDepth 100000 in
theorem cE {x:Nat} (hx:x<4294967296):Ug 221 [.one (.int .u32 (x:Int))] [.oi (sz x:Int)]:=by
 refine Fw func221 rfl ?_;have h31:sz x<=32:=Bm.2 (by omega);by_cases h1:65536<=x
 ·have e1:sz x=16+sz (x / 2^16):=FC (by omega);obtain ⟨y,hy⟩:=nmE (x / 2^16);rw [<-hy] at e1;by_cases h2:256<=y
  ·have e2:sz y=8+sz (y / 2^8):=FC (by omega);obtain ⟨z,hz⟩:=nmE (y / 2^8);rw [<-hz] at e2;exact Uc [.t (by simp; omega),.i 16,.r 6 (E6 (b:=(y:Int)) (by simp [hy])),.t (by simp; omega),.i 8,.r 10 (E6 (b:=(z:Int)) (by simp [hz])),.y (WP (i:=z) (by decide) (by omega))] rfl (by rw [e1,e2]; simp; omega) (by simp [Uz,Ho,IntKind.bits] <;> omega)
  ·exact Uc [.t (by simp; omega),.i 16,.r 6 (E6 (b:=(y:Int)) (by simp [hy])),.f (by simp; omega),.y (WP (i:=y) (by decide) (by omega))] rfl (by rw [e1]; simp) (by simp [Uz,Ho,IntKind.bits] <;> omega)
 ·by_cases h2:256<=x
  ·have e2:sz x=8+sz (x / 2^8):=FC (by omega);obtain ⟨z,hz⟩:=nmE (x / 2^8);rw [<-hz] at e2;exact Uc [.f (by simp; omega),.t (by simp; omega),.i 8,.r 10 (E6 (b:=(z:Int)) (by simp [hz])),.y (WP (i:=z) (by decide) (by omega))] rfl (by rw [e2]; simp) (by simp [Uz,Ho,IntKind.bits] <;> omega)
  ·exact Uc [.f (by simp; omega),.f (by simp; omega),.y (WP (i:=x) (by decide) (by omega))] rfl (by simp) (by simp [Uz,Ho,IntKind.bits] <;> omega)
theorem Qsb {x:Nat} (hx:x<4294967296):Ug 223 [.one (.int .u32 (x:Int))] [.oi ((32-sz x:Nat):Int)]:=by
 have h31:sz x<=32:=Bm.2 (by omega);exact Ud func223 rfl [.k (cE hx)] rfl (by simp; omega) (by simp [Uz,Ho] <;> omega)
theorem sR {l:Ul} (hl:Sm l) (hs:sz (val l)<=4294967296):Ug 178 [lr l] [.oi (sz (val l):Int)]:=by
 refine Fw func178 rfl ?_;obtain ⟨p,ca,np,vp,_,ep⟩:=HY hl;have hp:=Rt hs;rw [<-ep] at hp;rw [<-vp] at hs ⊢;by_cases h0:p=[]
 ·subst h0;exact Uc [.k ca,.t (by simp [lm])] rfl rfl (by simp [Uz,Ho])
 ·have hpl:0<p.length:=Jz.2 h0;obtain ⟨x,hx,hx0⟩:=np.2 h0;have xb:=np.1 x (Qa hx);have e:=cQ np hx;have h31:sz x<=32:=Bm.2 (by omega);have hn:(lm p).length≠0:=by rw [U4]; omega
  refine Uc [.k ca,.f (by simp [U4]; omega),.r 15 (eI (b:=((p.length-1:Nat):Int)) (by rw [U4]; omega)),.x (G8 hx),.k (cE xb)] rfl (by rw [e,U4]; simp; omega) (by simp [Uz,Ho,U4] <;> omega)
theorem rQ {s:Nat} (h:s<=31):((s:Nat):Int).tdiv 32=((0:Nat):Int):=by
 rw [V5 (by omega)]; omega
theorem Qiv {s:Nat} (h:s<=31):((s:Nat):Int).tmod 32=(s:Int):=Int.tmod_eq_of_lt (by omega) (by omega)
theorem Qua {s:Nat} (h:s<=31):max 0 (min (s:Int) 65536)=(s:Int):=by omega
theorem Qwl {a:Ul} {s:Nat} (ha:Sm a) (h1:sz (val a)<=4294967400) (hs:s<=31):Ug 263 [lr a,.oi s] [lr (Fy (val a*2^s))]:=by
 refine Fw func263 rfl ?_;obtain ⟨p,ca,np,vp,_,ep⟩:=HY ha;have hp:=Rt h1;rw [<-ep] at hp;rw [<-vp];have hq:((s:Nat):Int).tdiv 32=0:=rQ hs;by_cases h0:p=[]
 ·subst h0;exact Uc [.k ca,.t (by simp [lm])] rfl (by simp [val,G7,lm]) (by simp [Uz,Ho])
 have hpl:0<p.length:=Jz.2 h0;refine go tt [.k ca,.r 15 (eI (b:=(s:Int)) (Qua hs)),.f (by simp [U4]; omega),.r 20 (eI (b:=((0:Nat):Int)) (rQ hs)),.r 22 (eI (b:=(s:Int)) (Qiv hs)),.r 28 (eI (b:=(((lm p).length+1:Nat):Int)) (by omega)),.i ((lm p).length+1),.i ((lm p).length+1)] rfl (by have e:=U4 p; simp only [Uz,Ho]; omega) ?_;rw [WQ];refine lp (S:=Nat×Ul) 1 (λL1 s=>(32,.v (.oi (s.1:Int)))::L1) (λs=>[.row false 124 1 (lm s.2)]) (λs=>p.length-s.1)
  (λr=>r.1<=p.length/\r.2.length=p.length+1/\Sm r.2/\(∃ z,r.2[r.1]? = some z/\z<2^s)/\val (r.2.take (r.1+1))=val (p.take r.1)*2^s) (0,List.replicate ((lm p).length+1) 0)
  ⟨Qh _,by simp [U4],λx hx=>by rw [Zx hx]; decide,⟨0,by simp,Z2 (by decide)⟩,by simp [val,J0]⟩ rfl (λ_ _=>rfl) rfl λ⟨i,o⟩ ⟨j1,j2,j3,⟨z,hz,hzs⟩,j5⟩=>?_
 dsimp only at j1 j2 j3 hz hzs j5 ⊢;by_cases hi:i<p.length
 ·obtain ⟨x,hx⟩:=gxE (l:=p) (i:=i) hi;have xb:=np.1 x (Qa hx);have zb:=j3 z (Qa hz);obtain ⟨k1,k2,k3,k4⟩:=Qjh hs hx xb hz hzs (by omega) j5;have hxs:=Qu1 hs xb;have h31:2^s<=2^31:=Zr (by decide) hs;have ec:(x:Int)*2^s=((x*2^s:Nat):Int):=by push_cast; rfl
  obtain ⟨m,hm⟩:=nmE (x*2^s);rw [<-hm] at k1 k2 k3 k4 hxs ec;refine go tt [.t (by simp [U4]; omega),.x (G8 hx),.i s,.r 40 (Di (b:=(m:Int)) ec),.i i,.x (G8 hz),.w 0,.r 52 (E6 (b:=((m % 4294967296:Nat):Int)) (by rw [zV]; omega)),.r 53 (E6 (b:=((z+m % 4294967296:Nat):Int)) (by rw [k4,o32 hzs zb (by omega) (by omega)])),.i i,
   .i 32,.r 61 (Di (b:=((m / 2^32:Nat):Int)) (by simp)),.w 0,.r 62 (E6 (b:=((m / 2^32 % 4294967296:Nat):Int)) (by rw [zV]; omega)),.i (i+1)] rfl (by simp [Uz,Ho,U4,IntKind.bits,ec] <;> omega) ?_
  rw [Cc,Cc];exact rd (i+1,(o.set i (z+m % 4294967296)).set (i+1) (m / 2^32 % 4294967296)) (show p.length-(i+1)<p.length-i by omega) ⟨hi,by simp [j2],Bb (Bb j3 _ _ (by omega)) _ _ (by omega),⟨_,by rw [X8 (by simp; omega)],by omega⟩,k3⟩ rfl
 ·obtain rfl:i=p.length:=by omega
  rw [Qn (by omega),Qn (Ql _)] at j5;rw [<-j5];exact Uc [.f (by simp [U4]),.k (VG j3)] rfl
theorem Qwm {a:Ul} {s:Nat} (ha:Sm a) (h1:sz (val a)<=4294967400) (hs:s<=31):Ug 226 [lr a,.oi s] [lr (Fy (val a / 2^s))]:=by
 refine Fw func226 rfl ?_;obtain ⟨p,ca,np,vp,_,ep⟩:=HY ha;have hp:=Rt h1;rw [<-ep] at hp;rw [<-vp];have hq:((s:Nat):Int).tdiv 32=0:=rQ hs;by_cases h0:p=[]
 ·subst h0;exact Uc [.k ca,.r 14 (eI (b:=(s:Int)) (Qua hs)),.r 16 (eI (b:=((0:Nat):Int)) (rQ hs)),.r 18 (eI (b:=(s:Int)) (Qiv hs)),.t (by simp [lm])] rfl (by simp [val,G7,lm]) (by simp only [Uz,Ho]; omega)
 have hpl:0<p.length:=Jz.2 h0;refine go tt [.k ca,.r 14 (eI (b:=(s:Int)) (Qua hs)),.r 16 (eI (b:=((0:Nat):Int)) (rQ hs)),.r 18 (eI (b:=(s:Int)) (Qiv hs)),.f (by simp [U4]; omega),.r 27 (eI (b:=((lm p).length:Int)) (by omega)),.i (lm p).length,.i (lm p).length] rfl (by have e:=U4 p; simp only [Uz,Ho]; omega) ?_;rw [WQ];refine lp (S:=Nat×Ul) 1 (λL1 s=>(31,.v (.oi (s.1:Int)))::L1) (λs=>[.row false 124 1 (lm s.2)]) (λs=>p.length-s.1)
  (λr=>r.1<=p.length/\r.2.length=p.length/\Sm r.2/\val (r.2.take r.1)=val p / 2^s % 4294967296^r.1) (0,List.replicate (lm p).length 0)
  ⟨Qh _,by simp [U4],λx hx=>by rw [Zx hx]; decide,by simp [val]; omega⟩ rfl (λ_ _=>rfl) rfl λ⟨i,o⟩ ⟨j1,j2,j3,j5⟩=>?_
 dsimp only at j1 j2 j3 j5 ⊢;by_cases hi:i<p.length
 ·obtain ⟨x,hx⟩:=gxE (l:=p) (i:=i) hi;have xb:=np.1 x (Qa hx);have fin:∀ y m,(p[i+1]? = some y\/p.length<=i+1/\y=0)->m=(x+y*2^32) / 2^s->p.length-(i+1)<p.length-i/\i+1<=p.length/\(o.set i (m % 4294967296)).length=p.length/\Sm (o.set i (m % 4294967296))/\val ((o.set i (m % 4294967296)).take (i+1))=val p / 2^s % 4294967296^(i+1):=λy m hy hm =>
   ⟨by omega,hi,by simp [j2],Bb j3 _ _ (by omega),by subst hm; exact Qji hs hx hy (by omega) np.1 j5⟩
  have hsp:0<2^s:=Z2 (by decide);by_cases hy0:i+1<p.length
  ·obtain ⟨y,hy⟩:=gxE (l:=p) (i:=i+1) hy0;have yb:=np.1 y (Qa hy);obtain ⟨v,hv⟩:=nmE (4294967296*y+x);obtain ⟨m,hm⟩:=nmE (v / 2^s);have hml:m<=v:=hm ▸ Jy _ _;have hf:=fin y m (.inl hy) (by rw [hm,hv]; congr 1; omega);refine go tt [.t (by simp [U4]; omega),.x (G8 hx),.t (by simp [U4]; omega),.x (G8 hy),.i 32,.r 57 (Di (b:=((4294967296*y:Nat):Int)) (by omega)),.r 58 (Di (b:=(v:Int)) (by rw [oM xb (by omega)]; omega)),
    .i s,.r 63 (Di (b:=(m:Int)) (by rw [hm]; push_cast; rfl)),.w 0,.r 64 (E6 (b:=((m % 4294967296:Nat):Int)) (by rw [zV]; omega)),.i i] rfl (by simp [Uz,Ho,U4,IntKind.bits] <;> omega) ?_
   rw [Cc];exact rd (i+1,o.set i (m % 4294967296)) hf.1 hf.2 rfl
  ·obtain ⟨m,hm⟩:=nmE (x / 2^s);have hml:m<=x:=hm ▸ Jy _ _;have hf:=fin 0 m (.inr ⟨by omega,rfl⟩) (by rw [hm]; simp);refine go tt [.t (by simp [U4]; omega),.x (G8 hx),.f (by simp [U4]; omega),
    .i s,.r 63 (Di (b:=(m:Int)) (by rw [hm]; push_cast; rfl)),.w 0,.r 64 (E6 (b:=((m % 4294967296:Nat):Int)) (by rw [zV]; omega)),.i i] rfl (by simp [Uz,Ho,U4,IntKind.bits] <;> omega) ?_
   rw [Cc];exact rd (i+1,o.set i (m % 4294967296)) hf.1 hf.2 rfl
 ·obtain rfl:i=p.length:=by omega
  have hvl:=Cq p np.1;rw [Qn (by omega),Xs (Z3 (Jy _ _) hvl)] at j5;rw [<-j5];exact Uc [.f (by simp [U4,j2]),.k (VG j3)] rfl
def wH:Nat->Nat->Ul
 | 0,_=>[]
 | k+1,v=>v % 4294967296::wH k (v / 4294967296)
theorem Qfn:∀ {l:Ul},Sm l->l=wH l.length (val l)
 | [],_=>rfl
 |
  x::l,h=>by
  have hx:=h x (.head _);have ih:=Qfn (l:=l) λy hy=>h y (.tail _ hy)
  simp only [Q7,wH,val];rw [show (x+4294967296*val l) % 4294967296=x by omega,show (x+4294967296*val l) / 4294967296=val l by omega,<-ih]
theorem pF {l:Ul} {k v:Nat} (h:Sm l) (hk:l.length=k) (hv:val l=v):wH k v=l:=by
 rw [<-hk,<-hv]; exact (Qfn h).symm
theorem xW:∀ {k v:Nat},(wH k v).length=k/\Sm (wH k v)/\(v<4294967296^k->val (wH k v)=v)
 | 0,v=>⟨rfl,λx hx=>by (cases hx),λh=>by simp at h; subst h; rfl⟩
 |
  k+1,v=>by
  obtain ⟨h1,h2,h3⟩:=xW (k:=k) (v:=v / 4294967296);refine ⟨by simp [wH,h1],λx hx=>?_,λh=>?_⟩
  ·rcases Qm.1 hx with rfl | hx
   ·exact Z5 _ (by decide)
   ·exact h2 x hx
  ·simp only [wH,val];rw [h3 (by rw [Zq] at h; exact X7 (by rw [Zp]; exact h))];omega
theorem Qe6 {a:Ul} {s n:Nat} (ha:Sm a) (h1:sz (val a)<=4294967400) (hs:s<=31) (hn:n<274877906944) (h0:0<n) (hv:val a*2^s<4294967296^n) :
 U5 prog 224 [lr a,.oi s,.oi n] [] [.one (.orow 0 1 none)] [.row false 124 1 (lm (wH n (val a*2^s)))]:=by
 refine Fw func224 rfl ?_;obtain ⟨v,hvv⟩:=nmE (val a*2^s);have cs:=Qwl ha h1 hs;rw [<-hvv] at cs hv ⊢;have hl:(Fy v).length<=n:=by
  apply Classical.byContradiction;intro hh;have h2:=UA (C9 v) (λe=>by rw [e] at hh; simp at hh);rw [G5] at h2;have h3:4294967296^n<=4294967296^((Fy v).length-1):=Zr (by decide) (by omega);omega
 refine go tt [.i n,.i n,.k cs,.s (Qhb (Fy v)),.i (Fy v).length] rfl (by simp [Uz,Ho,U4] <;> omega) ?_;have e:List.take 0 (List.replicate n [LV.int .u32 0])++(List.take (Fy v).length (lm (Fy v))++List.drop (0+(Fy v).length) (List.replicate n [LV.int .u32 0]))=lm (wH n v):=by
  rw [pF (l:=Fy v++List.replicate (n-(Fy v).length) 0) (λx hx=>?_) (by simp; omega) (by rw [Bf,TK,G5]; simp)]
  ·rw [Vu,Ye,Qn (by rw [U4]; exact Ql _)];simp [lm]
  ·rcases Qq.1 hx with hx | hx
   ·exact Ld v x hx
   ·rw [Zx hx]; decide
 rw [e];exact Ue [] [0] [] rfl
theorem AH {pre x post:Ul} {i u:Nat} (h:x[i]? = some u):(lm (pre++x++post))[pre.length+i]? = some [.int .u32 (u:Int)]:=G8 (by
 have hi:=(Qf.1 h).1;rw [Zb,Z8 (by omega),Jg,Zg hi]; exact h)
theorem Qj9 {pre x post:Ul} {i v:Nat} (h:i<x.length):(lm (pre++x++post)).set (pre.length+i) [.int .u32 (v:Int)]=lm (pre++x.set i v++post):=by
 rw [Cc,Zb,List.set_append_right _ _ (by omega),Jg,List.set_append_left _ _ h,<-Zb]
theorem Qmh {pre x post ly:Ul} {top nx xn x1 x2:Nat} (D:Dig x ly ly.length top nx xn x1 x2) (hn:ly.length<274877906944) :
 U5 prog 225 [.one (.orow 0 1 (some (pre.length,x.length))),lr ly] [.row true 124 1 (lm (pre++x++post))] [.one (.int .u32 ((val x / val ly:Nat):Int))] [.row true 124 1 (lm (pre++wH x.length (val x % val ly)++post))]:=by
 refine Fw func225 rfl ?_;have hxl:=D.hx;have hn2:=D.hn;have hb:=D.bnd;obtain ⟨head,hh⟩:=nmE (xn*2^32+x1);obtain ⟨g0,hg0⟩:=nmE (head / top);obtain ⟨r0,hr0⟩:=nmE (head % top);have hst:=D.start;rw [<-hh,<-hg0] at hst;have ht0:=D.top0;have hg0l:g0<=head:=hg0 ▸ Jy _ _;have hr0l:r0<top:=hr0 ▸ Z5 _ ht0;have htd:(head:Int).tdiv top=(g0:Int):=by rw [V5 (by omega),hg0]; rfl
 have htm:(head:Int).tmod top=(r0:Int):=by rw [Y3 (by omega),hr0]; rfl
 refine go tt [.r 23 (eI (b:=(ly.length:Int)) (by rw [U4])),.r 26 (eI (b:=((ly.length-1:Nat):Int)) (by omega)),.x (G8 D.ltop),.r 32 (eI (b:=((ly.length-2:Nat):Int)) (by omega)),.x (G8 D.lnx),
  .i ly.length,.x (AH D.xn),.i 32,.r 41 (Di (b:=((4294967296*xn:Nat):Int)) (by omega)),.r 44 (eI (b:=((ly.length-1:Nat):Int)) (by omega)),.i (ly.length-1),.x (AH D.x1),.r 48 (Di (b:=(head:Int)) (by rw [o64 hb.2.2.2.1 (by omega)]; omega)),
  .r 51 (Di (b:=(g0:Int)) htd),.r 54 (Di (b:=(r0:Int)) htm)] rfl ?_ ?_
 ·simp only [Uz,Ho,htd,IntKind.bits]; omega
 refine ct 2 (S:=Nat) (λg=>[(0,.v (.one (.orow 0 1 (some (pre.length,x.length))))),(1,.v (lr ly)),(5,.v (.oi (ly.length:Int))),(9,.v (.one (.int .u64 (g:Int))))]) (λ_=>[.row true 124 1 (lm (pre++x++post))]) (λg=>val x / val ly<=g/\(g-1)*val ly<=val x/\g<=4294967296) rfl ?_ ?_
 ·refine lp (S:=Nat×Nat) 1 (λL1 s=>(9,.v (.one (.int .u64 (s.1:Int))))::(10,.v (.one (.int .u64 (s.2:Int))))::L1) (λ_=>[.row true 124 1 (lm (pre++x++post))]) (λs=>4294967296-s.2)
   (λs=>s.1*top+s.2=xn*2^32+x1/\val x / val ly<=s.1/\s.2<4294967296/\s.1<18446744073709551616) (g0,r0)
   ⟨by rw [<-hh,hg0,hr0,Nat.mul_comm]; exact Nat.div_add_mod _ _,hst,by dsimp only; omega,by dsimp only; omega⟩ rfl (λ_ _=>rfl) rfl λ⟨g,r⟩ ⟨j1,j2,j3,j4⟩=>?_
  dsimp only at j1 j2 j3 j4 ⊢;by_cases hge:4294967296<=g
  ·have hrd:=D.round j1 j2 (.inl hge);by_cases h2:4294967296<=r+top
   ·exact go tt [.t (by simp; omega),.t rfl,.r 73 (Di (b:=((g-1:Nat):Int)) (by omega)),.t (by simp; omega)] rfl (by simp [Uz,Ho] <;> omega) (rc (g-1) ⟨hrd.2.1,(hrd.2.2.2 h2).1,(hrd.2.2.2 h2).2⟩ rfl)
   ·exact go tt [.t (by simp; omega),.t rfl,.r 73 (Di (b:=((g-1:Nat):Int)) (by omega)),.f (by simp; omega)] rfl (by simp [Uz,Ho] <;> omega) (rd (g-1,r+top) (by dsimp only; omega) ⟨hrd.2.2.1,hrd.2.1,by dsimp only; omega,by dsimp only; omega⟩ rfl)
  ·have hgn:=XP (x:=g) (y:=nx) (by omega) hb.2.1;by_cases hc:r*2^32+x2<g*nx
   ·have hrd:=D.round j1 j2 (.inr hc);have e1:(g:Int)*(nx:Int)=((g*nx:Nat):Int):=by push_cast; rfl
    obtain ⟨m,hm⟩:=nmE (g*nx);rw [<-hm] at e1 hgn hc;by_cases h2:4294967296<=r+top
    ·exact go tt [.f (by simp; omega),.r 60 (Di (b:=(m:Int)) e1),.i 32,.r 62 (Di (b:=((4294967296*r:Nat):Int)) (by omega)),.r 65 (eI (b:=((ly.length-2:Nat):Int)) (by omega)),.i (ly.length-2),.x (AH D.x2),.r 69 (Di (b:=((4294967296*r+x2:Nat):Int)) (o64 hb.2.2.2.2 (by omega))),.t (by simp; omega),.r 73 (Di (b:=((g-1:Nat):Int)) (by omega)),.t (by simp; omega)] rfl (by simp only [Uz,Ho,e1,IntKind.bits]; omega) (rc (g-1) ⟨hrd.2.1,(hrd.2.2.2 h2).1,(hrd.2.2.2 h2).2⟩ rfl)
    ·exact go tt [.f (by simp; omega),.r 60 (Di (b:=(m:Int)) e1),.i 32,.r 62 (Di (b:=((4294967296*r:Nat):Int)) (by omega)),.r 65 (eI (b:=((ly.length-2:Nat):Int)) (by omega)),.i (ly.length-2),.x (AH D.x2),.r 69 (Di (b:=((4294967296*r+x2:Nat):Int)) (o64 hb.2.2.2.2 (by omega))),.t (by simp; omega),.r 73 (Di (b:=((g-1:Nat):Int)) (by omega)),.f (by simp; omega)] rfl (by simp only [Uz,Ho,e1,IntKind.bits]; omega) (rd (g-1,r+top) (by dsimp only; omega) ⟨hrd.2.2.1,hrd.2.1,by dsimp only; omega,by dsimp only; omega⟩ rfl)
   ·have hf:=D.fin j1 (by omega) (by omega);have e1:(g:Int)*(nx:Int)=((g*nx:Nat):Int):=by push_cast; rfl
    obtain ⟨m,hm⟩:=nmE (g*nx);rw [<-hm] at e1 hgn hc;exact go tt [.f (by simp; omega),.r 60 (Di (b:=(m:Int)) e1),.i 32,.r 62 (Di (b:=((4294967296*r:Nat):Int)) (by omega)),.r 65 (eI (b:=((ly.length-2:Nat):Int)) (by omega)),.i (ly.length-2),.x (AH D.x2),.r 69 (Di (b:=((4294967296*r+x2:Nat):Int)) (o64 hb.2.2.2.2 (by omega))),.f (by simp; omega)] rfl (by simp only [Uz,Ho,e1,IntKind.bits]; omega) (rc g ⟨j2,hf,by omega⟩ rfl)
 ·intro g ⟨q1,q2,q3⟩;refine Ua [.r 80 (eI (b:=(ly.length:Int)) (by rw [U4]))] rfl ?_;refine lp (S:=Nat×Ul×Nat×Nat) 1 (λL1 s=>(81,.v (.oi (s.1:Int)))::(11,.v (.one (.int .u64 (s.2.2.1:Int))))::(12,.v (.one (.int .u64 (s.2.2.2:Int))))::L1) (λs=>[.row true 124 1 (lm (pre++s.2.1++post))]) (λs=>ly.length-s.1)
   (λs=>s.1<=ly.length/\s.2.1.length=ly.length+1/\Sm s.2.1/\s.2.2.2<=1/\s.2.2.1<4294967296/\val (s.2.1.take s.1)+g*val (ly.take s.1)=val (x.take s.1)+(s.2.2.1+s.2.2.2)*4294967296^s.1/\s.2.1.drop s.1=x.drop s.1) (0,x,0,0)
   ⟨Qh _,hxl,D.xb,Qh _,by simp,by simp [val],rfl⟩ rfl (λ_ _=>rfl) rfl λ⟨i,o,cy,bw⟩ ⟨j1,j2,j3,j4,j5,j6,j7⟩=>?_
  dsimp only at j1 j2 j3 j4 j5 j6 j7 ⊢;by_cases hi:i<ly.length
  ·obtain ⟨w1,hw1⟩:=gxE (l:=ly) (i:=i) hi;obtain ⟨u,hu⟩:=gxE (l:=x) (i:=i) (by omega);have wb:=D.lb w1 (Qa hw1);have ub:=D.xb u (Qa hu);have hou:=(UJ j7).trans hu;have hgw:g*w1<=18446744069414584320:=by
    have:=Zi q3 (show w1<=4294967295 by omega);omega
   obtain ⟨s,hs⟩:=nmE (((u+18446744073709551616-(g*w1+cy) % 4294967296) % 18446744073709551616+18446744073709551616-bw) % 18446744073709551616);have hstep:=jS (o:=o) (by omega) hu hw1 ub j4 j6 rfl hs;have e1:(g:Int)*(w1:Int)=((g*w1:Nat):Int):=by push_cast; rfl
   obtain ⟨m,hm⟩:=nmE (g*w1);rw [<-hm] at e1 hgw hs hstep;obtain ⟨p,hp⟩:=nmE (m+cy);rw [<-hp] at hs hstep;refine go tt [.t (by simp; omega),.x (G8 hw1),.r 89 (Di (b:=(m:Int)) e1),.r 91 (Di (b:=(p:Int)) (by omega)),.i 32,.r 93 (Di (b:=((p / 2^32:Nat):Int)) (by simp)),.i i,.x (AH hou),.w 1,.r 100 (E6 (b:=((p % 4294967296:Nat):Int)) (by rw [zV]; omega)),.w 1,.r 102 (Di (b:=(((u+18446744073709551616-p % 4294967296) % 18446744073709551616:Nat):Int)) (by rw [w64]; omega)),.w 0,.r 104 (Di (b:=(s:Int)) (by rw [w64]; omega)),
    .w 0,.r 108 (E6 (b:=((s % 4294967296:Nat):Int)) (by rw [zV]; omega)),.i 63,.r 110 (Di (b:=((s / 2^63:Nat):Int)) (by simp)),.i i] rfl (by simp only [Uz,Ho,e1,IntKind.bits,U4,Qy]; omega) ?_
   rw [Qj9 (by omega)];exact rd (i+1,o.set i (s % 4294967296),p / 2^32,s / 2^63) (by dsimp only; omega) ⟨hi,by simp [j2],Bb j3 _ _ (by omega),hstep.2,by dsimp only; omega,hstep.1,IK j7⟩ rfl
  ·obtain rfl:i=ly.length:=by omega
   have hon:=(UJ j7).trans D.xn;rw [Qn (l:=ly) (Ql _)] at j6;obtain ⟨s,hs⟩:=nmE (((xn+18446744073709551616-cy) % 18446744073709551616+18446744073709551616-bw) % 18446744073709551616);obtain ⟨oa,hoa⟩:=nmE (o.set ly.length (s % 4294967296));have oal:oa.length=ly.length+1:=by rw [hoa,Jo]; exact j2
   have oab:Sm oa:=hoa ▸ Bb j3 _ _ (by omega);by_cases EM:s / 2^63=0
   ·have hf:=D.fin0 j2 j5 j4 q1 j6 hs EM;refine go tt [.f (by simp),.i ly.length,.x (AH hon),.w 1,.r 119 (Di (b:=(((xn+18446744073709551616-cy) % 18446744073709551616:Nat):Int)) (by rw [w64]; omega)),.w 0,.r 121 (Di (b:=(s:Int)) (by rw [w64]; omega)),.w 0,.r 125 (E6 (b:=((s % 4294967296:Nat):Int)) (by rw [zV]; omega)),.i ly.length,.i 63,.r 128 (Di (b:=((s / 2^63:Nat):Int)) (by simp)),.t (by simp; omega),.w 0,.r 131 (E6 (b:=((val x / val ly:Nat):Int)) (by rw [zV]; omega))] rfl (by simp only [Uz,Ho,IntKind.bits,U4,Qy]; omega) ?_;rw [Qj9 (by omega),<-pF (l:=o.set ly.length (s % 4294967296)) (k:=x.length) (hoa ▸ oab) (by rw [<-hoa,oal,hxl]) hf.2];exact Ue [] [0] [] rfl
   ·have hf:=D.fin1 j2 j3 j5 j4 q2 j6 hs EM;rw [<-hoa] at hf;obtain ⟨v1,hv1⟩:=gxE (l:=oa) (i:=ly.length) (by omega);refine go tt [.f (by simp),.i ly.length,.x (AH hon),.w 1,.r 119 (Di (b:=(((xn+18446744073709551616-cy) % 18446744073709551616:Nat):Int)) (by rw [w64]; omega)),.w 0,.r 121 (Di (b:=(s:Int)) (by rw [w64]; omega)),.w 0,.r 125 (E6 (b:=((s % 4294967296:Nat):Int)) (by rw [zV]; omega)),.i ly.length,.i 63,.r 128 (Di (b:=((s / 2^63:Nat):Int)) (by simp)),.f (by simp; omega),.r 133 (eI (b:=(ly.length:Int)) (by rw [U4]))] rfl (by simp only [Uz,Ho,IntKind.bits,U4,Qy]; omega) ?_;rw [Qj9 (by omega),<-hoa];refine lp (S:=Nat×Ul×Nat) 1 (λL1 s=>(134,.v (.oi (s.1:Int)))::(18,.v (.one (.int .u64 (s.2.2:Int))))::L1) (λs=>[.row true 124 1 (lm (pre++s.2.1++post))]) (λs=>ly.length-s.1)
     (λs=>s.1<=ly.length/\s.2.1.length=ly.length+1/\Sm s.2.1/\s.2.2<=1/\val (s.2.1.take s.1)+s.2.2*4294967296^s.1=val (oa.take s.1)+val (ly.take s.1)/\s.2.1.drop s.1=oa.drop s.1) (0,oa,0)
     ⟨Qh _,oal,oab,Qh _,by simp [val],rfl⟩ rfl (λ_ _=>rfl) rfl λ⟨j,o2,bk⟩ ⟨r1,r2,r3,r4,r5,r6⟩=>?_
    dsimp only at r1 r2 r3 r4 r5 r6 ⊢;by_cases hj:j<ly.length
    ·obtain ⟨w1,hw1⟩:=gxE (l:=ly) (i:=j) hj;obtain ⟨u,hu⟩:=gxE (l:=oa) (i:=j) (by omega);have wb:=D.lb w1 (Qa hw1);have ub:=oab u (Qa hu);have hou:=(UJ r6).trans hu;obtain ⟨m,hm⟩:=nmE (u+bk+w1);have hstep:=vS (o:=o2) (by omega) hu (.inl hw1) r5 hm;refine go tt [.t (by simp; omega),.x (G8 hw1),.i j,.x (AH hou),.r 148 (Di (b:=(m:Int)) (by omega)),.w 0,.r 152 (E6 (b:=((m % 4294967296:Nat):Int)) (by rw [zV]; omega)),.i 32,.r 154 (Di (b:=((m / 4294967296:Nat):Int)) (by simp)),.i j] rfl (by simp only [Uz,Ho,IntKind.bits,U4,Qy]; omega) ?_;rw [Qj9 (by omega)];exact rd (j+1,o2.set j (m % 4294967296),m / 4294967296) (by dsimp only; omega) ⟨hj,by simp [r2],Bb r3 _ _ (by omega),by dsimp only; omega,hstep,IK r6⟩ rfl
    ·obtain rfl:j=ly.length:=by omega
     have hon2:=(UJ r6).trans hv1;have vb:=oab v1 (Qa hv1);rw [Qn (l:=ly) (Ql _)] at r5;have hf2:=D.fin2 oal oab r2 r3 hv1 r4 hf.2 r5;refine go tt [.f (by simp),.i ly.length,.x (AH hon2),.w 1,.r 165 (E6 (b:=(((v1+bk) % 4294967296:Nat):Int)) (by rw [zV]; omega)),.i ly.length,.w 0,.r 168 (E6 (b:=((g % 4294967296:Nat):Int)) (by rw [zV]; omega)),.w 0,.r 169 (E6 (b:=((val x / val ly:Nat):Int)) (Qx0 hf.1 D.qlt))] rfl (by simp only [Uz,Ho,IntKind.bits,U4,Qy]; omega) ?_;rw [Qj9 (by omega),<-pF (l:=o2.set ly.length ((v1+bk) % 4294967296)) (k:=x.length) (Bb r3 _ _ (by omega)) (by rw [Jo,r2,hxl]) hf2];exact Ue [] [0] [] rfl
theorem Qei {o ly:Ul} {lo top nx xn x1 x2:Nat} (hlo:lo+(ly.length+1)<=o.length) (D:Dig (WG o lo ly.length) ly ly.length top nx xn x1 x2) (hn:ly.length<274877906944) :
 U5 prog 225 [.one (.orow 0 1 (some (lo,ly.length+1))),lr ly] [.row true 124 1 (lm o)] [.one (.int .u32 ((val (WG o lo ly.length) / val ly:Nat):Int))] [.row true 124 1 (lm (o.take lo++wH (ly.length+1) (val (WG o lo ly.length) % val ly)++o.drop (lo+ly.length+1)))]:=by
 have:=Qmh (pre:=o.take lo) (post:=o.drop (lo+ly.length+1)) D hn;have e1:(o.take lo).length=lo:=by rw [Qt]; omega
 have e2:=GY (o:=o) (i:=lo) (n:=ly.length) (by omega);rw [e1,e2,YA] at this;exact this
theorem kQ {a b:Ul} (ha:Sm a) (hb:Sm b) (h1:sz (val a)<=4294967296) (h2:sz (val b)<=4294967296) (hy:0<val b):Ug 179 [lr a,lr b] [lr (Fy (val a / val b)),lr (Fy (val a % val b)),.oi 0]:=by
 refine Fw func179 rfl ?_;obtain ⟨p,ca,np,vp,_,ep⟩:=HY ha;obtain ⟨q,cb,nq,vq,_,eq⟩:=HY hb;have hp:=Rt h1;have hq:=Rt h2;rw [<-ep] at hp;rw [<-eq] at hq;rw [<-vp,<-vq];rw [<-vp] at h1;rw [<-vq] at h2 hy;have q0:q≠[]:=λe=>by rw [e] at hy; simp [val] at hy
 have qp:0<q.length:=Jz.2 q0;have c1:¬((lm q).length:Int)=0:=by rw [U4]; omega
 by_cases hlt:p.length<q.length
 ·have hv:=Do np nq hlt;rw [V1 hv,Xs hv,G7];exact Uc [.k ca,.k cb,.f (by simpa using c1),.t (by simp [U4]; omega),.k (VA np.1 h1)] rfl rfl (by simp [Uz,Ho])
 by_cases hone:q.length=1
 ·obtain ⟨y,rfl⟩:∃ y,q=[y]:=by
   match q,hone with
   | [y],_=>exact ⟨y,rfl⟩
  have yb:=nq.1 y (.head _);have vy:val [y]=y:=by simp [val]
  rw [vy] at hy ⊢;have co:=Qwr np.1 (by omega) hy yb;have sm:Sm [val p % y]:=λz hz=>by
   simp at hz; subst hz; exact Nat.lt_trans (Z5 _ hy) yb
  have cc:=VG sm;rw [show val [val p % y]=val p % y from by simp [val]] at cc;exact Uc [.k ca,.k cb,.f (by simp [lm]),.f (by simp [U4]; omega),.t (by simp [lm]),.x (G8 (l:=[y]) (i:=0) rfl),.k co,.k cc] rfl rfl (by simp [Uz,Ho])
 ·have hle:q.length<=p.length:=J4 hlt;obtain ⟨y1,hy1,hy10⟩:=nq.2 q0;have y1b:=nq.1 y1 (Qa hy1);have hszy:=cQ nq hy1;have hsz1:sz y1<=32:=Bm.2 (by omega);have hsz0:0<sz y1:=Qvb (by omega);obtain ⟨s,hs⟩:=nmE (32-sz y1);have hs31:s<=31:=by omega
  have E6:(2:Nat)^32=4294967296:=by decide
  obtain ⟨x,hx⟩:=nmE (val p);obtain ⟨y,hyv⟩:=nmE (val q);have cl:=Qsb y1b;rw [<-hs] at cl;have hvx:val p*2^s<4294967296^(p.length+1):=by
   have h1:=Cq p np.1;rw [Zq];exact Z6 (Xl h1 (show 0<2^s from Z2 (by decide))) (Zt _ (by rw [<-E6]; exact Zr (by decide) (by omega)))
  have hvy:val q*2^s<4294967296^q.length:=by
   have h1:=UC (val q);rw [<-E6,<-Wm];have h2:val q*2^s<2^sz (val q)*2^s:=Xl h1 (Z2 (by decide));rw [<-Xe] at h2;rw [show 32*q.length=sz (val q)+s from by omega];exact h2
  have cx:=Qe6 np.1 (show sz (val p)<=4294967400 by omega) hs31 (show p.length+1<274877906944 by omega) (by omega) hvx;have cy:=Qe6 nq.1 (show sz (val q)<=4294967400 by omega) hs31 (show q.length<274877906944 by omega) qp hvy;obtain ⟨hXl,hXb,hXv⟩:=xW (k:=p.length+1) (v:=val p*2^s);obtain ⟨hYl,hYb,hYv⟩:=xW (k:=q.length) (v:=val q*2^s);have hXv:=hXv hvx;have hYv:=hYv hvy;obtain ⟨X,hX⟩:=nmE (wH (p.length+1) (val p*2^s));obtain ⟨Y,hY⟩:=nmE (wH q.length (val q*2^s));rw [<-hX] at hXl hXb hXv cx;rw [<-hY] at hYl hYb hYv cy;have hyB:4294967296^(q.length-1)<=val q:=UA nq q0;have hR:=nD hXv hYv hXl hXb hYl hYb (show 2<=q.length by omega) (Cq p np.1) hyB hle;refine go tt [.k ca,.k cb,.f (by simpa using c1),.f (by simp [U4]; omega),.f (by simp [U4]; omega),.r 49 (eI (b:=((q.length-1:Nat):Int)) (by rw [U4]; omega)),.x (G8 hy1),.k cl,.r 57 (eI (b:=((p.length+1:Nat):Int)) (by rw [U4]; omega)),.c [0] cx,.r 62 (eI (b:=(q.length:Int)) (by rw [U4])),.c [1] cy,.r 65 (eI (b:=(q.length:Int)) (by rw [U4,hYl])),.r 70 (eI (b:=((p.length-q.length+1:Nat):Int)) (by rw [U4]; omega)),.i (p.length-q.length+1),.i (p.length-q.length+1),.r 73 (eI (b:=((p.length-q.length+1:Nat):Int)) (by simp))] rfl ?_ ?_
  ·simp only [Uz,Ho,IntKind.bits,U4];omega
  ·rw [WQ];refine pb 1 rfl rfl ?_;refine lp (S:=Int×Ul×Ul) 3 (λL1 s=>(13,.v (.oi s.1))::L1) (λs=>[.row false 124 1 (lm s.2.2),.gone,.row false 124 1 (lm s.2.1)]) (λs=>(s.1+1).toNat)
    (λs=>-1<=s.1/\s.1<p.length-q.length+1/\s.2.1.length=p.length-q.length+1/\Sm s.2.1/\Rest s.2.2 Y p.length q.length (s.1+1).toNat/\val (s.2.1.drop (s.1+1).toNat)*4294967296^(s.1+1).toNat*val Y+val s.2.2=val X) (((p.length-q.length+1:Nat):Int)-1,List.replicate (p.length-q.length+1) 0,X)
    ⟨by dsimp only; omega,by dsimp only; omega,by simp,λx hx=>by rw [List.eq_of_mem_replicate hx]; decide,by simpa using hR,by simp [val]⟩ rfl (λ_ _=>rfl) rfl λ⟨i,oq,ox⟩ ⟨j1,j2,j3,j4,j5,j6⟩=>?_
   dsimp only at j1 j2 j3 j4 j5 j6 ⊢;rcases K8 i 0 with hi | hi
   ·obtain rfl:i=-1:=by omega
    simp only [show ((-1:Int)+1).toNat=0 from rfl,X2,Vb,Ys] at j5 j6;have hlt':val ox<val q*2^s:=by have:=j5.lt; rw [hYv] at this; simpa using this
    have hfin:=Qiw (x:=val p) (y:=val q) (s:=s) (r:=val ox) (q:=oq) hy (by rw [<-hXv,<-hYv]; exact j6) hlt';have hoxl:=j5.ol;have hox:=cX (o:=ox) (n:=q.length) (by omega) (Nat.lt_trans hlt' hvy);have hszm:sz (val (ox.take q.length))<=4294967400:=by
     rw [hox,hfin.2];have h1:=Qjw (val p % val q) (2^s);have h2':=Su (Yf (Z5 (val p) hy));have h3:sz (2^s)<=s+1:=Bm.2 (Nat.pow_lt_pow_right (by decide) (by omega));omega
    have cs:=Qwm (a:=ox.take q.length) (λu hu=>j5.ob u (Qo hu)) hszm hs31;rw [hox,hfin.2,Nat.mul_div_cancel _ (Z2 (by decide))] at cs;have cq:=VG j4;rw [hfin.1] at cq;exact Uc [.f (by decide),.p 2,.p 0,.k cq,.i q.length,.r 95 (v:=lr (ox.take q.length)) (by simp [lm]),.k cs] rfl rfl (by simp [Uz,Ho,U4]; omega)
   ·obtain ⟨k,rfl⟩:=Kj hi;have e:((k:Int)+1).toNat=k+1:=by omega
    rw [e] at j5 j6;obtain ⟨top,nx,xn,x1,x2,D⟩:=j5.dig;have hoxl:=j5.ol;have hm:=j5.hm;have cd:=Qei (o:=ox) (lo:=k) (by omega) (hYl.symm ▸ D) (by omega);rw [hYl] at cd;have hwl:=GY (o:=ox) (i:=k) (n:=q.length) (by omega);have hwlt:val (WG ox k q.length) % val Y<4294967296^(q.length+1):=by
     have h3:=Cq (WG ox k q.length) D.xb;rw [hwl] at h3;exact Z3 (Nat.mod_le _ _) h3
    obtain ⟨d1,d2,d3⟩:=xW (k:=q.length+1) (v:=val (WG ox k q.length) % val Y);have hnx:=j5.next (w':=wH (q.length+1) (val (WG ox k q.length) % val Y)) (d1.trans hwl.symm) d2 (d3 hwlt) (q:=oq) (by omega) j6;have hdg:=D.qlt;refine go tt [.t (by simp),.i k,.i (k+q.length+1),.r 87 (v:=.one (.orow 0 1 (some (k,q.length+1)))) (by rw [show k+q.length+1-k=q.length+1 by omega]),.c [0] cd,.i k] rfl ?_ ?_
    ·simp only [Uz,U4]; omega
    ·rw [Cc];refine rd ((k:Int)-1,oq.set k (val (WG ox k q.length) / val Y),ox.take k++wH (q.length+1) (val (WG ox k q.length) % val Y)++ox.drop (k+q.length+1)) (by dsimp only; omega) ⟨by dsimp only; omega,by dsimp only; omega,by simp [j3],Bb j4 _ _ hdg,?_,?_⟩ rfl
     ·dsimp only; rw [show ((k:Int)-1+1).toNat=k from by omega]; exact hnx.1
     ·dsimp only; rw [show ((k:Int)-1+1).toNat=k from by omega]; exact hnx.2
def sg (z:Int):LV:=.bool (decide (z<0))
def mg (z:Int):LV:=.row (lm (Fy z.natAbs))
abbrev Hh (z:Int):Uo:=[sg z,mg z]
def Gv (x y:LV) (z:Int):Prop:=∃ b l,x=.bool b/\y=.row (lm l)/\Sm l/\z=Fb b (val l)
theorem U3 (z:Int):Gv (sg z) (mg z) z:=by
 refine ⟨_,_,rfl,rfl,Ld _,?_⟩;rw [G5];unfold Fb;by_cases h:z<0 <;> simp [h] <;> omega
theorem Quj (b:Bool) (m:Nat):[LV.bool (b && decide (0<m)),LV.row (lm (Fy m))]=Hh (Fb b m):=by
 simp only [Hh,sg,mg,DD,Rl]
theorem Dl {m:Nat}:0<(Fy m).length↔0<m:=by
 rcases Q0 m with h | h
 ·subst h; rw [G7]; simp
 ·rw [En (by omega)]; simp [h]
theorem Pp (b:Bool) (m:Nat):Ug 77 [lr (Fy m),.one (.bool b)] [.agg (Hh (Fb b m))]:=by
 rw [<-Quj];have e:=Dl (m:=m);cases b with
 | false=>exact Ud func77 rfl [.f rfl] rfl
 | true=>exact Ud func77 rfl [.t rfl] rfl (by simp [U4,e]) trivial
theorem Pn {b:Bool} {m:Nat} {k:Nat} (h:Fe (Fb b m)<=k):sz m<=k:=by
 unfold Fe at h; rwa [Rl] at h
theorem Bz {x y:LV} {z:Int} (hi:Gv x y z) (hs:Fe z<=4294967295):Ug 111 [.agg [x,y]] [.agg (Hh z)]:=by
 obtain ⟨b,l,rfl,rfl,hl,rfl⟩:=hi;exact Ud func111 rfl [.k (VA hl (Qc (Pn hs) (by decide))),.k (Pp _ _)] rfl
theorem UG (b:Bool) (m:Nat):Fb (!b) m=-(Fb b m):=by unfold Fb; cases b <;> simp
theorem ND {x y:LV} {z:Int} (hi:Gv x y z) (hs:Fe z<=4294967295):Ug 148 [.agg [x,y]] [.agg (Hh (-z))]:=by
 obtain ⟨b,l,rfl,rfl,hl,rfl⟩:=hi;rw [<-UG];exact Ud func148 rfl [.k (VA hl (Qc (Pn hs) (by decide))),.k (Pp _ _)] rfl
theorem Np {x y x' y':LV} {z z':Int} (hi:Gv x y z) (hi':Gv x' y' z') (hs:Fe z<=4294967295) (hs':Fe z'<=4294967295):Ug 35 [.agg [x,y],.agg [x',y']] [.agg (Hh (z*z'))]:=by
 obtain ⟨b,l,rfl,rfl,hl,rfl⟩:=hi;obtain ⟨b',l',rfl,rfl,hl',rfl⟩:=hi';have e:Fb b (val l)*Fb b' (val l')=Fb (b != b') (val l*val l'):=by
  unfold Fb; cases b <;> cases b' <;> simp [Int.neg_mul,Int.mul_neg]
 rw [e];exact Ud func35 rfl [.k (Qwg hl hl' (Qc (Pn hs) (by decide)) (Qc (Pn hs') (by decide))),.k (Pp _ _)] rfl
theorem NA {a b:Ul} (ha:Sm a) (hb:Sm b) (h1:sz (val a)<=4294967296) (h:val b<=val a):Ug 228 [lr a,lr b] [lr (Fy (val a-val b)),.one (.bool true)]:=by
 have:=Qqk ha hb h1; rwa [if_pos h] at this
theorem Qd9 {a b:Ul} (ha:Sm a) (hb:Sm b) (h1:sz (val a)<=4294967296) (h:val a<val b):Ug 228 [lr a,lr b] [lr [],.one (.bool false)]:=by
 have:=Qqk ha hb h1; rwa [if_neg (by omega)] at this
theorem VI {x y x' y':LV} {z z':Int} (hi:Gv x y z) (hi':Gv x' y' z') (hs:Fe z<=4294967295) (hs':Fe z'<=4294967295):Ug 219 [.agg [x,y],.agg [x',y']] [.agg (Hh (z+z'))]:=by
 obtain ⟨b,l,rfl,rfl,hl,rfl⟩:=hi;obtain ⟨b',l',rfl,rfl,hl',rfl⟩:=hi';have s1:=Qc (Pn hs) (show 4294967295<=4294967296 by decide);have s2:=Qc (Pn hs') (show 4294967295<=4294967296 by decide);by_cases hb:b=b'
 ·subst hb;have e:Fb b (val l)+Fb b (val l')=Fb b (val l+val l'):=by unfold Fb; cases b <;> simp <;> omega
  rw [e];exact Ud func219 rfl [.t (by simp),.k (Qqg hl hl' s1 s2),.k (Pp _ _)] rfl
 ·by_cases hle:val l'<=val l
  ·have e:Fb b (val l)+Fb b' (val l')=Fb b (val l-val l'):=by unfold Fb; cases b <;> cases b' <;> simp at hb ⊢ <;> omega
   rw [e];exact Ud func219 rfl [.f (by simpa using hb),.k (NA hl hl' s1 hle),.t rfl,.k (Pp _ _)] rfl
  ·have e:Fb b (val l)+Fb b' (val l')=Fb b' (val l'-val l):=by unfold Fb; cases b <;> cases b' <;> simp at hb ⊢ <;> omega
   rw [e];exact Ud func219 rfl [.f (by simpa using hb),.k (Qd9 hl hl' s1 (by omega)),.f rfl,.k (NA hl' hl s2 (by omega)),.k (Pp _ _)] rfl
theorem Qeh {x y x' y':LV} {z z':Int} (hi:Gv x y z) (hi':Gv x' y' z') (hs:Fe z<=4294967295) (hs':Fe z'<=4294967295):Ug 246 [.agg [x,y],.agg [x',y']] [.agg (Hh (z-z'))]:=by
 obtain ⟨b',l',rfl,rfl,hl',rfl⟩:=hi';have hn:Gv (.bool (!b')) (.row (lm l')) (-(Fb b' (val l'))):=⟨_,_,rfl,rfl,hl',(UG _ _).symm⟩;rw [Int.sub_eq_add_neg];have hi2:=hi;obtain ⟨b,l,rfl,rfl,hl,_⟩:=hi;exact Ud func246 rfl [.k (VI hi2 hn hs (by rw [Hw]; exact hs'))] rfl
theorem Qe0 {x y:LV} {z:Int} (hi:Gv x y z) (hs:Fe z<=4294967295):Ug 145 [.agg [x,y]] [.oi (Int.sign z)]:=by
 obtain ⟨b,l,rfl,rfl,hl,rfl⟩:=hi;have s1:=Qc (Pn hs) (show 4294967295<=4294967296 by decide);have cb:=sR hl s1;by_cases h0:val l=0
 ·have e:Fb b (val l)=0:=by unfold Fb; rw [h0]; cases b <;> simp
  rw [e];exact Ud func145 rfl [.k cb,.t (by simp [EV,h0])] rfl
 ·have EM:sz (val l)≠0:=λh=>h0 (EV.1 h)
  cases b
  ·have e:(Fb false (val l)).sign=1:=Int.sign_eq_one_of_pos (by unfold Fb; simp; omega);rw [e];exact Ud func145 rfl [.k cb,.f (by simp; omega),.f rfl] rfl
  ·have e:(Fb true (val l)).sign=-1:=Int.sign_eq_neg_one_of_neg (by unfold Fb; simp; omega);rw [e];exact Ud func145 rfl [.k cb,.f (by simp; omega),.t rfl] rfl
theorem GI {x y x' y':LV} {z z':Int} (hi:Gv x y z) (hi':Gv x' y' z') (hs:Fe z<=4294967295) (hs':Fe z'<=4294967295):Ug 97 [.agg [x,y],.agg [x',y']] [.oi (Dw z z')]:=by
 have c1:=Qe0 hi hs;have c2:=Qe0 hi' hs';obtain ⟨b,l,rfl,rfl,hl,hz⟩:=hi;obtain ⟨b',l',rfl,rfl,hl',hz'⟩:=hi';have k1:=Aq z;have k2:=Aq z';have zl:z.natAbs=val l:=by rw [hz,Rl]
 have zl':z'.natAbs=val l':=by rw [hz',Rl]
 by_cases h1:z.sign<z'.sign
 ·have e:Dw z z'=-1:=by unfold Dw; rw [if_pos (by omega)]
  rw [e];exact Ud func97 rfl [.k c1,.k c2,.t (by simpa using h1)] rfl
 ·by_cases h2:z'.sign<z.sign
  ·have e:Dw z z'=1:=by unfold Dw; rw [if_neg (by omega),if_pos (by omega)]
   rw [e];exact Ud func97 rfl [.k c1,.k c2,.f (by simpa using h1),.t (by simpa using h2)] rfl
  ·by_cases h3:z.sign<0
   ·have e:ZV (val l') (val l)=Dw z z':=by unfold Dw ZV; rw [<-zl,<-zl']; split <;> split <;> (try split) <;> (try split) <;> omega
    have cc:=Qdf hl' hl;rw [e] at cc;exact Ud func97 rfl [.k c1,.k c2,.f (by simpa using h1),.f (by simpa using h2),.t (by simpa using h3),.k cc] rfl
   ·have e:ZV (val l) (val l')=Dw z z':=by unfold Dw ZV; rw [<-zl,<-zl']; split <;> split <;> (try split) <;> (try split) <;> omega
    have cc:=Qdf hl hl';rw [e] at cc;exact Ud func97 rfl [.k c1,.k c2,.f (by simpa using h1),.f (by simpa using h2),.f (by simpa using h3),.k cc] rfl
theorem Li {z:Int}:Ug 112 [.agg (Hh z)] [.one (.bool (decide (z=0)))] :=
 Ud func112 rfl [] rfl (by simp only [U4]; congr 3; have:=Dl (m:=z.natAbs); rw [decide_eq_decide]; omega) trivial
theorem zC {z:Int} (h1:-9223372036854775808<=z/\z<=9223372036854775807):Ug 113 [.oi z] [.agg (Hh z)]:=by
 obtain ⟨m,hm⟩:=nmE (z.natAbs);have sm:Sm [m % 4294967296,m / 4294967296]:=λx hx=>by
  simp at hx; rcases hx with rfl | rfl <;> omega
 have hv:val [m % 4294967296,m / 4294967296]=m:=by simp only [val]; omega
 have cn:=VA sm (by rw [hv]; exact Qc (Bm.2 (show m<2^64 by omega)) (show 64<=4294967296 by decide));rw [hv] at cn;by_cases hz:z<0
 ·have e:Fb true m=z:=by unfold Fb; simp; omega
  have cm:=Pp true m;rw [e] at cm;exact Ud func113 rfl [.w 0,.r 5 (Di (b:=((18446744073709551616-m:Nat):Int)) (by rw [w64]; omega)),.t (by simpa using hz),.w 0,.r 9 (Di (b:=(m:Int)) (by rw [w64]; omega)),.w 0,.r 11 (E6 (b:=((m % 4294967296:Nat):Int)) (by rw [zV]; omega)),.i 32,.r 13 (Di (b:=((m / 4294967296:Nat):Int)) (by simp)),.k cn,.r 18 (v:=.one (.bool true)) (by simp [hz]),.k cm] rfl rfl (by simp [Uz,IntKind.bits] <;> omega)
 ·have e:Fb false m=z:=by unfold Fb; simp; omega
  have cm:=Pp false m;rw [e] at cm;exact Ud func113 rfl [.w 0,.r 5 (Di (b:=(m:Int)) (by rw [w64]; omega)),.f (by simpa using hz),.w 0,.r 11 (E6 (b:=((m % 4294967296:Nat):Int)) (by rw [zV]; omega)),.i 32,.r 13 (Di (b:=((m / 4294967296:Nat):Int)) (by simp)),.k cn,.r 18 (v:=.one (.bool false)) (by simp; omega),.k cm] rfl rfl (by simp [Uz,IntKind.bits] <;> omega)
theorem sP {m n:Nat} (h1:sz m<=4294967296) (h2:sz n<=4294967296) (hn:0<n):Ug 179 [lr (Fy m),lr (Fy n)] [lr (Fy (m / n)),lr (Fy (m % n)),.oi 0]:=by
 have:=kQ (Ld m) (Ld n) (by rw [G5]; exact h1) (by rw [G5]; exact h2) (by rw [G5]; exact hn);rwa [G5,G5] at this
theorem Qaj {x y x' y':LV} {z z':Int} (hi:Gv x y z) (hi':Gv x' y' z') (hs:Fe z<=4294967295) (hs':Fe z'<=4294967295) (hz:z'≠0):Ug 180 [.agg [x,y],.agg [x',y']] [.agg (Hh (z / z')),.agg (Hh (z % z')),.oi 0]:=by
 obtain ⟨b,l,rfl,rfl,hl,hz1⟩:=hi;obtain ⟨b',l',rfl,rfl,hl',hz2⟩:=hi';have zl:z.natAbs=val l:=by rw [hz1,Rl]
 have zl':z'.natAbs=val l':=by rw [hz2,Rl]
 have s1:sz (val l)<=4294967296:=Qc (Pn (hz1 ▸ hs)) (by decide);have s2:sz (val l')<=4294967296:=Qc (Pn (hz2 ▸ hs')) (by decide);have hp:0<z'.natAbs:=by omega
 have e1:z=if b=true then -(z.natAbs:Int) else (z.natAbs:Int):=by rw [zl]; exact hz1
 have e2:z'=if b'=true then -(z'.natAbs:Int) else (z'.natAbs:Int):=by rw [zl']; exact hz2
 have cd:=kQ hl hl' s1 s2 (by omega);rw [<-zl,<-zl'] at cd;have s0:sz (z.natAbs % z'.natAbs)<=4294967296:=Qc (Su (Yf (Z5 _ hp))) (by rw [zl']; exact s2);cases b with
 |
  false =>
  obtain ⟨d1,d2⟩:=BE e2 hp e1;rw [d1,d2];exact Ud func180 rfl [.k cd,.f rfl,.k (Pp _ _),.k (Pp _ _),.f rfl,.f rfl] rfl
 |
  true =>
  by_cases h0:z.natAbs % z'.natAbs=0
  ·obtain ⟨d1,d2⟩:=SO e2 hp e1 h0;rw [d1,d2];exact Ud func180 rfl [.k cd,.f rfl,.k (Pp _ _),.k (Pp _ _),.t rfl,.f (by rw [h0,G7]; rfl)] rfl
  ·obtain ⟨d1,d2⟩:=BL e2 hp e1 (by omega);rw [d1,d2];have ca:=Qqg (a:=Fy (z.natAbs / z'.natAbs)) (b:=[1]) (Ld _) (λx hx=>by simp at hx; subst hx; decide) (by rw [G5]; exact Qc (Su (Jy _ _)) (by rw [zl]; exact s1)) (by decide);have cs:=NA (a:=l') (b:=Fy (z.natAbs % z'.natAbs)) hl' (Ld _) s2 (by rw [G5,<-zl']; exact Yf (Z5 _ hp));rw [G5] at ca cs;rw [<-zl'] at cs;have hl0:=Dl (m:=z.natAbs % z'.natAbs);exact Ud func180 rfl [.k cd,.f rfl,.k (Pp _ _),.k (Pp _ _),.t rfl,.t (by simp [U4]; omega),.k ca,.k cs,.k (Pp _ _),.k (Pp _ _)] rfl
theorem Ay {x y x' y':LV} {z z':Int} (hi:Gv x y z) (hi':Gv x' y' z') (hs:Fe z<=4294967295) (hs':Fe z'<=4294967295) (hz:z'≠0) (hd:z % z'=0):Ug 149 [.agg [x,y],.agg [x',y']] [.agg (Hh (z / z')),.oi 0]:=by
 have cd:=Qaj hi hi' hs hs' hz;obtain ⟨b,l,rfl,rfl,_⟩:=hi;obtain ⟨b',l',rfl,rfl,_⟩:=hi';exact Ud func149 rfl [.k cd,.f rfl,.f (by rw [hd]; simp [U4,G7])] rfl
end Orr
namespace Orr
open Go
abbrev Qzt (l:Ul):LV:=.row (lm l)
def Rr (l:Uj):Nat:=l.foldl (λg z=>Nat.gcd g z.natAbs) 0
theorem Qbb {l:Uj} {i:Nat} {z:Int} (h:l[i]? = some z):Rr (l.take (i+1))=Nat.gcd (Rr (l.take i)) z.natAbs:=by
 unfold Rr;rw [Y5,h];simp [Vq]
theorem Qnk (g x:Nat):Nat.gcd x (g % x)=Nat.gcd g x:=by
 rw [Nat.gcd_comm g x,Nat.gcd_rec x g,Nat.gcd_comm]
theorem EA (l:Uj):l.foldl (λg z=>Nat.gcd g z.natAbs) 1=1:=by
 induction l with
 | nil=>rfl
 | cons z l ih=>simp [ih]
theorem Qgi {l:Uj} {i:Nat} (h:Rr (l.take i)=1):Rr l=1:=by
 have e:l=l.take i++l.drop i:=(Zk i l).symm;unfold Rr at h ⊢;rw [e,Vq,h,EA]
def trim:Uj->Uj
 | []=>[]
 |
  x::l=>match trim l with
  | []=>if x=0 then [] else [x]
  | y::k=>x::y::k
theorem WY:∀ {l:Uj},(∀ x∈l,x=0)->trim l=[]
 | [],_=>rfl
 |
  x::l,h=>by
  have ih:=WY (l:=l) (λy hy=>h y (Qg _ hy));simp [trim,ih,h x (Qx ..)]
theorem zX:∀ {l:Uj} {m:Nat} {y:Int},(∀ j x,m<j->l[j]? = some x->x=0)->l[m]? = some y->y≠0->trim l=l.take (m+1)
 | [],m,y,_,h,_=>by simp at h
 |
  x::l,0,y,h1,h2,h3=>by
  have h0:trim l=[]:=WY λz hz=>by
   obtain ⟨j,hj⟩:=Zj.1 hz;exact h1 (j+1) z (by omega) (by simpa using hj)
  simp at h2;subst h2;simp [trim,h0,h3]
 |
  x::l,m+1,y,h1,h2,h3=>by
  have ih:=zX (l:=l) (m:=m) (y:=y) (λj z hj hz=>h1 (j+1) z (by omega) (by simpa using hz)) (by simpa using h2) h3;cases hl:l with
  | nil=>subst hl; simp at h2
  |
   cons u k =>
   subst hl;rw [Vd] at ih;simp only [trim] at ih ⊢;rw [ih];simp
def U9 (l:Uj):Prop:=trim l=l
theorem Tj:∀ (l:Uj),U9 (trim l)
 | []=>rfl
 |
  x::l=>by
  have ih:=Tj l;unfold U9 at ih ⊢;cases h:trim l with
  | nil=>by_cases hx:x=0 <;> simp [trim,h,hx]
  |
   cons y k =>
   rw [h] at ih;simp only [trim,h] at ih ⊢;rw [ih]
theorem rL {l:Uj} {m:Nat} (hm:m<=l.length) (h1:∀ j x,m<=j->l[j]? = some x->x=0) (h2:0<m->∃ y,l[m-1]? = some y/\y≠0):trim l=l.take m:=by
 rcases Q0 m with h0 | h0
 ·subst h0;rw [WY λz hz=>?_]; rfl;obtain ⟨j,hj⟩:=Zj.1 hz;exact h1 j z (by omega) hj
 ·obtain ⟨y,hy,hy0⟩:=h2 h0;have:=zX (l:=l) (m:=m-1) (y:=y) (λj x hj hx=>h1 j x (by omega) hx) hy hy0;rwa [show m-1+1=m from by omega] at this
def IsInts:Up->Uj->Prop
 | [],[]=>True
 | x::l,z::p=>(∃ a b,x=[a,b]/\Gv a b z)/\IsInts l p
 | _,_=>False
theorem IsInts.len:∀ {l:Up} {p:Uj},IsInts l p->l.length=p.length
 | [],[],_=>rfl
 | x::l,z::p,h=>by simp [h.2.len]
 | [],_::_,h=>h.elim
 | _::_,[],h=>h.elim
theorem IsInts.get:∀ {l:Up} {p:Uj},IsInts l p->∀ {i:Nat} {z:Int},p[i]? = some z->∃ a b,l[i]? = some [a,b]/\Gv a b z
 | [],[],_,i,z,h=>by simp at h
 |
  x::l,y::p,h,0,z,hz=>by
  simp at hz; subst hz;obtain ⟨a,b,rfl,hi⟩:=h.1;exact ⟨a,b,rfl,hi⟩
 | x::l,y::p,h,i+1,z,hz=>by simpa using h.2.get (i:=i) (by simpa using hz)
 | [],_::_,h,_,_,_=>h.elim
 | _::_,[],h,_,_,_=>h.elim
theorem Gs:∀ (p:Uj),IsInts (p.map Hh) p
 | []=>trivial
 | z::p=>⟨⟨_,_,rfl,U3 z⟩,Gs p⟩
theorem IsInts.append:∀ {l l':Up} {p p':Uj},IsInts l p->IsInts l' p'->IsInts (l++l') (p++p')
 | [],_,[],_,_,h=>h
 | x::l,_,z::p,_,h,h'=>⟨h.1,h.2.append h'⟩
 | [],_,_::_,_,h,_=>h.elim
 | _::_,_,[],_,h,_=>h.elim
def pl (p:Uj):LV:=.row (p.map Hh)
def ids (l:Uj):LV:=.row (l.map λ(x:Int)=>[.int .i64 x])
theorem QF:Gv (.bool false) (.row []) 0:=⟨false,[],rfl,rfl,(λx hx=>by cases hx),rfl⟩
theorem Qpc:sg 0=.bool false:=rfl
theorem Qbj {z:Int}:(Fy z.natAbs).length=0↔z=0:=by
 constructor
 ·intro h;have h0:=Qj h;have:=(UI (C9 z.natAbs)).2 h0;rw [G5] at this; omega
 ·rintro rfl; rw [show (0:Int).natAbs=0 from rfl,G7]; rfl
theorem Gt {α β:Type} {f:α->β} {l:List α} {i:Nat} {x:α} (h:l[i]? = some x):(l.map f)[i]? = some (f x):=by rw [Q6,h]; rfl
theorem Qq6 {α:Type} {f:α->Uo} {sz:Nat} (l:List α) (h:∀ x,(f x).length=sz):∀ c∈l.map f,c.length=sz:=λc hc=>by
 obtain ⟨x,_,rfl⟩:=Q9.1 hc;exact h x
theorem Qnw:mg 0=.row []:=by simp [mg,G7,lm]
theorem D6:Hh 0=[LV.bool false,LV.row []]:=by simp [Hh,Qpc,Qnw]
end Orr
namespace Orr
open Go Go.Proofs Tryz
set_option maxRecDepth 10000
theorem MV {p:Uj} (hs:∀ z∈p,Fe z≤4294967295):sz (Rr p)≤4294967295:=by
 have key:∀ (p:Uj) (g:Nat),sz g≤4294967295->(∀ z∈p,Fe z≤4294967295)->sz (p.foldl (λg z=>Nat.gcd g z.natAbs) g)≤4294967295:=by
  intro p
  induction p with
  | nil=>exact λg h _=>h
  |
   cons z p ih =>
   intro g h hs;refine ih _ ?_ λy hy=>hs y (.tail _ hy)
   rcases Q0 g with h0 | h0
   ·subst h0; show sz (Nat.gcd 0 z.natAbs)<=_; rw [Nat.gcd_zero_left]; exact hs z (.head _)
   ·exact Qc (Su (Nat.gcd_le_left _ h0)) h
 exact key p 0 (by decide) hs
theorem Qdl {l:Up} {p:Uj} (hi:IsInts l p) (hs:∀ z∈p,Fe z≤4294967295):Ug 147 [.one (.row l)] [.agg (Hh ((Rr p:Nat):Int))]:=by
 refine Fw func147 rfl (ln 0 rfl rfl λhl=>?_);have hlp:=hi.len;refine Ua [.z 3,.r 3 (v:=lr (Fy (Rr (p.take 0)))) (by simp [Rr,G7,lm])] rfl ?_;refine ct 2 (S:=Unit) (λ_=>[(2,.v (.one (.ow 0 0))),(3,.v (lr (Fy (Rr p))))]) (λ_=>[.blk 36 [.bool false,.nils],.gone]) (λ_=>True) rfl ?_ ?_
 ·refine Uf (S:=Nat) 1 (λL1 i=>(12,.v (.oi i))::(3,.v (lr (Fy (Rr (p.take i)))))::L1) (λ_=>[.blk 36 [.bool false,.nils]]) (λi=>p.length-i) (λi=>i<=p.length) 0 (Qh _) rfl rfl λi hip=>?_
  by_cases h:i<p.length
  ·have hlt:i<l.length:=by omega
   obtain ⟨c,hc⟩:=gxE (l:=l) (i:=i) hlt;obtain ⟨z,hz⟩:=gxE (l:=p) (i:=i) h;obtain ⟨x,y,hc',b,r,rfl,rfl,hr,hzz⟩:=hi.get hz;rw [hc] at hc'; injection hc' with hc'; subst hc'
   have hsz:=hs z (Qa hz);have hg0:sz (Rr (p.take i))<=4294967295:=MV λy hy=>hs y (Qo hy)
   have ezr:z.natAbs=val r:=by rw [hzz,Rl]
   have cn:=VA hr (by rw [<-ezr]; exact Qc hsz (by decide));rw [<-ezr] at cn;refine Ua [.t (by simp; omega),.x hc,.k cn] rfl ?_;refine Uf (S:=Nat×Nat) 2 (λL1 s=>(3,.v (lr (Fy s.1)))::(6,.v (lr (Fy s.2)))::L1) (λ_=>[.blk 36 [.bool false,.nils],.blk 36 [.bool b,.row (lm r)]]) (λs=>s.2) (λs=>Nat.gcd s.1 s.2=Nat.gcd (Rr (p.take i)) z.natAbs/\sz s.1<=4294967295/\sz s.2<=4294967295) (Rr (p.take i),z.natAbs) ⟨rfl,hg0,hsz⟩ rfl rfl λ⟨g,u⟩ ⟨j1,j2,j3⟩=>?_
   dsimp only at j1 j2 j3 ⊢;have hul:=Dl (m:=u);by_cases hu:0<u
   ·have cd:=sP (m:=g) (n:=u) (by omega) (by omega) hu;refine Ua [.t (by simp [U4]; omega),.k cd] rfl ?_;exact rd (u,g % u) (Z5 _ hu) ⟨(Qnk g u).trans j1,j3,Qc (Su (Yf (Z5 _ hu))) j3⟩ rfl
   ·obtain rfl:u=0:=by omega
    rw [Nat.gcd_zero_right,<-Qbb hz] at j1;subst j1;by_cases h1:Rr (p.take (i+1))=1
    ·have e1:Fy (Rr (p.take (i+1)))=[1]:=by rw [h1,En (by decide)]; simp [G7]
     refine Ua [.f (by simp [G7,lm]),.t (by rw [e1]; rfl),.x (G8 (i:=0) (x:=1) (by rw [e1]; rfl)),.t rfl] rfl ?_;exact rc () trivial (by rw [h1,Qgi h1]; rfl)
    ·obtain ⟨g,hg⟩:=nmE (Rr (p.take (i+1)));rw [<-hg] at h1 j2 ⊢;by_cases h2:(Fy g).length=1
     ·obtain ⟨v,hv⟩:∃ v,Fy g=[v]:=by
       match hm:Fy g,h2 with
       | [v],_=>exact ⟨v,rfl⟩
      have hv1:v≠1:=λe=>h1 (by rw [<-G5 g,hv,e]; rfl)
      refine go tt [.f (by simp [G7,lm]),.t (by simp [U4,h2]),.x (G8 (i:=0) (x:=v) (by rw [hv]; rfl)),.f (by simp; omega)] rfl (by simp [Uz] <;> omega) ?_;exact rd (i+1) (by omega) h (by rw [<-hg]; rfl)
     ·refine go tt [.f (by simp [G7,lm]),.f (by simp [U4]; omega),.f rfl] rfl (by simp [Uz] <;> omega) ?_;exact rd (i+1) (by omega) h (by rw [<-hg]; rfl)
  ·obtain rfl:i=p.length:=by omega
   refine Ua [.f (by simp; omega)] rfl ?_;rw [Q5];exact rc () trivial rfl
 ·intro _ _;have cn:=VA (Ld (Rr p)) (by rw [G5]; exact Qc (MV hs) (by decide));rw [G5] at cn;exact Uc [.k cn,.k (Pp false _)] rfl (by simp [Fb]) trivial
end Orr
namespace Orr
def Bd (s:Nat) (p:Uj):Prop:=∀ z∈p,Fe z≤s
theorem M5:Fe 0=0:=rfl
theorem Qda {s:Nat} {p:Uj} (h:Bd s p) {i:Nat} {z:Int} (hz:p[i]? = some z):Fe z<=s:=h z (Qa hz)
theorem Fo {s:Nat} {p:Uj} (h:Bd s p) (k:Nat):Fe (p.getD k 0)<=s:=by
 rw [Qi];cases hk:p[k]? with
 | none=>rw [Kw,M5]; exact Qh _
 | some z=>exact Qda h hk
theorem U0 {s t:Nat} {p:Uj} (h:Bd s p) (ht:s<=t):Bd t p:=λz hz=>Qc (h z hz) ht
theorem VL {s:Nat}:Bd s []:=λz hz=>by cases hz
theorem Qrv {s:Nat} {n:Nat} {g:Nat->Int} (h:∀ k,k<n->Fe (g k)<=s):Bd s ((List.range n).map g):=λz hz=>by
 obtain ⟨k,hk,rfl⟩:=Q9.1 hz;exact h k (Kh.1 hk)
theorem rA:∀ (l:Uj),∀ z∈trim l,z∈l
 | [],z,h=>by cases h
 |
  x::l,z,h=>by
  have ih:=rA l;cases hl:trim l with
  |
   nil =>
   simp only [trim,hl] at h
   split at h
   ·cases h
   ·rw [Qk] at h; rw [h]; exact Qx ..
  |
   cons y k =>
   simp only [trim,hl] at h;rcases Qm.1 h with rfl | h
   ·exact Qx ..
   ·exact Qg _ (ih z (by rw [hl]; exact h))
theorem Rq (l:Uj):(trim l).length<=l.length:=by
 induction l with
 | nil=>exact Ql _
 |
  cons x l ih =>
  cases hl:trim l with
  | nil=>simp only [trim,hl]; split <;> simp
  | cons y k=>simp only [trim,hl]; rw [hl] at ih; simp at ih ⊢; exact ih
theorem Sr {s:Nat} {p:Uj} (h:Bd s p):Bd s (trim p):=λz hz=>h z (rA p z hz)
theorem YL:∀ (l:Uj) (k:Nat),(trim l).getD k 0=l.getD k 0
 | [],k=>rfl
 |
  x::l,k=>by
  have ih:=YL l;cases hl:trim l with
  |
   nil =>
   rw [hl] at ih;simp only [trim,hl]
   split
   ·rename_i hx;cases k with
    | zero=>simp [hx]
    | succ k=>have:=ih k; simp at this ⊢; exact this
   ·cases k with
    | zero=>simp
    | succ k=>have:=ih k; simp at this ⊢; exact this
  |
   cons y m =>
   rw [hl] at ih;simp only [trim,hl];cases k with
   | zero=>simp
   | succ k=>have:=ih k; simp at this ⊢; exact this
def Av (n:Nat) (g:Nat->Int):Uj:=trim ((List.range n).map g)
theorem Fv (n:Nat) (g:Nat->Int):U9 (Av n g):=Tj _
theorem Iz (n:Nat) (g:Nat->Int):(Av n g).length<=n:=Qc (Rq _) (by simp)
theorem Sx (n:Nat) (g:Nat->Int) (k:Nat):(Av n g).getD k 0=if k<n then g k else 0:=by
 unfold Av;rw [YL,Qi,Q6]
 split
 ·rename_i h; rw [List.getElem?_range h]; rfl
 ·rename_i h; rw [List.getElem?_eq_none (by simpa using h)]; rfl
theorem JB {s n:Nat} {g:Nat->Int} (h:∀ k,k<n->Fe (g k)<=s):Bd s (Av n g):=Sr (Qrv h)
def ZU (p q:Uj):Uj:=Av (max p.length q.length) λk=>p.getD k 0+q.getD k 0
def Mx (p q:Uj):Uj:=Av (max p.length q.length) λk=>p.getD k 0-q.getD k 0
def Mk (p:Uj):Uj:=Av p.length λk=>-(p.getD k 0)
def Ft (p:Uj) (c:Int):Uj:=Av p.length λk=>p.getD k 0*c
def Gu (p:Uj):Uj:=Av (p.length-1) λk=>p.getD (k+1) 0*((k+1:Nat):Int)
theorem WS {s t:Nat} {p q:Uj} (h:Bd s p) (h':Bd t q):Bd (max s t+1) (ZU p q):=JB λk _=>Qc (YK _ _) (by have:=Fo h k; have:=Fo h' k; omega)
theorem Dd {s t:Nat} {p q:Uj} (h:Bd s p) (h':Bd t q):Bd (max s t+1) (Mx p q):=JB λk _=>Qc (jX _ _) (by have:=Fo h k; have:=Fo h' k; omega)
theorem PS {s:Nat} {p:Uj} (h:Bd s p):Bd s (Mk p):=JB λk _=>by rw [Hw]; exact Fo h k
theorem Gd {s t:Nat} {p:Uj} {c:Int} (h:Bd s p) (hc:Fe c<=t):Bd (s+t) (Ft p c):=JB λk _=>Qc (Gh _ _) (by have:=Fo h k; omega)
theorem XF (p q:Uj):(ZU p q).length<=max p.length q.length:=Iz _ _
theorem M7 (p q:Uj):(Mx p q).length<=max p.length q.length:=Iz _ _
theorem XG (p:Uj):(Mk p).length<=p.length:=Iz _ _
theorem Fx (p:Uj) (c:Int):(Ft p c).length<=p.length:=Iz _ _
theorem M6 (p:Uj):(Gu p).length<=p.length-1:=Iz _ _
theorem jZ {k t:Nat} (h:k<2^t):Fe (k:Int)<=t:=by rw [Si]; simpa using h
theorem Qbg {k:Nat} (h:k<274877906944):Fe (k:Int)<=4294967295:=Qc (jZ (t:=38) (Kf h (by decide))) (by omega)
theorem zM {s t:Nat} {p:Uj} (h:Bd s p) (hl:p.length<=2^t):Bd (s+t) (Gu p):=JB λk hk=>Qc (Gh _ _) (by
 have:=Fo h (k+1);have:=jZ (k:=k+1) (t:=t) (by omega);omega)
def I8 (x:Int) (b:Uj) (i:Nat) (o:Uj):Nat->Uj
 | 0=>o
 | k+1=>(I8 x b i o k).set (i+k) ((I8 x b i o k).getD (i+k) 0+x*b.getD k 0)
def Aj (a b o:Uj):Nat->Uj
 | 0=>o
 | i+1=>I8 (a.getD i 0) b i (Aj a b o i) b.length
def Gk (a b:Uj):Uj:=if a.length=0\/b.length=0 then [] else trim (Aj a b (List.replicate (a.length+b.length-1) 0) a.length)
theorem I9 (x:Int) (b:Uj) (i:Nat) (o:Uj) (k:Nat):(I8 x b i o k).length=o.length:=by
 induction k with
 | zero=>rfl
 | succ k ih=>simp [I8,ih]
theorem D4 (a b o:Uj) (i:Nat):(Aj a b o i).length=o.length:=by
 induction i with
 | zero=>rfl
 | succ i ih=>simp [Aj,I9,ih]
theorem Qgp (l:Uj) (i m:Nat) (v:Int) (h:i<l.length):(l.set i v).getD m 0=if m=i then v else l.getD m 0:=by
 rw [Qi,Yi,Qi];by_cases e:i=m
 ·subst e; simp [h]
 ·rw [if_neg e,if_neg (λh=>e h.symm)]
theorem Qbo (x:Int) (b:Uj) (i:Nat) (o:Uj) (k m:Nat) (h:i+k<=o.length):(I8 x b i o k).getD m 0=if i<=m/\m<i+k then o.getD m 0+x*b.getD (m-i) 0 else o.getD m 0:=by
 induction k with
 | zero=>simp only [I8]; rw [if_neg (by omega)]
 |
  succ k ih =>
  have ih:=ih (by omega);simp only [I8];rw [Qgp _ _ _ _ (by rw [I9]; omega)];by_cases e:m=i+k
  ·subst e;rw [if_pos rfl,if_pos (by omega),show i+k-i=k from by omega];rw [ih,if_neg (by omega)]
  ·rw [if_neg e,ih];by_cases h1:i<=m/\m<i+k
   ·rw [if_pos h1,if_pos (by omega)]
   ·rw [if_neg h1,if_neg (by omega)]
theorem M8 {x y:Int} {s t:Nat} (hx:Fe x<=s) (hy:Fe y<=t):(x*y).natAbs<=2^(s+t):=by
 have h:=Qc (Gh x y) (show _<=s+t by omega);rw [Si] at h; omega
theorem jT {x:Int} {b:Uj} {i:Nat} {o:Uj} {k M:Nat} (h:i+k<=o.length) (ho:∀ m,(o.getD m 0).natAbs<=i*M) (hx:∀ j,(x*b.getD j 0).natAbs<=M) (m:Nat):((I8 x b i o k).getD m 0).natAbs<=(i+1)*M:=by
 rw [Qbo x b i o k m h,Xa];have h1:=ho m
 split
 ·have h2:=hx (m-i);generalize i*M=q at *;omega
 ·omega
theorem jR {a b o:Uj} {i M:Nat} (h:∀ j,j<i->j+b.length<=o.length) (ho:∀ m,o.getD m 0=0) (hx:∀ i j,(a.getD i 0*b.getD j 0).natAbs<=M) (m:Nat):((Aj a b o i).getD m 0).natAbs<=i*M:=by
 induction i generalizing m with
 | zero=>simp only [Aj]; rw [ho]; simp
 |
  succ i ih =>
  simp only [Aj];exact jT (by rw [D4]; exact h i (by omega)) (ih λj hj=>h j (by omega)) (hx i) m
theorem Ij {z:Int} {i s t:Nat} (h:z.natAbs<=i*2^s) (hi:i<2^t):Fe z<=s+t:=by
 rw [Si];have h1:i*2^s<2^t*2^s:=Xl hi (Z2 (by decide));rw [<-Xe,Jr t s] at h1;omega
theorem B9 (n m:Nat):(List.replicate n (0:Int)).getD m 0=0:=by
 rw [Qi,Jv]; split <;> rfl
theorem NR {s:Nat} {p:Uj} (h:∀ m,Fe (p.getD m 0)<=s):Bd s p:=λz hz=>by
 obtain ⟨i,hi⟩:=Zj.1 hz;have:=h i;rw [Qi,hi] at this;exact this
theorem Sy (a b:Uj):(Gk a b).length<=a.length+b.length-1:=by
 unfold Gk
 split
 ·simp
 ·refine Qc (Rq _) ?_;rw [D4]; simp
theorem Mf {s t u:Nat} {a b:Uj} (ha:Bd s a) (hb:Bd t b) (hl:a.length<2^u):Bd (s+t+u) (Gk a b):=by
 unfold Gk
 split
 ·exact VL
 ·refine Sr (NR λm=>?_);exact Ij (jR (M:=2^(s+t)) (λj hj=>by simp; omega) (B9 _) (λi j=>M8 (Fo ha i) (Fo hb j)) m) hl
theorem Hu (a b:Uj):U9 (Gk a b):=by
 unfold Gk
 split
 ·rfl
 ·exact Tj _
def Lr (a:Uj) (n d:Int):Nat->Int×Int
 | 0=>(0,1)
 | k+1=>((Lr a n d k).1*n+a.getD (a.length-1-k) 0*(Lr a n d k).2,(Lr a n d k).2*d)
def Quo (a:Uj) (n d:Int):Int:=(Lr a n d a.length).1
theorem iE {a:Uj} {n d:Int} {s t k:Nat} (ha:Bd s a) (hn:Fe n<=t) (hd:Fe d<=t):Fe (Lr a n d k).1<=s+2+k*(t+1)/\Fe (Lr a n d k).2<=1+k*t:=by
 induction k with
 | zero=>exact ⟨by simp [Lr,M5],by simp [Lr]; decide⟩
 |
  succ k ih =>
  obtain ⟨h1,h2⟩:=ih;have h3:=Fo ha (a.length-1-k);have e1:k*(t+1)=k*t+k:=by rw [Xi,Ys]
  rw [Xa,Xa];refine ⟨?_,?_⟩
  ·simp only [Lr];refine Qc (YK _ _) ?_;have h4:=Gh (Lr a n d k).1 n;have h5:=Gh (a.getD (a.length-1-k) 0) (Lr a n d k).2;generalize k*t=q at *;rw [e1] at h1 ⊢;omega
  ·simp only [Lr];have h4:=Gh (Lr a n d k).2 d;generalize k*t=q at *;omega
end Orr
namespace Orr
theorem xY {x y:Int}:Dw x y=0↔x=y:=by
 unfold Dw;constructor
 ·intro h
  split at h
  ·omega
  ·split at h <;> omega
 ·rintro rfl; simp
theorem H5 {p:Uj} (h:U9 p) (h0:0<p.length):p.getD (p.length-1) 0≠0:=by
 induction p with
 | nil=>simp at h0
 |
  cons x l ih =>
  unfold U9 at h;cases hl:trim l with
  |
   nil =>
   simp only [trim,hl] at h
   split at h
   ·cases h
   ·rename_i hx;injection h with h1 h2;subst h2;simpa using hx
  |
   cons y k =>
   simp only [trim,hl] at h;injection h with h1 h2;rw [<-hl] at h2;have ih:=ih h2 (by rw [<-h2,hl]; simp);have h3:0<l.length:=by rw [<-h2,hl]; simp
   simp only [Q7,J7];obtain ⟨m,hm⟩:∃ m,l.length=m+1:=⟨l.length-1,by omega⟩;rw [hm] at ih ⊢;simpa using ih
end Orr
namespace Orr
theorem fZ (p:Uj):(List.range p.length).map (λk=>p.getD k 0)=p:=by
 apply Xj;intro i;rw [Q6];rcases Za i p.length with h | h
 ·rw [Xx h];simp [Qe h]
 ·rw [Qw (by simpa using h),Qw h]; rfl
theorem CY {p q:Uj} (hl:p.length=q.length) (h:∀ j,j<p.length->p.getD j 0=q.getD j 0):p=q:=by
 rw [<-fZ p,<-fZ q,<-hl];exact Xo λj hj=>h j (Kh.1 hj)
end Orr
namespace Orr
abbrev rl (q:Rat):Uo:=[sg q.num,mg q.num,sg (q.den:Int),mg (q.den:Int)]
theorem Dy (n d:Int):Rr [n,d]=Int.gcd d n:=by
 unfold Rr;simp only [Z9,List.foldl_nil,Nat.gcd_zero_left];exact Nat.gcd_comm _ _
theorem uW {n d:Int} (hd:d≠0):(0:Int)<((Rr [n,d]:Nat):Int):=by
 rw [Dy];have:=Int.gcd_pos_of_ne_zero_left n hd;omega
theorem CC (n d:Int):n % ((Rr [n,d]:Nat):Int)=0:=by
 rw [Dy]; exact Ym (Wu ..)
theorem CL (n d:Int):d % ((Rr [n,d]:Nat):Int)=0:=by
 rw [Dy]; exact Ym (Int.gcd_dvd_left ..)
theorem aY {n g:Int} (h:n % g=0):-n % g=0:=by
 exact Ym (Int.dvd_neg.2 (Ve h))
theorem lO {n d:Int} {s:Nat} (hd:d≠0) (h:Fe d<=s):Fe ((Rr [n,d]:Nat):Int)<=s:=by
 rw [Dy];refine Qc (Su ?_) h;have:=Ku (by omega:0<d.natAbs) (show Int.gcd d n∣d.natAbs from Wx _ _);simpa using this
theorem eD {n d:Int} (hd:0<d):n / ((Rr [n,d]:Nat):Int)=(Rat.divInt n d).num/\d / ((Rr [n,d]:Nat):Int)=((Rat.divInt n d).den:Int):=by
 rw [Dy,Rat.num_divInt,Wj,if_neg (by omega),Yp hd,Kq];refine ⟨rfl,?_⟩;rw [Int.natCast_ediv,Int.natAbs_of_nonneg (by omega)]
theorem Qnv {n d:Int} (hd:d<0):-n / ((Rr [n,d]:Nat):Int)=(Rat.divInt n d).num/\-d / ((Rr [n,d]:Nat):Int)=((Rat.divInt n d).den:Int):=by
 rw [Dy,Rat.num_divInt,Wj,if_neg (by omega),J3 hd,Ko,Kq];refine ⟨rfl,?_⟩;rw [Int.natCast_ediv,Int.ofNat_natAbs_of_nonpos (by omega)]
theorem XK (u g:Int):Fe (u / g)<=Fe u:=by
 unfold Fe;exact Su (Int.natAbs_ediv_le_natAbs u g)
theorem Ac {n d:Int} {s:Nat} (h:Fe n<=s):Fe (Rat.divInt n d).num<=s:=by
 rw [Rat.num_divInt];refine Qc (XK _ _) ?_;unfold Fe;rw [J5];refine Qc (Su ?_) h;have:d.sign.natAbs<=1:=by rcases Aq d with ⟨_,e⟩ | ⟨_,e⟩ | ⟨_,e⟩ <;> rw [e] <;> decide
 calc d.sign.natAbs*n.natAbs<=1*n.natAbs:=Qz _ this
  _=n.natAbs:=Wl _
theorem Ab {n d:Int} {s:Nat} (h:Fe d<=s) (h1:1<=s):Fe ((Rat.divInt n d).den:Int)<=s:=by
 rw [Wj]
 split
 ·exact h1
 ·refine Qc (Su ?_) h;exact Jy _ _
def Qs (s:Nat) (q:Rat):Prop:=Fe q.num<=s/\Fe (q.den:Int)<=s
theorem Qs.mono {s t:Nat} {q:Rat} (h:Qs s q) (ht:s<=t):Qs t q:=⟨Qc h.1 ht,Qc h.2 ht⟩
theorem Qs.divInt {s:Nat} {n d:Int} (h:Fe n<=s) (h':Fe d<=s) (h1:1<=s):Qs s (Rat.divInt n d):=⟨Ac h,Ab h' h1⟩
theorem E4 (q:Rat):(q.den:Int)≠0:=by have:=q.den_nz; omega
theorem den_pos (q:Rat):(0:Int)<(q.den:Int):=by have:=q.den_nz; omega
def Gw (n d:Int):Rat:=Rat.divInt n (if d=0 then 1 else d)
theorem Ss (q:Rat):Gw q.num q.den=q:=by
 unfold Gw;rw [if_neg (E4 q)]; exact Z4 q
def Ha (a b:Rat):Int:=Dw (a.num*(b.den:Int)) (b.num*(a.den:Int))
theorem Nl {a b:Rat}:Ha a b<0↔a<b:=by
 rw [Rat.lt_iff]; unfold Ha Dw;constructor
 ·intro h; split at h
  ·assumption
  ·split at h <;> omega
 ·intro h; rw [if_pos h]; decide
theorem L9 {a b:Rat}:0<Ha a b↔b<a:=by
 rw [Rat.lt_iff]; unfold Ha Dw;constructor
 ·intro h; split at h
  ·omega
  ·split at h
   ·assumption
   ·omega
 ·intro h; rw [if_neg (by omega),if_pos h]; decide
theorem Ej (a:Rat):Ha a a=0:=by unfold Ha Dw; simp
structure Crv where
 x:List Int
 y:List Int
 d:Int
abbrev cl (k:Crv):Uo:=[pl k.x,pl k.y,sg k.d,mg k.d]
def Crv.d' (k:Crv):Int:=if k.d=0 then 1 else k.d
def Crv.g (k:Crv):Int:=if k.d'<0 then -((Rr (k.d'::(trim k.x++trim k.y)):Nat):Int) else (Rr (k.d'::(trim k.x++trim k.y)):Nat)
def Crv.norm (k:Crv):Crv:=⟨trim ((trim k.x).map (· / k.g)),trim ((trim k.y).map (· / k.g)),k.d' / k.g⟩
theorem ZO {l:Uj}:∀ z∈l,((Rr l:Nat):Int)∣z:=by
 have key:∀ (l:Uj) (g:Nat),(l.foldl (λg z=>Nat.gcd g z.natAbs) g∣g)/\∀ z∈l,l.foldl (λg z=>Nat.gcd g z.natAbs) g∣z.natAbs:=by
  intro l
  induction l with
  | nil=>intro g; exact ⟨Nat.dvd_refl _,by simp⟩
  |
   cons u l ih =>
   intro g;obtain ⟨h1,h2⟩:=ih (Nat.gcd g u.natAbs);refine ⟨Nat.dvd_trans h1 (Wx _ _),λz hz=>?_⟩;rcases Qm.1 hz with rfl | hz
   ·exact Nat.dvd_trans h1 (Nat.gcd_dvd_right _ _)
   ·exact h2 z hz
 intro z hz;have:=(key l 0).2 z hz;exact Wo.2 this
theorem Crv.d'_ne (k:Crv):k.d'≠0:=by unfold Crv.d'; split <;> omega
theorem Crv.gcd_ne (k:Crv):Rr (k.d'::(trim k.x++trim k.y))≠0:=by
 intro e;have h:=ZO (l:=k.d'::(trim k.x++trim k.y)) k.d' (Qx ..);rw [e] at h;exact k.d'_ne (by simpa using h)
theorem Crv.g_ne (k:Crv):k.g≠0:=by
 have h0:=k.gcd_ne;unfold Crv.g
 split <;> omega
theorem Crv.g_dvd (k:Crv):∀ z∈k.d'::(trim k.x++trim k.y),z % k.g=0:=by
 intro z hz;have h:=ZO z hz;refine Ym ?_;unfold Crv.g
 split
 ·exact W9.2 h
 ·exact h
theorem Crv.isz_g (k:Crv) {s:Nat} (h:Fe k.d'<=s):Fe k.g<=s:=by
 have hd:=ZO (l:=k.d'::(trim k.x++trim k.y)) k.d' (Qx ..);have hle:Rr (k.d'::(trim k.x++trim k.y))<=k.d'.natAbs:=Ku (by have:=k.d'_ne; omega) (Wo.1 hd);refine Qc (Su ?_) h;unfold Crv.g
 split <;> simp <;> exact hle
structure Cs (s n:Nat) (k:Crv):Prop where
 x:Bd s k.x
 y:Bd s k.y
 d:Fe k.d<=s
 lx:k.x.length<=n
 ly:k.y.length<=n
theorem Qg3 {k:Crv} {s:Nat} (h:Fe k.d<=s) (h1:1<=s):Fe k.d'<=s:=by unfold Crv.d'; split <;> first | exact h1 | exact h
theorem GM {s:Nat} {p:Uj} (h:Bd s p) (g:Int):Bd s (p.map (· / g)):=λz hz=>by
 obtain ⟨u,hu,rfl⟩:=Q9.1 hz;exact Qc (XK u g) (h u hu)
theorem Cs.norm {s n:Nat} {k:Crv} (h:Cs s n k) (h1:1<=s):Cs s n k.norm:=by
 refine ⟨Sr (GM (Sr h.x) _),Sr (GM (Sr h.y) _),Qc (XK _ _) (Qg3 h.d h1),?_,?_⟩
 ·refine Qc (Rq _) ?_; rw [Q8]; exact Qc (Rq _) h.lx
 ·refine Qc (Rq _) ?_; rw [Q8]; exact Qc (Rq _) h.ly
theorem Cs.mono {s n t m:Nat} {k:Crv} (h:Cs s n k) (hs:s<=t) (hn:n<=m):Cs t m k:=⟨U0 h.x hs,U0 h.y hs,Qc h.d hs,Qc h.lx hn,Qc h.ly hn⟩
def JP (k:Crv):Prop:=U9 k.x/\U9 k.y/\0<k.d/\Rr (k.d::(k.x++k.y))=1
theorem Crv.norm_of {k:Crv} (h:JP k):k.norm=k:=by
 obtain ⟨h1,h2,h3,h4⟩:=h;have hd:k.d'=k.d:=by unfold Crv.d'; rw [if_neg (by omega)]
 have hx:trim k.x=k.x:=h1;have hy:trim k.y=k.y:=h2;have hg:k.g=1:=by unfold Crv.g; rw [hd,hx,hy,h4,if_neg (by omega)]; rfl
 unfold Crv.norm;rw [hg,hd,hx,hy];simp [hx,hy]
theorem xC {l:Uj} {g:Int} (hg:g≠0) (hga:g.natAbs=Rr l):Rr (l.map (· / g))=1:=by
 have key:∀ (l:Uj) (a:Nat),(∀ z∈l,g∣z)->l.foldl (λa z=>Nat.gcd a z.natAbs) (a*g.natAbs)=((l.map (· / g)).foldl (λa z=>Nat.gcd a z.natAbs) a)*g.natAbs:=by
  intro l
  induction l with
  | nil=>intro a _; rfl
  |
   cons z l ih =>
   intro a h;simp only [Z0,Z9];have hz:z.natAbs=(z / g).natAbs*g.natAbs:=by
    obtain ⟨q,rfl⟩:=h z (Qx ..);rw [Ja _ hg,J5,Zp]
   rw [hz,Nat.gcd_mul_right];exact ih _ λu hu=>h u (Qg _ hu)
 have h:=key l 0 λz hz=>Xy.1 (by rw [hga]; exact Xy.2 (ZO z hz))
 rw [Yg] at h;have h':Rr l=Rr (l.map (· / g))*g.natAbs:=h;rw [<-hga] at h';have hp:0<g.natAbs:=by omega
 exact Nat.eq_of_mul_eq_mul_right hp (by rw [Wl]; exact h'.symm)
theorem JF {l:Uj} {g:Int} (ht:U9 l) (hg:g≠0) (hd:∀ z∈l,g∣z):U9 (l.map (· / g)):=by
 induction l with
 | nil=>rfl
 |
  cons x l ih =>
  have hne:∀ z∈x::l,z≠0->z / g≠0:=λz hz h0 h1=>by
   obtain ⟨q,rfl⟩:=hd z hz;rw [Ja _ hg] at h1;rw [h1] at h0; simp at h0
  unfold U9 at ht ih ⊢;cases hl:trim l with
  |
   nil =>
   simp only [trim,hl] at ht
   split at ht
   ·cases ht
   ·rename_i hx;injection ht with _ h2;subst h2;simp [trim,hne x (Qx ..) hx]
  |
   cons y k =>
   simp only [trim,hl] at ht;injection ht with _ h2;have hll:trim l=l:=by rw [hl]; exact h2
   have ih:=ih hll λz hz=>hd z (Qg _ hz)
   rw [Z0];have hne2:l.map (· / g)≠[]:=by rw [<-hll,hl]; simp
   cases hm:l.map (· / g) with
   | nil=>exact absurd hm hne2
   |
    cons u w =>
    rw [hm] at ih;have e:trim (x / g::u::w)=match trim (u::w) with | []=>if x / g=0 then [] else [x / g] | y::k=>x / g::y::k:=rfl
    rw [e,ih]
theorem Crv.nml (k:Crv):JP k.norm:=by
 have hg:=k.g_ne;have hdv:∀ z∈k.d'::(trim k.x++trim k.y),k.g∣z:=λz hz=>Ve (k.g_dvd z hz)
 have hx:=JF (g:=k.g) (Tj k.x) hg λz hz=>hdv z (by simp [hz])
 have hy:=JF (g:=k.g) (Tj k.y) hg λz hz=>hdv z (by simp [hz])
 refine ⟨Tj _,Tj _,?_,?_⟩
 ·show 0<k.d' / k.g;obtain ⟨q,hq⟩:=hdv k.d' (Qx ..);have h0:=k.d'_ne;have hgc:=k.gcd_ne;have e:k.d' / k.g=q:=by rw [hq,Ja _ hg]
  rw [e];unfold Crv.g at hq hg;have hq0:q≠0:=λe=>by rw [e,Wb] at hq; exact h0 hq
  split at hq
  ·rename_i hneg;rcases Wn hq0 with h | h
   ·have:=V7 (a:=-((Rr (k.d'::(trim k.x++trim k.y)):Nat):Int)) (b:=q) (by omega) h;omega
   ·exact h
  ·rename_i hneg;rcases Wn hq0 with h | h
   ·have:=V6 (a:=((Rr (k.d'::(trim k.x++trim k.y)):Nat):Int)) (b:=q) (by omega) h;omega
   ·exact h
 ·show Rr (k.d' / k.g::(trim ((trim k.x).map (· / k.g))++trim ((trim k.y).map (· / k.g))))=1;rw [show trim ((trim k.x).map (· / k.g))=(trim k.x).map (· / k.g) from hx,show trim ((trim k.y).map (· / k.g))=(trim k.y).map (· / k.g) from hy,<-Yc,<-Z0 (f:=(· / k.g))];refine xC hg ?_;unfold Crv.g
  split <;> omega
structure Pt where
 c:Crv
 id:Int
def Fa (p:Pt):Uo:=[pl p.c.x,pl p.c.y,sg p.c.d,mg p.c.d,.int .i64 p.id]
def pts (l:List Pt):LV:=.row (l.map Fa)
def Im:List Pt->Int->Nat
 | [],_=>0
 | p::l,id=>if p.id<id then Im l id+1 else 0
def has (l:List Pt) (id:Int):Bool:=match l[Im l id]? with
 | some p=>decide (p.id=id)
 | none=>false
theorem nW (l:List Pt) (id:Int):Im l id<=l.length:=by
 induction l with
 | nil=>exact Ql _
 | cons p l ih=>simp only [Im]; split <;> simp <;> omega
theorem LH:∀ {l:List Pt} {id:Int} {k:Nat},(∀ j p,j<k->l[j]? = some p->p.id<id)->(k=l.length\/∃ p,l[k]? = some p/\¬p.id<id)->Im l id=k
 |
  [],id,k,_,h=>by
  rcases h with h | ⟨p,h,_⟩
  ·subst h; rfl
  ·simp at h
 |
  q::l,id,0,_,h=>by
  rcases h with h | ⟨p,h,h2⟩
  ·simp at h
  ·simp at h; subst h; simp [Im,h2]
 |
  q::l,id,k+1,h1,h=>by
  have hq:=h1 0 q (by omega) rfl;simp only [Im,hq,if_true];rw [LH (k:=k) (λj p hj hp=>h1 (j+1) p (by omega) (by simpa using hp))];rcases h with h | ⟨p,h,h2⟩
  ·left; simpa using h
  ·right; exact ⟨p,by simpa using h,h2⟩
def put (l:List Pt) (q:Pt):List Pt:=l.take (Im l q.id)++q::l.drop (Im l q.id)
def KA (l:List Pt) (q:Pt):Int:=if has l q.id=true then 6 else if 6<=l.length then 9 else 0
def oY (s n:Nat) (p:Pt):Prop:=JP p.c/\Cs s n p.c
theorem iQ (l:List Pt) (q:Pt):(put l q).length=l.length+1:=by
 have:=nW l q.id;simp [put]; omega
theorem MP {l:List Pt} {q p:Pt} (h:p∈put l q):p=q\/p∈l:=by
 unfold put at h;rcases Qq.1 h with h | h
 ·exact .inr (Qo h)
 ·rcases Qm.1 h with h | h
  ·exact .inl h
  ·exact .inr (Q3 h)
def Lt (a b:Crv):Bool:=decide (a.x=b.x/\a.y=b.y/\a.d=b.d)
def Bq (out:List Pt) (p:Pt):List Pt:=if out.any (λq=>Lt p.c q.c)=true then out else out++[p]
def Te (l:List Pt):List Pt:=l.foldl Bq []
theorem Qcl {out:List Pt} {p q:Pt} (h:q∈Bq out p):q∈out\/q=p:=by
 unfold Bq at h
 split at h
 ·exact .inl h
 ·rcases Qq.1 h with h | h
  ·exact .inl h
  ·exact .inr (by simpa using h)
theorem Qck (out:List Pt) (p:Pt):(Bq out p).length<=out.length+1:=by
 unfold Bq; split <;> simp
theorem Tt {α β:Type} (f:β->α->β) (b:β) (l:List α) {i:Nat} {x:α} (h:l[i]? = some x):(l.take (i+1)).foldl f b=f ((l.take i).foldl f b) x:=by
 rw [Y5,h]; simp [Vq]
theorem VD (l:List Pt) (i:Nat):∀ q∈(l.take i).foldl Bq [],q∈l:=by
 induction i with
 | zero=>simp
 |
  succ i ih =>
  intro q hq;cases hi:l[i]? with
  |
   none =>
   rw [Qn (by have:=Jn.1 hi; omega)] at hq;rw [Qn (Jn.1 hi)] at ih;exact ih q hq
  |
   some x =>
   rw [Tt _ _ _ hi] at hq;rcases Qcl hq with h | h
   ·exact ih q h
   ·subst h; exact Qa hi
theorem VC (l:List Pt) (i:Nat):((l.take i).foldl Bq []).length<=i:=by
 induction i with
 | zero=>simp
 |
  succ i ih =>
  cases hi:l[i]? with
  |
   none =>
   rw [Qn (by have:=Jn.1 hi; omega)];rw [Qn (Jn.1 hi)] at ih;omega
  |
   some x =>
   rw [Tt _ _ _ hi];have:=Qck ((l.take i).foldl Bq []) x;omega
theorem Nj {l:List Pt} {q:Pt} (h:q∈Te l):q∈l:=by
 have:=VD l l.length q;rw [Q5] at this;exact this h
theorem Oy (l:List Pt):(Te l).length<=l.length:=by
 have:=VC l l.length;rwa [Q5] at this
def H7 (p:Uj) (q:Rat):Int:=Dw (Quo p q.num q.den) 0
abbrev qa (q:Rat):Uo:=pl [-q.num,(q.den:Int)]::(rl q++rl q)
def To (sgn:Uj->Int):Nat->Uj->Int
 | 0,_=>0
 | k+1,p=>if p.length=0 then 0 else if sgn p=0 then To sgn k (Gu p) else sgn p
theorem XX (sgn:Uj->Int):∀ (k:Nat) (p:Uj),p.length<=k->To sgn k p=To sgn p.length p
 |
  0,p,h=>by
  have:p.length=0:=by omega
  rw [this]
 |
  k+1,p,h=>by
  cases hp:p.length with
  | zero=>simp [To,hp]
  |
   succ m =>
   simp only [To];have h1:=M6 p;rw [XX sgn k (Gu p) (by omega),XX sgn m (Gu p) (by omega)]
theorem uH (sgn:Uj->Int) {p:Uj} (h:p.length=0):To sgn p.length p=0:=by rw [h]; rfl
theorem uF (sgn:Uj->Int) {p:Uj} (h:0<p.length) (hs:sgn p≠0):To sgn p.length p=sgn p:=by
 obtain ⟨m,hm⟩:∃ m,p.length=m+1:=⟨p.length-1,by omega⟩;rw [hm]; simp only [To]; rw [if_neg (by omega),if_neg hs]
theorem uG (sgn:Uj->Int) {p:Uj} (h:0<p.length) (hs:sgn p=0):To sgn p.length p=To sgn (Gu p).length (Gu p):=by
 obtain ⟨m,hm⟩:∃ m,p.length=m+1:=⟨p.length-1,by omega⟩;rw [hm]; simp only [To]; rw [if_neg (by omega),if_pos hs];exact XX sgn m _ (by have:=M6 p; omega)
structure Tm where
 p:List Int
 lo:Rat
 hi:Rat
abbrev ta (t:Tm):Uo:=pl t.p::(rl t.lo++rl t.hi)
abbrev tq (q:Rat):Tm:=⟨[-q.num,(q.den:Int)],q,q⟩
def Hg (sg:Uj->Int) (p:Uj):Int:=To sg p.length p
structure Pb (p:List Int):Prop where
 t:U9 p
 l:p.length<=64
 b:Bd 16777216 p
abbrev Qb (q:Rat):Prop:=Qs 16777216 q
abbrev Cb (k:Crv):Prop:=Cs 1048576 16 k
def Gg (a b:Crv):Uj:=Mx (Ft b.x a.d) (Ft a.x b.d)
def Gf (a b:Crv):Uj:=Mx (Ft b.y a.d) (Ft a.y b.d)
theorem fE {a b:Crv} (ha:Cb a) (hb:Cb b):Pb (Gg a b)/\(Gg a b).length<=16/\Bd 2097153 (Gg a b):=by
 have h1:Bd 2097153 (Gg a b):=U0 (Dd (Gd hb.x ha.d) (Gd ha.x hb.d)) (by omega);have h2:(Gg a b).length<=16:=by
  refine Qc (M7 _ _) ?_;have:=Fx b.x a.d; have:=Fx a.x b.d; have:=ha.lx; have:=hb.lx;omega
 exact ⟨⟨Fv _ _,by omega,U0 h1 (by omega)⟩,h2,h1⟩
theorem fD {a b:Crv} (ha:Cb a) (hb:Cb b):Pb (Gf a b)/\(Gf a b).length<=16/\Bd 2097153 (Gf a b):=by
 have h1:Bd 2097153 (Gf a b):=U0 (Dd (Gd hb.y ha.d) (Gd ha.y hb.d)) (by omega);have h2:(Gf a b).length<=16:=by
  refine Qc (M7 _ _) ?_;have:=Fx b.y a.d; have:=Fx a.y b.d; have:=ha.ly; have:=hb.ly;omega
 exact ⟨⟨Fv _ _,by omega,U0 h1 (by omega)⟩,h2,h1⟩
def Ln (sg:Uj->Int) (a b:Pt):Uk->Bool
 | []=>decide (a.id<b.id)
 | p::l=>if 0<p.length then decide (0<Hg sg p) else Ln sg a b l
def By (sg:Uj->Int) (a b:Pt):Bool:=Ln sg a b [Gf b.c a.c,Gg b.c a.c]
def Tk (sg:Uj->Int) (a b:Pt):Bool:=Ln sg a b [Gg a.c b.c,Gf a.c b.c]
end Orr
namespace Orr
open Go
structure Ct where
 kind:Int
 i0:Int
 i1:Int
 i2:Int
 i3:Int
 p:List Int
 want:Int
abbrev Da (c:Ct):Uo:=[.int .i64 c.kind,.int .i64 c.i0,.int .i64 c.i1,.int .i64 c.i2,.int .i64 c.i3,pl c.p,.int .i64 c.want]
def Lj (p q:Uj):Uj:=if 0<p.length then p else q
def Cx:Uj->Uj->Bool
 | x::l,y::m=>if x=y then Cx l m else decide (x<y)
 | _,_=>false
def uL (a b:Ct):Bool:=Cx [a.kind,a.i0,a.i1,a.i2,a.i3] [b.kind,b.i0,b.i1,b.i2,b.i3]
def XA (out:List Ct) (c:Ct):Nat->Nat
 | 0=>0
 |
  k+1=>match out[k]? with
  | some x=>if uL c x=true then XA out c k else k+1
  | none=>k+1
theorem aN (out:List Ct) (c:Ct):∀ k,XA out c k<=k
 | 0=>Ql _
 |
  k+1=>by
  simp only [XA]
  split
  ·split
   ·exact Nat.le_succ_of_le (aN out c k)
   ·exact Ql _
  ·exact Ql _
theorem Qoh {out:List Ct} {c x:Ct} {k:Nat} (hx:out[k]? = some x) (h:uL c x=true):XA out c (k+1)=XA out c k:=by
 simp only [XA,hx,h,if_true]
theorem Qif {out:List Ct} {c x:Ct} {k:Nat} (hx:out[k]? = some x) (h:uL c x=false):XA out c (k+1)=k+1:=by
 simp [XA,hx,h]
def KF (out:List Ct) (c:Ct):List Ct:=out.take (XA out c out.length)++c::out.drop (XA out c out.length)
theorem Qgw (out:List Ct) (c:Ct):(KF out c).length=out.length+1:=by
 have:=aN out c out.length;simp [KF]; omega
theorem Qgx {out:List Ct} {c x:Ct} (h:x∈KF out c):x=c\/x∈out:=by
 simp only [KF,Qq,Qm] at h;rcases h with h | h | h
 ·exact .inr (Qo h)
 ·exact .inl h
 ·exact .inr (Q3 h)
def Fp (l:List Ct):List Ct:=l.foldl KF []
theorem bG (l:List Ct) (c:Ct):Fp (l++[c])=KF (Fp l) c:=by simp [Fp,Vq]
theorem bR {l:List Ct} {i:Nat} {c:Ct} (h:l[i]? = some c):Fp (l.take (i+1))=KF (Fp (l.take i)) c:=by
 rw [Zv,h]; exact bG _ _
theorem IL:∀ (l acc:List Ct),(l.foldl KF acc).length=acc.length+l.length
 | [],acc=>by simp
 | c::l,acc=>by simp only [Z9]; rw [IL l (KF acc c),Qgw]; simp; omega
theorem Mn (l:List Ct):(Fp l).length=l.length:=by unfold Fp; rw [IL]; simp
theorem IE:∀ (l acc:List Ct) {x:Ct},x∈l.foldl KF acc->x∈l\/x∈acc
 | [],acc,x,h=>.inr h
 |
  c::l,acc,x,h=>by
  simp only [Z9] at h;rcases IE l _ h with h | h
  ·exact .inl (Qg _ h)
  ·rcases Qgx h with rfl | h
   ·exact .inl (Qx ..)
   ·exact .inr h
theorem Rv {l:List Ct} {x:Ct} (h:x∈Fp l):x∈l:=by
 rcases IE l [] h with h | h
 ·exact h
 ·cases h
theorem uP {α:Type} (l:List α) (z x:α) {k m':Nat} (hk:k<=l.length) (hm:m'=l.length-k) :
 ((l++[z]).take (k+1)++((l++[z]).drop k).take m'++(l++[z]).drop (k+1+m')).set k x=l.take k++x::l.drop k:=by
 subst hm;have e1:((l++[z]).drop k).take (l.length-k)=l.drop k:=by
  rw [We hk,Vp (by simp),Qn (by simp)]
 have e2:(l++[z]).drop (k+1+(l.length-k))=[]:=Yq (by simp; omega);rw [e1,e2,Zw];have e3:(l++[z]).take (k+1)=(l++[z]).take k++[(l++[z])[k]'(by simp; omega)]:=by rw [List.take_succ_eq_append_getElem]
 rw [e3,Vp hk,Zb,List.set_append,if_neg (by simp; omega)];simp [Zy hk]
def Ak (a b:Pt):Uj:=Lj (Gg a.c b.c) (Gf a.c b.c)
def Ah (a b:Pt):Uj:=Lj (Gf b.c a.c) (Gg b.c a.c)
def QP (sg:Uj->Int) (a b:Pt):Ct:={ kind:=1,i0:=a.id,i1:=b.id,i2:=0,i3:=0,p:=Ak a b,want:=Hg sg (Ak a b) }
def Dm (sg:Uj->Int) (a b:Pt):Ct:={ kind:=2,i0:=a.id,i1:=b.id,i2:=0,i3:=0,p:=Ah a b,want:=Hg sg (Ah a b) }
end Orr
namespace Orr
open Go Go.Proofs Tryz
set_option maxRecDepth 10000
abbrev pr (p:Uj):TV:=.one (pl p)
theorem Pe {p:Uj} {i:Nat} {z:Int} (h:p[i]? = some z):(p.map Hh)[i]? = some (Hh z):=Gt h
theorem BJ (p:Uj):Ug 117 [pr p] [pr (trim p)]:=by
 refine Fw func117 rfl (ln 0 rfl rfl λhl=>?_);rw [Q8] at hl;refine Ua [] rfl ?_;refine lp (S:=Nat) 0 (λL1 n=>(3,.v (.oi n))::L1) (λ_=>[]) id (λn=>n<=p.length/\∀ j x,n<=j->p[j]? = some x->x=0) (p.map Hh).length ⟨by simp,λj x h1 h2=>by
  have:=(Qf.1 h2).1; simp at h1; omega⟩ rfl (λ_ _=>rfl) rfl λn ⟨h1,h2⟩=>?_
 cases n with
 | zero=>exact Uc [.f (by simp),.f rfl,.i 0] rfl (by rw [rL h1 h2 (λh=>by omega)]; simp [pl]) (by simp [Uz])
 |
  succ n =>
  obtain ⟨x,hx⟩:=gxE (l:=p) (i:=n) (by omega);by_cases h0:x=0
  ·refine Ub [.t (by simp),.r 11 (v:=.oi n) (by simp),.x (Pe hx),.k Li,.t (by simp [h0]),.r 17 (v:=.oi n) (by simp)] rfl ?_;exact rd n (by simp) ⟨by omega,λj y h3 h4=>by
    rcases Vk h3 with rfl | h3
    ·rw [hx] at h4; injection h4 with h4; rw [<-h4,h0]
    ·exact h2 j y h3 h4⟩ rfl
  ·exact Uc [.t (by simp),.r 11 (v:=.oi n) (by simp),.x (Pe hx),.k Li,.f (by simp [h0]),.i (n+1)] rfl (by rw [rL h1 h2 (λ_=>⟨x,hx,h0⟩)]; simp [pl,Js]) (by simp [Uz] <;> omega)
theorem dG (p:Uj) (k:Nat):Ug 220 [pr p,.oi k] [.agg (Hh (p.getD k 0))]:=by
 by_cases h:k<p.length
 ·have hx:=Qe h;have e:p.getD k 0=p[k]:=by simp [List.getD,hx]
  rw [e];exact Ud func220 rfl [.t (by simp; omega),.x (Pe hx)] rfl
 ·have e:p.getD k 0=0:=by simp [List.getD,Qw (J4 h)]
  rw [e,D6];exact Ud func220 rfl [.f (by simp; omega)] rfl
def EP (f:Nat->Uo) (z:Uo) (n k:Nat):Up:=(List.range n).map λi=>if i<k then f i else z
theorem A9 (f:Nat->Uo) (z:Uo) (n k:Nat):(EP f z n k).length=n:=by simp [EP]
theorem E8 (f:Nat->Uo) (z:Uo) (n:Nat):List.replicate n z=EP f z n 0:=by
 refine Xj λi=>?_
 simp only [EP,Jv,Q6];by_cases h:i<n
 ·simp [h]
 ·simp [h]
theorem QW (f:Nat->Uo) (z:Uo) (n:Nat):EP f z n n=(List.range n).map f:=by
 refine Xo λi hi=>?_
 rw [if_pos (Kh.1 hi)]
theorem QU (f:Nat->Uo) (z:Uo) {n k:Nat} (h:k<n):(EP f z n k).set k (f k)=EP f z n (k+1):=by
 refine Xj λi=>?_
 rw [Yi];simp only [EP,Q6,Q8,List.length_range,h,if_true];by_cases e:k=i
 ·subst e; simp [h]
 ·simp only [e,if_false];by_cases hi:i<n
  ·simp only [Xx hi,Yh];congr 1;by_cases h2:i<k
   ·rw [if_pos h2,if_pos (by omega)]
   ·rw [if_neg h2,if_neg (by omega)]
  ·simp [Qw,hi]
theorem xQ {n fid:Nat} {l1 l2:Uo} {g:Nat->Int} (hn:n<274877906944) (h:∀ k,k<n->EN prog fid [.oi k,.one (.sh l1),.one (.sh l2)] [.agg (Hh (g k))]):Ug 75 [.oi n,.one (.fn fid [] [.sh l1,.sh l2])] [pr (Av n g)]:=by
 refine Fw func75 rfl ?_;refine Ub [.i n,.i n,.r 10 (eI (b:=(n:Int)) (by simp))] rfl ?_;rw [E8 λk=>Hh (g k)];refine Uf (S:=Nat) 1 (λL1 k=>(11,.v (.oi k))::L1) (λk=>[.row false 36 2 (EP (λk=>Hh (g k)) [.bool false,.nils] n k)]) (λk=>n-k) (λk=>k<=n) 0 (Qh _) rfl rfl λk hk=>?_
 by_cases hlt:k<n
 ·refine go tt [.t (by simp; omega),.k (h k hlt),.i k] rfl (by simp [Uz,A9]; omega) ?_;have e:=QU (λk=>Hh (g k)) [.bool false,.nils] hlt;rw [e];exact rd (k+1) (by omega) hlt rfl
 ·obtain rfl:k=n:=by omega
  have e:EP (λk=>Hh (g k)) [.bool false,.nils] k k=((List.range k).map g).map Hh:=by rw [QW]; simp
  rw [e];exact Uc [.f (by simp),.k (BJ _)] rfl
theorem dF {n fid:Nat} {l1:Uo} {g:Nat->Int} (hn:n<274877906944) (h:∀ k,k<n->EN prog fid [.oi k,.one (.sh l1)] [.agg (Hh (g k))]):Ug 75 [.oi n,.one (.fn fid [] [.sh l1])] [pr (Av n g)]:=by
 refine Fw func75 rfl ?_;refine Ub [.i n,.i n,.r 10 (eI (b:=(n:Int)) (by simp))] rfl ?_;rw [E8 λk=>Hh (g k)];refine Uf (S:=Nat) 1 (λL1 k=>(11,.v (.oi k))::L1) (λk=>[.row false 36 2 (EP (λk=>Hh (g k)) [.bool false,.nils] n k)]) (λk=>n-k) (λk=>k<=n) 0 (Qh _) rfl rfl λk hk=>?_
 by_cases hlt:k<n
 ·refine go tt [.t (by simp; omega),.k (h k hlt),.i k] rfl (by simp [Uz,A9]; omega) ?_;have e:=QU (λk=>Hh (g k)) [.bool false,.nils] hlt;rw [e];exact rd (k+1) (by omega) hlt rfl
 ·obtain rfl:k=n:=by omega
  have e:EP (λk=>Hh (g k)) [.bool false,.nils] k k=((List.range k).map g).map Hh:=by rw [QW]; simp
  rw [e];exact Uc [.f (by simp),.k (BJ _)] rfl
theorem Qr1 {p q:Uj} (k:Nat) (hp:Bd 4294967295 p) (hq:Bd 4294967295 q):Ug 218 [.oi k,.one (.sh [pl p]),.one (.sh [pl q])] [.agg (Hh (p.getD k 0+q.getD k 0))] :=
 Ud func218 rfl [.k (dG p k),.k (dG q k),.k (VI (U3 _) (U3 _) (Fo hp k) (Fo hq k))] rfl
theorem Qsl {p q:Uj} (k:Nat) (hp:Bd 4294967295 p) (hq:Bd 4294967295 q):Ug 245 [.oi k,.one (.sh [pl p]),.one (.sh [pl q])] [.agg (Hh (p.getD k 0-q.getD k 0))] :=
 Ud func245 rfl [.k (dG p k),.k (dG q k),.k (Qeh (U3 _) (U3 _) (Fo hp k) (Fo hq k))] rfl
theorem Ra {p:Uj} {k:Nat} (h:k<p.length):p[k]? = some (p.getD k 0):=by simp [List.getD,Qe h]
theorem Qd8 {p:Uj} {c:Int} {k:Nat} (hk:k<p.length) (hp:Bd 4294967295 p) (hc:Fe c<=4294967295):Ug 76 [.oi k,.one (.sh [pl p]),.one (.sh (Hh c))] [.agg (Hh (p.getD k 0*c))] :=
 Ud func76 rfl [.x (Pe (Ra hk)),.k (Np (U3 _) (U3 _) (Fo hp k) hc)] rfl
theorem Qse {p:Uj} {k:Nat} (hk:k<p.length) (hp:Bd 4294967295 p):Ug 296 [.oi k,.one (.sh [pl p])] [.agg (Hh (-(p.getD k 0)))] :=
 Ud func296 rfl [.x (Pe (Ra hk)),.k (ND (U3 _) (Fo hp k))] rfl
theorem oD {p:Uj} {k:Nat} (hk:k+1<p.length) (hl:p.length<274877906944) (hp:Bd 4294967295 p):Ug 272 [.oi k,.one (.sh [pl p])] [.agg (Hh (p.getD (k+1) 0*((k+1:Nat):Int)))] :=
 Ud func272 rfl [.x (Pe (Ra hk)),.r 10 (eI (b:=((k+1:Nat):Int)) (by omega)),.k (zC (by omega)),.k (Np (U3 _) (U3 _) (Fo hp _) (Qbg (show k+1<274877906944 by omega)))] rfl rfl (by simp [Uz] <;> omega)
theorem zD {p q:Uj} (hlp:p.length<274877906944) (hlq:q.length<274877906944) (hp:Bd 4294967295 p) (hq:Bd 4294967295 q):Ug 176 [pr p,pr q] [pr (ZU p q)] :=
 Ud func176 rfl [.r 9 (eI (b:=((max p.length q.length:Nat):Int)) (by simp; omega)),.k (xQ (by omega) λk _=>Qr1 k hp hq)] rfl
theorem GE {p q:Uj} (hlp:p.length<274877906944) (hlq:q.length<274877906944) (hp:Bd 4294967295 p) (hq:Bd 4294967295 q):Ug 205 [pr p,pr q] [pr (Mx p q)] :=
 Ud func205 rfl [.r 9 (eI (b:=((max p.length q.length:Nat):Int)) (by simp; omega)),.k (xQ (by omega) λk _=>Qsl k hp hq)] rfl
theorem Qdx {p:Uj} (hlp:p.length<274877906944) (hp:Bd 4294967295 p):Ug 275 [pr p] [pr (Mk p)] :=
 Ud func275 rfl [.r 4 (eI (b:=(p.length:Int)) (by simp)),.k (dF hlp λk hk=>Qse hk hp)] rfl
theorem My {p:Uj} {c:Int} (hlp:p.length<274877906944) (hp:Bd 4294967295 p) (hc:Fe c<=4294967295):Ug 34 [pr p,.agg (Hh c)] [pr (Ft p c)] :=
 Ud func34 rfl [.r 6 (eI (b:=(p.length:Int)) (by simp)),.k (xQ hlp λk hk=>Qd8 hk hp hc)] rfl
theorem Is {p:Uj} (hlp:p.length<274877906944) (hp:Bd 4294967295 p):Ug 242 [pr p] [pr (Gu p)] :=
 Ud func242 rfl [.r 6 (eI (b:=((p.length-1:Nat):Int)) (by simp; omega)),.k (dF (by omega) λk hk=>oD (by omega) hlp hp)] rfl rfl (by simp [Uz]; omega)
theorem L8 {ls:Up} {p:Uj} (hi:IsInts ls p) (hl:p.length<274877906944) (hs:Bd 4294967295 p):Ug 139 [.one (.row ls)] [pr (trim p)]:=by
 refine Fw func139 rfl ?_;have hlen:=hi.len;refine Ub [.i ls.length,.i ls.length] rfl ?_;rw [E8 λk=>Hh (p.getD k 0)];refine Uf (S:=Nat) 1 (λL1 k=>(11,.v (.oi k))::L1) (λk=>[.row false 36 2 (EP (λk=>Hh (p.getD k 0)) [.bool false,.nils] ls.length k)]) (λk=>ls.length-k) (λk=>k<=ls.length) 0 (Qh _) rfl rfl λk hk=>?_
 by_cases hlt:k<ls.length
 ·obtain ⟨x,y,hx,hxy⟩:=hi.get (Ra (p:=p) (k:=k) (by omega));have cn:=Bz hxy (Fo hs k);obtain ⟨b,l,rfl,rfl,_⟩:=hxy;refine go tt [.t (by simp; omega),.x hx,.k cn,.i k] rfl (by simp [Uz,A9]; omega) ?_;have e:=QU (λk=>Hh (p.getD k 0)) [.bool false,.nils] hlt;rw [e];exact rd (k+1) (by omega) hlt rfl
 ·obtain rfl:k=ls.length:=by omega
  have e:EP (λk=>Hh (p.getD k 0)) [.bool false,.nils] ls.length ls.length=p.map Hh:=by
   rw [QW,hlen];refine Xj λi=>?_
   by_cases hi:i<p.length
   ·simp [Xx hi,List.getD,Qe hi]
   ·simp [Qw,hi]
  rw [e];exact Uc [.f (by simp),.k (BJ _)] rfl
theorem Hr {p:Uj} (ht:U9 p) (hl:p.length<274877906944) (hs:Bd 4294967295 p):Ug 139 [pr p] [pr p]:=by
 have:=L8 (Gs p) hl hs;rw [ht] at this; exact this
theorem Qnl {p:Uj} {i:Nat} {z:Int} (h:p[i]? = some z):(p.map λ(x:Int)=>[LV.int .i64 x])[i]? = some [.int .i64 z]:=Gt h
theorem cO {p:Uj} (hl:p.length<274877906944) (hr:∀ z∈p,-9223372036854775808≤z/\z≤9223372036854775807):Ug 101 [.one (ids p)] [pr (trim p)]:=by
 refine Fw func101 rfl ?_;refine Ub [.r 7 (eI (b:=(p.length:Int)) (by simp)),.i p.length,.i p.length,.r 10 (eI (b:=(p.length:Int)) (by simp))] rfl ?_;rw [E8 λk=>Hh (p.getD k 0)];refine Uf (S:=Nat) 1 (λL1 k=>(11,.v (.oi k))::L1) (λk=>[.row false 36 2 (EP (λk=>Hh (p.getD k 0)) [.bool false,.nils] p.length k)]) (λk=>p.length-k) (λk=>k<=p.length) 0 (Qh _) rfl rfl λk hk=>?_
 by_cases hlt:k<p.length
 ·have hg:=Ra hlt;refine go tt [.t (by simp; omega),.x (Qnl hg),.k (zC (hr _ (Qa hg))),.i k] rfl (by simp [Uz,A9]; omega) ?_;have e:=QU (λk=>Hh (p.getD k 0)) [.bool false,.nils] hlt;rw [e];exact rd (k+1) (by omega) hlt rfl
 ·obtain rfl:k=p.length:=by omega
  have e:EP (λk=>Hh (p.getD k 0)) [.bool false,.nils] p.length p.length=p.map Hh:=by
   rw [QW];refine Xj λi=>?_
   by_cases hi:i<p.length
   ·simp [Xx hi,List.getD,Qe hi]
   ·simp [Qw,hi]
  rw [e];exact Uc [.f (by simp),.k (BJ _)] rfl
theorem nY (l:Uj) (i:Nat) (z:Int):(l.map Hh).set i (Hh z)=(l.set i z).map Hh:=by rw [Vs]
theorem MN (m:Nat):((List.replicate m [LV.bool false,LV.nils]).map λc=>c.map UL)=(List.replicate m (0:Int)).map Hh:=by
 simp [D6,UL]
theorem zL {p0 q:Uj} {s t:Nat} (tq:U9 q) (hlp:p0.length<137438953472) (hlq:q.length<137438953472) (hp:Bd s p0) (hq:Bd t q) (hst:s+t<=4294967000):Ug 177 [pr p0,pr q] [pr (Gk (trim p0) q)]:=by
 have cp:=L8 (Gs p0) (by omega) (U0 hp (show s<=4294967295 by omega));have hp:=Sr hp;have hlp:=Z3 (Rq p0) hlp;obtain ⟨p,ep⟩:=nmE (trim p0);rw [<-ep] at cp hp hlp ⊢;have cq:=Hr tq (by omega) (U0 hq (show t<=4294967295 by omega));by_cases h0:p.length=0
 ·have e:Gk p q=[]:=by unfold Gk; rw [if_pos (.inl h0)]
  rw [e];exact Ud func177 rfl [.k cp,.k cq,.t (by simp; exact Qj h0),.t rfl] rfl
 by_cases h1:q.length=0
 ·have e:Gk p q=[]:=by unfold Gk; rw [if_pos (.inr h1)]
  rw [e];exact Ud func177 rfl [.k cp,.k cq,.f (by simp; intro h; subst h; simp at h0),.t (by simp; exact Qj h1)] rfl
 refine Fw func177 rfl ?_;have e:Gk p q=trim (Aj p q (List.replicate (p.length+q.length-1) 0) p.length):=by unfold Gk; rw [if_neg (by omega)]
 rw [e];obtain ⟨N,hN⟩:=nmE (p.length+q.length-1);rw [<-hN];obtain ⟨o,ho⟩:=nmE (List.replicate N (0:Int));rw [<-ho];have hol:o.length=N:=by rw [ho]; simp
 have ho0:∀ m,o.getD m 0=0:=λm=>by rw [ho]; exact B9 N m
 refine Ub [.k cp,.k cq,.f (by simp; intro h; subst h; simp at h0),.f (by simp; intro h; subst h; simp at h1),.r 27 (eI (b:=(N:Int)) (by simp; omega)),.i N,.i N] rfl ?_;refine nl 0 rfl rfl rfl ?_;rw [MN,<-ho];refine Uf (S:=Nat) 1 (λL1 i=>(31,.v (.oi i))::L1) (λi=>[.row false 36 2 ((Aj p q o i).map Hh)]) (λi=>p.length-i) (λi=>i<=p.length) 0 (Qh _) rfl rfl λi hi=>?_
 by_cases hlt:i<p.length
 ·refine Ua [.t (by simp; omega),.x (Pe (Ra hlt))] rfl ?_;refine Uf (S:=Nat) 2 (λL1 k=>(38,.v (.oi k))::L1) (λk=>[.row false 36 2 ((I8 (p.getD i 0) q i (Aj p q o i) k).map Hh),.blk 36 (Hh (p.getD i 0))]) (λk=>q.length-k) (λk=>k<=q.length) 0 (Qh _) rfl rfl λk hk=>?_
  by_cases hk2:k<q.length
  ·have hm1:Fe ((I8 (p.getD i 0) q i (Aj p q o i) k).getD (i+k) 0)<=4294967295:=Qc (Ij (t:=39) (jT (by rw [D4]; omega) (jR (λj hj=>by omega) ho0 (λi j=>M8 (Fo hp i) (Fo hq j))) (λj=>M8 (Fo hp i) (Fo hq j)) (i+k)) (Kf (show i+1<549755813888 by omega) (by decide))) (by omega);have hm2:Fe (p.getD i 0*q.getD k 0)<=4294967295:=Qc (Gh _ _) (by have:=Fo hp i; have:=Fo hq k; omega);have hg:(I8 (p.getD i 0) q i (Aj p q o i) k)[i+k]? = some ((I8 (p.getD i 0) q i (Aj p q o i) k).getD (i+k) 0):=Ra (by rw [I9,D4]; omega);refine go tt [.t (by simp; omega),.x (Pe (Ra hk2)),.i (i+k),.x (Pe hg),.k (Np (U3 _) (U3 _) (Qc (Fo hp i) (by omega)) (Qc (Fo hq k) (by omega))),.k (VI (U3 _) (U3 _) hm1 hm2),.i (i+k)] rfl (by simp [Uz,I9,D4] <;> omega) ?_;rw [nY];exact rd (k+1) (by omega) hk2 rfl
  ·obtain rfl:k=q.length:=by omega
   exact go tt [.f (by simp)] rfl (by simp [Uz]; omega) (rd (i+1) (by omega) hlt rfl)
 ·obtain rfl:i=p.length:=by omega
  exact Uc [.f (by simp),.k (BJ _)] rfl
theorem GL {p q:Uj} {s t:Nat} (tp:U9 p) (tq:U9 q) (hlp:p.length<137438953472) (hlq:q.length<137438953472) (hp:Bd s p) (hq:Bd t q) (hst:s+t<=4294967000):Ug 177 [pr p,pr q] [pr (Gk p q)]:=by
 have h:=zL tq hlp hlq hp hq hst;rw [show trim p=p from tp] at h;exact h
theorem PM {p q:Uj} (hlp:p.length<274877906944) (hlq:q.length<274877906944) (hp:Bd 4294967295 p) (hq:Bd 4294967295 q):Ug 99 [pr p,pr q] [.one (.bool (decide (trim p=trim q)))]:=by
 refine Fw func99 rfl ?_;have cp:=L8 (Gs p) hlp hp;have cq:=L8 (Gs q) hlq hq;have bp:=Sr hp;have bq:=Sr hq;have l1:=Rq p;have l2:=Rq q;obtain ⟨a,ha⟩:=nmE (trim p);obtain ⟨b,hb⟩:=nmE (trim q);rw [<-ha] at cp bp l1 ⊢;rw [<-hb] at cq bq l2 ⊢;by_cases hl:a.length=b.length
 ·refine Ua [.k cp,.k cq,.f (by simp; omega)] rfl ?_;refine Uf (S:=Nat) 0 (λL1 i=>(18,.v (.oi i))::L1) (λ_=>[]) (λi=>a.length-i) (λi=>i<=a.length/\a.take i=b.take i) 0 ⟨Qh _,rfl⟩ rfl rfl λi ⟨hi,he⟩=>?_
  by_cases hlt:i<a.length
  ·have ga:=Ra hlt;have gb:=Ra (p:=b) (k:=i) (by omega);have cc:=GI (U3 (a.getD i 0)) (U3 (b.getD i 0)) (Fo bp i) (Fo bq i);by_cases hz:a.getD i 0=b.getD i 0
   ·refine Ub [.t (by simp; omega),.x (Pe ga),.x (Pe gb),.k cc,.f (by simpa using xY.2 hz)] rfl ?_;exact rd (i+1) (by omega) ⟨hlt,by rw [Y5,Y5,he,ga,gb,hz]⟩ rfl
   ·exact Uc [.t (by simp; omega),.x (Pe ga),.x (Pe gb),.k cc,.t (by have:=mt xY.1 hz; simpa using this)] rfl (by rw [decide_eq_false]; intro h; exact hz (by rw [h])) trivial
  ·obtain rfl:i=a.length:=by omega
   rw [Q5,hl,Q5] at he;exact Uc [.f (by simp)] rfl (by rw [decide_eq_true he]) trivial
 ·exact Uc [.k cp,.k cq,.t (by simp; omega)] rfl (by rw [decide_eq_false]; intro h; exact hl (by rw [h])) trivial
theorem Qd0 {p:Uj} {n d:Int} {s t:Nat} (hl:p.length<274877906944) (hp:Bd s p) (hn:Fe n<=t) (hd:Fe d<=t) (hst:s+p.length*(t+1)+2*t+10<=4294967295):Ug 265 [pr p,.agg (Hh n),.agg (Hh d)] [.agg (Hh (Quo p n d))]:=by
 refine Fw func265 rfl ?_;refine Ub [.k (zC (z:=1) (by decide)),.r 13 (eI (b:=(p.length:Int)-1-((0:Nat):Int)) (by simp))] rfl ?_;refine nlb 3 rfl rfl rfl ?_;have e0:[LV.bool false,LV.nils].map UL=Hh (Lr p n d 0).1:=by simp [UL,Lr,D6]
 rw [e0];refine Uf (S:=Nat) 5 (λL1 j=>(9,.v (.oi ((p.length:Int)-1-(j:Int))))::L1) (λj=>[.blk 36 (Hh n),.blk 36 (Hh d),.blk 36 [.bool false,.nils],.blk 36 (Hh (Lr p n d j).1),.blk 36 (Hh (Lr p n d j).2)]) (λj=>p.length-j) (λj=>j<=p.length) 0 (Qh _) rfl rfl λj hj=>?_
 have hv:=iE (k:=j) hp hn hd;have hjl:j*(t+1)<=p.length*(t+1):=Qz _ (by omega);have hjl2:j*t<=j*(t+1):=Zt _ (by omega);by_cases hlt:j<p.length
 ·have hc:=Fo hp (p.length-1-j);have hm1:Fe ((Lr p n d j).1*n)<=4294967295:=Qc (Gh _ _) (by omega);have hm2:Fe (p.getD (p.length-1-j) 0*(Lr p n d j).2)<=4294967295:=Qc (Gh _ _) (by omega);refine go tt [.t (by simp; omega),.k (Np (U3 _) (U3 _) (by omega) (by omega)),.r 22 (eI (b:=((p.length-1-j:Nat):Int)) (by omega)),.x (Pe (Ra (p:=p) (k:=p.length-1-j) (by omega))),.k (Np (U3 _) (U3 _) (by omega) (by omega)),.k (VI (U3 _) (U3 _) hm1 hm2),.k (Np (U3 _) (U3 _) (by omega) (by omega)),.r 17 (eI (b:=(p.length:Int)-1-((j+1:Nat):Int)) (by omega))] rfl (by simp [Uz] <;> omega) ?_;exact rd (j+1) (by omega) hlt rfl
 ·obtain rfl:j=p.length:=by omega
  exact Uc [.f (by simp; omega)] rfl
theorem De {p:Uj} (tp:U9 p) (hl:p.length<274877906944) (hp:Bd 4294967295 p):Ug 291 [pr p] [.agg (Hh (p.getD (p.length-1) 0))]:=by
 have cn:=Hr tp hl hp;by_cases h0:p=[]
 ·subst h0;exact Ud func291 rfl [.k cn,.t (by simp)] rfl (by simp [D6]) trivial
 ·have hpl:0<p.length:=Jz.2 h0;exact Ud func291 rfl [.k cn,.f (by simpa using h0),.r 12 (eI (b:=((p.length-1:Nat):Int)) (by simp; omega)),.x (Pe (Ra (by omega)))] rfl rfl (by simp [Uz]; omega)
theorem Qrb {a b:Int} {q:Rat} (h1:a=q.num) (h2:b=(q.den:Int)):[sg a,mg a,sg b,mg b]=rl q:=by rw [h1,h2]
theorem ZS {n d:Int} (h0:d≠0) (hn:Fe n<=4294967295) (hd:Fe d<=4294967295):Ug 152 [.agg (Hh n),.agg (Hh d)] [.agg (rl (Rat.divInt n d))]:=by
 have cg:=Qdl (Gs [n,d]) (λz hz=>by simp at hz; rcases hz with rfl | rfl <;> assumption);have gp:=uW (n:=n) h0;have gs:=lO (n:=n) h0 hd;have m1:=CC n d;have m2:=CL n d;obtain ⟨g,hg⟩:=nmE (((Rr [n,d]:Nat):Int));rw [<-hg] at cg gp gs m1 m2;by_cases hneg:d<0
 ·obtain ⟨e1,e2⟩:=Qnv (n:=n) hneg;rw [<-hg] at e1 e2;rw [<-Qrb e1 e2];exact Ud func152 rfl [.k cg,.t (by simpa using hneg),.k (ND (U3 n) hn),.k (ND (U3 d) hd),.k (Ay (U3 _) (U3 _) (by rw [Hw]; exact hn) gs (by omega) (aY m1)),.k (Ay (U3 _) (U3 _) (by rw [Hw]; exact hd) gs (by omega) (aY m2))] rfl
 ·obtain ⟨e1,e2⟩:=eD (n:=n) (d:=d) (by omega);rw [<-hg] at e1 e2;rw [<-Qrb e1 e2];exact Ud func152 rfl [.k cg,.f (by simpa using hneg),.k (Ay (U3 _) (U3 _) hn gs (by omega) m1),.k (Ay (U3 _) (U3 _) hd gs (by omega) m2)] rfl
theorem PD {x y x' y':LV} {n d:Int} (h1:Gv x y n) (h2:Gv x' y' d) (hn:Fe n<=4294967295) (hd:Fe d<=4294967295):Ug 106 [.agg [x,y,x',y']] [.agg (rl (Gw n d))]:=by
 have c1:=Bz h1 hn;have c2:=Bz h2 hd;obtain ⟨b,l,rfl,rfl,_⟩:=h1;obtain ⟨b',l',rfl,rfl,_⟩:=h2;by_cases h0:d=0
 ·have e:Gw n d=Rat.divInt n 1:=by unfold Gw; rw [if_pos h0]
  rw [e];exact Ud func106 rfl [.k c2,.k Li,.t (by simpa using h0),.k (zC (z:=1) (by decide)),.k c1,.k (ZS (by decide) hn (by decide))] rfl
 ·have e:Gw n d=Rat.divInt n d:=by unfold Gw; rw [if_neg h0]
  rw [e];exact Ud func106 rfl [.k c2,.k Li,.f (by simpa using h0),.k c1,.k (ZS h0 hn hd)] rfl
theorem BW {q:Rat} (hq:Qs 4294967295 q):Ug 106 [.agg (rl q)] [.agg (rl q)]:=by
 have:=PD (U3 q.num) (U3 (q.den:Int)) hq.1 hq.2;rwa [Ss] at this
theorem Qsy {n:Int} (hn:Fe n<=4294967295):Ug 82 [.agg (Hh n)] [.agg (rl (n:Rat))] :=
 Ud func82 rfl [.k (Bz (U3 n) hn),.k (zC (z:=1) (by decide))] rfl (by simp [rl]) trivial
theorem zI {a b:Rat} (ha:Qs 2147483647 a) (hb:Qs 2147483647 b):Ug 96 [.agg (rl a),.agg (rl b)] [.agg (Hh (a.num*(b.den:Int))),.agg (Hh (b.num*(a.den:Int))),.agg (Hh ((a.den:Int)*(b.den:Int)))] :=
 Ud func96 rfl [.k (BW (ha.mono (by decide))),.k (BW (hb.mono (by decide))),.k (Np (U3 _) (U3 _) (Qc ha.1 (by decide)) (Qc hb.2 (by decide))),.k (Np (U3 _) (U3 _) (Qc hb.1 (by decide)) (Qc ha.2 (by decide))),.k (Np (U3 _) (U3 _) (Qc ha.2 (by decide)) (Qc hb.2 (by decide)))] rfl
theorem B5 {a b:Rat} (ha:Qs 2147483647 a) (hb:Qs 2147483647 b):Ug 52 [.agg (rl a),.agg (rl b)] [.oi (Ha a b)] :=
 Ud func52 rfl [.k (zI ha hb),.k (GI (U3 _) (U3 _) (Qc (Gh _ _) (by have:=ha.1; have:=hb.2; omega)) (Qc (Gh _ _) (by have:=hb.1; have:=ha.2; omega)))] rfl
theorem BK {x y x' y':LV} {n d:Int} (h1:Gv x y n) (h2:Gv x' y' d) (hn:Fe n<=4294967295) (hd:Fe d<=4294967295):Ug 61 [.agg [x,y,x',y'],.one (.row [])] [.agg (rl (Gw n d))]:=by
 have c1:=PD h1 h2 hn hd;obtain ⟨b,l,rfl,rfl,_⟩:=h1;obtain ⟨b',l',rfl,rfl,_⟩:=h2;refine Fw func61 rfl ?_;refine Ua [.k c1] rfl ?_;refine Uf (S:=Unit) 3 (λL1 _=>(12,.v (.oi 0))::L1) (λ_=>[.blk 42 [.bool b,.row (lm l),.bool b',.row (lm l')],.blk 42 [.bool false,.nils,.bool false,.nils],.blk 42 (rl (Gw n d))]) (λ_=>0) (λ_=>True) () trivial rfl rfl λ_ _=>?_
 exact Uc [.f (by simp)] rfl
theorem Nk {q:Rat} (hq:Qs 4294967295 q):Ug 61 [.agg (rl q),.one (.row [])] [.agg (rl q)]:=by
 have:=BK (U3 q.num) (U3 (q.den:Int)) hq.1 hq.2;rwa [Ss] at this
theorem Qmn {q:Rat} (hq:Qs 4294967295 q):Ug 264 [.agg (rl q)] [.agg (rl q)]:=Ud func264 rfl [.k (Nk hq)] rfl
theorem dQ {p:Uj} {q:Rat} {s t:Nat} (tp:U9 p) (hl:p.length<274877906944) (hp:Bd s p) (hq:Qs t q) (hst:s+p.length*(t+1)+2*t+10<=4294967295):Ug 231 [pr p,.agg (rl q)] [.oi (H7 p q)]:=by
 have cc:=GI (U3 (Quo p q.num q.den)) QF (Qc (iE hp hq.1 hq.2).1 (by omega)) (by decide);exact Ud func231 rfl [.k (Qmn (hq.mono (by omega))),.k (Hr tp hl (U0 hp (by omega))),.k (Qd0 hl hp hq.1 hq.2 hst),.k cc] rfl
theorem Qeq {p:Uj} {g:Int} (hl:p.length<274877906944) (hp:Bd 4294967295 p) (hg:Fe g≤4294967295) (h0:g≠0) (hd:∀ z∈p,z % g=0):Ug 150 [pr p,.agg (Hh g)] [pr (trim (p.map (· / g)))]:=by
 refine Fw func150 rfl ?_;refine Ub [.r 9 (eI (b:=(p.length:Int)) (by simp)),.i p.length,.i p.length,.r 12 (eI (b:=(p.length:Int)) (by simp))] rfl ?_;rw [E8 λk=>Hh (p.getD k 0 / g)];refine Uf (S:=Nat) 2 (λL1 k=>(13,.v (.oi k))::L1) (λk=>[.blk 36 (Hh g),.row false 36 2 (EP (λk=>Hh (p.getD k 0 / g)) [.bool false,.nils] p.length k)]) (λk=>p.length-k) (λk=>k<=p.length) 0 (Qh _) rfl rfl λk hk=>?_
 by_cases hlt:k<p.length
 ·have hg2:=Ra hlt;refine go tt [.t (by simp; omega),.x (Pe hg2),.k (Ay (U3 _) (U3 _) (Fo hp k) hg h0 (hd _ (Qa hg2))),.i k] rfl (by simp [Uz,A9]; omega) ?_;have e:=QU (λk=>Hh (p.getD k 0 / g)) [.bool false,.nils] hlt;rw [e];exact rd (k+1) (by omega) hlt rfl
 ·obtain rfl:k=p.length:=by omega
  have e:EP (λk=>Hh (p.getD k 0 / g)) [.bool false,.nils] p.length p.length=(p.map (· / g)).map Hh:=by
   rw [QW];refine Xj λi=>?_
   by_cases hi:i<p.length
   ·simp [Xx hi,List.getD,Qe hi]
   ·simp [Qw,hi]
  rw [e];exact Uc [.f (by simp),.k (L8 (Gs (p.map (· / g))) (by simp; exact hl) (GM hp g))] rfl
theorem LY (p:Uj):∀ c∈p.map Hh,c.length=2:=Qq6 p λ_=>rfl
theorem zA {lx ly:Up} {px py:Uj} {x y:LV} {d:Int} (hx:IsInts lx px) (hy:IsInts ly py) (hd:Gv x y d) (hk:Cs 4294967294 1073741824 (Crv.mk px py d)):Ug 98 [.agg [.row lx,.row ly,x,y]] [.agg (cl (Crv.norm (Crv.mk px py d)))]:=by
 have hlx:=hk.lx;have hly:=hk.ly;simp only at hlx hly;have htx:=Rq px;have hty:=Rq py;have hd1:Fe (Crv.mk px py d).d'<=4294967295:=Qc (Qg3 hk.d (by omega)) (by omega);have hg1:=Crv.isz_g (Crv.mk px py d) hd1;have hg0:=Crv.g_ne (Crv.mk px py d);have hgd:=Crv.g_dvd (Crv.mk px py d);have cx:=L8 hx (by omega) (U0 hk.x (by omega));have cy:=L8 hy (by omega) (U0 hk.y (by omega));have cd:=Bz hd (Qc hk.d (by omega));have bx:Bd 4294967295 (trim px):=U0 (Sr hk.x) (by omega);have by_:Bd 4294967295 (trim py):=U0 (Sr hk.y) (by omega);obtain ⟨b,l,rfl,rfl,_⟩:=hd;obtain ⟨e,he⟩:=nmE ((Crv.mk px py d).d');obtain ⟨g,hgg⟩:=nmE ((Crv.mk px py d).g);obtain ⟨X,hX⟩:=nmE (trim px);obtain ⟨Y,hY⟩:=nmE (trim py);have hnorm:(Crv.mk px py d).norm=⟨trim (X.map (· / g)),trim (Y.map (· / g)),e / g⟩:=by rw [he,hgg,hX,hY]; rfl
 rw [hnorm];have hgdef:g=if e<0 then -((Rr (e::(X++Y)):Nat):Int) else (Rr (e::(X++Y)):Nat):=by rw [hgg,he,hX,hY]; rfl
 have hde:e=if d=0 then 1 else d:=by rw [he]; rfl
 simp only [<-he,<-hgg,<-hX,<-hY] at hd1 hg1 hg0 hgd htx hty cx cy bx by_;clear hnorm hgg he hX hY;refine Fw func98 rfl ?_;refine Ua [.k cx,.k cy,.k cd,.k Li] rfl ?_;refine ct 1 (S:=Unit) (λ_=>[(2,.v (.one (.ow 1 0))),(3,.v (pr X)),(4,.v (pr Y)),(5,.v (.one (.ow 2 0)))]) (λ_=>[.blk 38 [.row lx,.row ly,.bool b,.row (lm l)],.blk 38 [.nils,.nils,.bool false,.nils],.blk 36 (Hh e)]) (λ_=>True) rfl ?_ ?_
 ·by_cases h0:d=0
  ·rw [hde,if_pos h0];exact go tt [.t (by simpa using h0),.k (zC (z:=1) (by decide))] rfl trivial (rc () trivial rfl)
  ·rw [hde,if_neg h0];exact go tt [.f (by simpa using h0)] rfl trivial (rc () trivial rfl)
 ·intro _ _;have hgi:IsInts ([Hh e]++X.map Hh++Y.map Hh) (e::(X++Y)):=by
   have:=Gs (e::(X++Y));simpa using this
  have hgs:∀ z∈e::(X++Y),Fe z≤4294967295:=λz hz=>by
   rcases Qm.1 hz with rfl | hz
   ·exact hd1
   ·rcases Qq.1 hz with hz | hz
    ·exact bx z hz
    ·exact by_ z hz
  have cg:=Qdl hgi hgs;have co1:=Qeq (p:=X) (by omega) bx hg1 hg0 λz hz=>hgd z (Qg _ (X6 _ hz))
  have co2:=Qeq (p:=Y) (by omega) by_ hg1 hg0 λz hz=>hgd z (Qg _ (Jc _ hz))
  have ce:=Ay (U3 e) (U3 g) hd1 hg1 hg0 (hgd e (Qx ..));have hszg:=MV hgs;by_cases hneg:e<0
  ·rw [if_pos hneg] at hgdef;have cn:=ND (U3 ((Rr (e::(X++Y)):Nat):Int)) hszg;rw [<-hgdef] at cn;exact Uc [.lo,.s (LY X),.s (LY Y),.k cg,.t (by simpa using hneg),.k cn,.k ce,.k co1,.k co2] rfl rfl (by simp [Uz]; omega)
  ·rw [if_neg hneg] at hgdef;rw [<-hgdef] at cg;exact Uc [.lo,.s (LY X),.s (LY Y),.k cg,.f (by simpa using hneg),.k ce,.k co1,.k co2] rfl rfl (by simp [Uz]; omega)
theorem BZ {k:Crv} (hn:JP k) (hk:Cs 4294967294 1073741824 k):Ug 98 [.agg (cl k)] [.agg (cl k)]:=by
 have h:=zA (Gs k.x) (Gs k.y) (U3 k.d) hk;rw [Crv.norm_of hn] at h; exact h
theorem WL {lx ly:Up} {px py:Uj} {x y:LV} {d:Int} (hx:IsInts lx px) (hy:IsInts ly py) (hd:Gv x y d) (hk:Cs 4294967294 1073741824 (Crv.mk px py d)) (h0:d≠0):Ug 114 [.one (.row lx),.one (.row ly),.agg [x,y]] [.agg (cl (Crv.norm (Crv.mk px py d))),.oi 0]:=by
 have cd:=Bz hd (Qc hk.d (by omega));have cn:=zA hx hy hd hk;obtain ⟨b,l,rfl,rfl,_⟩:=hd;exact Ud func114 rfl [.k cd,.k Li,.f (by simpa using h0),.k cn] rfl
theorem Qql {lx ly:Up} {px py:Uj} (hx:IsInts lx px) (hy:IsInts ly py) (hk:Cs 4294967294 1073741824 (Crv.mk px py 0)):Ug 59 [.one (.row lx),.one (.row ly)] [.agg (cl (Crv.norm (Crv.mk px py 0)))] :=
 Ud func59 rfl [.k (zA hx hy QF hk)] rfl
def Ou (x y:Int):Crv:=Crv.norm ⟨trim [x],trim [y],0⟩
theorem wJ {x y:Int} (hx:-9223372036854775808<=x/\x<=9223372036854775807) (hy:-9223372036854775808<=y/\y<=9223372036854775807):Cs 64 1 ⟨trim [x],trim [y],0⟩:=by
 have key:∀ z:Int,-9223372036854775808<=z/\z<=9223372036854775807->Fe z<=64:=λz hz=>by
  rw [Si];have:(2:Nat)^64=18446744073709551616:=by decide
  omega
 refine ⟨Sr λz hz=>?_,Sr λz hz=>?_,Qh _,Rq [x],Rq [y]⟩
 ·rw [Qk] at hz; rw [hz]; exact key x hx
 ·rw [Qk] at hz; rw [hz]; exact key y hy
theorem Ql8 {x y:Int} (hx:-9223372036854775808<=x/\x<=9223372036854775807) (hy:-9223372036854775808<=y/\y<=9223372036854775807):Ug 58 [.oi x,.oi y] [.agg (cl (Ou x y))] :=
 Ud func58 rfl [.k (cO (p:=[x]) (show 1<274877906944 by decide) (by intro z hz; rw [Qk] at hz; rw [hz]; exact hx)),.k (cO (p:=[y]) (show 1<274877906944 by decide) (by intro z hz; rw [Qk] at hz; rw [hz]; exact hy)),.k (Qql (Gs _) (Gs _) ((wJ hx hy).mono (by omega) (by omega)))] rfl
theorem dK {a b:Crv} (ha:JP a) (hb:JP b) (ca:Cs 4294967294 1073741824 a) (cb:Cs 4294967294 1073741824 b):Ug 53 [.agg (cl a),.agg (cl b)] [.one (.bool (Lt a b))]:=by
 have na:=BZ ha ca;have nb:=BZ hb cb;have alx:=ca.lx;have aly:=ca.ly;have blx:=cb.lx;have bly:=cb.ly;have sx:=PM (p:=a.x) (q:=b.x) (by omega) (by omega) (U0 ca.x (by omega)) (U0 cb.x (by omega));have sy:=PM (p:=a.y) (q:=b.y) (by omega) (by omega) (U0 ca.y (by omega)) (U0 cb.y (by omega));have sd:=GI (U3 a.d) (U3 b.d) (Qc ca.d (by omega)) (Qc cb.d (by omega));rw [ha.1,hb.1] at sx;rw [ha.2.1,hb.2.1] at sy;by_cases h1:a.x=b.x
 ·by_cases h2:a.y=b.y
  ·exact Ud func53 rfl [.k na,.k nb,.k sx,.t (by simpa using h1),.k sy,.t (by simpa using h2),.k sd] rfl (by simp [Lt,h1,h2,xY]) trivial
  ·exact Ud func53 rfl [.k na,.k nb,.k sx,.t (by simpa using h1),.k sy,.f (by simpa using h2)] rfl (by simp [Lt,h1,h2]) trivial
 ·exact Ud func53 rfl [.k na,.k nb,.k sx,.f (by simpa using h1),.f rfl] rfl (by simp [Lt,h1]) trivial
end Orr
