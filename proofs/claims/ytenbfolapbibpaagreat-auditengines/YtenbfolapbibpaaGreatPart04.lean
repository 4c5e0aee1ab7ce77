import Derived.Test.YtenbfolapbibpaaGreatPart03
import Derived.Laws.StructEq
import Derived.Test.YtenbfolapbibpaaGreatProg
import Derived.Test.YtenbfolapbibpaaGreatPart00
set_option linter.all false
namespace Orr
open Go Go.Proofs Tryz
theorem Qkg(d:Nat)(x y:Int)(w:World):(Op.equalIn (d+1) 3 (.int .i64 x) (.int .i64 y)).run prog w=.ok (decide (x=y)) w:=by
 simp[Op.equalIn,runUnderlying3];rfl
noncomputable def ti3:TI prog:=ZE 3 isAgg3 sizeOf3 underlying3 zeroValue3 typeInfo3 8 rfl
noncomputable def ti4:TI prog:=ZE 4 isAgg4 sizeOf4 underlying4 zeroValue4 typeInfo4 1 rfl
noncomputable def ti5:TI prog:=ZE 5 isAgg5 sizeOf5 underlying5 zeroValue5 typeInfo5 1 rfl
noncomputable def ti9:TI prog:=ZE 9 isAgg9 sizeOf9 underlying9 zeroValue9 typeInfo9 16 rfl
noncomputable def ti22:TI prog:=ZE 22 isAgg22 sizeOf22 underlying22 zeroValue22 typeInfo22 24 rfl
noncomputable def ti23:TI prog:=ZE 23 isAgg23 sizeOf23 underlying23 zeroValue23 typeInfo23 8 rfl
noncomputable def ti26:TI prog:=TD (ks:=[1,1,1]) (ag:=[false,false,false]) 26 isAgg26 sizeOf26 underlying26 zeroValue26 typeInfo26 24 rfl ⟨sizeOf23,sizeOf24,sizeOf3,trivial⟩ ⟨isAgg23,isAgg24,isAgg3,trivial⟩ rfl
noncomputable def ti29:TI prog:=ZE 29 isAgg29 sizeOf29 underlying29 zeroValue29 typeInfo29 8 rfl
noncomputable def ti31:TI prog:=ZE 31 isAgg31 sizeOf31 underlying31 zeroValue31 typeInfo31 24 rfl
noncomputable def ti32:TI prog:=ZE 32 isAgg32 sizeOf32 underlying32 zeroValue32 typeInfo32 24 rfl
noncomputable def ti33:TI prog:=ZE 33 isAgg33 sizeOf33 underlying33 zeroValue33 typeInfo33 24 rfl
noncomputable def ti35:TI prog:=TD (ks:=[1,1]) (ag:=[false,false]) 35 isAgg35 sizeOf35 underlying35 zeroValue35 typeInfo35 32 rfl ⟨sizeOf4,sizeOf33,trivial⟩ ⟨isAgg4,isAgg33,trivial⟩ rfl
noncomputable def ti37:TI prog:=TD (ks:=[1,1,2]) (ag:=[false,false,true]) 37 isAgg37 sizeOf37 underlying37 zeroValue37 typeInfo37 80 rfl ⟨sizeOf32,sizeOf32,sizeOf35,trivial⟩ ⟨isAgg32,isAgg32,isAgg35,trivial⟩ rfl
noncomputable def ti39:TI prog:=TD (ks:=[4,1]) (ag:=[true,false]) 39 isAgg39 sizeOf39 underlying39 zeroValue39 typeInfo39 88 rfl ⟨sizeOf37,sizeOf3,trivial⟩ ⟨isAgg37,isAgg3,trivial⟩ rfl
noncomputable def ti41:TI prog:=TD (ks:=[2,2]) (ag:=[true,true]) 41 isAgg41 sizeOf41 underlying41 zeroValue41 typeInfo41 64 rfl ⟨sizeOf35,sizeOf35,trivial⟩ ⟨isAgg35,isAgg35,trivial⟩ rfl
noncomputable def ti43:TI prog:=TD (ks:=[1,1,1,5,4]) (ag:=[false,false,false,true,true]) 43 isAgg43 sizeOf43 underlying43 zeroValue43 typeInfo43 176 rfl ⟨sizeOf3,sizeOf3,sizeOf3,sizeOf39,sizeOf41,trivial⟩ ⟨isAgg3,isAgg3,isAgg3,isAgg39,isAgg41,trivial⟩ rfl
noncomputable def ti54:TI prog:=ZE 54 isAgg54 sizeOf54 underlying54 zeroValue54 typeInfo54 24 rfl
noncomputable def ti55:TI prog:=ZE 55 isAgg55 sizeOf55 underlying55 zeroValue55 typeInfo55 24 rfl
noncomputable def ti57:TI prog:=TD (ks:=[1,1]) (ag:=[false,false]) 57 isAgg57 sizeOf57 underlying57 zeroValue57 typeInfo57 32 rfl ⟨sizeOf55,sizeOf4,trivial⟩ ⟨isAgg55,isAgg4,trivial⟩ rfl
noncomputable def ti59:TI prog:=TD (ks:=[2,2]) (ag:=[true,true]) 59 isAgg59 sizeOf59 underlying59 zeroValue59 typeInfo59 64 rfl ⟨sizeOf57,sizeOf57,trivial⟩ ⟨isAgg57,isAgg57,trivial⟩ rfl
noncomputable def ti68:TI prog:=ZE 68 isAgg68 sizeOf68 underlying68 zeroValue68 typeInfo68 24 rfl
noncomputable def ti70:TI prog:=TD (ks:=[1,1,1,1,1]) (ag:=[false,false,false,false,false]) 70 isAgg70 sizeOf70 underlying70 zeroValue70 typeInfo70 120 rfl ⟨sizeOf54,sizeOf54,sizeOf54,sizeOf54,sizeOf68,trivial⟩ ⟨isAgg54,isAgg54,isAgg54,isAgg54,isAgg68,trivial⟩ rfl
noncomputable def ti75:TI prog:=TD (ks:=[1,4,4]) (ag:=[false,true,true]) 75 isAgg75 sizeOf75 underlying75 zeroValue75 typeInfo75 152 rfl ⟨sizeOf32,sizeOf41,sizeOf41,trivial⟩ ⟨isAgg32,isAgg41,isAgg41,trivial⟩ rfl
noncomputable def ti78:TI prog:=ZE 78 isAgg78 sizeOf78 underlying78 zeroValue78 typeInfo78 24 rfl
noncomputable def ti80:TI prog:=ZE 80 isAgg80 sizeOf80 underlying80 zeroValue80 typeInfo80 8 rfl
abbrev eG:List (Nat×Nat×String):=[(359,0,"Advance"),(89,0,"Begin"),(360,0,"Certs"),(126,0,"Clone"),(361,0,"Drop"),(407,0,"Events"),(365,0,"Go"),(64,0,"Ids"),(370,0,"Next"),(369,0,"Now"),(362,0,"Put"),(363,0,"Turn")]
theorem Qyy:∀x∈eG,∀b o w,(method (prog.types.size+Made.depth) 81 (.pointer (some ⟨b,o,none⟩)) x.2.2).run prog w=.ok (x.1,.pointer (some ⟨b,o+x.2.1,none⟩)) w:=λx hx=>by
 simp only[eG,Qk,Jk,or_false]at hx;rcases hx with rfl|rfl|rfl|rfl|rfl|rfl|rfl|rfl|rfl|rfl|rfl|rfl <;> first|exact Ob (E:=185) typeInfo81 rfl underlying81|exact Aa (S:=185) (i:=0) typeInfo81 rfl underlying185 rfl underlying183 (λ_ h=>by cases h) sizeOf183 Fl
noncomputable def ti81:TI prog:={ ZE 81 isAgg81 sizeOf81 underlying81 zeroValue81 typeInfo81 8 rfl with ms:=eG,hms:=Qyy }
abbrev eH:List (Nat×Nat×String):=[(387,0,"Advance"),(89,0,"Begin"),(360,0,"Certs"),(127,0,"Clone"),(388,0,"Drop"),(407,0,"Events"),(365,0,"Go"),(370,0,"Next"),(369,0,"Now"),(389,0,"Put"),(390,0,"Turn"),(67,0,"Winner")]
theorem Qyz:∀x∈eH,∀b o w,(method (prog.types.size+Made.depth) 82 (.pointer (some ⟨b,o,none⟩)) x.2.2).run prog w=.ok (x.1,.pointer (some ⟨b,o+x.2.1,none⟩)) w:=λx hx=>by
 simp only[eH,Qk,Jk,or_false]at hx;rcases hx with rfl|rfl|rfl|rfl|rfl|rfl|rfl|rfl|rfl|rfl|rfl|rfl <;> first|exact Ob (E:=190) typeInfo82 rfl underlying82|exact Aa (S:=190) (i:=0) typeInfo82 rfl underlying190 rfl underlying183 (λ_ h=>by cases h) sizeOf183 Fl
noncomputable def ti82:TI prog:={ ZE 82 isAgg82 sizeOf82 underlying82 zeroValue82 typeInfo82 8 rfl with ms:=eH,hms:=Qyz }
abbrev eS:List (Nat×Nat×String):=[(392,0,"Advance"),(89,0,"Begin"),(360,0,"Certs"),(128,0,"Clone"),(393,0,"Drop"),(407,0,"Events"),(365,0,"Go"),(65,0,"Ids"),(370,0,"Next"),(369,0,"Now"),(394,0,"Put"),(395,0,"Turn")]
theorem Qy0:∀x∈eS,∀b o w,(method (prog.types.size+Made.depth) 83 (.pointer (some ⟨b,o,none⟩)) x.2.2).run prog w=.ok (x.1,.pointer (some ⟨b,o+x.2.1,none⟩)) w:=λx hx=>by
 simp only[eS,Qk,Jk,or_false]at hx;rcases hx with rfl|rfl|rfl|rfl|rfl|rfl|rfl|rfl|rfl|rfl|rfl|rfl <;> first|exact Ob (E:=192) typeInfo83 rfl underlying83|exact Aa (S:=192) (i:=0) typeInfo83 rfl underlying192 rfl underlying183 (λ_ h=>by cases h) sizeOf183 Fl
noncomputable def ti83:TI prog:={ ZE 83 isAgg83 sizeOf83 underlying83 zeroValue83 typeInfo83 8 rfl with ms:=eS,hms:=Qy0 }
abbrev eP:List (Nat×Nat×String):=[(397,0,"Advance"),(89,0,"Begin"),(360,0,"Certs"),(129,0,"Clone"),(398,0,"Drop"),(407,0,"Events"),(365,0,"Go"),(68,0,"Ids"),(370,0,"Next"),(369,0,"Now"),(399,0,"Put"),(400,0,"Turn")]
theorem Qy1:∀x∈eP,∀b o w,(method (prog.types.size+Made.depth) 84 (.pointer (some ⟨b,o,none⟩)) x.2.2).run prog w=.ok (x.1,.pointer (some ⟨b,o+x.2.1,none⟩)) w:=λx hx=>by
 simp only[eP,Qk,Jk,or_false]at hx;rcases hx with rfl|rfl|rfl|rfl|rfl|rfl|rfl|rfl|rfl|rfl|rfl|rfl <;> first|exact Ob (E:=194) typeInfo84 rfl underlying84|exact Aa (S:=194) (i:=0) typeInfo84 rfl underlying194 rfl underlying183 (λ_ h=>by cases h) sizeOf183 Fl
noncomputable def ti84:TI prog:={ ZE 84 isAgg84 sizeOf84 underlying84 zeroValue84 typeInfo84 8 rfl with ms:=eP,hms:=Qy1 }
abbrev eM:List (Nat×Nat×String):=[(402,0,"Advance"),(89,0,"Begin"),(360,0,"Certs"),(130,0,"Clone"),(403,0,"Drop"),(407,0,"Events"),(365,0,"Go"),(370,0,"Next"),(369,0,"Now"),(404,0,"Put"),(66,0,"Triples"),(405,0,"Turn")]
theorem Qy2:∀x∈eM,∀b o w,(method (prog.types.size+Made.depth) 85 (.pointer (some ⟨b,o,none⟩)) x.2.2).run prog w=.ok (x.1,.pointer (some ⟨b,o+x.2.1,none⟩)) w:=λx hx=>by
 simp only[eM,Qk,Jk,or_false]at hx;rcases hx with rfl|rfl|rfl|rfl|rfl|rfl|rfl|rfl|rfl|rfl|rfl|rfl <;> first|exact Ob (E:=196) typeInfo85 rfl underlying85|exact Aa (S:=196) (i:=0) typeInfo85 rfl underlying196 rfl underlying183 (λ_ h=>by cases h) sizeOf183 Fl
noncomputable def ti85:TI prog:={ ZE 85 isAgg85 sizeOf85 underlying85 zeroValue85 typeInfo85 8 rfl with ms:=eM,hms:=Qy2 }
noncomputable def ti87:TI prog:=TD (ks:=[1,4,1,1,1,1,1]) (ag:=[false,true,false,false,false,false,false]) 87 isAgg87 sizeOf87 underlying87 zeroValue87 typeInfo87 112 rfl ⟨sizeOf80,sizeOf41,sizeOf81,sizeOf82,sizeOf83,sizeOf84,sizeOf85,trivial⟩ ⟨isAgg80,isAgg41,isAgg81,isAgg82,isAgg83,isAgg84,isAgg85,trivial⟩ rfl
noncomputable def ti91:TI prog:=ZE 91 isAgg91 sizeOf91 underlying91 zeroValue91 typeInfo91 24 rfl
noncomputable def ti97:TI prog:=ZE 97 isAgg97 sizeOf97 underlying97 zeroValue97 typeInfo97 24 rfl
noncomputable def ti98:TI prog:=ZE 98 isAgg98 sizeOf98 underlying98 zeroValue98 typeInfo98 24 rfl
noncomputable def ti100:TI prog:=TD (ks:=[1,1,4,4]) (ag:=[false,false,true,true]) 100 isAgg100 sizeOf100 underlying100 zeroValue100 typeInfo100 176 rfl ⟨sizeOf97,sizeOf98,sizeOf59,sizeOf59,trivial⟩ ⟨isAgg97,isAgg98,isAgg59,isAgg59,trivial⟩ rfl
noncomputable def ti115:TI prog:=ZE 115 isAgg115 sizeOf115 underlying115 zeroValue115 typeInfo115 24 rfl
noncomputable def ti116:TI prog:=ZE 116 isAgg116 sizeOf116 underlying116 zeroValue116 typeInfo116 24 rfl
noncomputable def ti117:TI prog:=ZE 117 isAgg117 sizeOf117 underlying117 zeroValue117 typeInfo117 24 rfl
noncomputable def ti119:TI prog:=TD (ks:=[10,1,1,1]) (ag:=[true,false,false,false]) 119 isAgg119 sizeOf119 underlying119 zeroValue119 typeInfo119 232 rfl ⟨sizeOf100,sizeOf116,sizeOf3,sizeOf117,trivial⟩ ⟨isAgg100,isAgg116,isAgg3,isAgg117,trivial⟩ rfl
noncomputable def ti120:TI prog:=tiA 120 isAgg120 sizeOf120 underlying120 zeroValue120 typeInfo120 1160 rfl sizeOf119
noncomputable def ti122:TI prog:=TD (ks:=[1,1,1,4,65]) (ag:=[false,false,false,true,true]) 122 isAgg122 sizeOf122 underlying122 zeroValue122 typeInfo122 1264 rfl ⟨sizeOf3,sizeOf3,sizeOf115,sizeOf59,sizeOf120,trivial⟩ ⟨isAgg3,isAgg3,isAgg115,isAgg59,isAgg120,trivial⟩ rfl
noncomputable def ti125:TI prog:=ZE 125 isAgg125 sizeOf125 underlying125 zeroValue125 typeInfo125 4 rfl
noncomputable def ti135:TI prog:=ZE 135 isAgg135 sizeOf135 underlying135 zeroValue135 typeInfo135 16 rfl
noncomputable def ti136:TI prog:=tiA 136 isAgg136 sizeOf136 underlying136 zeroValue136 typeInfo136 80 rfl sizeOf135
noncomputable def ti153:TI prog:=TD (ks:=[1,1,1]) (ag:=[false,false,false]) 153 isAgg153 sizeOf153 underlying153 zeroValue153 typeInfo153 40 rfl ⟨sizeOf3,sizeOf3,sizeOf78,trivial⟩ ⟨isAgg3,isAgg3,isAgg78,trivial⟩ rfl
set_option maxRecDepth 20000 in
theorem Qkd(d:Nat)(x0 x1 x2 y0 y1 y2:Int)(w:World):(Op.equalIn (d+1+1) 163 (.agg #[.int .i64 x0,.int .i64 x1,.int .i64 x2]) (.agg #[.int .i64 y0,.int .i64 y1,.int .i64 y2])).run prog w=.ok (decide ([x0,x1,x2]=[y0,y1,y2])) w:=by
 rw[run_equalIn_array w (d+1) _ _ (n:=3) (e:=3) rfl rfl];rw[show List.range 3=[0,1,2] from rfl,show prog.cellsOf 3=1 from rfl];simp[Op.eqItems,Go.part,isAgg3,Qkg];by_cases h0:x0=y0 <;> by_cases h1:x1=y1 <;> by_cases h2:x2=y2 <;> simp[h0,h1,h2]
theorem kA(a b:U6)(ha:a.length=3)(hb:b.length=3)(w:World):(Op.equal 163 (.agg (a.map (Value.int .i64)).toArray) (.agg (b.map (Value.int .i64)).toArray)).run prog w=.ok (decide (a=b)) w:=by
 match a,ha,b,hb with
 | [x0,x1,x2],_,[y0,y1,y2],_=>exact Qkd 9998 x0 x1 x2 y0 y1 y2 w
noncomputable def ti163:TI prog:={ tiA 163 isAgg163 sizeOf163 underlying163 zeroValue163 typeInfo163 24 rfl sizeOf3 with eqn:=some 3,heq:=λk h=>by injection h with h;subst h;exact⟨eqGuardType163,kA⟩ }
set_option maxRecDepth 20000 in
theorem Qke(d:Nat)(x0 x1 x2 x3 y0 y1 y2 y3:Int)(w:World):(Op.equalIn (d+1+1) 164 (.agg #[.int .i64 x0,.int .i64 x1,.int .i64 x2,.int .i64 x3]) (.agg #[.int .i64 y0,.int .i64 y1,.int .i64 y2,.int .i64 y3])).run prog w=.ok (decide ([x0,x1,x2,x3]=[y0,y1,y2,y3])) w:=by
 rw[run_equalIn_array w (d+1) _ _ (n:=4) (e:=3) rfl rfl];rw[show List.range 4=[0,1,2,3] from rfl,show prog.cellsOf 3=1 from rfl];simp[Op.eqItems,Go.part,isAgg3,Qkg];by_cases h0:x0=y0 <;> by_cases h1:x1=y1 <;> by_cases h2:x2=y2 <;> by_cases h3:x3=y3 <;> simp[h0,h1,h2,h3]
noncomputable def ti164:TI prog:=tiA 164 isAgg164 sizeOf164 underlying164 zeroValue164 typeInfo164 32 rfl sizeOf3
set_option maxRecDepth 20000 in
theorem Qkf(d:Nat)(x x0 x1 x2 x3 y y0 y1 y2 y3:Int)(w:World):(Op.equalIn (d+1+1+1) 166 (.agg #[.int .i64 x,.int .i64 x0,.int .i64 x1,.int .i64 x2,.int .i64 x3]) (.agg #[.int .i64 y,.int .i64 y0,.int .i64 y1,.int .i64 y2,.int .i64 y3])).run prog w=.ok (decide ([x,x0,x1,x2,x3]=[y,y0,y1,y2,y3])) w:=by
 rw[run_equalIn_struct w (d+1+1) 166 _ _ rfl Tryz.stoodInHeld166];have hf:(prog.fieldsOf 166).toList=[{ name := "Kind",type:=3,offset:=0,embedded:=false,tag := "",pkgPath := "",byteOffset:=0 },{ name := "Ids",type:=164,offset:=1,embedded:=false,tag := "",pkgPath := "",byteOffset:=8 }]:=by simp[Program.fieldsOf,underlying166]
 rw[hf];simp[Op.eqFields,Go.part,isAgg3,isAgg164,sizeOf164,sizeOf3,Qkg,Qke];by_cases h:x=y <;> by_cases h0:x0=y0 <;> by_cases h1:x1=y1 <;> by_cases h2:x2=y2 <;> by_cases h3:x3=y3 <;> simp[h,h0,h1,h2,h3]
theorem Qr0(a b:U6)(ha:a.length=5)(hb:b.length=5)(w:World):(Op.equal 166 (.agg (a.map (Value.int .i64)).toArray) (.agg (b.map (Value.int .i64)).toArray)).run prog w=.ok (decide (a=b)) w:=by
 match a,ha,b,hb with
 | [x,x0,x1,x2,x3],_,[y,y0,y1,y2,y3],_=>exact Qkf 9997 x x0 x1 x2 x3 y y0 y1 y2 y3 w
noncomputable def ti166:TI prog:={ TD (ks:=[1,4]) (ag:=[false,true]) 166 isAgg166 sizeOf166 underlying166 zeroValue166 typeInfo166 40 rfl ⟨sizeOf3,sizeOf164,trivial⟩ ⟨isAgg3,isAgg164,trivial⟩ rfl with eqn:=some 5,heq:=λk h=>by injection h with h;subst h;exact⟨eqGuardType166,Qr0⟩ }
noncomputable def ti168:TI prog:=TD (ks:=[5,1,1]) (ag:=[true,false,false]) 168 isAgg168 sizeOf168 underlying168 zeroValue168 typeInfo168 72 rfl ⟨sizeOf166,sizeOf32,sizeOf3,trivial⟩ ⟨isAgg166,isAgg32,isAgg3,trivial⟩ rfl
noncomputable def ti178:TI prog:=TD (ks:=[1]) (ag:=[false]) 178 isAgg178 sizeOf178 underlying178 zeroValue178 typeInfo178 24 rfl ⟨sizeOf78,trivial⟩ ⟨isAgg78,trivial⟩ rfl
noncomputable def ti181:TI prog:=ZE 181 isAgg181 sizeOf181 underlying181 zeroValue181 typeInfo181 24 rfl
noncomputable def ti183:TI prog:=TD (ks:=[1,9,1,1]) (ag:=[false,true,false,false]) 183 isAgg183 sizeOf183 underlying183 zeroValue183 typeInfo183 192 rfl ⟨sizeOf4,sizeOf75,sizeOf181,sizeOf3,trivial⟩ ⟨isAgg4,isAgg75,isAgg181,isAgg3,trivial⟩ rfl
noncomputable def ti185:TI prog:=TD (ks:=[12,1,1]) (ag:=[true,true,false]) 185 isAgg185 sizeOf185 underlying185 zeroValue185 typeInfo185 240 rfl ⟨sizeOf183,sizeOf178,sizeOf78,trivial⟩ ⟨isAgg183,isAgg178,isAgg78,trivial⟩ rfl
noncomputable def ti188:TI prog:=ZE 188 isAgg188 sizeOf188 underlying188 zeroValue188 typeInfo188 24 rfl
noncomputable def ti190:TI prog:=TD (ks:=[12,1,1,1]) (ag:=[true,true,false,false]) 190 isAgg190 sizeOf190 underlying190 zeroValue190 typeInfo190 264 rfl ⟨sizeOf183,sizeOf178,sizeOf78,sizeOf188,trivial⟩ ⟨isAgg183,isAgg178,isAgg78,isAgg188,trivial⟩ rfl
noncomputable def ti192:TI prog:=TD (ks:=[12,1,1]) (ag:=[true,true,false]) 192 isAgg192 sizeOf192 underlying192 zeroValue192 typeInfo192 240 rfl ⟨sizeOf183,sizeOf178,sizeOf78,trivial⟩ ⟨isAgg183,isAgg178,isAgg78,trivial⟩ rfl
noncomputable def ti194:TI prog:=TD (ks:=[12,1,1]) (ag:=[true,true,false]) 194 isAgg194 sizeOf194 underlying194 zeroValue194 typeInfo194 240 rfl ⟨sizeOf183,sizeOf178,sizeOf78,trivial⟩ ⟨isAgg183,isAgg178,isAgg78,trivial⟩ rfl
noncomputable def ti196:TI prog:=TD (ks:=[12,1,1]) (ag:=[true,true,false]) 196 isAgg196 sizeOf196 underlying196 zeroValue196 typeInfo196 240 rfl ⟨sizeOf183,sizeOf178,sizeOf68,trivial⟩ ⟨isAgg183,isAgg178,isAgg68,trivial⟩ rfl
noncomputable def ti208:TI prog:=ZE 208 isAgg208 sizeOf208 underlying208 zeroValue208 typeInfo208 24 rfl
noncomputable def ti249:TI prog:=ZE 249 isAgg249 sizeOf249 underlying249 zeroValue249 typeInfo249 8 rfl
noncomputable def ti250:TI prog:=ZE 250 isAgg250 sizeOf250 underlying250 zeroValue250 typeInfo250 8 rfl
noncomputable def ti258:TI prog:=tiA 258 isAgg258 sizeOf258 underlying258 zeroValue258 typeInfo258 176 rfl sizeOf39
theorem Qem(em:Bool)(n:Nat)(v:Int)(w:World):(Instr.checkKey em (n+1) 3 (.int .i64 v)).run prog w=.ok () w:=by
 rw[Instr.checkKey];simp[runUnderlying3]
theorem kK(em:Bool)(n:Nat)(a b c:Int)(w:World):(Instr.checkKey em (n+1+1) 163 (.agg #[.int .i64 a,.int .i64 b,.int .i64 c])).run prog w=.ok () w:=by
 rw[Instr.checkKey];simp[runUnderlying163];rw[show List.range' 0 3=[0,1,2] from rfl];simp[Go.part,isAgg3,sizeOf3,Qem]
theorem HO(em:Bool)(ks:U6)(hk:ks.length=3)(w:World):(Instr.checkKey em 10000 163 (I6 ks)).run prog w=.ok () w:=by
 match ks,hk with
 | [a,b,c],_=>exact kK em 9998 a b c w
theorem Qls:MapT prog 263 163 3 (.int .i64 0):=⟨runUnderlying263,⟨_,runUnderlying163,λ_ _=>rfl⟩,HO,λx y hx hy w=>kA x y hx hy w,zeroValue3,rfl⟩
noncomputable def ti263:TI prog:={ ZE 263 isAgg263 sizeOf263 underlying263 zeroValue263 typeInfo263 8 rfl with md:=some (.int .i64 0),hmd:=λd h=>by injection h with h;subst h;exact⟨163,3,Qls⟩ }
theorem Qlt:MapT prog 264 163 4 (.bool false):=⟨runUnderlying264,⟨_,runUnderlying163,λ_ _=>rfl⟩,HO,λx y hx hy w=>kA x y hx hy w,zeroValue4,rfl⟩
noncomputable def ti264:TI prog:={ ZE 264 isAgg264 sizeOf264 underlying264 zeroValue264 typeInfo264 8 rfl with md:=some (.bool false),hmd:=λd h=>by injection h with h;subst h;exact⟨163,4,Qlt⟩ }
noncomputable def ti267:TI prog:=TD (ks:=[5,1,1,1,1]) (ag:=[true,false,false,false,false]) 267 isAgg267 sizeOf267 underlying267 zeroValue267 typeInfo267 104 rfl ⟨sizeOf166,sizeOf97,sizeOf3,sizeOf117,sizeOf4,trivial⟩ ⟨isAgg166,isAgg97,isAgg3,isAgg117,isAgg4,trivial⟩ rfl
noncomputable def ti282:TI prog:=ZE 282 isAgg282 sizeOf282 underlying282 zeroValue282 typeInfo282 24 rfl
noncomputable def ti302:TI prog:=TD (ks:=[7,1,1,9]) (ag:=[true,false,false,true]) 302 isAgg302 sizeOf302 underlying302 zeroValue302 typeInfo302 232 rfl ⟨sizeOf168,sizeOf4,sizeOf4,sizeOf75,trivial⟩ ⟨isAgg168,isAgg4,isAgg4,isAgg75,trivial⟩ rfl
noncomputable def ti311:TI prog:=tiA 311 isAgg311 sizeOf311 underlying311 zeroValue311 typeInfo311 72 rfl sizeOf31
noncomputable def ti318:TI prog:=ZE 318 isAgg318 sizeOf318 underlying318 zeroValue318 typeInfo318 24 rfl
noncomputable def ti323:TI prog:=TD (ks:=[1]) (ag:=[false]) 323 isAgg323 sizeOf323 underlying323 zeroValue323 typeInfo323 24 rfl ⟨sizeOf282,trivial⟩ ⟨isAgg282,trivial⟩ rfl
noncomputable def ti338:TI prog:=ZE 338 isAgg338 sizeOf338 underlying338 zeroValue338 typeInfo338 24 rfl
noncomputable def ti343:TI prog:=TD (ks:=[1,1,4]) (ag:=[false,false,true]) 343 isAgg343 sizeOf343 underlying343 zeroValue343 typeInfo343 128 rfl ⟨sizeOf97,sizeOf97,sizeOf37,trivial⟩ ⟨isAgg97,isAgg97,isAgg37,trivial⟩ rfl
noncomputable def ti345:TI prog:=TD (ks:=[6,1]) (ag:=[true,false]) 345 isAgg345 sizeOf345 underlying345 zeroValue345 typeInfo345 136 rfl ⟨sizeOf343,sizeOf3,trivial⟩ ⟨isAgg343,isAgg3,trivial⟩ rfl
noncomputable def ti347:TI prog:=ZE 347 isAgg347 sizeOf347 underlying347 zeroValue347 typeInfo347 24 rfl
noncomputable def ti351:TI prog:=tiA 351 isAgg351 sizeOf351 underlying351 zeroValue351 typeInfo351 272 rfl sizeOf345
noncomputable def ti383:TI prog:=ZE 383 isAgg383 sizeOf383 underlying383 zeroValue383 typeInfo383 24 rfl
noncomputable def ti384:TI prog:=ZE 384 isAgg384 sizeOf384 underlying384 zeroValue384 typeInfo384 24 rfl
noncomputable def tt:TT prog:=(.nd (.nd (.nd (.nd (.nd (.nd (.nd .nil ti3 .nil) ti4 .nil) ti5 (.nd .nil ti9 .nil)) ti22 (.nd (.nd (.nd .nil ti23 .nil) ti26 .nil) ti29 (.nd .nil ti31 .nil))) ti32 (.nd (.nd (.nd (.nd .nil ti33 .nil) ti35 .nil) ti37 (.nd .nil ti39 .nil)) ti41 (.nd (.nd (.nd .nil ti43 .nil) ti54 .nil) ti55 (.nd .nil ti57 .nil)))) ti59 (.nd (.nd (.nd (.nd (.nd .nil ti68 .nil) ti70 .nil) ti75 (.nd .nil ti78 .nil)) ti80 (.nd (.nd (.nd .nil ti81 .nil) ti82 .nil) ti83 (.nd .nil ti84 .nil))) ti85 (.nd (.nd (.nd (.nd .nil ti87 .nil) ti91 .nil) ti97 (.nd .nil ti98 .nil)) ti100 (.nd (.nd .nil ti115 .nil) ti116 (.nd .nil ti117 .nil))))) ti119 (.nd (.nd (.nd (.nd (.nd (.nd .nil ti120 .nil) ti122 .nil) ti125 (.nd .nil ti135 .nil)) ti136 (.nd (.nd (.nd .nil ti153 .nil) ti163 .nil) ti164 (.nd .nil ti166 .nil))) ti168 (.nd (.nd (.nd (.nd .nil ti178 .nil) ti181 .nil) ti183 (.nd .nil ti185 .nil)) ti188 (.nd (.nd (.nd .nil ti190 .nil) ti192 .nil) ti194 (.nd .nil ti196 .nil)))) ti208 (.nd (.nd (.nd (.nd (.nd .nil ti249 .nil) ti250 .nil) ti258 (.nd .nil ti263 .nil)) ti264 (.nd (.nd (.nd .nil ti267 .nil) ti282 .nil) ti302 (.nd .nil ti311 .nil))) ti318 (.nd (.nd (.nd (.nd .nil ti323 .nil) ti338 .nil) ti343 (.nd .nil ti345 .nil)) ti347 (.nd (.nd .nil ti351 .nil) ti383 (.nd .nil ti384 .nil))))))
instance:Mo prog:=⟨rfl⟩
theorem Uv{n : Nat}{Q : Exit -> Sg -> List OB -> Prop}{L L' : Sg}{B B' : List OB}{it it' : List It}{as0 : List Qv}{ob : List Prop}(hs : List (H Tryz.prog))(h : (match run tt n 100000 it L B hs [] []with
 |some (it, L, B, q, ob) => (match zX ob with
  |some ob => some (it, L, B, q.map (·.1), q.map (·.2), ob)
  |none => none)
 |none => none) = some (it', L', B', as0, as0, ob)) (k : AK Tryz.prog n Q it' L' B') (ho : Gd ob := by exact trivial) : AK Tryz.prog n Q it L B := go tt hs h ho k
theorem Uw{n : Nat}{Q : Exit -> Sg -> List OB -> Prop}{L L' : Sg}{B B' : List OB}{it it' : List It}{as0 : List Qv}{ob : List Prop}(hs : List (H Tryz.prog))(h : (match run tt n 100000 it L B hs [] []with
 |some (it, L, B, q, ob) => (match zX ob with
  |some ob => some (it, L, B, q.map (·.1), q.map (·.2), ob)
  |none => none)
 |none => none) = some (it', L', B', as0, as0, ob)) (k : AK Tryz.prog n Q it' L' B') (ho : Gd ob := by simp[Gd];omega) : AK Tryz.prog n Q it L B := go tt hs h ho k
variable{n:Nat}{fn:Func}{c:Code}{res:List TV}{as0:List Qv}
theorem Uy{f : FuncId}{args us: List TV}{ob : List Prop}(hf : Tryz.prog.funcs[f]? = some fn)(hh : (fn.body, fn.ntmps, (fn.name == "runtime.NumGoroutine"), Nat.ble args.length n) = (some c, n, false, true))(hs : List (H Tryz.prog))
 (h : wE tt n c fn.results.toList args hs = some (us, as0, as0, ob)) (he : us = res := by exact rfl) (ho : Gd ob := by exact trivial) : qM Tryz.prog f args res := w tt hf hh hs h he ho
variable{L:Sg}{B:List OB}{it:List It}
theorem Ux{us: List TV}{ob : List Prop}(hs : List (H Tryz.prog))(h : enE tt n fn.results.toList it L B hs = some (us, as0, as0, ob))(he : us = res := by exact rfl)(ho : Gd ob := by exact trivial): AK Tryz.prog n (RQ Tryz.prog fn n 0 λu B => u = res /\ B = []) it L B := en tt hs h he ho
theorem Uz{k : Nat}{Bout : List OB}{ob : List Prop}(ps is : List Nat)(hs : List (H Tryz.prog))(h : edE tt n k fn.results.toList it L B hs res Bout ps is = some (as0, as0, ob))(ho : Gd ob := by exact trivial): AK Tryz.prog n (RQ Tryz.prog fn n k λu B => u = res /\ B = Bout) it L B := ed tt ps is hs h ho
theorem U0{Q : Exit -> Sg -> List OB -> Prop}{S : Type}{r : List It}{L1 : Sg}(k : Nat)(st : Sg -> S -> Sg)(bs : S -> List OB)(μ : S -> Nat)(I : S -> Prop)(s0 : S)(h0 : I s0)(hL : prn (fC c []) L = some L1)(hs : two (iG none L B (st L1 s0) (bs s0)) = some (as0, as0))
 (round : ∀s, I s -> AK Tryz.prog n Q (.code c :: .rnd (some k) (λL B => ∃s', μ s' < μ s /\ I s' /\ L = st L1 s' /\ B = bs s') :: r) (st L1 s) (bs s)) (hk : ∀s, I s -> (bs s).length = k := by exact λ_ _ => rfl) : AK Tryz.prog n Q (.code (.loop c) :: r) L B := lp k st bs μ I s0 h0 hL hk hs round
abbrev U3(f : Nat)(a r : List TV) : Prop := qM Tryz.prog f a r
variable{p:Prop}
theorem Fu(h : p := by simp[Gd];omega): p := h
theorem Fv(h : p := by simp[Gd] <;> omega): p := h
theorem Fw(h : p := by simp[Gd]): p := h
end Orr
namespace Orr
open Go Go.Proofs Tryz
set_option maxRecDepth 10000
def lm(l:U8):Fc:=l.map λ(x:Nat)=>[.int .u32 (x:Int)]
abbrev lr(l:U8):TV:=.one (.row (lm l))
theorem Gb(l:U8):(lm l).length=l.length:=by simp[lm]
variable{l:U8}
theorem Rh{i x:Nat}(h:l[i]? = some x):(lm l)[i]? = some [.int .u32 (x:Int)]:=by simp[lm,h]
def fU:U8->U8
 | []=>[]
 |
  x::l=>match fU l with
  | []=>if x=0 then []else [x]
  |r=>x::r
theorem Qub:fU l=[]↔∀x∈l,x=0:=by
 induction l with
 |nil=>simp[fU]
 |
  cons x l ih =>
  simp only[fU]
  split
  ·rename_i e;have h1:=ih.1 e;by_cases h:x=0
   ·simp[h];exact h1
   ·simp[h]
  ·rename_i r hne;simp only[reduceCtorEq,Qk,forall_eq_or_imp,false_iff,not_and];exact λ_ h=>hne (ih.2 h)
theorem TA:∀{l:U8} {n:Nat},n<=l.length->(∀j,n<=j->j<l.length->l[j]? = some 0)->(n=0\/∃x,l[n-1]? = some x/\x≠0)->l.take n=fU l
 | [],n,h,_,_=>by simp at h;subst h;rfl
 |
  x::l,0,h,hz,_=>by
  rw[Kd];refine(Qub.2 λy hy=>?_).symm;obtain⟨j,hj⟩:=Zk.1 hy;have:=hz j (Qg _) (Qd.1 hj).1;rw[hj]at this;injection this
 |
  x::l,n+1,h,hz,ht=>by
  simp only[Q5,Nat.add_le_add_iff_right]at h;have hz':∀j,n<=j->j<l.length->l[j]? = some 0:=λj h1 h2=>by simpa using hz (j+1) Fj (by simpa using h2)
  cases n with
  |
   zero =>
   have e:fU l=[]:=(TA (n:=0) h hz' (.inl rfl)).symm;rcases ht with h|⟨y,h1,h2⟩
   ·omega
   ·simp at h1;subst h1;simp[fU,e,h2]
  |
   succ n =>
   have ih:=TA (n:=n+1) h hz' (.inr (by rcases ht with h|⟨y,h1,h2⟩;(· omega);exact⟨y,by simpa using h1,h2⟩));simp only[Vy,fU];rw[<-ih];cases hl:l with
   |nil=>rw[hl]at h;simp at h
   |cons y l'=>simp[Vy]
theorem Q2t(l:U8):U3 190 [lr l] [lr (fU l)]:=by
 refine G5 func190 rfl (ln 0 rfl rfl λhl=>?_);rw[Gb]at hl;refine Uv [] rfl ?_;refine U0 (S:=Nat) 0 (λL1 n=>(3,.v (.oi n))::L1) (λ_=>[]) id (λn=>n<=l.length/\∀j,n<=j->j<l.length->l[j]? = some 0) (lm l).length ⟨by rw[Gb];exact Qm _,λj h1 h2=>by rw[Gb]at h1;omega⟩ rfl rfl λn ⟨h1,h2⟩=>?_
 cases n with
 |zero=>exact Ux [.f Fp,.f rfl,.i 0] rfl (by rw[<-TA h1 h2 (.inl rfl)];simp[lm]) (by simp[Gd,Tk])
 |
  succ n =>
  obtain⟨x,hx⟩:=gxE (l:=l) (i:=n) Fj;by_cases h0:x=0
  ·refine go tt [.t Fp,.r 11 (v:=.oi n) Fp,.x (Rh hx),.t (by simp[h0]),.r 17 (v:=.oi n) Fp] rfl (by simp[Gd,Tk];omega) ?_;exact rd n Fp ⟨Fj,λj h3 h4=>by
    rcases V3 h3 with rfl|h3
    ·rw[hx,h0]
    ·exact h2 j h3 h4⟩ rfl
  ·exact Ux [.t Fp,.r 11 (v:=.oi n) Fp,.x (Rh hx),.f (by simp[h0]),.i (n+1)] rfl (by rw[<-TA h1 h2 (.inr ⟨x,hx,h0⟩)];simp[lm]) (by simp[Gd,Tk,Gb] <;> omega)
def Sm(l:U8):Prop:=∀x∈l,x<4294967296
theorem fF:∀l:U8,Cut l (fU l).length/\l.take (fU l).length=fU l
 | []=>⟨⟨Qm _,λj _ h=>by simp at h,λh=>by simp[fU]at h⟩,rfl⟩
 |
  x::l=>by
  obtain⟨⟨h1,h2,h3⟩,h4⟩:=fF l;simp only[fU]
  split
  ·rename_i e;rw[e]at h2 h3;by_cases h:x=0
   ·rw[if_pos h];refine⟨⟨Qg _,λj _ hj=>?_,λh=>by simp at h⟩,rfl⟩;cases j with
    |zero=>simp[h]
    |succ j=>simpa using h2 j (Qg _) (by simpa using hj)
   ·rw[if_neg h];refine⟨⟨Fp,λj h5 hj=>?_,λ_=>⟨x,rfl,h⟩⟩,rfl⟩;cases j with
    |zero=>simp at h5
    |succ j=>simpa using h2 j (Qg _) (by simpa using hj)
  ·rename_i r hne;refine⟨⟨by simp[h1],λj h5 hj=>?_,λ_=>?_⟩,by simp[h4]⟩
   ·cases j with
    |zero=>simp at h5
    |succ j=>simpa using h2 j (by simpa using h5) (by simpa using hj)
   ·have hp:0<(fU l).length:=by
     cases e:fU l with
     |nil=>exact absurd e hne
     |cons=>simp
    obtain⟨y,h5,h6⟩:=h3 hp;refine⟨y,?_,h6⟩;rw[Q5,show(fU l).length+1-1=((fU l).length-1)+1 from Fj];simpa using h5
theorem vK(h:Sm l):fU l=He (val l):=by
 obtain⟨h1,h2⟩:=fF l;refine Qlm ?_ ?_
 ·rw[<-h2];exact Qrp h1 h
 ·rw[<-h2];exact Qrq h1
theorem Ak(x:Nat):Sm (He x):=(Eg x).1
theorem Sy{x k:Nat}(h:sz x<=k):32*(He x).length<=k+31:=by
 have:=Qsp (Eg x);rw[Ro]at this;omega
theorem WO(h:Sm l):U3 190 [lr l] [lr (He (val l))]:=vK h ▸ Q2t l
theorem Qlo(l:U8):∀c∈lm l,c.length=1:=λc hc=>by
 obtain⟨x,_,rfl⟩:=Q8.1 hc;rfl
theorem UT(h:Sm l)(hs:sz (val l)<=4294967296):U3 134 [lr l] [lr (He (val l))] :=
 Uy func134 rfl [.k (WO h),.s (Qlo (He (val l)))] rfl rfl (by have:=Sy hs;simp[Gd,Tk,Gb];omega)
theorem PY{a:U8}(ha:Sm a):∃p,U3 190 [lr a] [lr p]/\gA p/\val p=val a/\p.length<=a.length/\p=He (val a) :=
 ⟨_,WO ha,Eg _,Ro _,by rw[<-vK ha];exact(fF a).1.1,rfl⟩
theorem Qg8{a b:U8}(ha:Sm a)(hb:Sm b):U3 189 [lr a,lr b] [.oi (JB (val a) (val b))]:=by
 refine G5 func189 rfl (ln 0 rfl rfl λhl=>ln 1 rfl rfl λhl'=>?_);rw[Gb]at hl hl';obtain⟨p,ca,np,vp,lp',_⟩:=PY ha;obtain⟨q,cb,nq,vq,lq,_⟩:=PY hb;rw[<-vp,<-vq];by_cases h:p.length=q.length
 ·refine go tt [.k ca,.k cb,.f (by simp[Gb,h])] rfl (by simp[Gd,Tk,Gb] <;> omega) ?_;refine U0 (S:=Int) 0 (λL1 i=>(5,.v (.oi i))::L1) (λ_=>[]) (λi=>(i+1).toNat) (λi=>-1<=i/\i<p.length/\p.drop (i+1).toNat=q.drop (i+1).toNat) (((lm p).length:Int)-1) ⟨Fj,by simp[Gb];omega,by simp[Gb,h]⟩ rfl rfl λi ⟨h1,h2,h3⟩=>?_
  rcases Kv i 0 with hi|hi
  ·obtain rfl:i=-1:=Fj;exact Ux [.f Fl] rfl (by rw[Qat];exact congrArg val (by simpa using h3)) trivial
  ·obtain⟨k,rfl⟩:=K8 hi;have e:((k:Int)+1).toNat=k+1:=Fj;rw[e]at h3;obtain⟨x,hx⟩:=gxE (l:=p) (i:=k) Fj;obtain⟨y,hy⟩:=gxE (l:=q) (i:=k) Fj;rcases Vb x y with hxy|rfl|hxy
   ·exact Ux [.t Fp,.x (Rh hx),.x (Rh hy),.t Fo] rfl (by rw[CS (Qdd np.1 h3 hx hy hxy)]) (by simp[Gd,Tk,Gb] <;> omega)
   ·refine go tt [.t Fp,.x (Rh hx),.x (Rh hy),.f Fp,.x (Rh hx),.x (Rh hy),.f Fp] rfl (by simp[Gd,Tk,Gb] <;> omega) ?_;exact rd ((k:Int)-1) Fj ⟨Fj,Fj,by rw[show((k:Int)-1+1).toNat=k from Fj];exact Qev h3 hx hy⟩ rfl
   ·exact Ux [.t Fp,.x (Rh hx),.x (Rh hy),.f Fo,.x (Rh hx),.x (Rh hy),.t Fo] rfl (by rw[CH (Qdd nq.1 h3.symm hy hx hxy)]) (by simp[Gd,Tk,Gb] <;> omega)
 ·by_cases h2:p.length<q.length
  ·exact Ux [.k ca,.k cb,.t (by simp[Gb];omega),.t (by simp[Gb];omega)] rfl (by rw[CS (Ex np nq h2)]) (by simp[Gd,Tk])
  ·exact Ux [.k ca,.k cb,.t (by simp[Gb];omega),.f (by simp[Gb];omega)] rfl (by rw[CH (Ex nq np Fj)]) (by simp[Gd,Tk])
theorem FM(m:Nat):List.replicate m [LV.int .u32 0]=lm (List.replicate m 0):=by simp[lm]
theorem Ld(l:U8)(i x:Nat):(lm l).set i [.int .u32 (x:Int)]=lm (l.set i x):=by simp[lm,Kc]
theorem Er{a b:Int}(h:a=b):TV.one (LV.int .u64 a)=.one (.int .u64 b):=h ▸ rfl
theorem A0{a b:Int}(h:a=b):TV.one (LV.int .u32 a)=.one (.int .u32 b):=h ▸ rfl
theorem eI{a b:Int}(h:a=b):TV.one (LV.int .i64 a)=.oi b:=h ▸ rfl
theorem vU(z:Int):IntKind.u32.wrap z=z % 4294967296:=by simp[IntKind.wrap,IntKind.bits,IntKind.signed]
theorem w64(z:Int):IntKind.u64.wrap z=z % 18446744073709551616:=by simp[IntKind.wrap,IntKind.bits,IntKind.signed]
theorem Quz{a b:U8}(ha:Sm a)(hb:Sm b)(h1:sz (val a)<=4294967296)(h2:sz (val b)<=4294967296):U3 279 [lr a,lr b] [lr (He (val a+val b))]:=by
 refine G5 func279 rfl ?_;obtain⟨p,ca,np,vp,_,ep⟩:=PY ha;obtain⟨q,cb,nq,vq,_,eq⟩:=PY hb;have lp':=Sy h1;have lq:=Sy h2;rw[<-ep]at lp';rw[<-eq]at lq;rw[<-vp,<-vq];refine Uv [.k ca,.k cb] rfl ?_;refine ct 1 (S:=U8×U8) (λs=>[(0,.v (lr s.1)),(1,.v (lr s.2))]) (λ_=>[]) (λs=>gA s.1/\gA s.2/\32*s.1.length<=4294967327/\s.2.length<=s.1.length/\val s.1+val s.2=val p+val q) rfl ?_ ?_
 ·by_cases h:p.length<q.length
  ·exact go tt [.t (by simp[Gb];omega)] rfl trivial (rc (q,p) ⟨nq,np,lq,Y4 h,Ye _ _⟩ rfl)
  ·exact go tt [.f (by simp[Gb];omega)] rfl trivial (rc (p,q) ⟨np,nq,lp',Yq h,rfl⟩ rfl)
 ·intro⟨p',q'⟩ ⟨np,nq,hp,hq,e⟩;dsimp only at np nq hp hq e;rw[<-e];clear ca cb e vp vq ep eq;refine go tt [.i ((lm p').length+1),.i ((lm p').length+1)] rfl (by simp[Gd,Tk,Gb] <;> omega) ?_;rw[FM];refine lp (S:=Nat×U8×Nat) 1 (λL1 s=>(27,.v (.oi (s.1:Int)))::(6,.v (.one (.int .u64 (s.2.2:Int))))::L1) (λs=>[.row false 125 1 (lm s.2.1)]) (λs=>p'.length-s.1)
   (λs=>s.1<=p'.length/\s.2.1.length=p'.length+1/\Sm s.2.1/\s.2.2<=1/\val (s.2.1.take s.1)+s.2.2*4294967296^s.1=val (p'.take s.1)+val (q'.take s.1)) (0,List.replicate ((lm p').length+1) 0,0)
   ⟨Qg _,by simp[Gb],λx hx=>by rw[Z0 hx];decide,Qg _,by simp[val]⟩ rfl (λ_ _=>rfl) rfl λ⟨i,o,c⟩ ⟨j1,j2,j3,j4,j5⟩=>?_
  dsimp only at j1 j2 j3 j4 j5 ⊢;by_cases hi:i<p'.length
  ·obtain⟨x,hx⟩:=gxE (l:=p') (i:=i) hi;have xb:=np.1 x (Qa hx);have fin:∀y s,(q'[i]? = some y\/q'.length<=i/\y=0)->y<4294967296->s=x+c+y->p'.length-(i+1)<p'.length-i/\i+1<=p'.length/\(o.set i (s % 4294967296)).length=p'.length+1/\Sm (o.set i (s % 4294967296))/\s / 4294967296<=1 /\
    val ((o.set i (s % 4294967296)).take (i+1))+s / 4294967296*4294967296^(i+1)=val (p'.take (i+1))+val (q'.take (i+1)):=λy s hy hyb hs =>
    ⟨Fj,hi,by simp[j2],Dh j3 i _ Fj,Fj,gI Fj hx hy j5 hs⟩
   by_cases hi2:i<q'.length
   ·obtain⟨y,hy⟩:=gxE (l:=q') (i:=i) hi2;have yb:=nq.1 y (Qa hy);refine go tt [.t (by simp[Gb];omega),.x (Rh hx),.t (by simp[Gb];omega),.x (Rh hy),.w 2,.r 50 (v:=.one (.int .u32 (((x+c+y) % 4294967296:Nat):Int))) (by simp[IntKind.wrap,IntKind.bits,IntKind.signed]),.i 32,.r 52 (v:=.one (.int .u64 (((x+c+y) / 4294967296:Nat):Int))) Fp,.i i] rfl (by simp[Gd,Tk,Gb,IntKind.bits] <;> omega) ?_;rw[Ld];exact rd (i+1,o.set i ((x+c+y) % 4294967296),(x+c+y) / 4294967296) (fin y _ (.inl hy) yb rfl).1 (fin y _ (.inl hy) yb rfl).2 rfl
   ·refine go tt [.t (by simp[Gb];omega),.x (Rh hx),.f (by simp[Gb];omega),.w 0,.r 50 (v:=.one (.int .u32 (((x+c+0) % 4294967296:Nat):Int))) (by simp[IntKind.wrap,IntKind.bits,IntKind.signed]),.i 32,.r 52 (v:=.one (.int .u64 (((x+c+0) / 4294967296:Nat):Int))) Fp,.i i] rfl (by simp[Gd,Tk,Gb,IntKind.bits] <;> omega) ?_;rw[Ld];exact rd (i+1,o.set i ((x+c+0) % 4294967296),(x+c+0) / 4294967296) (fin 0 _ (.inr ⟨Fj,rfl⟩) Fl rfl).1 (fin 0 _ (.inr ⟨Fj,rfl⟩) Fl rfl).2 rfl
  ·obtain rfl:i=p'.length:=Fj;refine go tt [.f (by simp[Gb]),.w 0,.r 59 (v:=.one (.int .u32 (c:Int))) (by simp[IntKind.wrap,IntKind.bits,IntKind.signed];omega),.i (lm p').length] rfl (by simp[Gd,Tk,Gb,j2]) ?_;rw[Gb,Ld];have e:val (o.set p'.length c)=val p'+val q':=by
    have h1:=JF o p'.length c Fj;rw[Qo Fo]at h1;rw[Qo (Qm _),Qo hq]at j5;rw[h1,<-j5,Zr]
   rw[<-e];exact Ux [.k (WO (Dh j3 _ c Fj))] rfl
theorem rA{x y:Nat}:JB x y<0↔x<y:=by unfold JB;split <;> (try split) <;> omega
theorem Qu5{a b:U8}(ha:Sm a)(hb:Sm b)(h1:sz (val a)<=4294967296):U3 280 [lr a,lr b] (if val b<=val a then [lr (He (val a-val b)),.one (.bool true)]else [lr [],.one (.bool false)]):=by
 refine G5 func280 rfl ?_;obtain⟨p,ca,np,vp,_,ep⟩:=PY ha;obtain⟨q,cb,nq,vq,_,_⟩:=PY hb;have hp:=Sy h1;rw[<-ep]at hp;rw[<-vp,<-vq];have cc:=Qg8 np.1 nq.1;by_cases hlt:val p<val q
 ·rw[if_neg Fj];exact Ux [.k ca,.k cb,.k cc,.t (by simpa using rA.2 hlt)] rfl
 rw[if_pos Fj];have hq:q.length<=p.length:=Yq λh=>hlt (Ex np nq h)
 refine go tt [.k ca,.k cb,.k cc,.f (by have:=mt rA.1 hlt;simpa using this),.i (lm p).length,.i (lm p).length] rfl (by simp[Gd,Tk,Gb] <;> omega) ?_;rw[FM];refine lp (S:=Nat×U8×Nat) 1 (λL1 s=>(24,.v (.oi (s.1:Int)))::(7,.v (.one (.int .u64 (s.2.2:Int))))::L1) (λs=>[.row false 125 1 (lm s.2.1)]) (λs=>p.length-s.1)
  (λs=>s.1<=p.length/\s.2.1.length=p.length/\Sm s.2.1/\s.2.2<=1/\val (s.2.1.take s.1)+val (q.take s.1)=val (p.take s.1)+s.2.2*4294967296^s.1) (0,List.replicate (lm p).length 0,0)
  ⟨Qg _,by simp[Gb],λx hx=>by rw[Z0 hx];decide,Qg _,by simp[val]⟩ rfl (λ_ _=>rfl) rfl λ⟨i,o,c⟩ ⟨j1,j2,j3,j4,j5⟩=>?_
 dsimp only at j1 j2 j3 j4 j5 ⊢;by_cases hi:i<p.length
 ·obtain⟨x,hx⟩:=gxE (l:=p) (i:=i) hi;have xb:=np.1 x (Qa hx);have fin:∀y s,(q[i]? = some y\/q.length<=i/\y=0)->y<4294967296->s=(x+18446744073709551616-c-y) % 18446744073709551616->p.length-(i+1)<p.length-i/\i+1<=p.length/\(o.set i (s % 4294967296)).length=p.length/\Sm (o.set i (s % 4294967296))/\s / 9223372036854775808<=1 /\
   val ((o.set i (s % 4294967296)).take (i+1))+val (q.take (i+1))=val (p.take (i+1))+s / 9223372036854775808*4294967296^(i+1):=λy s hy hyb hs=>by
   obtain⟨h1,h2⟩:=Qn4 (o:=o) Fj hx hy xb hyb j4 j5 hs;exact⟨Fj,hi,by simp[j2],Dh j3 i _ Fj,h2,h1⟩
  by_cases hi2:i<q.length
  ·obtain⟨y,hy⟩:=gxE (l:=q) (i:=i) hi2;have yb:=nq.1 y (Qa hy);obtain⟨s,hs⟩:=nmE ((x+18446744073709551616-c-y) % 18446744073709551616);refine go tt [.t (by simp[Gb];omega),.x (Rh hx),.w 1,.r 32 (Er (b:=(((x+18446744073709551616-c) % 18446744073709551616:Nat):Int)) (by rw[w64];omega)),.t (by simp[Gb];omega),.x (Rh hy),.w 1,.r 43 (Er (b:=(s:Int)) (by rw[w64];omega)),.w 0,.r 47 (A0 (b:=((s % 4294967296:Nat):Int)) (by rw[vU];omega)),.i 63,.r 49 (Er (b:=((s / 9223372036854775808:Nat):Int)) Fp),.i i] rfl (by simp[Gd,Tk,Gb,IntKind.bits] <;> omega) ?_;rw[Ld];exact rd (i+1,o.set i (s % 4294967296),s / 9223372036854775808) (fin y _ (.inl hy) yb hs).1 (fin y _ (.inl hy) yb hs).2 rfl
  ·obtain⟨s,hs⟩:=nmE ((x+18446744073709551616-c-0) % 18446744073709551616);have hf:=fin 0 _ (.inr ⟨Fj,rfl⟩) Fl hs;refine go tt [.t (by simp[Gb];omega),.x (Rh hx),.w 1,.r 32 (Er (b:=(s:Int)) (by rw[w64];omega)),.f (by simp[Gb];omega),.w 0,.r 47 (A0 (b:=((s % 4294967296:Nat):Int)) (by rw[vU];omega)),.i 63,.r 49 (Er (b:=((s / 9223372036854775808:Nat):Int)) Fp),.i i] rfl (by simp[Gd,Tk,Gb,IntKind.bits] <;> omega) ?_;rw[Ld];exact rd (i+1,o.set i (s % 4294967296),s / 9223372036854775808) hf.1 hf.2 rfl
 ·obtain rfl:i=p.length:=Fj;have e:val o=val p-val q:=by
   rw[Qo (Nat.le_of_eq j2),Qo hq,Qo (Qm _)]at j5;have h1:=Dl o j3;rw[j2]at h1;rcases Nat.le_one_iff_eq_zero_or_eq_one.1 j4 with rfl|rfl <;> omega
  rw[<-e];exact Ux [.f (by simp[Gb]),.k (WO j3)] rfl
theorem Q05{a b:U8}(ha:Sm a)(hb:Sm b)(h1:sz (val a)<=4294967296)(h2:sz (val b)<=4294967296):U3 206 [lr a,lr b] [lr (He (val a*val b))]:=by
 refine G5 func206 rfl ?_;obtain⟨p,ca,np,vp,_,ep⟩:=PY ha;obtain⟨q,cb,nq,vq,_,eq⟩:=PY hb;have hp:=Sy h1;have hq:=Sy h2;rw[<-ep]at hp;rw[<-eq]at hq;rw[<-vp,<-vq];refine go tt [.k ca,.k cb,.i ((lm p).length+(lm q).length),.i ((lm p).length+(lm q).length)] rfl (by simp[Gd,Tk,Gb] <;> omega) ?_;rw[FM];refine lp (S:=Nat×U8) 1 (λL1 s=>(24,.v (.oi (s.1:Int)))::L1) (λs=>[.row false 125 1 (lm s.2)]) (λs=>p.length-s.1)
  (λs=>s.1<=p.length/\s.2.length=p.length+q.length/\Sm s.2/\(∀j,s.1+q.length<=j->j<s.2.length->s.2[j]? = some 0)/\val s.2=val (p.take s.1)*val q) (0,List.replicate ((lm p).length+(lm q).length) 0)
  ⟨Qg _,by simp[Gb],λx hx=>by rw[Z0 hx];decide,λj _ hj=>by rw[Yi,if_pos (by simpa using hj)],by simp[val,MI]⟩ rfl (λ_ _=>rfl) rfl λ⟨i,o⟩ ⟨j1,j2,j3,j4,j5⟩=>?_
 dsimp only at j1 j2 j3 j4 j5 ⊢;by_cases hi:i<p.length
 ·obtain⟨x,hx⟩:=gxE (l:=p) (i:=i) hi;have xb:=np.1 x (Qa hx);refine Uv [.t (by simp[Gb];omega),.x (Rh hx)] rfl ?_;refine lp (S:=Nat×U8×Nat) 1 (λL1 s=>(31,.v (.oi (s.1:Int)))::(8,.v (.one (.int .u64 (s.2.2:Int))))::L1) (λs=>[.row false 125 1 (lm s.2.1)]) (λs=>q.length-s.1)
   (λs=>s.1<=q.length/\s.2.1.length=p.length+q.length/\Sm s.2.1/\(∀j,i+q.length<=j->j<s.2.1.length->s.2.1[j]? = some 0)/\s.2.2<4294967296/\val s.2.1+s.2.2*4294967296^(i+s.1)=val (p.take i)*val q+4294967296^i*x*val (q.take s.1)) (0,o,0)
   ⟨Qg _,j2,j3,j4,Fp,by simp[val,j5]⟩ rfl (λ_ _=>rfl) rfl λ⟨k,o',c⟩ ⟨k1,k2,k3,k4,k5,k6⟩=>?_
  dsimp only at k1 k2 k3 k4 k5 k6 ⊢;by_cases hk:k<q.length
  ·obtain⟨y,hy⟩:=gxE (l:=q) (i:=k) hk;have yb:=nq.1 y (Qa hy);obtain⟨z,hz⟩:=gxE (l:=o') (i:=i+k) Fj;have zb:=k3 z (Qa hz);have hm:=VJ xb yb;have hm2:(x:Int)*(y:Int)=((x*y:Nat):Int):=by push_cast;rfl
   obtain⟨s,hs⟩:=nmE (x*y+z+c);refine go tt [.t (by simp[Gb];omega),.x (Rh hy),.r 40 (Er (b:=((x*y:Nat):Int)) (by push_cast;rfl)),.i (i+k),.x (Rh hz),.r 50 (Er (b:=(s:Int)) Fj),.w 1,.r 56 (A0 (b:=((s % 4294967296:Nat):Int)) (by rw[vU];omega)),.i 32,.r 58 (Er (b:=((s / 4294967296:Nat):Int)) Fp),.i (i+k)] rfl ?_ ?_
   ·simp[Gd,Tk,Gb,IntKind.bits] <;> omega
   ·rw[Ld];exact rd (k+1,o'.set (i+k) (s % 4294967296),s / 4294967296) (show q.length-(k+1)<q.length-k by omega) ⟨hk,by simp[k2],Dh k3 _ _ Fj,λj h3 h4=>by
     rw[Yz Fj];exact k4 j h3 (by simpa using h4),(show s / 4294967296<4294967296 from Fj),Ql0 hz hy k6 hs⟩ rfl
  ·obtain rfl:k=q.length:=Fj;by_cases hq0:0<q.length
   ·refine go tt [.f (by simp[Gb]),.t (by simp[Gb];omega),.w 1,.r 70 (A0 (b:=((c % 4294967296:Nat):Int)) (by rw[vU];omega)),.i (i+(lm q).length)] rfl (by simp[Gd,Tk,Gb,IntKind.bits] <;> omega) ?_;rw[Ld];refine rd (i+1,o'.set (i+(lm q).length) (c % 4294967296)) (show p.length-(i+1)<p.length-i by omega) ⟨hi,by simp[k2],Dh k3 _ _ Fj,λj h3 h4=>?_,?_⟩ rfl
    ·rw[Gb,List.getElem?_set_ne (by dsimp only at h3;omega)];exact k4 j (by dsimp only at h3;omega) (by simpa using h4)
    ·rw[Gb];exact Qlz (k4 _ (Qm _) Fj) hx k5 rfl k6
   ·have q0:q=[]:=Qi Fj;refine go tt [.f (by simp[Gb]),.f (by simp[Gb,q0])] rfl (by simp[Gd,Tk,Gb,IntKind.bits] <;> omega) ?_;refine rd (i+1,o') (show p.length-(i+1)<p.length-i by omega) ⟨hi,k2,k3,λj h3 h4=>k4 j (by dsimp only at h3;omega) h4,?_⟩ rfl;have c0:c*4294967296^(i+q.length)=0/\val o'=0:=by
     subst q0;simp only[val,List.take_nil,Vn]at k6;omega
    rw[c0.2,q0];rfl
 ·obtain rfl:i=p.length:=Fj;rw[Qo (Qm _)]at j5;rw[<-j5];exact Ux [.f (by simp[Gb]),.k (WO j3)] rfl
theorem o64{k q:Nat}(hq:q<4294967296)(hb:4294967296*k+q<18446744073709551616):orI .u64 ((4294967296*k:Nat):Int) (q:Int)=((4294967296*k+q:Nat):Int):=by
 have e1:(BitVec.ofInt 64 ((4294967296*k:Nat):Int)).toNat=4294967296*k:=by rw[BitVec.toNat_ofInt];omega
 have e2:(BitVec.ofInt 64 (q:Int)).toNat=q:=by rw[BitVec.toNat_ofInt];omega
 show IntKind.u64.wrap ((BitVec.ofInt 64 ((4294967296*k:Nat):Int) ||| BitVec.ofInt 64 (q:Int)).toNat:Int)=_;rw[BitVec.toNat_or,e1,e2,Qy9 hq,w64];omega
theorem oM{k p:Nat}(hp:p<4294967296)(hb:4294967296*k+p<18446744073709551616):orI .u64 (p:Int) ((4294967296*k:Nat):Int)=((4294967296*k+p:Nat):Int):=by
 have:=o64 hp hb;unfold orI at this ⊢;rw[BitVec.or_comm];exact this
variable{s:Nat}
theorem o32{k p:Nat}(hp:p<2^s)(h1:p<4294967296)(h2:2^s*k<4294967296)(hb:p+2^s*k<4294967296):orI .u32 (p:Int) ((2^s*k:Nat):Int)=((p+2^s*k:Nat):Int):=by
 have e1:(BitVec.ofInt 32 ((2^s*k:Nat):Int)).toNat=2^s*k:=by rw[BitVec.toNat_ofInt];omega
 have e2:(BitVec.ofInt 32 (p:Int)).toNat=p:=by rw[BitVec.toNat_ofInt];omega
 have e3:p ||| 2^s*k=p+2^s*k:=by
  have:=Ua (i:=s) (b:=p) hp k;rw[Nat.or_comm,<-this,Ye]
 show IntKind.u32.wrap ((BitVec.ofInt 32 (p:Int) ||| BitVec.ofInt 32 ((2^s*k:Nat):Int)).toNat:Int)=_;rw[BitVec.toNat_or,e1,e2,e3,vU];omega
theorem Q1e{l:U8}{v:Nat}(hl:Sm l)(hn:l.length<274877906944)(h0:0<v)(hv:v<4294967296):U3 281 [lr l,.one (.int .u32 (v:Int))] [lr (He (val l / v)),.one (.int .u32 ((val l % v:Nat):Int))]:=by
 refine G5 func281 rfl ?_;refine go tt [.i (lm l).length,.i (lm l).length] rfl (by simp[Gd,Tk,Gb] <;> omega) ?_;rw[FM];refine lp (S:=Int×U8×Nat) 1 (λL1 s=>(8,.v (.oi s.1))::(7,.v (.one (.int .u64 (s.2.2:Int))))::L1) (λs=>[.row false 125 1 (lm s.2.1)]) (λs=>(s.1+1).toNat)
  (λs=>-1<=s.1/\s.1<l.length/\s.2.1.length=l.length/\Sm s.2.1/\s.2.2<v/\val (l.drop (s.1+1).toNat)=v*val (s.2.1.drop (s.1+1).toNat)+s.2.2) (((lm l).length:Int)-1,List.replicate (lm l).length 0,0)
  ⟨by simp[Gb];omega,by simp[Gb];omega,by simp[Gb],λx hx=>by rw[Z0 hx];decide,h0,by simp[Gb,val]⟩ rfl (λ_ _=>rfl) rfl λ⟨i,o,r⟩ ⟨j1,j2,j3,j4,j5,j6⟩=>?_
 dsimp only at j1 j2 j3 j4 j5 j6 ⊢;rcases Kv i 0 with hi|hi
 ·obtain rfl:i=-1:=Fj;simp only[show((-1:Int)+1).toNat=0 from rfl,X7]at j6;have e1:val l / v=val o:=by rw[j6,Ur h0,Ki j5,X5]
  have e2:val l % v=r:=by rw[j6,Us,Xk j5]
  rw[e1,e2];exact Ux [.f Fl,.k (WO j4)] rfl rfl (by simp[Gd,Tk,Gb,IntKind.bits] <;> omega)
 ·obtain⟨k,rfl⟩:=K8 hi;have e:((k:Int)+1).toNat=k+1:=Fj;rw[e]at j6;obtain⟨x,hx⟩:=gxE (l:=l) (i:=k) Fj;have xb:=hl x (Qa hx);obtain⟨s,hs⟩:=nmE (r*4294967296+x);obtain⟨k1,k2,k3⟩:=Qmb hx xb (show k<o.length by omega) h0 j5 j6 hs;obtain⟨q,hq⟩:=nmE (s / v);obtain⟨u,hu⟩:=nmE (s % v);have hqi:(s:Int).tdiv v=(q:Int):=by rw[Km Fj,hq];rfl
  have hui:(s:Int).tmod v=(u:Int):=by rw[Vq Fj,hu];rfl
  rw[<-hq,<-hu]at k3;rw[<-hq]at k1;rw[<-hu]at k2;refine go tt [.t Fp,.i 32,.r 21 (Er (b:=((4294967296*r:Nat):Int)) Fj),.x (Rh hx),.r 27 (Er (b:=(s:Int)) (by rw[o64 xb Fj];omega)),
   .r 33 (Er (b:=(q:Int)) hqi),.w 0,.r 34 (A0 (b:=((q % 4294967296:Nat):Int)) (by rw[vU];omega)),.r 38 (Er (b:=(u:Int)) hui),.i k] rfl (by simp[Gd,Tk,Gb,IntKind.bits,hqi] <;> omega) ?_
  rw[Ld];exact rd ((k:Int)-1,o.set k (q % 4294967296),u) Ft ⟨Ft,Ft,by simp[j3],Dh j4 _ _ Fj,k2,by dsimp only;rw[show((k:Int)-1+1).toNat=k from Fj];exact k3⟩ rfl
theorem GU{i:Nat}{s:ByteArray}(h:∀i,i<256->(s[i]?).map (·.toNat)=some (sz i))(hi:i<256):(s[i]?).map (·.toNat)=some (sz i):=h i hi
variable{x:Nat}
set_option maxRecDepth 100000 in
theorem oH(hx:x<4294967296):U3 286 [.one (.int .u32 (x:Int))] [.oi (sz x:Int)]:=by
 refine G5 func286 rfl ?_;have h31:sz x<=32:=Cu.2 Fj;by_cases h1:65536<=x
 ·have e1:sz x=16+sz (x / 2^16):=TN Fj;obtain⟨y,hy⟩:=nmE (x / 2^16);rw[<-hy]at e1;by_cases h2:256<=y
  ·have e2:sz y=8+sz (y / 2^8):=TN Fj;obtain⟨z,hz⟩:=nmE (y / 2^8);rw[<-hz]at e2;exact Ux [.t Fo,.i 16,.r 6 (A0 (b:=(y:Int)) (by simp[hy])),.t Fo,.i 8,.r 10 (A0 (b:=(z:Int)) (by simp[hz])),.y (GU (i:=z) Fl Fj)] rfl (by rw[e1,e2];simp;omega) (by simp[Gd,Tk,IntKind.bits] <;> omega)
  ·exact Ux [.t Fo,.i 16,.r 6 (A0 (b:=(y:Int)) (by simp[hy])),.f Fo,.y (GU (i:=y) Fl Fj)] rfl (by rw[e1];simp) (by simp[Gd,Tk,IntKind.bits] <;> omega)
 ·by_cases h2:256<=x
  ·have e2:sz x=8+sz (x / 2^8):=TN Fj;obtain⟨z,hz⟩:=nmE (x / 2^8);rw[<-hz]at e2;exact Ux [.f Fo,.t Fo,.i 8,.r 10 (A0 (b:=(z:Int)) (by simp[hz])),.y (GU (i:=z) Fl Fj)] rfl (by rw[e2];simp) (by simp[Gd,Tk,IntKind.bits] <;> omega)
  ·exact Ux [.f Fo,.f Fo,.y (GU (i:=x) Fl Fj)] rfl Fp (by simp[Gd,Tk,IntKind.bits] <;> omega)
theorem Qwu(hx:x<4294967296):U3 282 [.one (.int .u32 (x:Int))] [.oi ((32-sz x:Nat):Int)]:=by
 have h31:sz x<=32:=Cu.2 Fj;exact Uy func282 rfl [.k (oH hx)] rfl Fo (by simp[Gd,Tk] <;> omega)
theorem cI{l:U8}(hl:Sm l)(hs:sz (val l)<=4294967296):U3 242 [lr l] [.oi (sz (val l):Int)]:=by
 refine G5 func242 rfl ?_;obtain⟨p,ca,np,vp,_,ep⟩:=PY hl;have hp:=Sy hs;rw[<-ep]at hp;rw[<-vp]at hs ⊢;by_cases h0:p=[]
 ·subst h0;exact Ux [.k ca,.t (by simp[lm])] rfl rfl (by simp[Gd,Tk])
 ·have Dz:0<p.length:=Yl.2 h0;obtain⟨x,hx,hx0⟩:=np.2 h0;have xb:=np.1 x (Qa hx);have e:=iH np hx;have h31:sz x<=32:=Cu.2 Fj;have hn:(lm p).length≠0:=by rw[Gb];omega
  refine Ux [.k ca,.f (by simp[Gb];omega),.r 15 (eI (b:=((p.length-1:Nat):Int)) (by rw[Gb];omega)),.x (Rh hx),.k (oH xb)] rfl (by rw[e,Gb];simp;omega) (by simp[Gd,Tk,Gb] <;> omega)
theorem mN(h:s<=31):((s:Nat):Int).tdiv 32=((0:Nat):Int):=by
 rw[Km Fj];omega
theorem Qm6(h:s<=31):((s:Nat):Int).tmod 32=(s:Int):=Int.tmod_eq_of_lt Fj Fj
theorem Qyx(h:s<=31):max 0 (min (s:Int) 65536)=(s:Int):=Fj
theorem Q09{a:U8}(ha:Sm a)(h1:sz (val a)<=4294967400)(hs:s<=31):U3 310 [lr a,.oi s] [lr (He (val a*2^s))]:=by
 refine G5 func310 rfl ?_;obtain⟨p,ca,np,vp,_,ep⟩:=PY ha;have hp:=Sy h1;rw[<-ep]at hp;rw[<-vp];have hq:((s:Nat):Int).tdiv 32=0:=mN hs;by_cases h0:p=[]
 ·subst h0;exact Ux [.k ca,.t (by simp[lm])] rfl (by simp[val,Rr,lm]) (by simp[Gd,Tk])
 have Dz:0<p.length:=Yl.2 h0;refine go tt [.k ca,.r 15 (eI (b:=(s:Int)) (Qyx hs)),.f (by simp[Gb];omega),.r 20 (eI (b:=((0:Nat):Int)) (mN hs)),.r 22 (eI (b:=(s:Int)) (Qm6 hs)),.r 28 (eI (b:=(((lm p).length+1:Nat):Int)) Fj),.i ((lm p).length+1),.i ((lm p).length+1)] rfl (by have e:=Gb p;simp only[Gd,Tk];omega) ?_;rw[FM];refine lp (S:=Nat×U8) 1 (λL1 s=>(32,.v (.oi (s.1:Int)))::L1) (λs=>[.row false 125 1 (lm s.2)]) (λs=>p.length-s.1)
  (λr=>r.1<=p.length/\r.2.length=p.length+1/\Sm r.2/\(∃z,r.2[r.1]? = some z/\z<2^s)/\val (r.2.take (r.1+1))=val (p.take r.1)*2^s) (0,List.replicate ((lm p).length+1) 0)
  ⟨Qg _,by simp[Gb],λx hx=>by rw[Z0 hx];decide,⟨0,Fp,Xd Fl⟩,by simp[val,Ym]⟩ rfl (λ_ _=>rfl) rfl λ⟨i,o⟩ ⟨j1,j2,j3,⟨z,hz,hzs⟩,j5⟩=>?_
 dsimp only at j1 j2 j3 hz hzs j5 ⊢;by_cases hi:i<p.length
 ·obtain⟨x,hx⟩:=gxE (l:=p) (i:=i) hi;have xb:=np.1 x (Qa hx);have zb:=j3 z (Qa hz);obtain⟨k1,k2,k3,k4⟩:=Qnr hs hx xb hz hzs Fj j5;have hxs:=Qzq hs xb;have h31:2^s<=2^31:=Zt Fl hs;have ec:(x:Int)*2^s=((x*2^s:Nat):Int):=by push_cast;rfl
  obtain⟨m,hm⟩:=nmE (x*2^s);rw[<-hm]at k1 k2 k3 k4 hxs ec;refine go tt [.t (by simp[Gb];omega),.x (Rh hx),.i s,.r 40 (Er (b:=(m:Int)) ec),.i i,.x (Rh hz),.w 0,.r 52 (A0 (b:=((m % 4294967296:Nat):Int)) (by rw[vU];omega)),.r 53 (A0 (b:=((z+m % 4294967296:Nat):Int)) (by rw[k4,o32 hzs zb Fj Fj])),.i i,
   .i 32,.r 61 (Er (b:=((m / 2^32:Nat):Int)) Fp),.w 0,.r 62 (A0 (b:=((m / 2^32 % 4294967296:Nat):Int)) (by rw[vU];omega)),.i (i+1)] rfl (by simp[Gd,Tk,Gb,IntKind.bits,ec] <;> omega) ?_
  rw[Ld,Ld];exact rd (i+1,(o.set i (z+m % 4294967296)).set (i+1) (m / 2^32 % 4294967296)) (show p.length-(i+1)<p.length-i by omega) ⟨hi,by simp[j2],Dh (Dh j3 _ _ Fj) _ _ Fj,⟨_,by rw[Js Fo],Fj⟩,k3⟩ rfl
 ·obtain rfl:i=p.length:=Fj;rw[Qo Fj,Qo (Qm _)]at j5;rw[<-j5];exact Ux [.f (by simp[Gb]),.k (WO j3)] rfl
theorem Q1a{a:U8}(ha:Sm a)(h1:sz (val a)<=4294967400)(hs:s<=31):U3 285 [lr a,.oi s] [lr (He (val a / 2^s))]:=by
 refine G5 func285 rfl ?_;obtain⟨p,ca,np,vp,_,ep⟩:=PY ha;have hp:=Sy h1;rw[<-ep]at hp;rw[<-vp];have hq:((s:Nat):Int).tdiv 32=0:=mN hs;by_cases h0:p=[]
 ·subst h0;exact Ux [.k ca,.r 14 (eI (b:=(s:Int)) (Qyx hs)),.r 16 (eI (b:=((0:Nat):Int)) (mN hs)),.r 18 (eI (b:=(s:Int)) (Qm6 hs)),.t (by simp[lm])] rfl (by simp[val,Rr,lm]) (by simp only[Gd,Tk];omega)
 have Dz:0<p.length:=Yl.2 h0;refine go tt [.k ca,.r 14 (eI (b:=(s:Int)) (Qyx hs)),.r 16 (eI (b:=((0:Nat):Int)) (mN hs)),.r 18 (eI (b:=(s:Int)) (Qm6 hs)),.f (by simp[Gb];omega),.r 27 (eI (b:=((lm p).length:Int)) Fj),.i (lm p).length,.i (lm p).length] rfl (by have e:=Gb p;simp only[Gd,Tk];omega) ?_;rw[FM];refine lp (S:=Nat×U8) 1 (λL1 s=>(31,.v (.oi (s.1:Int)))::L1) (λs=>[.row false 125 1 (lm s.2)]) (λs=>p.length-s.1)
  (λr=>r.1<=p.length/\r.2.length=p.length/\Sm r.2/\val (r.2.take r.1)=val p / 2^s % 4294967296^r.1) (0,List.replicate (lm p).length 0)
  ⟨Qg _,by simp[Gb],λx hx=>by rw[Z0 hx];decide,by simp[val];omega⟩ rfl (λ_ _=>rfl) rfl λ⟨i,o⟩ ⟨j1,j2,j3,j5⟩=>?_
 dsimp only at j1 j2 j3 j5 ⊢;by_cases hi:i<p.length
 ·obtain⟨x,hx⟩:=gxE (l:=p) (i:=i) hi;have xb:=np.1 x (Qa hx);have fin:∀y m,(p[i+1]? = some y\/p.length<=i+1/\y=0)->m=(x+y*2^32) / 2^s->p.length-(i+1)<p.length-i/\i+1<=p.length/\(o.set i (m % 4294967296)).length=p.length/\Sm (o.set i (m % 4294967296))/\val ((o.set i (m % 4294967296)).take (i+1))=val p / 2^s % 4294967296^(i+1):=λy m hy hm =>
   ⟨Fj,hi,by simp[j2],Dh j3 _ _ Fj,by subst hm;exact Qns hs hx hy Fj np.1 j5⟩
  have hsp:0<2^s:=Xd Fl;by_cases hy0:i+1<p.length
  ·obtain⟨y,hy⟩:=gxE (l:=p) (i:=i+1) hy0;have yb:=np.1 y (Qa hy);obtain⟨v,hv⟩:=nmE (4294967296*y+x);obtain⟨m,hm⟩:=nmE (v / 2^s);have hml:m<=v:=hm ▸ Ya _ _;have hf:=fin y m (.inl hy) (by rw[hm,hv];congr 1;omega);refine go tt [.t (by simp[Gb];omega),.x (Rh hx),.t (by simp[Gb];omega),.x (Rh hy),.i 32,.r 57 (Er (b:=((4294967296*y:Nat):Int)) Fj),.r 58 (Er (b:=(v:Int)) (by rw[oM xb Fj];omega)),
    .i s,.r 63 (Er (b:=(m:Int)) (by rw[hm];push_cast;rfl)),.w 0,.r 64 (A0 (b:=((m % 4294967296:Nat):Int)) (by rw[vU];omega)),.i i] rfl (by simp[Gd,Tk,Gb,IntKind.bits] <;> omega) ?_
   rw[Ld];exact rd (i+1,o.set i (m % 4294967296)) hf.1 hf.2 rfl
  ·obtain⟨m,hm⟩:=nmE (x / 2^s);have hml:m<=x:=hm ▸ Ya _ _;have hf:=fin 0 m (.inr ⟨Fj,rfl⟩) (by rw[hm];simp);refine go tt [.t (by simp[Gb];omega),.x (Rh hx),.f (by simp[Gb];omega),
    .i s,.r 63 (Er (b:=(m:Int)) (by rw[hm];push_cast;rfl)),.w 0,.r 64 (A0 (b:=((m % 4294967296:Nat):Int)) (by rw[vU];omega)),.i i] rfl (by simp[Gd,Tk,Gb,IntKind.bits] <;> omega) ?_
   rw[Ld];exact rd (i+1,o.set i (m % 4294967296)) hf.1 hf.2 rfl
 ·obtain rfl:i=p.length:=Fj;have hvl:=Dl p np.1;rw[Qo Fj,Xk (Xe (Ya _ _) hvl)]at j5;rw[<-j5];exact Ux [.f (by simp[Gb,j2]),.k (WO j3)] rfl
def tU:Nat->Nat->U8
 | 0,_=>[]
 |k+1,v=>v % 4294967296::tU k (v / 4294967296)
theorem Qjw:∀{l:U8},Sm l->l=tU l.length (val l)
 | [],_=>rfl
 |
  x::l,h=>by
  have hx:=h x (.head _);have ih:=Qjw (l:=l) λy hy=>h y (.tail _ hy)
  simp only[Q5,tU,val];rw[show(x+4294967296*val l) % 4294967296=x by omega,show(x+4294967296*val l) / 4294967296=val l by omega,<-ih]
theorem dA{l:U8}{k v:Nat}(h:Sm l)(hk:l.length=k)(hv:val l=v):tU k v=l:=by
 rw[<-hk,<-hv];exact(Qjw h).symm
theorem kM:∀{k v:Nat},(tU k v).length=k/\Sm (tU k v)/\(v<4294967296^k->val (tU k v)=v)
 | 0,v=>⟨rfl,λx hx=>by(cases hx),λh=>by simp at h;subst h;rfl⟩
 |
  k+1,v=>by
  obtain⟨h1,h2,h3⟩:=kM (k:=k) (v:=v / 4294967296);refine⟨by simp[tU,h1],λx hx=>?_,λh=>?_⟩
  ·rcases Qk.1 hx with rfl|hx
   ·exact Xi _ Fl
   ·exact h2 x hx
  ·simp only[tU,val];rw[h3 (by rw[Zs]at h;exact Jr (by rw[Zr];exact h))];omega
theorem Qjc{a:U8}{s n:Nat}(ha:Sm a)(h1:sz (val a)<=4294967400)(hs:s<=31)(hn:n<274877906944)(h0:0<n)(hv:val a*2^s<4294967296^n) :
 Ga prog 283 [lr a,.oi s,.oi n] [] [.one (.orow 0 1 none)] [.row false 125 1 (lm (tU n (val a*2^s)))]:=by
 refine G5 func283 rfl ?_;obtain⟨v,hvv⟩:=nmE (val a*2^s);have cs:=Q09 ha h1 hs;rw[<-hvv]at cs hv ⊢;have hl:(He v).length<=n:=by
  apply Classical.byContradiction;intro hh;have h2:=RH (Eg v) (λe=>by rw[e]at hh;simp at hh);rw[Ro]at h2;have h3:4294967296^n<=4294967296^((He v).length-1):=Zt Fl Fj;omega
 refine go tt [.i n,.i n,.k cs,.s (Qlo (He v)),.i (He v).length] rfl (by simp[Gd,Tk,Gb] <;> omega) ?_;have e:List.take 0 (List.replicate n [LV.int .u32 0])++(List.take (He v).length (lm (He v))++List.drop (0+(He v).length) (List.replicate n [LV.int .u32 0]))=lm (tU n v):=by
  rw[dA (l:=He v++List.replicate (n-(He v).length) 0) (λx hx=>?_) Fo (by rw[Dk,MI,Ro];simp)]
  ·rw[Kd,Y3,Qo (by rw[Gb];exact Qm _)];simp[lm]
  ·rcases Qp.1 hx with hx|hx
   ·exact Ak v x hx
   ·rw[Z0 hx];decide
 rw[e];exact Uz [] [0] [] rfl
theorem zW{pre x post:U8}{i u:Nat}(h:x[i]? = some u):(lm (pre++x++post))[pre.length+i]? = some [.int .u32 (u:Int)]:=Rh (by
 have hi:=(Qd.1 h).1;rw[Za,Zz Fj,J3,Zd hi];exact h)
theorem Qol{pre x post:U8}{i v:Nat}(h:i<x.length):(lm (pre++x++post)).set (pre.length+i) [.int .u32 (v:Int)]=lm (pre++x.set i v++post):=by
 rw[Ld,Za,List.set_append_right _ _ Fj,J3,List.set_append_left _ _ h,<-Za]
theorem Qqv{pre x post ly:U8}{top nx xn x1 x2:Nat}(D:Dig x ly ly.length top nx xn x1 x2)(hn:ly.length<274877906944) :
 Ga prog 284 [.one (.orow 0 1 (some (pre.length,x.length))),lr ly] [.row true 125 1 (lm (pre++x++post))] [.one (.int .u32 ((val x / val ly:Nat):Int))] [.row true 125 1 (lm (pre++tU x.length (val x % val ly)++post))]:=by
 refine G5 func284 rfl ?_;have hxl:=D.hx;have hn2:=D.hn;have hb:=D.bnd;obtain⟨head,hh⟩:=nmE (xn*2^32+x1);obtain⟨g0,hg0⟩:=nmE (head / top);obtain⟨r0,hr0⟩:=nmE (head % top);have hst:=D.start;rw[<-hh,<-hg0]at hst;have ht0:=D.top0;have hg0l:g0<=head:=hg0 ▸ Ya _ _;have hr0l:r0<top:=hr0 ▸ Xi _ ht0;have htd:(head:Int).tdiv top=(g0:Int):=by rw[Km Fj,hg0];rfl
 have htm:(head:Int).tmod top=(r0:Int):=by rw[Vq Fj,hr0];rfl
 refine go tt [.r 23 (eI (b:=(ly.length:Int)) (by rw[Gb])),.r 26 (eI (b:=((ly.length-1:Nat):Int)) Fj),.x (Rh D.ltop),.r 32 (eI (b:=((ly.length-2:Nat):Int)) Fj),.x (Rh D.lnx),
  .i ly.length,.x (zW D.xn),.i 32,.r 41 (Er (b:=((4294967296*xn:Nat):Int)) Fj),.r 44 (eI (b:=((ly.length-1:Nat):Int)) Fj),.i (ly.length-1),.x (zW D.x1),.r 48 (Er (b:=(head:Int)) (by rw[o64 hb.2.2.2.1 Fj];omega)),
  .r 51 (Er (b:=(g0:Int)) htd),.r 54 (Er (b:=(r0:Int)) htm)] rfl ?_ ?_
 ·simp only[Gd,Tk,htd,IntKind.bits];omega
 refine ct 2 (S:=Nat) (λg=>[(0,.v (.one (.orow 0 1 (some (pre.length,x.length))))),(1,.v (lr ly)),(5,.v (.oi (ly.length:Int))),(9,.v (.one (.int .u64 (g:Int))))]) (λ_=>[.row true 125 1 (lm (pre++x++post))]) (λg=>val x / val ly<=g/\(g-1)*val ly<=val x/\g<=4294967296) rfl ?_ ?_
 ·refine lp (S:=Nat×Nat) 1 (λL1 s=>(9,.v (.one (.int .u64 (s.1:Int))))::(10,.v (.one (.int .u64 (s.2:Int))))::L1) (λ_=>[.row true 125 1 (lm (pre++x++post))]) (λs=>4294967296-s.2)
   (λs=>s.1*top+s.2=xn*2^32+x1/\val x / val ly<=s.1/\s.2<4294967296/\s.1<18446744073709551616) (g0,r0)
   ⟨by rw[<-hh,hg0,hr0,Nat.mul_comm];exact Nat.div_add_mod _ _,hst,Ft,Ft⟩ rfl (λ_ _=>rfl) rfl λ⟨g,r⟩ ⟨j1,j2,j3,j4⟩=>?_
  dsimp only at j1 j2 j3 j4 ⊢;by_cases hge:4294967296<=g
  ·have hrd:=D.round j1 j2 (.inl hge);by_cases h2:4294967296<=r+top
   ·exact go tt [.t Fo,.t rfl,.r 73 (Er (b:=((g-1:Nat):Int)) Fj),.t Fo] rfl (by simp[Gd,Tk] <;> omega) (rc (g-1) ⟨hrd.2.1,(hrd.2.2.2 h2).1,(hrd.2.2.2 h2).2⟩ rfl)
   ·exact go tt [.t Fo,.t rfl,.r 73 (Er (b:=((g-1:Nat):Int)) Fj),.f Fo] rfl (by simp[Gd,Tk] <;> omega) (rd (g-1,r+top) Ft ⟨hrd.2.2.1,hrd.2.1,Ft,Ft⟩ rfl)
  ·have hgn:=VJ (x:=g) (y:=nx) Fj hb.2.1;by_cases hc:r*2^32+x2<g*nx
   ·have hrd:=D.round j1 j2 (.inr hc);have e1:(g:Int)*(nx:Int)=((g*nx:Nat):Int):=by push_cast;rfl
    obtain⟨m,hm⟩:=nmE (g*nx);rw[<-hm]at e1 hgn hc;by_cases h2:4294967296<=r+top
    ·exact go tt [.f Fo,.r 60 (Er (b:=(m:Int)) e1),.i 32,.r 62 (Er (b:=((4294967296*r:Nat):Int)) Fj),.r 65 (eI (b:=((ly.length-2:Nat):Int)) Fj),.i (ly.length-2),.x (zW D.x2),.r 69 (Er (b:=((4294967296*r+x2:Nat):Int)) (o64 hb.2.2.2.2 Fj)),.t Fo,.r 73 (Er (b:=((g-1:Nat):Int)) Fj),.t Fo] rfl (by simp only[Gd,Tk,e1,IntKind.bits];omega) (rc (g-1) ⟨hrd.2.1,(hrd.2.2.2 h2).1,(hrd.2.2.2 h2).2⟩ rfl)
    ·exact go tt [.f Fo,.r 60 (Er (b:=(m:Int)) e1),.i 32,.r 62 (Er (b:=((4294967296*r:Nat):Int)) Fj),.r 65 (eI (b:=((ly.length-2:Nat):Int)) Fj),.i (ly.length-2),.x (zW D.x2),.r 69 (Er (b:=((4294967296*r+x2:Nat):Int)) (o64 hb.2.2.2.2 Fj)),.t Fo,.r 73 (Er (b:=((g-1:Nat):Int)) Fj),.f Fo] rfl (by simp only[Gd,Tk,e1,IntKind.bits];omega) (rd (g-1,r+top) Ft ⟨hrd.2.2.1,hrd.2.1,Ft,Ft⟩ rfl)
   ·have hf:=D.fin j1 Fj Fj;have e1:(g:Int)*(nx:Int)=((g*nx:Nat):Int):=by push_cast;rfl
    obtain⟨m,hm⟩:=nmE (g*nx);rw[<-hm]at e1 hgn hc;exact go tt [.f Fo,.r 60 (Er (b:=(m:Int)) e1),.i 32,.r 62 (Er (b:=((4294967296*r:Nat):Int)) Fj),.r 65 (eI (b:=((ly.length-2:Nat):Int)) Fj),.i (ly.length-2),.x (zW D.x2),.r 69 (Er (b:=((4294967296*r+x2:Nat):Int)) (o64 hb.2.2.2.2 Fj)),.f Fo] rfl (by simp only[Gd,Tk,e1,IntKind.bits];omega) (rc g ⟨j2,hf,Fj⟩ rfl)
 ·intro g ⟨q1,q2,q3⟩;refine Uv [.r 80 (eI (b:=(ly.length:Int)) (by rw[Gb]))] rfl ?_;refine lp (S:=Nat×U8×Nat×Nat) 1 (λL1 s=>(81,.v (.oi (s.1:Int)))::(11,.v (.one (.int .u64 (s.2.2.1:Int))))::(12,.v (.one (.int .u64 (s.2.2.2:Int))))::L1) (λs=>[.row true 125 1 (lm (pre++s.2.1++post))]) (λs=>ly.length-s.1)
   (λs=>s.1<=ly.length/\s.2.1.length=ly.length+1/\Sm s.2.1/\s.2.2.2<=1/\s.2.2.1<4294967296/\val (s.2.1.take s.1)+g*val (ly.take s.1)=val (x.take s.1)+(s.2.2.1+s.2.2.2)*4294967296^s.1/\s.2.1.drop s.1=x.drop s.1) (0,x,0,0)
   ⟨Qg _,hxl,D.xb,Qg _,Fp,by simp[val],rfl⟩ rfl (λ_ _=>rfl) rfl λ⟨i,o,cy,bw⟩ ⟨j1,j2,j3,j4,j5,j6,j7⟩=>?_
  dsimp only at j1 j2 j3 j4 j5 j6 j7 ⊢;by_cases hi:i<ly.length
  ·obtain⟨w1,hw1⟩:=gxE (l:=ly) (i:=i) hi;obtain⟨u,hu⟩:=gxE (l:=x) (i:=i) Fj;have wb:=D.lb w1 (Qa hw1);have ub:=D.xb u (Qa hu);have hou:=(HJ j7).trans hu;have hgw:g*w1<=18446744069414584320:=by
    have:=Zg q3 (show w1<=4294967295 by omega);omega
   obtain⟨s,hs⟩:=nmE (((u+18446744073709551616-(g*w1+cy) % 4294967296) % 18446744073709551616+18446744073709551616-bw) % 18446744073709551616);have hstep:=wA (o:=o) Fj hu hw1 ub j4 j6 rfl hs;have e1:(g:Int)*(w1:Int)=((g*w1:Nat):Int):=by push_cast;rfl
   obtain⟨m,hm⟩:=nmE (g*w1);rw[<-hm]at e1 hgw hs hstep;obtain⟨p,hp⟩:=nmE (m+cy);rw[<-hp]at hs hstep;refine go tt [.t Fo,.x (Rh hw1),.r 89 (Er (b:=(m:Int)) e1),.r 91 (Er (b:=(p:Int)) Fj),.i 32,.r 93 (Er (b:=((p / 2^32:Nat):Int)) Fp),.i i,.x (zW hou),.w 1,.r 100 (A0 (b:=((p % 4294967296:Nat):Int)) (by rw[vU];omega)),.w 1,.r 102 (Er (b:=(((u+18446744073709551616-p % 4294967296) % 18446744073709551616:Nat):Int)) (by rw[w64];omega)),.w 0,.r 104 (Er (b:=(s:Int)) (by rw[w64];omega)),
    .w 0,.r 108 (A0 (b:=((s % 4294967296:Nat):Int)) (by rw[vU];omega)),.i 63,.r 110 (Er (b:=((s / 2^63:Nat):Int)) Fp),.i i] rfl (by simp only[Gd,Tk,e1,IntKind.bits,Gb,Qu];omega) ?_
   rw[Qol Fj];exact rd (i+1,o.set i (s % 4294967296),p / 2^32,s / 2^63) Ft ⟨hi,by simp[j2],Dh j3 _ _ Fj,hstep.2,Ft,hstep.1,xK j7⟩ rfl
  ·obtain rfl:i=ly.length:=Fj;have hon:=(HJ j7).trans D.xn;rw[Qo (l:=ly) (Qm _)]at j6;obtain⟨s,hs⟩:=nmE (((xn+18446744073709551616-cy) % 18446744073709551616+18446744073709551616-bw) % 18446744073709551616);obtain⟨oa,hoa⟩:=nmE (o.set ly.length (s % 4294967296));have oal:oa.length=ly.length+1:=by rw[hoa,Xs];exact j2
   have oab:Sm oa:=hoa ▸ Dh j3 _ _ Fj;by_cases qP:s / 2^63=0
   ·have hf:=D.fin0 j2 j5 j4 q1 j6 hs qP;refine go tt [.f Fp,.i ly.length,.x (zW hon),.w 1,.r 119 (Er (b:=(((xn+18446744073709551616-cy) % 18446744073709551616:Nat):Int)) (by rw[w64];omega)),.w 0,.r 121 (Er (b:=(s:Int)) (by rw[w64];omega)),.w 0,.r 125 (A0 (b:=((s % 4294967296:Nat):Int)) (by rw[vU];omega)),.i ly.length,.i 63,.r 128 (Er (b:=((s / 2^63:Nat):Int)) Fp),.t Fo,.w 0,.r 131 (A0 (b:=((val x / val ly:Nat):Int)) (by rw[vU];omega))] rfl (by simp only[Gd,Tk,IntKind.bits,Gb,Qu];omega) ?_;rw[Qol Fj,<-dA (l:=o.set ly.length (s % 4294967296)) (k:=x.length) (hoa ▸ oab) (by rw[<-hoa,oal,hxl]) hf.2];exact Uz [] [0] [] rfl
   ·have hf:=D.fin1 j2 j3 j5 j4 q2 j6 hs qP;rw[<-hoa]at hf;obtain⟨v1,hv1⟩:=gxE (l:=oa) (i:=ly.length) Fj;refine go tt [.f Fp,.i ly.length,.x (zW hon),.w 1,.r 119 (Er (b:=(((xn+18446744073709551616-cy) % 18446744073709551616:Nat):Int)) (by rw[w64];omega)),.w 0,.r 121 (Er (b:=(s:Int)) (by rw[w64];omega)),.w 0,.r 125 (A0 (b:=((s % 4294967296:Nat):Int)) (by rw[vU];omega)),.i ly.length,.i 63,.r 128 (Er (b:=((s / 2^63:Nat):Int)) Fp),.f Fo,.r 133 (eI (b:=(ly.length:Int)) (by rw[Gb]))] rfl (by simp only[Gd,Tk,IntKind.bits,Gb,Qu];omega) ?_;rw[Qol Fj,<-hoa];refine lp (S:=Nat×U8×Nat) 1 (λL1 s=>(134,.v (.oi (s.1:Int)))::(18,.v (.one (.int .u64 (s.2.2:Int))))::L1) (λs=>[.row true 125 1 (lm (pre++s.2.1++post))]) (λs=>ly.length-s.1)
     (λs=>s.1<=ly.length/\s.2.1.length=ly.length+1/\Sm s.2.1/\s.2.2<=1/\val (s.2.1.take s.1)+s.2.2*4294967296^s.1=val (oa.take s.1)+val (ly.take s.1)/\s.2.1.drop s.1=oa.drop s.1) (0,oa,0)
     ⟨Qg _,oal,oab,Qg _,by simp[val],rfl⟩ rfl (λ_ _=>rfl) rfl λ⟨j,o2,bk⟩ ⟨r1,r2,r3,r4,r5,r6⟩=>?_
    dsimp only at r1 r2 r3 r4 r5 r6 ⊢;by_cases hj:j<ly.length
    ·obtain⟨w1,hw1⟩:=gxE (l:=ly) (i:=j) hj;obtain⟨u,hu⟩:=gxE (l:=oa) (i:=j) Fj;have wb:=D.lb w1 (Qa hw1);have ub:=oab u (Qa hu);have hou:=(HJ r6).trans hu;obtain⟨m,hm⟩:=nmE (u+bk+w1);have hstep:=gI (o:=o2) Fj hu (.inl hw1) r5 hm;refine go tt [.t Fo,.x (Rh hw1),.i j,.x (zW hou),.r 148 (Er (b:=(m:Int)) Fj),.w 0,.r 152 (A0 (b:=((m % 4294967296:Nat):Int)) (by rw[vU];omega)),.i 32,.r 154 (Er (b:=((m / 4294967296:Nat):Int)) Fp),.i j] rfl (by simp only[Gd,Tk,IntKind.bits,Gb,Qu];omega) ?_;rw[Qol Fj];exact rd (j+1,o2.set j (m % 4294967296),m / 4294967296) Ft ⟨hj,by simp[r2],Dh r3 _ _ Fj,Ft,hstep,xK r6⟩ rfl
    ·obtain rfl:j=ly.length:=Fj;have hon2:=(HJ r6).trans hv1;have vb:=oab v1 (Qa hv1);rw[Qo (l:=ly) (Qm _)]at r5;have hf2:=D.fin2 oal oab r2 r3 hv1 r4 hf.2 r5;refine go tt [.f Fp,.i ly.length,.x (zW hon2),.w 1,.r 165 (A0 (b:=(((v1+bk) % 4294967296:Nat):Int)) (by rw[vU];omega)),.i ly.length,.w 0,.r 168 (A0 (b:=((g % 4294967296:Nat):Int)) (by rw[vU];omega)),.w 0,.r 169 (A0 (b:=((val x / val ly:Nat):Int)) (Q2r hf.1 D.qlt))] rfl (by simp only[Gd,Tk,IntKind.bits,Gb,Qu];omega) ?_;rw[Qol Fj,<-dA (l:=o2.set ly.length ((v1+bk) % 4294967296)) (k:=x.length) (Dh r3 _ _ Fj) (by rw[Xs,r2,hxl]) hf2];exact Uz [] [0] [] rfl
theorem Qim{o ly:U8}{lo top nx xn x1 x2:Nat}(hlo:lo+(ly.length+1)<=o.length)(D:Dig (GV o lo ly.length) ly ly.length top nx xn x1 x2)(hn:ly.length<274877906944) :
 Ga prog 284 [.one (.orow 0 1 (some (lo,ly.length+1))),lr ly] [.row true 125 1 (lm o)] [.one (.int .u32 ((val (GV o lo ly.length) / val ly:Nat):Int))] [.row true 125 1 (lm (o.take lo++tU (ly.length+1) (val (GV o lo ly.length) % val ly)++o.drop (lo+ly.length+1)))]:=by
 have:=Qqv (pre:=o.take lo) (post:=o.drop (lo+ly.length+1)) D hn;have e1:(o.take lo).length=lo:=by rw[Qq];omega
 have e2:=SZ (o:=o) (i:=lo) (n:=ly.length) Fj;rw[e1,e2,WS]at this;exact this
theorem rW{a b:U8}(ha:Sm a)(hb:Sm b)(h1:sz (val a)<=4294967296)(h2:sz (val b)<=4294967296)(hy:0<val b):U3 240 [lr a,lr b] [lr (He (val a / val b)),lr (He (val a % val b)),.oi 0]:=by
 refine G5 func240 rfl ?_;obtain⟨p,ca,np,vp,_,ep⟩:=PY ha;obtain⟨q,cb,nq,vq,_,eq⟩:=PY hb;have hp:=Sy h1;have hq:=Sy h2;rw[<-ep]at hp;rw[<-eq]at hq;rw[<-vp,<-vq];rw[<-vp]at h1;rw[<-vq]at h2 hy;have q0:q≠[]:=λe=>by rw[e]at hy;simp[val]at hy
 have qp:0<q.length:=Yl.2 q0;have c1:¬((lm q).length:Int)=0:=by rw[Gb];omega
 by_cases hlt:p.length<q.length
 ·have hv:=Ex np nq hlt;rw[Ki hv,Xk hv,Rr];exact Ux [.k ca,.k cb,.f (by simpa using c1),.t (by simp[Gb];omega),.k (UT np.1 h1)] rfl rfl (by simp[Gd,Tk])
 by_cases hone:q.length=1
 ·obtain⟨y,rfl⟩:∃y,q=[y]:=by
   match q,hone with
   | [y],_=>exact⟨y,rfl⟩
  have yb:=nq.1 y (.head _);have vy:val [y]=y:=by simp[val]
  rw[vy]at hy ⊢;have co:=Q1e np.1 Fj hy yb;have sm:Sm [val p % y]:=λz hz=>by
   simp at hz;subst hz;exact Nat.lt_trans (Xi _ hy) yb
  have cc:=WO sm;rw[show val [val p % y]=val p % y from by simp[val]]at cc;exact Ux [.k ca,.k cb,.f (by simp[lm]),.f (by simp[Gb];omega),.t (by simp[lm]),.x (Rh (l:=[y]) (i:=0) rfl),.k co,.k cc] rfl rfl (by simp[Gd,Tk])
 ·have hle:q.length<=p.length:=Yq hlt;obtain⟨y1,hy1,hy10⟩:=nq.2 q0;have y1b:=nq.1 y1 (Qa hy1);have hszy:=iH nq hy1;have hsz1:sz y1<=32:=Cu.2 Fj;have hsz0:0<sz y1:=Qz0 Fj;obtain⟨s,hs⟩:=nmE (32-sz y1);have hs31:s<=31:=Fj;have A0:(2:Nat)^32=4294967296:=Fl;obtain⟨x,hx⟩:=nmE (val p);obtain⟨y,hyv⟩:=nmE (val q);have cl:=Qwu y1b;rw[<-hs]at cl;have hvx:val p*2^s<4294967296^(p.length+1):=by
   have h1:=Dl p np.1;rw[Zs];exact Xn (X6 h1 (show 0<2^s from Xd Fl)) (Zv _ (by rw[<-A0];exact Zt Fl Fj))
  have hvy:val q*2^s<4294967296^q.length:=by
   have h1:=RY (val q);rw[<-A0,<-We];have h2:val q*2^s<2^sz (val q)*2^s:=X6 h1 (Xd Fl);rw[<-Xu]at h2;rw[show 32*q.length=sz (val q)+s from Fj];exact h2
  have cx:=Qjc np.1 (show sz (val p)<=4294967400 by omega) hs31 (show p.length+1<274877906944 by omega) Fj hvx;have cy:=Qjc nq.1 (show sz (val q)<=4294967400 by omega) hs31 (show q.length<274877906944 by omega) qp hvy;obtain⟨hXl,hXb,hXv⟩:=kM (k:=p.length+1) (v:=val p*2^s);obtain⟨hYl,hYb,hYv⟩:=kM (k:=q.length) (v:=val q*2^s);have hXv:=hXv hvx;have hYv:=hYv hvy;obtain⟨X,hX⟩:=nmE (tU (p.length+1) (val p*2^s));obtain⟨Y,hY⟩:=nmE (tU q.length (val q*2^s));rw[<-hX]at hXl hXb hXv cx;rw[<-hY]at hYl hYb hYv cy;have hyB:4294967296^(q.length-1)<=val q:=RH nq q0;have hR:=aS hXv hYv hXl hXb hYl hYb (show 2<=q.length by omega) (Dl p np.1) hyB hle;refine go tt [.k ca,.k cb,.f (by simpa using c1),.f (by simp[Gb];omega),.f (by simp[Gb];omega),.r 49 (eI (b:=((q.length-1:Nat):Int)) (by rw[Gb];omega)),.x (Rh hy1),.k cl,.r 57 (eI (b:=((p.length+1:Nat):Int)) (by rw[Gb];omega)),.c [0] cx,.r 62 (eI (b:=(q.length:Int)) (by rw[Gb])),.c [1] cy,.r 65 (eI (b:=(q.length:Int)) (by rw[Gb,hYl])),.r 70 (eI (b:=((p.length-q.length+1:Nat):Int)) (by rw[Gb];omega)),.i (p.length-q.length+1),.i (p.length-q.length+1),.r 73 (eI (b:=((p.length-q.length+1:Nat):Int)) Fp)] rfl ?_ ?_
  ·simp only[Gd,Tk,IntKind.bits,Gb];omega
  ·rw[FM];refine pb 1 rfl rfl ?_;refine lp (S:=Int×U8×U8) 3 (λL1 s=>(13,.v (.oi s.1))::L1) (λs=>[.row false 125 1 (lm s.2.2),.gone,.row false 125 1 (lm s.2.1)]) (λs=>(s.1+1).toNat)
    (λs=>-1<=s.1/\s.1<p.length-q.length+1/\s.2.1.length=p.length-q.length+1/\Sm s.2.1/\Rest s.2.2 Y p.length q.length (s.1+1).toNat/\val (s.2.1.drop (s.1+1).toNat)*4294967296^(s.1+1).toNat*val Y+val s.2.2=val X) (((p.length-q.length+1:Nat):Int)-1,List.replicate (p.length-q.length+1) 0,X)
    ⟨Ft,Ft,Fp,λx hx=>by rw[List.eq_of_mem_replicate hx];decide,by simpa using hR,by simp[val]⟩ rfl (λ_ _=>rfl) rfl λ⟨i,oq,ox⟩ ⟨j1,j2,j3,j4,j5,j6⟩=>?_
   dsimp only at j1 j2 j3 j4 j5 j6 ⊢;rcases Kv i 0 with hi|hi
   ·obtain rfl:i=-1:=Fj;simp only[show((-1:Int)+1).toNat=0 from rfl,X7,Vx,Vk]at j5 j6;have hlt':val ox<val q*2^s:=by have:=j5.lt;rw[hYv]at this;simpa using this
    have hfin:=Qm7 (x:=val p) (y:=val q) (s:=s) (r:=val ox) (q:=oq) hy (by rw[<-hXv,<-hYv];exact j6) hlt';have hoxl:=j5.ol;have hox:=iT (o:=ox) (n:=q.length) Fj (Nat.lt_trans hlt' hvy);have hszm:sz (val (ox.take q.length))<=4294967400:=by
     rw[hox,hfin.2];have h1:=Qn5 (val p % val q) (2^s);have h2':=Tx (Y4 (Xi (val p) hy));have h3:sz (2^s)<=s+1:=Cu.2 (Nat.pow_lt_pow_right Fl Fj);omega
    have cs:=Q1a (a:=ox.take q.length) (λu hu=>j5.ob u (Qn hu)) hszm hs31;rw[hox,hfin.2,Nat.mul_div_cancel _ (Xd Fl)]at cs;have cq:=WO j4;rw[hfin.1]at cq;exact Ux [.f Fl,.p 2,.p 0,.k cq,.i q.length,.r 95 (v:=lr (ox.take q.length)) (by simp[lm]),.k cs] rfl rfl (by simp[Gd,Tk,Gb];omega)
   ·obtain⟨k,rfl⟩:=K8 hi;have e:((k:Int)+1).toNat=k+1:=Fj;rw[e]at j5 j6;obtain⟨top,nx,xn,x1,x2,D⟩:=j5.dig;have hoxl:=j5.ol;have hm:=j5.hm;have cd:=Qim (o:=ox) (lo:=k) Fj (hYl.symm ▸ D) Fj;rw[hYl]at cd;have hwl:=SZ (o:=ox) (i:=k) (n:=q.length) Fj;have hwlt:val (GV ox k q.length) % val Y<4294967296^(q.length+1):=by
     have h3:=Dl (GV ox k q.length) D.xb;rw[hwl]at h3;exact Xe (Nat.mod_le _ _) h3
    obtain⟨d1,d2,d3⟩:=kM (k:=q.length+1) (v:=val (GV ox k q.length) % val Y);have hnx:=j5.next (w':=tU (q.length+1) (val (GV ox k q.length) % val Y)) (d1.trans hwl.symm) d2 (d3 hwlt) (q:=oq) Fj j6;have hdg:=D.qlt;refine go tt [.t Fp,.i k,.i (k+q.length+1),.r 87 (v:=.one (.orow 0 1 (some (k,q.length+1)))) (by rw[show k+q.length+1-k=q.length+1 by omega]),.c [0] cd,.i k] rfl ?_ ?_
    ·simp only[Gd,Gb];omega
    ·rw[Ld];refine rd ((k:Int)-1,oq.set k (val (GV ox k q.length) / val Y),ox.take k++tU (q.length+1) (val (GV ox k q.length) % val Y)++ox.drop (k+q.length+1)) Ft ⟨Ft,Ft,by simp[j3],Dh j4 _ _ hdg,?_,?_⟩ rfl
     ·dsimp only;rw[show((k:Int)-1+1).toNat=k from Fj];exact hnx.1
     ·dsimp only;rw[show((k:Int)-1+1).toNat=k from Fj];exact hnx.2
def sg(z:Int):LV:=.bool (decide (z<0))
def mg(z:Int):LV:=.row (lm (He z.natAbs))
abbrev Rj(z:Int):Fb:=[sg z,mg z]
def Hh(x y:LV)(z:Int):Prop:=∃b l,x=.bool b/\y=.row (lm l)/\Sm l/\z=Gi b (val l)
theorem Fy(z:Int):Hh (sg z) (mg z) z:=by
 refine⟨_,_,rfl,rfl,Ak _,?_⟩;rw[Ro];unfold Gi;by_cases h:z<0 <;> simp[h] <;> omega
theorem Qy7(b:Bool)(m:Nat):[LV.bool (b && decide (0<m)),LV.row (lm (He m))]=Rj (Gi b m):=by
 simp only[Rj,sg,mg,OX,So]
variable{m:Nat}
theorem Eu:0<(He m).length↔0<m:=by
 rcases Q4 m with h|h
 ·subst h;rw[Rr];simp
 ·rw[Ij Fj];simp[h]
theorem Nk(b:Bool)(m:Nat):U3 133 [lr (He m),.one (.bool b)] [.agg (Rj (Gi b m))]:=by
 rw[<-Qy7];have e:=Eu (m:=m);cases b with
 |false=>exact Uy func133 rfl [.f rfl] rfl
 |true=>exact Uy func133 rfl [.t rfl] rfl (by simp[Gb,e]) trivial
theorem Nc{b:Bool}{k:Nat}(h:Gl (Gi b m)<=k):sz m<=k:=by
 unfold Gl at h;rwa[So]at h
variable{x y:LV}{z:Int}
theorem Bl(hi:Hh x y z)(hs:Gl z<=4294967295):U3 86 [.agg [x,y]] [.agg (Rj z)]:=by
 obtain⟨b,l,rfl,rfl,hl,rfl⟩:=hi;exact Uy func86 rfl [.k (UT hl (Qc (Nc hs) Fl)),.k (Nk _ _)] rfl
theorem HM(b:Bool)(m:Nat):Gi (!b) m=-(Gi b m):=by unfold Gi;cases b <;> simp
theorem EQ(hi:Hh x y z)(hs:Gl z<=4294967295):U3 63 [.agg [x,y]] [.agg (Rj (-z))]:=by
 obtain⟨b,l,rfl,rfl,hl,rfl⟩:=hi;rw[<-HM];exact Uy func63 rfl [.k (UT hl (Qc (Nc hs) Fl)),.k (Nk _ _)] rfl
variable{x' y':LV}{z':Int}
theorem Nj(hi:Hh x y z)(hi':Hh x' y' z')(hs:Gl z<=4294967295)(hs':Gl z'<=4294967295):U3 148 [.agg [x,y],.agg [x',y']] [.agg (Rj (z*z'))]:=by
 obtain⟨b,l,rfl,rfl,hl,rfl⟩:=hi;obtain⟨b',l',rfl,rfl,hl',rfl⟩:=hi';have e:Gi b (val l)*Gi b' (val l')=Gi (b != b') (val l*val l'):=by
  unfold Gi;cases b <;> cases b' <;> simp[Int.neg_mul,Int.mul_neg]
 rw[e];exact Uy func148 rfl [.k (Q05 hl hl' (Qc (Nc hs) Fl) (Qc (Nc hs') Fl)),.k (Nk _ _)] rfl
theorem EW{a b:U8}(ha:Sm a)(hb:Sm b)(h1:sz (val a)<=4294967296)(h:val b<=val a):U3 280 [lr a,lr b] [lr (He (val a-val b)),.one (.bool true)]:=by
 have:=Qu5 ha hb h1;rwa[if_pos h]at this
theorem Qh6{a b:U8}(ha:Sm a)(hb:Sm b)(h1:sz (val a)<=4294967296)(h:val a<val b):U3 280 [lr a,lr b] [lr [],.one (.bool false)]:=by
 have:=Qu5 ha hb h1;rwa[if_neg Fj]at this
theorem UP(hi:Hh x y z)(hi':Hh x' y' z')(hs:Gl z<=4294967295)(hs':Gl z'<=4294967295):U3 239 [.agg [x,y],.agg [x',y']] [.agg (Rj (z+z'))]:=by
 obtain⟨b,l,rfl,rfl,hl,rfl⟩:=hi;obtain⟨b',l',rfl,rfl,hl',rfl⟩:=hi';have s1:=Qc (Nc hs) (show 4294967295<=4294967296 by decide);have s2:=Qc (Nc hs') (show 4294967295<=4294967296 by decide);by_cases hb:b=b'
 ·subst hb;have e:Gi b (val l)+Gi b (val l')=Gi b (val l+val l'):=by unfold Gi;cases b <;> simp <;> omega
  rw[e];exact Uy func239 rfl [.t Fp,.k (Quz hl hl' s1 s2),.k (Nk _ _)] rfl
 ·by_cases hle:val l'<=val l
  ·have e:Gi b (val l)+Gi b' (val l')=Gi b (val l-val l'):=by unfold Gi;cases b <;> cases b' <;> simp at hb ⊢ <;> omega
   rw[e];exact Uy func239 rfl [.f (by simpa using hb),.k (EW hl hl' s1 hle),.t rfl,.k (Nk _ _)] rfl
  ·have e:Gi b (val l)+Gi b' (val l')=Gi b' (val l'-val l):=by unfold Gi;cases b <;> cases b' <;> simp at hb ⊢ <;> omega
   rw[e];exact Uy func239 rfl [.f (by simpa using hb),.k (Qh6 hl hl' s1 Fj),.f rfl,.k (EW hl' hl s2 Fj),.k (Nk _ _)] rfl
theorem Qif(hi:Hh x y z)(hi':Hh x' y' z')(hs:Gl z<=4294967295)(hs':Gl z'<=4294967295):U3 208 [.agg [x,y],.agg [x',y']] [.agg (Rj (z-z'))]:=by
 obtain⟨b',l',rfl,rfl,hl',rfl⟩:=hi';have hn:Hh (.bool (!b')) (.row (lm l')) (-(Gi b' (val l'))):=⟨_,_,rfl,rfl,hl',(HM _ _).symm⟩;rw[Int.sub_eq_add_neg];have hi2:=hi;obtain⟨b,l,rfl,rfl,hl,_⟩:=hi;exact Uy func208 rfl [.k (UP hi2 hn hs (by rw[Te];exact hs'))] rfl
theorem Qi5(hi:Hh x y z)(hs:Gl z<=4294967295):U3 188 [.agg [x,y]] [.oi (Int.sign z)]:=by
 obtain⟨b,l,rfl,rfl,hl,rfl⟩:=hi;have s1:=Qc (Nc hs) (show 4294967295<=4294967296 by decide);have cb:=cI hl s1;by_cases h0:val l=0
 ·have e:Gi b (val l)=0:=by unfold Gi;rw[h0];cases b <;> simp
  rw[e];exact Uy func188 rfl [.k cb,.t (by simp[qK,h0])] rfl
 ·have qP:sz (val l)≠0:=λh=>h0 (qK.1 h)
  cases b
  ·have e:(Gi false (val l)).sign=1:=Int.sign_eq_one_of_pos (by unfold Gi;simp;omega);rw[e];exact Uy func188 rfl [.k cb,.f Fo,.f rfl] rfl
  ·have e:(Gi true (val l)).sign=-1:=Int.sign_eq_neg_one_of_neg (by unfold Gi;simp;omega);rw[e];exact Uy func188 rfl [.k cb,.f Fo,.t rfl] rfl
theorem SE(hi:Hh x y z)(hi':Hh x' y' z')(hs:Gl z<=4294967295)(hs':Gl z'<=4294967295):U3 124 [.agg [x,y],.agg [x',y']] [.oi (E5 z z')]:=by
 have c1:=Qi5 hi hs;have c2:=Qi5 hi' hs';obtain⟨b,l,rfl,rfl,hl,hz⟩:=hi;obtain⟨b',l',rfl,rfl,hl',hz'⟩:=hi';have k1:=Oi z;have k2:=Oi z';have zl:z.natAbs=val l:=by rw[hz,So]
 have zl':z'.natAbs=val l':=by rw[hz',So]
 by_cases h1:z.sign<z'.sign
 ·have e:E5 z z'=-1:=by unfold E5;rw[if_pos Fj]
  rw[e];exact Uy func124 rfl [.k c1,.k c2,.t (by simpa using h1)] rfl
 ·by_cases h2:z'.sign<z.sign
  ·have e:E5 z z'=1:=by unfold E5;rw[if_neg Fj,if_pos Fj]
   rw[e];exact Uy func124 rfl [.k c1,.k c2,.f (by simpa using h1),.t (by simpa using h2)] rfl
  ·by_cases h3:z.sign<0
   ·have e:JB (val l') (val l)=E5 z z':=by unfold E5 JB;rw[<-zl,<-zl'];split <;> split <;> (try split) <;> (try split) <;> omega
    have cc:=Qg8 hl' hl;rw[e]at cc;exact Uy func124 rfl [.k c1,.k c2,.f (by simpa using h1),.f (by simpa using h2),.t (by simpa using h3),.k cc] rfl
   ·have e:JB (val l) (val l')=E5 z z':=by unfold E5 JB;rw[<-zl,<-zl'];split <;> split <;> (try split) <;> (try split) <;> omega
    have cc:=Qg8 hl hl';rw[e]at cc;exact Uy func124 rfl [.k c1,.k c2,.f (by simpa using h1),.f (by simpa using h2),.f (by simpa using h3),.k cc] rfl
theorem Ed:U3 135 [.agg (Rj z)] [.one (.bool (decide (z=0)))] :=
 Uy func135 rfl [] rfl (by simp only[Gb];congr 3;have:=Eu (m:=z.natAbs);rw[decide_eq_decide];omega) trivial
theorem EZ(h1:-9223372036854775808<=z/\z<=9223372036854775807):U3 87 [.oi z] [.agg (Rj z)]:=by
 obtain⟨m,hm⟩:=nmE (z.natAbs);have sm:Sm [m % 4294967296,m / 4294967296]:=λx hx=>by
  simp at hx;rcases hx with rfl|rfl <;> omega
 have hv:val [m % 4294967296,m / 4294967296]=m:=by simp only[val];omega
 have cn:=UT sm (by rw[hv];exact Qc (Cu.2 (show m<2^64 by omega)) (show 64<=4294967296 by decide));rw[hv]at cn;by_cases hz:z<0
 ·have e:Gi true m=z:=by unfold Gi;simp;omega
  have cm:=Nk true m;rw[e]at cm;exact Uy func87 rfl [.w 0,.r 5 (Er (b:=((18446744073709551616-m:Nat):Int)) (by rw[w64];omega)),.t (by simpa using hz),.w 0,.r 9 (Er (b:=(m:Int)) (by rw[w64];omega)),.w 0,.r 11 (A0 (b:=((m % 4294967296:Nat):Int)) (by rw[vU];omega)),.i 32,.r 13 (Er (b:=((m / 4294967296:Nat):Int)) Fp),.k cn,.r 18 (v:=.one (.bool true)) (by simp[hz]),.k cm] rfl rfl (by simp[Gd,IntKind.bits] <;> omega)
 ·have e:Gi false m=z:=by unfold Gi;simp;omega
  have cm:=Nk false m;rw[e]at cm;exact Uy func87 rfl [.w 0,.r 5 (Er (b:=(m:Int)) (by rw[w64];omega)),.f (by simpa using hz),.w 0,.r 11 (A0 (b:=((m % 4294967296:Nat):Int)) (by rw[vU];omega)),.i 32,.r 13 (Er (b:=((m / 4294967296:Nat):Int)) Fp),.k cn,.r 18 (v:=.one (.bool false)) Fo,.k cm] rfl rfl (by simp[Gd,IntKind.bits] <;> omega)
theorem dZ{n:Nat}(h1:sz m<=4294967296)(h2:sz n<=4294967296)(hn:0<n):U3 240 [lr (He m),lr (He n)] [lr (He (m / n)),lr (He (m % n)),.oi 0]:=by
 have:=rW (Ak m) (Ak n) (by rw[Ro];exact h1) (by rw[Ro];exact h2) (by rw[Ro];exact hn);rwa[Ro,Ro]at this
theorem Qd8(hi:Hh x y z)(hi':Hh x' y' z')(hs:Gl z<=4294967295)(hs':Gl z'<=4294967295)(hz:z'≠0):U3 241 [.agg [x,y],.agg [x',y']] [.agg (Rj (z / z')),.agg (Rj (z % z')),.oi 0]:=by
 obtain⟨b,l,rfl,rfl,hl,hz1⟩:=hi;obtain⟨b',l',rfl,rfl,hl',hz2⟩:=hi';have zl:z.natAbs=val l:=by rw[hz1,So]
 have zl':z'.natAbs=val l':=by rw[hz2,So]
 have s1:sz (val l)<=4294967296:=Qc (Nc (hz1 ▸ hs)) Fl;have s2:sz (val l')<=4294967296:=Qc (Nc (hz2 ▸ hs')) Fl;have hp:0<z'.natAbs:=Fj;have e1:z=if b=true then -(z.natAbs:Int)else(z.natAbs:Int):=by rw[zl];exact hz1
 have e2:z'=if b'=true then -(z'.natAbs:Int)else(z'.natAbs:Int):=by rw[zl'];exact hz2
 have cd:=rW hl hl' s1 s2 Fj;rw[<-zl,<-zl']at cd;have s0:sz (z.natAbs % z'.natAbs)<=4294967296:=Qc (Tx (Y4 (Xi _ hp))) (by rw[zl'];exact s2);cases b with
 |
  false =>
  obtain⟨d1,d2⟩:=AG e2 hp e1;rw[d1,d2];exact Uy func241 rfl [.k cd,.f rfl,.k (Nk _ _),.k (Nk _ _),.f rfl,.f rfl] rfl
 |
  true =>
  by_cases h0:z.natAbs % z'.natAbs=0
  ·obtain⟨d1,d2⟩:=BB e2 hp e1 h0;rw[d1,d2];exact Uy func241 rfl [.k cd,.f rfl,.k (Nk _ _),.k (Nk _ _),.t rfl,.f (by rw[h0,Rr];rfl)] rfl
  ·obtain⟨d1,d2⟩:=AU e2 hp e1 Fj;rw[d1,d2];have ca:=Quz (a:=He (z.natAbs / z'.natAbs)) (b:=[1]) (Ak _) (λx hx=>by simp at hx;subst hx;decide) (by rw[Ro];exact Qc (Tx (Ya _ _)) (by rw[zl];exact s1)) Fl;have cs:=EW (a:=l') (b:=He (z.natAbs % z'.natAbs)) hl' (Ak _) s2 (by rw[Ro,<-zl'];exact Y4 (Xi _ hp));rw[Ro]at ca cs;rw[<-zl']at cs;have hl0:=Eu (m:=z.natAbs % z'.natAbs);exact Uy func241 rfl [.k cd,.f rfl,.k (Nk _ _),.k (Nk _ _),.t rfl,.t (by simp[Gb];omega),.k ca,.k cs,.k (Nk _ _),.k (Nk _ _)] rfl
theorem Oq(hi:Hh x y z)(hi':Hh x' y' z')(hs:Gl z<=4294967295)(hs':Gl z'<=4294967295)(hz:z'≠0)(hd:z % z'=0):U3 184 [.agg [x,y],.agg [x',y']] [.agg (Rj (z / z')),.oi 0]:=by
 have cd:=Qd8 hi hi' hs hs' hz;obtain⟨b,l,rfl,rfl,_⟩:=hi;obtain⟨b',l',rfl,rfl,_⟩:=hi';exact Uy func184 rfl [.k cd,.f rfl,.f (by rw[hd];simp[Gb,Rr])] rfl
end Orr
namespace Orr
open Go
abbrev Q4m(l:U8):LV:=.row (lm l)
def Sx(l:U6):Nat:=l.foldl (λg z=>Nat.gcd g z.natAbs) 0
variable{l:U6}{i:Nat}{z:Int}
theorem Qe7(h:l[i]? = some z):Sx (l.take (i+1))=Nat.gcd (Sx (l.take i)) z.natAbs:=by
 unfold Sx;rw[Jv,h];simp[Ka]
theorem Qr6(g x:Nat):Nat.gcd x (g % x)=Nat.gcd g x:=by
 rw[Nat.gcd_comm g x,Nat.gcd_rec x g,Nat.gcd_comm]
theorem qO(l:U6):l.foldl (λg z=>Nat.gcd g z.natAbs) 1=1:=by
 induction l with
 |nil=>rfl
 |cons z l ih=>simp[ih]
theorem Qkv(h:Sx (l.take i)=1):Sx l=1:=by
 have e:l=l.take i++l.drop i:=(Zf i l).symm;unfold Sx at h ⊢;rw[e,Ka,h,qO]
def trim:U6->U6
 | []=>[]
 |
  x::l=>match trim l with
  | []=>if x=0 then []else [x]
  |y::k=>x::y::k
theorem FO:∀{l:U6},(∀x∈l,x=0)->trim l=[]
 | [],_=>rfl
 |
  x::l,h=>by
  have ih:=FO (l:=l) (λy hy=>h y (Qh _ hy));simp[trim,ih,h x (Qw ..)]
theorem vV:∀{l:U6} {m:Nat} {y:Int},(∀j x,m<j->l[j]? = some x->x=0)->l[m]? = some y->y≠0->trim l=l.take (m+1)
 | [],m,y,_,h,_=>by simp at h
 |
  x::l,0,y,h1,h2,h3=>by
  have h0:trim l=[]:=FO λz hz=>by
   obtain⟨j,hj⟩:=Zk.1 hz;exact h1 (j+1) z Fj (by simpa using hj)
  simp at h2;subst h2;simp[trim,h0,h3]
 |
  x::l,m+1,y,h1,h2,h3=>by
  have ih:=vV (l:=l) (m:=m) (y:=y) (λj z hj hz=>h1 (j+1) z Fj (by simpa using hz)) (by simpa using h2) h3;cases hl:l with
  |nil=>subst hl;simp at h2
  |
   cons u k =>
   subst hl;rw[Vy]at ih;simp only[trim]at ih ⊢;rw[ih];simp
def Gk(l:U6):Prop:=trim l=l
theorem Sj:∀(l:U6),Gk (trim l)
 | []=>rfl
 |
  x::l=>by
  have ih:=Sj l;unfold Gk at ih ⊢;cases h:trim l with
  |nil=>by_cases hx:x=0 <;> simp[trim,h,hx]
  |
   cons y k =>
   rw[h]at ih;simp only[trim,h]at ih ⊢;rw[ih]
theorem nM{m:Nat}(hm:m<=l.length)(h1:∀j x,m<=j->l[j]? = some x->x=0)(h2:0<m->∃y,l[m-1]? = some y/\y≠0):trim l=l.take m:=by
 rcases Q4 m with h0|h0
 ·subst h0;rw[FO λz hz=>?_];rfl;obtain⟨j,hj⟩:=Zk.1 hz;exact h1 j z Fj hj
 ·obtain⟨y,hy,hy0⟩:=h2 h0;have:=vV (l:=l) (m:=m-1) (y:=y) (λj x hj hx=>h1 j x Fj hx) hy hy0;rwa[show m-1+1=m from Fj]at this
def IsInts:Fc->U6->Prop
 | [],[]=>True
 |x::l,z::p=>(∃a b,x=[a,b]/\Hh a b z)/\IsInts l p
 |_,_=>False
theorem IsInts.len:∀{l:Fc} {p:U6},IsInts l p->l.length=p.length
 | [],[],_=>rfl
 |x::l,z::p,h=>by simp[h.2.len]
 | [],_::_,h=>h.elim
 |_::_,[],h=>h.elim
theorem IsInts.get:∀{l:Fc} {p:U6},IsInts l p->∀{i:Nat} {z:Int},p[i]? = some z->∃a b,l[i]? = some [a,b]/\Hh a b z
 | [],[],_,i,z,h=>by simp at h
 |
  x::l,y::p,h,0,z,hz=>by
  simp at hz;subst hz;obtain⟨a,b,rfl,hi⟩:=h.1;exact⟨a,b,rfl,hi⟩
 |x::l,y::p,h,i+1,z,hz=>by simpa using h.2.get (i:=i) (by simpa using hz)
 | [],_::_,h,_,_,_=>h.elim
 |_::_,[],h,_,_,_=>h.elim
theorem Rk:∀(p:U6),IsInts (p.map Rj) p
 | []=>trivial
 |z::p=>⟨⟨_,_,rfl,Fy z⟩,Rk p⟩
theorem IsInts.append:∀{l l':Fc} {p p':U6},IsInts l p->IsInts l' p'->IsInts (l++l') (p++p')
 | [],_,[],_,_,h=>h
 |x::l,_,z::p,_,h,h'=>⟨h.1,h.2.append h'⟩
 | [],_,_::_,_,h,_=>h.elim
 |_::_,_,[],_,h,_=>h.elim
def pl(p:U6):LV:=.row (p.map Rj)
def ids(l:U6):LV:=.row (l.map λ(x:Int)=>[.int .i64 x])
theorem FQ:Hh (.bool false) (.row []) 0:=⟨false,[],rfl,rfl,(λx hx=>by cases hx),rfl⟩
theorem Qtw:sg 0=.bool false:=rfl
theorem Qff:(He z.natAbs).length=0↔z=0:=by
 constructor
 ·intro h;have h0:=Qi h;have:=(RR (Eg z.natAbs)).2 h0;rw[Ro]at this;omega
 ·rintro rfl;rw[show(0:Int).natAbs=0 from rfl,Rr];rfl
theorem Rm{α β:Type}{f:α->β}{l:List α}{x:α}(h:l[i]? = some x):(l.map f)[i]? = some (f x):=by rw[Zb,h];rfl
theorem Qvq{α:Type}{f:α->Fb}{sz:Nat}(l:List α)(h:∀x,(f x).length=sz):∀c∈l.map f,c.length=sz:=λc hc=>by
 obtain⟨x,_,rfl⟩:=Q8.1 hc;exact h x
theorem Qsh:mg 0=.row []:=by simp[mg,Rr,lm]
theorem Af:Rj 0=[LV.bool false,LV.row []]:=by simp[Rj,Qtw,Qsh]
end Orr
namespace Orr
open Go Go.Proofs Tryz
set_option maxRecDepth 10000
theorem CE{p:U6}(hs:∀z∈p,Gl z≤4294967295):sz (Sx p)≤4294967295:=by
 have key:∀(p:U6) (g:Nat),sz g≤4294967295->(∀z∈p,Gl z≤4294967295)->sz (p.foldl (λg z=>Nat.gcd g z.natAbs) g)≤4294967295:=by
  intro p
  induction p with
  |nil=>exact λg h _=>h
  |
   cons z p ih =>
   intro g h hs;refine ih _ ?_ λy hy=>hs y (.tail _ hy)
   rcases Q4 g with h0|h0
   ·subst h0;show sz (Nat.gcd 0 z.natAbs)<=_;rw[Nat.gcd_zero_left];exact hs z (.head _)
   ·exact Qc (Tx (Nat.gcd_le_left _ h0)) h
 exact key p 0 Fl hs
theorem Qhg{l:Fc}{p:U6}(hi:IsInts l p)(hs:∀z∈p,Gl z≤4294967295):U3 183 [.one (.row l)] [.agg (Rj ((Sx p:Nat):Int))]:=by
 refine G5 func183 rfl (ln 0 rfl rfl λhl=>?_);have hlp:=hi.len;refine Uv [.z 3,.r 3 (v:=lr (He (Sx (p.take 0)))) (by simp[Sx,Rr,lm])] rfl ?_;refine ct 2 (S:=Unit) (λ_=>[(2,.v (.one (.ow 0 0))),(3,.v (lr (He (Sx p))))]) (λ_=>[.blk 35 [.bool false,.nils],.gone]) (λ_=>True) rfl ?_ ?_
 ·refine U0 (S:=Nat) 1 (λL1 i=>(12,.v (.oi i))::(3,.v (lr (He (Sx (p.take i)))))::L1) (λ_=>[.blk 35 [.bool false,.nils]]) (λi=>p.length-i) (λi=>i<=p.length) 0 (Qg _) rfl rfl λi hip=>?_
  by_cases h:i<p.length
  ·have hlt:i<l.length:=Fj;obtain⟨c,hc⟩:=gxE (l:=l) (i:=i) hlt;obtain⟨z,hz⟩:=gxE (l:=p) (i:=i) h;obtain⟨x,y,hc',b,r,rfl,rfl,hr,hzz⟩:=hi.get hz;rw[hc]at hc';injection hc' with hc';subst hc'
   have hsz:=hs z (Qa hz);have hg0:sz (Sx (p.take i))<=4294967295:=CE λy hy=>hs y (Qn hy)
   have ezr:z.natAbs=val r:=by rw[hzz,So]
   have cn:=UT hr (by rw[<-ezr];exact Qc hsz Fl);rw[<-ezr]at cn;refine Uv [.t Fo,.x hc,.k cn] rfl ?_;refine U0 (S:=Nat×Nat) 2 (λL1 s=>(3,.v (lr (He s.1)))::(6,.v (lr (He s.2)))::L1) (λ_=>[.blk 35 [.bool false,.nils],.blk 35 [.bool b,.row (lm r)]]) (λs=>s.2) (λs=>Nat.gcd s.1 s.2=Nat.gcd (Sx (p.take i)) z.natAbs/\sz s.1<=4294967295/\sz s.2<=4294967295) (Sx (p.take i),z.natAbs) ⟨rfl,hg0,hsz⟩ rfl rfl λ⟨g,u⟩ ⟨j1,j2,j3⟩=>?_
   dsimp only at j1 j2 j3 ⊢;have hul:=Eu (m:=u);by_cases hu:0<u
   ·have cd:=dZ (m:=g) (n:=u) Fj Fj hu;refine Uv [.t (by simp[Gb];omega),.k cd] rfl ?_;exact rd (u,g % u) (Xi _ hu) ⟨(Qr6 g u).trans j1,j3,Qc (Tx (Y4 (Xi _ hu))) j3⟩ rfl
   ·obtain rfl:u=0:=Fj;rw[Nat.gcd_zero_right,<-Qe7 hz]at j1;subst j1;by_cases h1:Sx (p.take (i+1))=1
    ·have e1:He (Sx (p.take (i+1)))=[1]:=by rw[h1,Ij Fl];simp[Rr]
     refine Uv [.f (by simp[Rr,lm]),.t (by rw[e1];rfl),.x (Rh (i:=0) (x:=1) (by rw[e1];rfl)),.t rfl] rfl ?_;exact rc () trivial (by rw[h1,Qkv h1];rfl)
    ·obtain⟨g,hg⟩:=nmE (Sx (p.take (i+1)));rw[<-hg]at h1 j2 ⊢;by_cases h2:(He g).length=1
     ·obtain⟨v,hv⟩:∃v,He g=[v]:=by
       match hm:He g,h2 with
       | [v],_=>exact⟨v,rfl⟩
      have hv1:v≠1:=λe=>h1 (by rw[<-Ro g,hv,e];rfl)
      refine go tt [.f (by simp[Rr,lm]),.t (by simp[Gb,h2]),.x (Rh (i:=0) (x:=v) (by rw[hv];rfl)),.f Fo] rfl Fv ?_;exact rd (i+1) Fj h (by rw[<-hg];rfl)
     ·refine go tt [.f (by simp[Rr,lm]),.f (by simp[Gb];omega),.f rfl] rfl Fv ?_;exact rd (i+1) Fj h (by rw[<-hg];rfl)
  ·obtain rfl:i=p.length:=Fj;refine Uv [.f Fo] rfl ?_;rw[Q6];exact rc () trivial rfl
 ·intro _ _;have cn:=UT (Ak (Sx p)) (by rw[Ro];exact Qc (CE hs) Fl);rw[Ro]at cn;exact Ux [.k cn,.k (Nk false _)] rfl (by simp[Gi]) trivial
end Orr
namespace Orr
def Bd(s:Nat)(p:U6):Prop:=∀z∈p,Gl z≤s
theorem Ce:Gl 0=0:=rfl
variable{s i:Nat}{p:U6}{z:Int}
theorem Qg6(h:Bd s p)(hz:p[i]? = some z):Gl z<=s:=h z (Qa hz)
theorem G0(h:Bd s p)(k:Nat):Gl (p.getD k 0)<=s:=by
 rw[Qj];cases hk:p[k]? with
 |none=>rw[Wl,Ce];exact Qg _
 |some z=>exact Qg6 h hk
variable{t:Nat}
theorem Fz(h:Bd s p)(ht:s<=t):Bd t p:=λz hz=>Qc (h z hz) ht
theorem UG:Bd s []:=λz hz=>by cases hz
variable{g:Nat->Int}
theorem Qwe{n:Nat}(h:∀k,k<n->Gl (g k)<=s):Bd s ((List.range n).map g):=λz hz=>by
 obtain⟨k,hk,rfl⟩:=Q8.1 hz;exact h k (K7.1 hk)
theorem nC:∀(l:U6),∀z∈trim l,z∈l
 | [],z,h=>by cases h
 |
  x::l,z,h=>by
  have ih:=nC l;cases hl:trim l with
  |
   nil =>
   simp only[trim,hl]at h
   split at h
   ·cases h
   ·rw[Ql]at h;rw[h];exact Qw ..
  |
   cons y k =>
   simp only[trim,hl]at h;rcases Qk.1 h with rfl|h
   ·exact Qw ..
   ·exact Qh _ (ih z (by rw[hl];exact h))
theorem Sw(l:U6):(trim l).length<=l.length:=by
 induction l with
 |nil=>exact Qm _
 |
  cons x l ih =>
  cases hl:trim l with
  |nil=>simp only[trim,hl];split <;> simp
  |cons y k=>simp only[trim,hl];rw[hl]at ih;simp at ih ⊢;exact ih
theorem Mg(h:Bd s p):Bd s (trim p):=λz hz=>h z (nC p z hz)
theorem WR:∀(l:U6) (k:Nat),(trim l).getD k 0=l.getD k 0
 | [],k=>rfl
 |
  x::l,k=>by
  have ih:=WR l;cases hl:trim l with
  |
   nil =>
   rw[hl]at ih;simp only[trim,hl]
   split
   ·rename_i hx;cases k with
    |zero=>simp[hx]
    |succ k=>have:=ih k;simp at this ⊢;exact this
   ·cases k with
    |zero=>simp
    |succ k=>have:=ih k;simp at this ⊢;exact this
  |
   cons y m =>
   rw[hl]at ih;simp only[trim,hl];cases k with
   |zero=>simp
   |succ k=>have:=ih k;simp at this ⊢;exact this
def Ol(n:Nat)(g:Nat->Int):U6:=trim ((List.range n).map g)
theorem Gw(n:Nat)(g:Nat->Int):Gk (Ol n g):=Sj _
theorem QD(n:Nat)(g:Nat->Int):(Ol n g).length<=n:=Qc (Sw _) Fp
theorem Mj(n:Nat)(g:Nat->Int)(k:Nat):(Ol n g).getD k 0=if k<n then g k else 0:=by
 unfold Ol;rw[WR,Qj,Zb]
 split
 ·rename_i h;rw[List.getElem?_range h];rfl
 ·rename_i h;rw[List.getElem?_eq_none (by simpa using h)];rfl
theorem KY{n:Nat}(h:∀k,k<n->Gl (g k)<=s):Bd s (Ol n g):=Mg (Qwe h)
def Eh(p q:U6):U6:=Ol (max p.length q.length) λk=>p.getD k 0+q.getD k 0
def B7(p q:U6):U6:=Ol (max p.length q.length) λk=>p.getD k 0-q.getD k 0
def Pp(p:U6):U6:=Ol p.length λk=>-(p.getD k 0)
def Gy(p:U6)(c:Int):U6:=Ol p.length λk=>p.getD k 0*c
def H5(p:U6):U6:=Ol (p.length-1) λk=>p.getD (k+1) 0*((k+1:Nat):Int)
theorem KV{q:U6}(h:Bd s p)(h':Bd t q):Bd (max s t+1) (Eh p q):=KY λk _=>Qc (XC _ _) (by have:=G0 h k;have:=G0 h' k;omega)
theorem El{q:U6}(h:Bd s p)(h':Bd t q):Bd (max s t+1) (B7 p q):=KY λk _=>Qc (wG _ _) (by have:=G0 h k;have:=G0 h' k;omega)
theorem CJ(h:Bd s p):Bd s (Pp p):=KY λk _=>by rw[Te];exact G0 h k
theorem Hi{c:Int}(h:Bd s p)(hc:Gl c<=t):Bd (s+t) (Gy p c):=KY λk _=>Qc (Hb _ _) (by have:=G0 h k;omega)
theorem ZQ(p q:U6):(Eh p q).length<=max p.length q.length:=QD _ _
theorem Cg(p q:U6):(B7 p q).length<=max p.length q.length:=QD _ _
theorem ZZ(p:U6):(Pp p).length<=p.length:=QD _ _
theorem G8(p:U6)(c:Int):(Gy p c).length<=p.length:=QD _ _
theorem Cf(p:U6):(H5 p).length<=p.length-1:=QD _ _
theorem wF{k:Nat}(h:k<2^t):Gl (k:Int)<=t:=by rw[Mm];simpa using h
theorem Qfc{k:Nat}(h:k<274877906944):Gl (k:Int)<=4294967295:=Qc (wF (t:=38) (Kz h Fl)) Fj
theorem vN(h:Bd s p)(hl:p.length<=2^t):Bd (s+t) (H5 p):=KY λk hk=>Qc (Hb _ _) (by
 have:=G0 h (k+1);have:=wF (k:=k+1) (t:=t) Fj;omega)
def ZK(x:Int)(b:U6)(i:Nat)(o:U6):Nat->U6
 | 0=>o
 |k+1=>(ZK x b i o k).set (i+k) ((ZK x b i o k).getD (i+k) 0+x*b.getD k 0)
def Oc(a b o:U6):Nat->U6
 | 0=>o
 |i+1=>ZK (a.getD i 0) b i (Oc a b o i) b.length
def Hg(a b:U6):U6:=if a.length=0\/b.length=0 then []else trim (Oc a b (List.replicate (a.length+b.length-1) 0) a.length)
theorem ZW(x:Int)(b:U6)(i:Nat)(o:U6)(k:Nat):(ZK x b i o k).length=o.length:=by
 induction k with
 |zero=>rfl
 |succ k ih=>simp[ZK,ih]
theorem Ac(a b o:U6)(i:Nat):(Oc a b o i).length=o.length:=by
 induction i with
 |zero=>rfl
 |succ i ih=>simp[Oc,ZW,ih]
theorem Qk1(l:U6)(i m:Nat)(v:Int)(h:i<l.length):(l.set i v).getD m 0=if m=i then v else l.getD m 0:=by
 rw[Qj,Y8,Qj];by_cases e:i=m
 ·subst e;simp[h]
 ·rw[if_neg e,if_neg (λh=>e h.symm)]
theorem Qfl(x:Int)(b:U6)(i:Nat)(o:U6)(k m:Nat)(h:i+k<=o.length):(ZK x b i o k).getD m 0=if i<=m/\m<i+k then o.getD m 0+x*b.getD (m-i) 0 else o.getD m 0:=by
 induction k with
 |zero=>simp only[ZK];rw[if_neg Fj]
 |
  succ k ih =>
  have ih:=ih Fj;simp only[ZK];rw[Qk1 _ _ _ _ (by rw[ZW];omega)];by_cases e:m=i+k
  ·subst e;rw[if_pos rfl,if_pos Fj,show i+k-i=k from Fj];rw[ih,if_neg Fj]
  ·rw[if_neg e,ih];by_cases h1:i<=m/\m<i+k
   ·rw[if_pos h1,if_pos Fj]
   ·rw[if_neg h1,if_neg Fj]
theorem Ch{x y:Int}(hx:Gl x<=s)(hy:Gl y<=t):(x*y).natAbs<=2^(s+t):=by
 have h:=Qc (Hb x y) (show _<=s+t by omega);rw[Mm]at h;omega
theorem wL{x:Int}{b:U6}{o:U6}{k M:Nat}(h:i+k<=o.length)(ho:∀m,(o.getD m 0).natAbs<=i*M)(hx:∀j,(x*b.getD j 0).natAbs<=M)(m:Nat):((ZK x b i o k).getD m 0).natAbs<=(i+1)*M:=by
 rw[Qfl x b i o k m h,Xp];have h1:=ho m
 split
 ·have h2:=hx (m-i);generalize i*M=q at *;omega
 ·omega
theorem wC{a b o:U6}{M:Nat}(h:∀j,j<i->j+b.length<=o.length)(ho:∀m,o.getD m 0=0)(hx:∀i j,(a.getD i 0*b.getD j 0).natAbs<=M)(m:Nat):((Oc a b o i).getD m 0).natAbs<=i*M:=by
 induction i generalizing m with
 |zero=>simp only[Oc];rw[ho];simp
 |
  succ i ih =>
  simp only[Oc];exact wL (by rw[Ac];exact h i Fj) (ih λj hj=>h j Fj) (hx i) m
theorem QK(h:z.natAbs<=i*2^s)(hi:i<2^t):Gl z<=s+t:=by
 rw[Mm];have h1:i*2^s<2^t*2^s:=X6 hi (Xd Fl);rw[<-Xu,Ye t s]at h1;omega
theorem La(n m:Nat):(List.replicate n (0:Int)).getD m 0=0:=by
 rw[Qj,Yi];split <;> rfl
theorem LM(h:∀m,Gl (p.getD m 0)<=s):Bd s p:=λz hz=>by
 obtain⟨i,hi⟩:=Zk.1 hz;have:=h i;rw[Qj,hi]at this;exact this
theorem Pm(a b:U6):(Hg a b).length<=a.length+b.length-1:=by
 unfold Hg
 split
 ·simp
 ·refine Qc (Sw _) ?_;rw[Ac];simp
theorem Mv{u:Nat}{a b:U6}(ha:Bd s a)(hb:Bd t b)(hl:a.length<2^u):Bd (s+t+u) (Hg a b):=by
 unfold Hg
 split
 ·exact UG
 ·refine Mg (LM λm=>?_);exact QK (wC (M:=2^(s+t)) (λj hj=>Fo) (La _) (λi j=>Ch (G0 ha i) (G0 hb j)) m) hl
theorem Tp(a b:U6):Gk (Hg a b):=by
 unfold Hg
 split
 ·rfl
 ·exact Sj _
def Ar(a:U6)(n d:Int):Nat->Int×Int
 | 0=>(0,1)
 |k+1=>((Ar a n d k).1*n+a.getD (a.length-1-k) 0*(Ar a n d k).2,(Ar a n d k).2*d)
def Qzc(a:U6)(n d:Int):Int:=(Ar a n d a.length).1
theorem Qde{a:U6}{n d:Int}{k:Nat}(ha:Bd s a)(hn:Gl n<=t)(hd:Gl d<=t):Gl (Ar a n d k).1<=s+2+k*(t+1)/\Gl (Ar a n d k).2<=1+k*t:=by
 induction k with
 |zero=>exact⟨by simp[Ar,Ce],by simp[Ar];decide⟩
 |
  succ k ih =>
  obtain⟨h1,h2⟩:=ih;have h3:=G0 ha (a.length-1-k);have e1:k*(t+1)=k*t+k:=by rw[X1,Vk]
  rw[Xp,Xp];refine⟨?_,?_⟩
  ·simp only[Ar];refine Qc (XC _ _) ?_;have h4:=Hb (Ar a n d k).1 n;have h5:=Hb (a.getD (a.length-1-k) 0) (Ar a n d k).2;generalize k*t=q at *;rw[e1]at h1 ⊢;omega
  ·simp only[Ar];have h4:=Hb (Ar a n d k).2 d;generalize k*t=q at *;omega
end Orr
namespace Orr
theorem kW{x y:Int}:E5 x y=0↔x=y:=by
 unfold E5;constructor
 ·intro h
  split at h
  ·omega
  ·split at h <;> omega
 ·rintro rfl;simp
theorem Tt{p:U6}(h:Gk p)(h0:0<p.length):p.getD (p.length-1) 0≠0:=by
 induction p with
 |nil=>simp at h0
 |
  cons x l ih =>
  unfold Gk at h;cases hl:trim l with
  |
   nil =>
   simp only[trim,hl]at h
   split at h
   ·cases h
   ·rename_i hx;injection h with h1 h2;subst h2;simpa using hx
  |
   cons y k =>
   simp only[trim,hl]at h;injection h with h1 h2;rw[<-hl]at h2;have ih:=ih h2 (by rw[<-h2,hl];simp);have h3:0<l.length:=by rw[<-h2,hl];simp
   simp only[Q5,Yu];obtain⟨m,hm⟩:∃m,l.length=m+1:=⟨l.length-1,Fj⟩;rw[hm]at ih ⊢;simpa using ih
end Orr
namespace Orr
theorem pY(p:U6):(List.range p.length).map (λk=>p.getD k 0)=p:=by
 apply X4;intro i;rw[Zb];rcases Zc i p.length with h|h
 ·rw[Jl h];simp[Qf h]
 ·rw[Qy (by simpa using h),Qy h];rfl
theorem AB{p q:U6}(hl:p.length=q.length)(h:∀j,j<p.length->p.getD j 0=q.getD j 0):p=q:=by
 rw[<-pY p,<-pY q,<-hl];exact Xx λj hj=>h j (K7.1 hj)
end Orr
namespace Orr
abbrev rl(q:Rat):Fb:=[sg q.num,mg q.num,sg (q.den:Int),mg (q.den:Int)]
theorem E7(n d:Int):Sx [n,d]=Int.gcd d n:=by
 unfold Sx;simp only[Xl,List.foldl_nil,Nat.gcd_zero_left];exact Nat.gcd_comm _ _
variable{n d:Int}
theorem sW(hd:d≠0):(0:Int)<((Sx [n,d]:Nat):Int):=by
 rw[E7];have:=Int.gcd_pos_of_ne_zero_left n hd;omega
theorem IJ(n d:Int):n % ((Sx [n,d]:Nat):Int)=0:=by
 rw[E7];exact Yg (Ud ..)
theorem IY(n d:Int):d % ((Sx [n,d]:Nat):Int)=0:=by
 rw[E7];exact Yg (Int.gcd_dvd_left ..)
theorem Qb7{g:Int}(h:n % g=0):-n % g=0:=by
 exact Yg (Int.dvd_neg.2 (V0 h))
variable{s:Nat}
theorem Qbm(hd:d≠0)(h:Gl d<=s):Gl ((Sx [n,d]:Nat):Int)<=s:=by
 rw[E7];refine Qc (Tx ?_) h;have:=Wi (by omega:0<d.natAbs) (show Int.gcd d n∣d.natAbs from Ui _ _);simpa using this
theorem Qb0(hd:0<d):n / ((Sx [n,d]:Nat):Int)=(Rat.divInt n d).num/\d / ((Sx [n,d]:Nat):Int)=((Rat.divInt n d).den:Int):=by
 rw[E7,Rat.num_divInt,W6,if_neg Fj,Vi hd,Wc];refine⟨rfl,?_⟩;rw[Int.natCast_ediv,Int.natAbs_of_nonneg Fj]
theorem Qsg(hd:d<0):-n / ((Sx [n,d]:Nat):Int)=(Rat.divInt n d).num/\-d / ((Sx [n,d]:Nat):Int)=((Rat.divInt n d).den:Int):=by
 rw[E7,Rat.num_divInt,W6,if_neg Fj,Yp hd,Ko,Wc];refine⟨rfl,?_⟩;rw[Int.natCast_ediv,Int.ofNat_natAbs_of_nonpos Fj]
theorem YN(u g:Int):Gl (u / g)<=Gl u:=by
 unfold Gl;exact Tx (Int.natAbs_ediv_le_natAbs u g)
theorem Ml(h:Gl n<=s):Gl (Rat.divInt n d).num<=s:=by
 rw[Rat.num_divInt];refine Qc (YN _ _) ?_;unfold Gl;rw[Ys];refine Qc (Tx ?_) h;have:d.sign.natAbs<=1:=by rcases Oi d with⟨_,e⟩|⟨_,e⟩|⟨_,e⟩ <;> rw[e] <;> decide
 calc d.sign.natAbs*n.natAbs<=1*n.natAbs:=Q3 _ this
  _=n.natAbs:=W7 _
theorem Mk(h:Gl d<=s)(h1:1<=s):Gl ((Rat.divInt n d).den:Int)<=s:=by
 rw[W6]
 split
 ·exact h1
 ·refine Qc (Tx ?_) h;exact Ya _ _
def Qs(s:Nat)(q:Rat):Prop:=Gl q.num<=s/\Gl (q.den:Int)<=s
theorem Qs.mono{t:Nat}{q:Rat}(h:Qs s q)(ht:s<=t):Qs t q:=⟨Qc h.1 ht,Qc h.2 ht⟩
theorem Qs.divInt(h:Gl n<=s)(h':Gl d<=s)(h1:1<=s):Qs s (Rat.divInt n d):=⟨Ml h,Mk h' h1⟩
theorem Ef(q:Rat):(q.den:Int)≠0:=by have:=q.den_nz;omega
theorem den_pos(q:Rat):(0:Int)<(q.den:Int):=by have:=q.den_nz;omega
def Hm(n d:Int):Rat:=Rat.divInt n (if d=0 then 1 else d)
theorem Po(q:Rat):Hm q.num q.den=q:=by
 unfold Hm;rw[if_neg (Ef q)];exact Xj q
def Rx(a b:Rat):Int:=E5 (a.num*(b.den:Int)) (b.num*(a.den:Int))
theorem Cy{a b:Rat}:Rx a b<0↔a<b:=by
 rw[Rat.lt_iff];unfold Rx E5;constructor
 ·intro h;split at h
  ·assumption
  ·split at h <;> omega
 ·intro h;rw[if_pos h];decide
theorem Az{a b:Rat}:0<Rx a b↔b<a:=by
 rw[Rat.lt_iff];unfold Rx E5;constructor
 ·intro h;split at h
  ·omega
  ·split at h
   ·assumption
   ·omega
 ·intro h;rw[if_neg Fj,if_pos h];decide
theorem Ig(a:Rat):Rx a a=0:=by unfold Rx E5;simp
structure Crv where
 x:List Int
 y:List Int
 d:Int
abbrev cl(k:Crv):Fb:=[pl k.x,pl k.y,sg k.d,mg k.d]
def Crv.d'(k:Crv):Int:=if k.d=0 then 1 else k.d
def Crv.g(k:Crv):Int:=if k.d'<0 then -((Sx (k.d'::(trim k.x++trim k.y)):Nat):Int)else(Sx (k.d'::(trim k.x++trim k.y)):Nat)
def Crv.norm(k:Crv):Crv:=⟨trim ((trim k.x).map (· / k.g)),trim ((trim k.y).map (· / k.g)),k.d' / k.g⟩
variable{l:U6}
theorem YH:∀z∈l,((Sx l:Nat):Int)∣z:=by
 have key:∀(l:U6) (g:Nat),(l.foldl (λg z=>Nat.gcd g z.natAbs) g∣g)/\∀z∈l,l.foldl (λg z=>Nat.gcd g z.natAbs) g∣z.natAbs:=by
  intro l
  induction l with
  |nil=>intro g;exact⟨Nat.dvd_refl _,Fp⟩
  |
   cons u l ih =>
   intro g;obtain⟨h1,h2⟩:=ih (Nat.gcd g u.natAbs);refine⟨Nat.dvd_trans h1 (Ui _ _),λz hz=>?_⟩;rcases Qk.1 hz with rfl|hz
   ·exact Nat.dvd_trans h1 (Nat.gcd_dvd_right _ _)
   ·exact h2 z hz
 intro z hz;have:=(key l 0).2 z hz;exact W9.2 this
theorem Crv.d'_ne(k:Crv):k.d'≠0:=by unfold Crv.d';split <;> omega
theorem Crv.gcd_ne(k:Crv):Sx (k.d'::(trim k.x++trim k.y))≠0:=by
 intro e;have h:=YH (l:=k.d'::(trim k.x++trim k.y)) k.d' (Qw ..);rw[e]at h;exact k.d'_ne (by simpa using h)
theorem Crv.g_ne(k:Crv):k.g≠0:=by
 have h0:=k.gcd_ne;unfold Crv.g
 split <;> omega
theorem Crv.g_dvd(k:Crv):∀z∈k.d'::(trim k.x++trim k.y),z % k.g=0:=by
 intro z hz;have h:=YH z hz;refine Yg ?_;unfold Crv.g
 split
 ·exact Uu.2 h
 ·exact h
variable{s:Nat}
theorem Crv.isz_g(k:Crv)(h:Gl k.d'<=s):Gl k.g<=s:=by
 have hd:=YH (l:=k.d'::(trim k.x++trim k.y)) k.d' (Qw ..);have hle:Sx (k.d'::(trim k.x++trim k.y))<=k.d'.natAbs:=Wi (by have:=k.d'_ne;omega) (W9.1 hd);refine Qc (Tx ?_) h;unfold Crv.g
 split <;> simp <;> exact hle
structure Cs(s n:Nat)(k:Crv):Prop where
 x:Bd s k.x
 y:Bd s k.y
 d:Gl k.d<=s
 lx:k.x.length<=n
 ly:k.y.length<=n
variable{k:Crv}
theorem Qlf(h:Gl k.d<=s)(h1:1<=s):Gl k.d'<=s:=by unfold Crv.d';split <;> first|exact h1|exact h
theorem SS{p:U6}(h:Bd s p)(g:Int):Bd s (p.map (· / g)):=λz hz=>by
 obtain⟨u,hu,rfl⟩:=Q8.1 hz;exact Qc (YN u g) (h u hu)
theorem Cs.norm{n:Nat}(h:Cs s n k)(h1:1<=s):Cs s n k.norm:=by
 refine⟨Mg (SS (Mg h.x) _),Mg (SS (Mg h.y) _),Qc (YN _ _) (Qlf h.d h1),?_,?_⟩
 ·refine Qc (Sw _) ?_;rw[Ze];exact Qc (Sw _) h.lx
 ·refine Qc (Sw _) ?_;rw[Ze];exact Qc (Sw _) h.ly
theorem Cs.mono{n t m:Nat}(h:Cs s n k)(hs:s<=t)(hn:n<=m):Cs t m k:=⟨Fz h.x hs,Fz h.y hs,Qc h.d hs,Qc h.lx hn,Qc h.ly hn⟩
def KX(k:Crv):Prop:=Gk k.x/\Gk k.y/\0<k.d/\Sx (k.d::(k.x++k.y))=1
theorem Crv.norm_of(h:KX k):k.norm=k:=by
 obtain⟨h1,h2,h3,h4⟩:=h;have hd:k.d'=k.d:=by unfold Crv.d';rw[if_neg Fj]
 have hx:trim k.x=k.x:=h1;have hy:trim k.y=k.y:=h2;have hg:k.g=1:=by unfold Crv.g;rw[hd,hx,hy,h4,if_neg Fj];rfl
 unfold Crv.norm;rw[hg,hd,hx,hy];simp[hx,hy]
theorem wY{g:Int}(hg:g≠0)(hga:g.natAbs=Sx l):Sx (l.map (· / g))=1:=by
 have key:∀(l:U6) (a:Nat),(∀z∈l,g∣z)->l.foldl (λa z=>Nat.gcd a z.natAbs) (a*g.natAbs)=((l.map (· / g)).foldl (λa z=>Nat.gcd a z.natAbs) a)*g.natAbs:=by
  intro l
  induction l with
  |nil=>intro a _;rfl
  |
   cons z l ih =>
   intro a h;simp only[Xa,Xl];have hz:z.natAbs=(z / g).natAbs*g.natAbs:=by
    obtain⟨q,rfl⟩:=h z (Qw ..);rw[Jw _ hg,Ys,Zr]
   rw[hz,Nat.gcd_mul_right];exact ih _ λu hu=>h u (Qh _ hu)
 have h:=key l 0 λz hz=>Jm.1 (by rw[hga];exact Jm.2 (YH z hz))
 rw[Y6]at h;have h':Sx l=Sx (l.map (· / g))*g.natAbs:=h;rw[<-hga]at h';have hp:0<g.natAbs:=Fj;exact Nat.eq_of_mul_eq_mul_right hp (by rw[W7];exact h'.symm)
theorem VE{g:Int}(ht:Gk l)(hg:g≠0)(hd:∀z∈l,g∣z):Gk (l.map (· / g)):=by
 induction l with
 |nil=>rfl
 |
  cons x l ih =>
  have hne:∀z∈x::l,z≠0->z / g≠0:=λz hz h0 h1=>by
   obtain⟨q,rfl⟩:=hd z hz;rw[Jw _ hg]at h1;rw[h1]at h0;simp at h0
  unfold Gk at ht ih ⊢;cases hl:trim l with
  |
   nil =>
   simp only[trim,hl]at ht
   split at ht
   ·cases ht
   ·rename_i hx;injection ht with _ h2;subst h2;simp[trim,hne x (Qw ..) hx]
  |
   cons y k =>
   simp only[trim,hl]at ht;injection ht with _ h2;have hll:trim l=l:=by rw[hl];exact h2
   have ih:=ih hll λz hz=>hd z (Qh _ hz)
   rw[Xa];have hne2:l.map (· / g)≠[]:=by rw[<-hll,hl];simp
   cases hm:l.map (· / g)with
   |nil=>exact absurd hm hne2
   |
    cons u w =>
    rw[hm]at ih;have e:trim (x / g::u::w)=match trim (u::w)with| []=>if x / g=0 then []else [x / g]|y::k=>x / g::y::k:=rfl
    rw[e,ih]
theorem Crv.nml(k:Crv):KX k.norm:=by
 have hg:=k.g_ne;have hdv:∀z∈k.d'::(trim k.x++trim k.y),k.g∣z:=λz hz=>V0 (k.g_dvd z hz)
 have hx:=VE (g:=k.g) (Sj k.x) hg λz hz=>hdv z (by simp[hz])
 have hy:=VE (g:=k.g) (Sj k.y) hg λz hz=>hdv z (by simp[hz])
 refine⟨Sj _,Sj _,?_,?_⟩
 ·show 0<k.d' / k.g;obtain⟨q,hq⟩:=hdv k.d' (Qw ..);have h0:=k.d'_ne;have hgc:=k.gcd_ne;have e:k.d' / k.g=q:=by rw[hq,Jw _ hg]
  rw[e];unfold Crv.g at hq hg;have hq0:q≠0:=λe=>by rw[e,Wu]at hq;exact h0 hq
  split at hq
  ·rename_i hneg;rcases W8 hq0 with h|h
   ·have:=Ks (a:=-((Sx (k.d'::(trim k.x++trim k.y)):Nat):Int)) (b:=q) Fj h;omega
   ·exact h
  ·rename_i hneg;rcases W8 hq0 with h|h
   ·have:=Kr (a:=((Sx (k.d'::(trim k.x++trim k.y)):Nat):Int)) (b:=q) Fj h;omega
   ·exact h
 ·show Sx (k.d' / k.g::(trim ((trim k.x).map (· / k.g))++trim ((trim k.y).map (· / k.g))))=1;rw[show trim ((trim k.x).map (· / k.g))=(trim k.x).map (· / k.g) from hx,show trim ((trim k.y).map (· / k.g))=(trim k.y).map (· / k.g) from hy,<-J7,<-Xa (f:=(· / k.g))];refine wY hg ?_;unfold Crv.g
  split <;> omega
structure Pt where
 c:Crv
 id:Int
def Ge(p:Pt):Fb:=[pl p.c.x,pl p.c.y,sg p.c.d,mg p.c.d,.int .i64 p.id]
def pts(l:List Pt):LV:=.row (l.map Ge)
def Sp:List Pt->Int->Nat
 | [],_=>0
 |p::l,id=>if p.id<id then Sp l id+1 else 0
def has(l:List Pt)(id:Int):Bool:=match l[Sp l id]? with
 |some p=>decide (p.id=id)
 |none=>false
theorem uT(l:List Pt)(id:Int):Sp l id<=l.length:=by
 induction l with
 |nil=>exact Qm _
 |cons p l ih=>simp only[Sp];split <;> simp <;> omega
theorem OT:∀{l:List Pt} {id:Int} {k:Nat},(∀j p,j<k->l[j]? = some p->p.id<id)->(k=l.length\/∃p,l[k]? = some p/\¬p.id<id)->Sp l id=k
 |
  [],id,k,_,h=>by
  rcases h with h|⟨p,h,_⟩
  ·subst h;rfl
  ·simp at h
 |
  q::l,id,0,_,h=>by
  rcases h with h|⟨p,h,h2⟩
  ·simp at h
  ·simp at h;subst h;simp[Sp,h2]
 |
  q::l,id,k+1,h1,h=>by
  have hq:=h1 0 q Fj rfl;simp only[Sp,hq,if_true];rw[OT (k:=k) (λj p hj hp=>h1 (j+1) p Fj (by simpa using hp))];rcases h with h|⟨p,h,h2⟩
  ·left;simpa using h
  ·right;exact⟨p,by simpa using h,h2⟩
def put(l:List Pt)(q:Pt):List Pt:=l.take (Sp l q.id)++q::l.drop (Sp l q.id)
def FT(l:List Pt)(q:Pt):Int:=if has l q.id=true then 6 else if 6<=l.length then 9 else 0
def Qpc(s n:Nat)(p:Pt):Prop:=KX p.c/\Cs s n p.c
theorem Qcr(l:List Pt)(q:Pt):(put l q).length=l.length+1:=by
 have:=uT l q.id;simp[put];omega
variable{l:List Pt}
theorem DT{q p:Pt}(h:p∈put l q):p=q\/p∈l:=by
 unfold put at h;rcases Qp.1 h with h|h
 ·exact .inr (Qn h)
 ·rcases Qk.1 h with h|h
  ·exact .inl h
  ·exact .inr (Qx h)
def Nv(a b:Crv):Bool:=decide (a.x=b.x/\a.y=b.y/\a.d=b.d)
def Pq(out:List Pt)(p:Pt):List Pt:=if out.any (λq=>Nv p.c q.c)=true then out else out++[p]
def Gv(l:List Pt):List Pt:=l.foldl Pq []
theorem Qgh{out:List Pt}{p q:Pt}(h:q∈Pq out p):q∈out\/q=p:=by
 unfold Pq at h
 split at h
 ·exact .inl h
 ·rcases Qp.1 h with h|h
  ·exact .inl h
  ·exact .inr (by simpa using h)
theorem Qgg(out:List Pt)(p:Pt):(Pq out p).length<=out.length+1:=by
 unfold Pq;split <;> simp
theorem Px{α β:Type}(f:β->α->β)(b:β)(l:List α){i:Nat}{x:α}(h:l[i]? = some x):(l.take (i+1)).foldl f b=f ((l.take i).foldl f b) x:=by
 rw[Jv,h];simp[Ka]
theorem UU(l:List Pt)(i:Nat):∀q∈(l.take i).foldl Pq [],q∈l:=by
 induction i with
 |zero=>simp
 |
  succ i ih =>
  intro q hq;cases hi:l[i]? with
  |
   none =>
   rw[Qo (by have:=J6.1 hi;omega)]at hq;rw[Qo (J6.1 hi)]at ih;exact ih q hq
  |
   some x =>
   rw[Px _ _ _ hi]at hq;rcases Qgh hq with h|h
   ·exact ih q h
   ·subst h;exact Qa hi
theorem UW(l:List Pt)(i:Nat):((l.take i).foldl Pq []).length<=i:=by
 induction i with
 |zero=>simp
 |
  succ i ih =>
  cases hi:l[i]? with
  |
   none =>
   rw[Qo (by have:=J6.1 hi;omega)];rw[Qo (J6.1 hi)]at ih;omega
  |
   some x =>
   rw[Px _ _ _ hi];have:=Qgg ((l.take i).foldl Pq []) x;omega
theorem Hu{q:Pt}(h:q∈Gv l):q∈l:=by
 have:=UU l l.length q;rw[Q6]at this;exact this h
theorem Bh(l:List Pt):(Gv l).length<=l.length:=by
 have:=UW l l.length;rwa[Q6]at this
def Rp(p:U6)(q:Rat):Int:=E5 (Qzc p q.num q.den) 0
abbrev qa(q:Rat):Fb:=pl [-q.num,(q.den:Int)]::(rl q++rl q)
def Ss(sgn:U6->Int):Nat->U6->Int
 | 0,_=>0
 |k+1,p=>if p.length=0 then 0 else if sgn p=0 then Ss sgn k (H5 p)else sgn p
theorem O4(sgn:U6->Int):∀(k:Nat) (p:U6),p.length<=k->Ss sgn k p=Ss sgn p.length p
 |
  0,p,h=>by
  have:p.length=0:=Fj;rw[this]
 |
  k+1,p,h=>by
  cases hp:p.length with
  |zero=>simp[Ss,hp]
  |
   succ m =>
   simp only[Ss];have h1:=Cf p;rw[O4 sgn k (H5 p) Fj,O4 sgn m (H5 p) Fj]
variable{p:U6}
theorem sH(sgn:U6->Int)(h:p.length=0):Ss sgn p.length p=0:=by rw[h];rfl
theorem sF(sgn:U6->Int)(h:0<p.length)(hs:sgn p≠0):Ss sgn p.length p=sgn p:=by
 obtain⟨m,hm⟩:∃m,p.length=m+1:=⟨p.length-1,Fj⟩;rw[hm];simp only[Ss];rw[if_neg Fj,if_neg hs]
theorem sG(sgn:U6->Int)(h:0<p.length)(hs:sgn p=0):Ss sgn p.length p=Ss sgn (H5 p).length (H5 p):=by
 obtain⟨m,hm⟩:∃m,p.length=m+1:=⟨p.length-1,Fj⟩;rw[hm];simp only[Ss];rw[if_neg Fj,if_pos hs];exact O4 sgn m _ (by have:=Cf p;omega)
structure Tm where
 p:List Int
 lo:Rat
 hi:Rat
abbrev ta(t:Tm):Fb:=pl t.p::(rl t.lo++rl t.hi)
abbrev tq(q:Rat):Tm:=⟨[-q.num,(q.den:Int)],q,q⟩
def G7(sg:U6->Int)(p:U6):Int:=Ss sg p.length p
def Td(p:U6)(q:Rat):Int:=G7 (λp=>Rp p q) p
structure Pb(p:List Int):Prop where
 t:Gk p
 l:p.length<=64
 b:Bd 16777216 p
abbrev Qb(q:Rat):Prop:=Qs 16777216 q
abbrev Cb(k:Crv):Prop:=Cs 1048576 16 k
def Hr(a b:Crv):U6:=B7 (Gy b.x a.d) (Gy a.x b.d)
def Hq(a b:Crv):U6:=B7 (Gy b.y a.d) (Gy a.y b.d)
theorem pA{a b:Crv}(ha:Cb a)(hb:Cb b):Pb (Hr a b)/\(Hr a b).length<=16/\Bd 2097153 (Hr a b):=by
 have h1:Bd 2097153 (Hr a b):=Fz (El (Hi hb.x ha.d) (Hi ha.x hb.d)) Fj;have h2:(Hr a b).length<=16:=by
  refine Qc (Cg _ _) ?_;have:=G8 b.x a.d;have:=G8 a.x b.d;have:=ha.lx;have:=hb.lx;omega
 exact⟨⟨Gw _ _,Fj,Fz h1 Fj⟩,h2,h1⟩
theorem pL{a b:Crv}(ha:Cb a)(hb:Cb b):Pb (Hq a b)/\(Hq a b).length<=16/\Bd 2097153 (Hq a b):=by
 have h1:Bd 2097153 (Hq a b):=Fz (El (Hi hb.y ha.d) (Hi ha.y hb.d)) Fj;have h2:(Hq a b).length<=16:=by
  refine Qc (Cg _ _) ?_;have:=G8 b.y a.d;have:=G8 a.y b.d;have:=ha.ly;have:=hb.ly;omega
 exact⟨⟨Gw _ _,Fj,Fz h1 Fj⟩,h2,h1⟩
def Ap(sg:U6->Int)(a b:Pt):U7->Bool
 | []=>decide (a.id<b.id)
 |p::l=>if 0<p.length then decide (0<G7 sg p)else Ap sg a b l
def M5(sg:U6->Int)(a b:Pt):Bool:=Ap sg a b [Hq b.c a.c,Hr b.c a.c]
def H8(sg:U6->Int)(a b:Pt):Bool:=Ap sg a b [Hr a.c b.c,Hq a.c b.c]
end Orr
namespace Orr
open Go
structure Ct where
 kind:Int
 i0:Int
 i1:Int
 i2:Int
 i3:Int
 p:List Int
 want:Int
abbrev Lt(c:Ct):Fb:=[.int .i64 c.kind,.int .i64 c.i0,.int .i64 c.i1,.int .i64 c.i2,.int .i64 c.i3,pl c.p,.int .i64 c.want]
def Ao(p q:U6):U6:=if 0<p.length then p else q
def Ly:U6->U6->Bool
 |x::l,y::m=>if x=y then Ly l m else decide (x<y)
 |_,_=>false
def sE(a b:Ct):Bool:=Ly [a.kind,a.i0,a.i1,a.i2,a.i3] [b.kind,b.i0,b.i1,b.i2,b.i3]
def VT(out:List Ct)(c:Ct):Nat->Nat
 | 0=>0
 |
  k+1=>match out[k]? with
  |some x=>if sE c x=true then VT out c k else k+1
  |none=>k+1
theorem Qcj(out:List Ct)(c:Ct):∀k,VT out c k<=k
 | 0=>Qm _
 |
  k+1=>by
  simp only[VT]
  split
  ·split
   ·exact Nat.le_succ_of_le (Qcj out c k)
   ·exact Qm _
  ·exact Qm _
variable{out:List Ct}{k:Nat}
theorem Qs5{c x:Ct}(hx:out[k]? = some x)(h:sE c x=true):VT out c (k+1)=VT out c k:=by
 simp only[VT,hx,h,if_true]
theorem Qms{c x:Ct}(hx:out[k]? = some x)(h:sE c x=false):VT out c (k+1)=k+1:=by
 simp[VT,hx,h]
def UI(out:List Ct)(c:Ct):List Ct:=out.take (VT out c out.length)++c::out.drop (VT out c out.length)
theorem Qk8(out:List Ct)(c:Ct):(UI out c).length=out.length+1:=by
 have:=Qcj out c out.length;simp[UI];omega
theorem Qk9{c x:Ct}(h:x∈UI out c):x=c\/x∈out:=by
 simp only[UI,Qp,Qk]at h;rcases h with h|h|h
 ·exact .inr (Qn h)
 ·exact .inl h
 ·exact .inr (Qx h)
def Gu(l:List Ct):List Ct:=l.foldl UI []
theorem iZ(l:List Ct)(c:Ct):Gu (l++[c])=UI (Gu l) c:=by simp[Gu,Ka]
variable{l:List Ct}
theorem iJ{i:Nat}{c:Ct}(h:l[i]? = some c):Gu (l.take (i+1))=UI (Gu (l.take i)) c:=by
 rw[Xb,h];exact iZ _ _
theorem xI:∀(l acc:List Ct),(l.foldl UI acc).length=acc.length+l.length
 | [],acc=>Fp
 |c::l,acc=>by simp only[Xl];rw[xI l (UI acc c),Qk8];simp;omega
theorem Bt(l:List Ct):(Gu l).length=l.length:=by unfold Gu;rw[xI];simp
theorem xO:∀(l acc:List Ct) {x:Ct},x∈l.foldl UI acc->x∈l\/x∈acc
 | [],acc,x,h=>.inr h
 |
  c::l,acc,x,h=>by
  simp only[Xl]at h;rcases xO l _ h with h|h
  ·exact .inl (Qh _ h)
  ·rcases Qk9 h with rfl|h
   ·exact .inl (Qw ..)
   ·exact .inr h
theorem Ts{x:Ct}(h:x∈Gu l):x∈l:=by
 rcases xO l [] h with h|h
 ·exact h
 ·cases h
theorem sM{α:Type}(l:List α)(z x:α){m':Nat}(hk:k<=l.length)(hm:m'=l.length-k):
 ((l++[z]).take (k+1)++((l++[z]).drop k).take m'++(l++[z]).drop (k+1+m')).set k x=l.take k++x::l.drop k:=by
 subst hm;have e1:((l++[z]).drop k).take (l.length-k)=l.drop k:=by
  rw[Wz hk,V9 Fp,Qo Fp]
 have e2:(l++[z]).drop (k+1+(l.length-k))=[]:=Vj Fo;rw[e1,e2,Zw];have e3:(l++[z]).take (k+1)=(l++[z]).take k++[(l++[z])[k]' Fo]:=by rw[List.take_succ_eq_append_getElem]
 rw[e3,V9 hk,Za,List.set_append,if_neg Fo];simp[Z8 hk]
def Od(a b:Pt):U6:=Ao (Hr a.c b.c) (Hq a.c b.c)
def Oa(a b:Pt):U6:=Ao (Hq b.c a.c) (Hr b.c a.c)
def XI(sg:U6->Int)(a b:Pt):Ct:={ kind:=1,i0:=a.id,i1:=b.id,i2:=0,i3:=0,p:=Od a b,want:=G7 sg (Od a b) }
def Ev(sg:U6->Int)(a b:Pt):Ct:={ kind:=2,i0:=a.id,i1:=b.id,i2:=0,i3:=0,p:=Oa a b,want:=G7 sg (Oa a b) }
end Orr
namespace Orr
open Go Go.Proofs Tryz
set_option maxRecDepth 10000
abbrev pr(p:U6):TV:=.one (pl p)
variable{p:U6}{i:Nat}{z:Int}
theorem M3(h:p[i]? = some z):(p.map Rj)[i]? = some (Rj z):=Rm h
theorem EH(p:U6):U3 180 [pr p] [pr (trim p)]:=by
 refine G5 func180 rfl (ln 0 rfl rfl λhl=>?_);rw[Ze]at hl;refine Uv [] rfl ?_;refine lp (S:=Nat) 0 (λL1 n=>(3,.v (.oi n))::L1) (λ_=>[]) id (λn=>n<=p.length/\∀j x,n<=j->p[j]? = some x->x=0) (p.map Rj).length ⟨Fp,λj x h1 h2=>by
  have:=(Qd.1 h2).1;simp at h1;omega⟩ rfl (λ_ _=>rfl) rfl λn ⟨h1,h2⟩=>?_
 cases n with
 |zero=>exact Ux [.f Fp,.f rfl,.i 0] rfl (by rw[nM h1 h2 (λh=>Fj)];simp[pl]) Fw
 |
  succ n =>
  obtain⟨x,hx⟩:=gxE (l:=p) (i:=n) Fj;by_cases h0:x=0
  ·refine Uw [.t Fp,.r 11 (v:=.oi n) Fp,.x (M3 hx),.k Ed,.t (by simp[h0]),.r 17 (v:=.oi n) Fp] rfl ?_;exact rd n Fp ⟨Fj,λj y h3 h4=>by
    rcases V3 h3 with rfl|h3
    ·rw[hx]at h4;injection h4 with h4;rw[<-h4,h0]
    ·exact h2 j y h3 h4⟩ rfl
  ·exact Ux [.t Fp,.r 11 (v:=.oi n) Fp,.x (M3 hx),.k Ed,.f (by simp[h0]),.i (n+1)] rfl (by rw[nM h1 h2 (λ_=>⟨x,hx,h0⟩)];simp[pl,Yf]) Fv
theorem Qah(p:U6)(k:Nat):U3 209 [pr p,.oi k] [.agg (Rj (p.getD k 0))]:=by
 by_cases h:k<p.length
 ·have hx:=Qf h;have e:p.getD k 0=p[k]:=by simp[List.getD,hx]
  rw[e];exact Uy func209 rfl [.t Fo,.x (M3 hx)] rfl
 ·have e:p.getD k 0=0:=by simp[List.getD,Qy (Yq h)]
  rw[e,Af];exact Uy func209 rfl [.f Fo] rfl
def qS(f:Nat->Fb)(z:Fb)(n k:Nat):Fc:=(List.range n).map λi=>if i<k then f i else z
theorem O2(f:Nat->Fb)(z:Fb)(n k:Nat):(qS f z n k).length=n:=by simp[qS]
theorem I1(f:Nat->Fb)(z:Fb)(n:Nat):List.replicate n z=qS f z n 0:=by
 refine X4 λi=>?_
 simp only[qS,Yi,Zb];by_cases h:i<n
 ·simp[h]
 ·simp[h]
theorem XP(f:Nat->Fb)(z:Fb)(n:Nat):qS f z n n=(List.range n).map f:=by
 refine Xx λi hi=>?_
 rw[if_pos (K7.1 hi)]
variable{k:Nat}
theorem XM(f:Nat->Fb)(z:Fb){n:Nat}(h:k<n):(qS f z n k).set k (f k)=qS f z n (k+1):=by
 refine X4 λi=>?_
 rw[Y8];simp only[qS,Zb,Ze,List.length_range,h,if_true];by_cases e:k=i
 ·subst e;simp[h]
 ·simp only[e,if_false];by_cases hi:i<n
  ·simp only[Jl hi,Y7];congr 1;by_cases h2:i<k
   ·rw[if_pos h2,if_pos Fj]
   ·rw[if_neg h2,if_neg Fj]
  ·simp[Qy,hi]
variable{g:Nat->Int}
theorem kX{n fid:Nat}{l1 l2:Fb}(hn:n<274877906944)(h:∀k,k<n->qM prog fid [.oi k,.one (.sh l1),.one (.sh l2)] [.agg (Rj (g k))]):U3 186 [.oi n,.one (.fn fid [] [.sh l1,.sh l2])] [pr (Ol n g)]:=by
 refine G5 func186 rfl ?_;refine Uw [.i n,.i n,.r 10 (eI (b:=(n:Int)) Fp)] rfl ?_;rw[I1 λk=>Rj (g k)];refine U0 (S:=Nat) 1 (λL1 k=>(11,.v (.oi k))::L1) (λk=>[.row false 35 2 (qS (λk=>Rj (g k)) [.bool false,.nils] n k)]) (λk=>n-k) (λk=>k<=n) 0 (Qg _) rfl rfl λk hk=>?_
 by_cases hlt:k<n
 ·refine go tt [.t Fo,.k (h k hlt),.i k] rfl (by simp[Gd,O2];omega) ?_;have e:=XM (λk=>Rj (g k)) [.bool false,.nils] hlt;rw[e];exact rd (k+1) Fj hlt rfl
 ·obtain rfl:k=n:=Fj;have e:qS (λk=>Rj (g k)) [.bool false,.nils] k k=((List.range k).map g).map Rj:=by rw[XP];simp
  rw[e];exact Ux [.f Fp,.k (EH _)] rfl
theorem Qaf{n fid:Nat}{l1:Fb}(hn:n<274877906944)(h:∀k,k<n->qM prog fid [.oi k,.one (.sh l1)] [.agg (Rj (g k))]):U3 186 [.oi n,.one (.fn fid [] [.sh l1])] [pr (Ol n g)]:=by
 refine G5 func186 rfl ?_;refine Uw [.i n,.i n,.r 10 (eI (b:=(n:Int)) Fp)] rfl ?_;rw[I1 λk=>Rj (g k)];refine U0 (S:=Nat) 1 (λL1 k=>(11,.v (.oi k))::L1) (λk=>[.row false 35 2 (qS (λk=>Rj (g k)) [.bool false,.nils] n k)]) (λk=>n-k) (λk=>k<=n) 0 (Qg _) rfl rfl λk hk=>?_
 by_cases hlt:k<n
 ·refine go tt [.t Fo,.k (h k hlt),.i k] rfl (by simp[Gd,O2];omega) ?_;have e:=XM (λk=>Rj (g k)) [.bool false,.nils] hlt;rw[e];exact rd (k+1) Fj hlt rfl
 ·obtain rfl:k=n:=Fj;have e:qS (λk=>Rj (g k)) [.bool false,.nils] k k=((List.range k).map g).map Rj:=by rw[XP];simp
  rw[e];exact Ux [.f Fp,.k (EH _)] rfl
theorem Qwk{q:U6}(k:Nat)(hp:Bd 4294967295 p)(hq:Bd 4294967295 q):U3 238 [.oi k,.one (.sh [pl p]),.one (.sh [pl q])] [.agg (Rj (p.getD k 0+q.getD k 0))] :=
 Uy func238 rfl [.k (Qah p k),.k (Qah q k),.k (UP (Fy _) (Fy _) (G0 hp k) (G0 hq k))] rfl
theorem Qw5{q:U6}(k:Nat)(hp:Bd 4294967295 p)(hq:Bd 4294967295 q):U3 207 [.oi k,.one (.sh [pl p]),.one (.sh [pl q])] [.agg (Rj (p.getD k 0-q.getD k 0))] :=
 Uy func207 rfl [.k (Qah p k),.k (Qah q k),.k (Qif (Fy _) (Fy _) (G0 hp k) (G0 hq k))] rfl
theorem Sr(h:k<p.length):p[k]? = some (p.getD k 0):=by simp[List.getD,Qf h]
variable{c:Int}
theorem Qh5(hk:k<p.length)(hp:Bd 4294967295 p)(hc:Gl c<=4294967295):U3 187 [.oi k,.one (.sh [pl p]),.one (.sh (Rj c))] [.agg (Rj (p.getD k 0*c))] :=
 Uy func187 rfl [.x (M3 (Sr hk)),.k (Nj (Fy _) (Fy _) (G0 hp k) hc)] rfl
theorem Qwx(hk:k<p.length)(hp:Bd 4294967295 p):U3 295 [.oi k,.one (.sh [pl p])] [.agg (Rj (-(p.getD k 0)))] :=
 Uy func295 rfl [.x (M3 (Sr hk)),.k (EQ (Fy _) (G0 hp k))] rfl
theorem Qdv(hk:k+1<p.length)(hl:p.length<274877906944)(hp:Bd 4294967295 p):U3 246 [.oi k,.one (.sh [pl p])] [.agg (Rj (p.getD (k+1) 0*((k+1:Nat):Int)))] :=
 Uy func246 rfl [.x (M3 (Sr hk)),.r 10 (eI (b:=((k+1:Nat):Int)) Fj),.k (EZ Fj),.k (Nj (Fy _) (Fy _) (G0 hp _) (Qfc (show k+1<274877906944 by omega)))] rfl rfl Fv
theorem EJ{q:U6}(hlp:p.length<274877906944)(hlq:q.length<274877906944)(hp:Bd 4294967295 p)(hq:Bd 4294967295 q):U3 181 [pr p,pr q] [pr (Eh p q)] :=
 Uy func181 rfl [.r 9 (eI (b:=((max p.length q.length:Nat):Int)) Fo),.k (kX Fj λk _=>Qwk k hp hq)] rfl
theorem SD{q:U6}(hlp:p.length<274877906944)(hlq:q.length<274877906944)(hp:Bd 4294967295 p)(hq:Bd 4294967295 q):U3 150 [pr p,pr q] [pr (B7 p q)] :=
 Uy func150 rfl [.r 9 (eI (b:=((max p.length q.length:Nat):Int)) Fo),.k (kX Fj λk _=>Qw5 k hp hq)] rfl
theorem Qhs(hlp:p.length<274877906944)(hp:Bd 4294967295 p):U3 254 [pr p] [pr (Pp p)] :=
 Uy func254 rfl [.r 4 (eI (b:=(p.length:Int)) Fp),.k (Qaf hlp λk hk=>Qwx hk hp)] rfl
theorem M6(hlp:p.length<274877906944)(hp:Bd 4294967295 p)(hc:Gl c<=4294967295):U3 121 [pr p,.agg (Rj c)] [pr (Gy p c)] :=
 Uy func121 rfl [.r 6 (eI (b:=(p.length:Int)) Fp),.k (kX hlp λk hk=>Qh5 hk hp hc)] rfl
theorem QS(hlp:p.length<274877906944)(hp:Bd 4294967295 p):U3 196 [pr p] [pr (H5 p)] :=
 Uy func196 rfl [.r 6 (eI (b:=((p.length-1:Nat):Int)) Fo),.k (Qaf Fj λk hk=>Qdv Fj hlp hp)] rfl rfl Fu
theorem D5{ls:Fc}(hi:IsInts ls p)(hl:p.length<274877906944)(hs:Bd 4294967295 p):U3 116 [.one (.row ls)] [pr (trim p)]:=by
 refine G5 func116 rfl ?_;have hlen:=hi.len;refine Uw [.i ls.length,.i ls.length] rfl ?_;rw[I1 λk=>Rj (p.getD k 0)];refine U0 (S:=Nat) 1 (λL1 k=>(11,.v (.oi k))::L1) (λk=>[.row false 35 2 (qS (λk=>Rj (p.getD k 0)) [.bool false,.nils] ls.length k)]) (λk=>ls.length-k) (λk=>k<=ls.length) 0 (Qg _) rfl rfl λk hk=>?_
 by_cases hlt:k<ls.length
 ·obtain⟨x,y,hx,hxy⟩:=hi.get (Sr (p:=p) (k:=k) Fj);have cn:=Bl hxy (G0 hs k);obtain⟨b,l,rfl,rfl,_⟩:=hxy;refine go tt [.t Fo,.x hx,.k cn,.i k] rfl (by simp[Gd,O2];omega) ?_;have e:=XM (λk=>Rj (p.getD k 0)) [.bool false,.nils] hlt;rw[e];exact rd (k+1) Fj hlt rfl
 ·obtain rfl:k=ls.length:=Fj;have e:qS (λk=>Rj (p.getD k 0)) [.bool false,.nils] ls.length ls.length=p.map Rj:=by
   rw[XP,hlen];refine X4 λi=>?_
   by_cases hi:i<p.length
   ·simp[Jl hi,List.getD,Qf hi]
   ·simp[Qy,hi]
  rw[e];exact Ux [.f Fp,.k (EH _)] rfl
theorem Ti(ht:Gk p)(hl:p.length<274877906944)(hs:Bd 4294967295 p):U3 116 [pr p] [pr p]:=by
 have:=D5 (Rk p) hl hs;rw[ht]at this;exact this
theorem Qr7(h:p[i]? = some z):(p.map λ(x:Int)=>[LV.int .i64 x])[i]? = some [.int .i64 z]:=Rm h
theorem Qu3(hl:p.length<274877906944)(hr:∀z∈p,-9223372036854775808≤z/\z≤9223372036854775807):U3 287 [.one (ids p)] [pr (trim p)]:=by
 refine G5 func287 rfl ?_;refine Uw [.r 7 (eI (b:=(p.length:Int)) Fp),.i p.length,.i p.length,.r 10 (eI (b:=(p.length:Int)) Fp)] rfl ?_;rw[I1 λk=>Rj (p.getD k 0)];refine U0 (S:=Nat) 1 (λL1 k=>(11,.v (.oi k))::L1) (λk=>[.row false 35 2 (qS (λk=>Rj (p.getD k 0)) [.bool false,.nils] p.length k)]) (λk=>p.length-k) (λk=>k<=p.length) 0 (Qg _) rfl rfl λk hk=>?_
 by_cases hlt:k<p.length
 ·have hg:=Sr hlt;refine go tt [.t Fo,.x (Qr7 hg),.k (EZ (hr _ (Qa hg))),.i k] rfl (by simp[Gd,O2];omega) ?_;have e:=XM (λk=>Rj (p.getD k 0)) [.bool false,.nils] hlt;rw[e];exact rd (k+1) Fj hlt rfl
 ·obtain rfl:k=p.length:=Fj;have e:qS (λk=>Rj (p.getD k 0)) [.bool false,.nils] p.length p.length=p.map Rj:=by
   rw[XP];refine X4 λi=>?_
   by_cases hi:i<p.length
   ·simp[Jl hi,List.getD,Qf hi]
   ·simp[Qy,hi]
  rw[e];exact Ux [.f Fp,.k (EH _)] rfl
theorem aZ(l:U6)(i:Nat)(z:Int):(l.map Rj).set i (Rj z)=(l.set i z).map Rj:=by rw[Kc]
theorem DC(m:Nat):((List.replicate m [LV.bool false,LV.nils]).map λc=>c.map RF)=(List.replicate m (0:Int)).map Rj:=by
 simp[Af,RF]
theorem vL{p0 q:U6}{s t:Nat}(tq:Gk q)(hlp:p0.length<137438953472)(hlq:q.length<137438953472)(hp:Bd s p0)(hq:Bd t q)(hst:s+t<=4294967000):U3 182 [pr p0,pr q] [pr (Hg (trim p0) q)]:=by
 have cp:=D5 (Rk p0) Fj (Fz hp (show s<=4294967295 by omega));have hp:=Mg hp;have hlp:=Xe (Sw p0) hlp;obtain⟨p,ep⟩:=nmE (trim p0);rw[<-ep]at cp hp hlp ⊢;have cq:=Ti tq Fj (Fz hq (show t<=4294967295 by omega));by_cases h0:p.length=0
 ·have e:Hg p q=[]:=by unfold Hg;rw[if_pos (.inl h0)]
  rw[e];exact Uy func182 rfl [.k cp,.k cq,.t (by simp;exact Qi h0),.t rfl] rfl
 by_cases h1:q.length=0
 ·have e:Hg p q=[]:=by unfold Hg;rw[if_pos (.inr h1)]
  rw[e];exact Uy func182 rfl [.k cp,.k cq,.f (by simp;intro h;subst h;simp at h0),.t (by simp;exact Qi h1)] rfl
 refine G5 func182 rfl ?_;have e:Hg p q=trim (Oc p q (List.replicate (p.length+q.length-1) 0) p.length):=by unfold Hg;rw[if_neg Fj]
 rw[e];obtain⟨N,hN⟩:=nmE (p.length+q.length-1);rw[<-hN];obtain⟨o,ho⟩:=nmE (List.replicate N (0:Int));rw[<-ho];have hol:o.length=N:=by rw[ho];simp
 have ho0:∀m,o.getD m 0=0:=λm=>by rw[ho];exact La N m
 refine Uw [.k cp,.k cq,.f (by simp;intro h;subst h;simp at h0),.f (by simp;intro h;subst h;simp at h1),.r 27 (eI (b:=(N:Int)) Fo),.i N,.i N] rfl ?_;refine nl 0 rfl rfl rfl ?_;rw[DC,<-ho];refine U0 (S:=Nat) 1 (λL1 i=>(31,.v (.oi i))::L1) (λi=>[.row false 35 2 ((Oc p q o i).map Rj)]) (λi=>p.length-i) (λi=>i<=p.length) 0 (Qg _) rfl rfl λi hi=>?_
 by_cases hlt:i<p.length
 ·refine Uv [.t Fo,.x (M3 (Sr hlt))] rfl ?_;refine U0 (S:=Nat) 2 (λL1 k=>(38,.v (.oi k))::L1) (λk=>[.row false 35 2 ((ZK (p.getD i 0) q i (Oc p q o i) k).map Rj),.blk 35 (Rj (p.getD i 0))]) (λk=>q.length-k) (λk=>k<=q.length) 0 (Qg _) rfl rfl λk hk=>?_
  by_cases hk2:k<q.length
  ·have hm1:Gl ((ZK (p.getD i 0) q i (Oc p q o i) k).getD (i+k) 0)<=4294967295:=Qc (QK (t:=39) (wL (by rw[Ac];omega) (wC (λj hj=>Fj) ho0 (λi j=>Ch (G0 hp i) (G0 hq j))) (λj=>Ch (G0 hp i) (G0 hq j)) (i+k)) (Kz (show i+1<549755813888 by omega) Fl)) Fj;have hm2:Gl (p.getD i 0*q.getD k 0)<=4294967295:=Qc (Hb _ _) (by have:=G0 hp i;have:=G0 hq k;omega);have hg:(ZK (p.getD i 0) q i (Oc p q o i) k)[i+k]? = some ((ZK (p.getD i 0) q i (Oc p q o i) k).getD (i+k) 0):=Sr (by rw[ZW,Ac];omega);refine go tt [.t Fo,.x (M3 (Sr hk2)),.i (i+k),.x (M3 hg),.k (Nj (Fy _) (Fy _) (Qc (G0 hp i) Fj) (Qc (G0 hq k) Fj)),.k (UP (Fy _) (Fy _) hm1 hm2),.i (i+k)] rfl (by simp[Gd,ZW,Ac] <;> omega) ?_;rw[aZ];exact rd (k+1) Fj hk2 rfl
  ·obtain rfl:k=q.length:=Fj;exact go tt [.f Fp] rfl Fu (rd (i+1) Fj hlt rfl)
 ·obtain rfl:i=p.length:=Fj;exact Ux [.f Fp,.k (EH _)] rfl
variable{p:U6}
theorem US{q:U6}{s t:Nat}(tp:Gk p)(tq:Gk q)(hlp:p.length<137438953472)(hlq:q.length<137438953472)(hp:Bd s p)(hq:Bd t q)(hst:s+t<=4294967000):U3 182 [pr p,pr q] [pr (Hg p q)]:=by
 have h:=vL tq hlp hlq hp hq hst;rw[show trim p=p from tp]at h;exact h
theorem CV{q:U6}(hlp:p.length<274877906944)(hlq:q.length<274877906944)(hp:Bd 4294967295 p)(hq:Bd 4294967295 q):U3 243 [pr p,pr q] [.one (.bool (decide (trim p=trim q)))]:=by
 refine G5 func243 rfl ?_;have cp:=D5 (Rk p) hlp hp;have cq:=D5 (Rk q) hlq hq;have bp:=Mg hp;have bq:=Mg hq;have l1:=Sw p;have l2:=Sw q;obtain⟨a,ha⟩:=nmE (trim p);obtain⟨b,hb⟩:=nmE (trim q);rw[<-ha]at cp bp l1 ⊢;rw[<-hb]at cq bq l2 ⊢;by_cases hl:a.length=b.length
 ·refine Uv [.k cp,.k cq,.f Fo] rfl ?_;refine U0 (S:=Nat) 0 (λL1 i=>(18,.v (.oi i))::L1) (λ_=>[]) (λi=>a.length-i) (λi=>i<=a.length/\a.take i=b.take i) 0 ⟨Qg _,rfl⟩ rfl rfl λi ⟨hi,he⟩=>?_
  by_cases hlt:i<a.length
  ·have ga:=Sr hlt;have gb:=Sr (p:=b) (k:=i) Fj;have cc:=SE (Fy (a.getD i 0)) (Fy (b.getD i 0)) (G0 bp i) (G0 bq i);by_cases hz:a.getD i 0=b.getD i 0
   ·refine Uw [.t Fo,.x (M3 ga),.x (M3 gb),.k cc,.f (by simpa using kW.2 hz)] rfl ?_;exact rd (i+1) Fj ⟨hlt,by rw[Jv,Jv,he,ga,gb,hz]⟩ rfl
   ·exact Ux [.t Fo,.x (M3 ga),.x (M3 gb),.k cc,.t (by have:=mt kW.1 hz;simpa using this)] rfl (by rw[decide_eq_false];intro h;exact hz (by rw[h])) trivial
  ·obtain rfl:i=a.length:=Fj;rw[Q6,hl,Q6]at he;exact Ux [.f Fp] rfl (by rw[decide_eq_true he]) trivial
 ·exact Ux [.k cp,.k cq,.t Fo] rfl (by rw[decide_eq_false];intro h;exact hl (by rw[h])) trivial
theorem Qhx{n d:Int}{s t:Nat}(hl:p.length<274877906944)(hp:Bd s p)(hn:Gl n<=t)(hd:Gl d<=t)(hst:s+p.length*(t+1)+2*t+10<=4294967295):U3 248 [pr p,.agg (Rj n),.agg (Rj d)] [.agg (Rj (Qzc p n d))]:=by
 refine G5 func248 rfl ?_;refine Uw [.k (EZ (z:=1) Fl),.r 13 (eI (b:=(p.length:Int)-1-((0:Nat):Int)) Fp)] rfl ?_;refine nlb 3 rfl rfl rfl ?_;have e0:[LV.bool false,LV.nils].map RF=Rj (Ar p n d 0).1:=by simp[RF,Ar,Af]
 rw[e0];refine U0 (S:=Nat) 5 (λL1 j=>(9,.v (.oi ((p.length:Int)-1-(j:Int))))::L1) (λj=>[.blk 35 (Rj n),.blk 35 (Rj d),.blk 35 [.bool false,.nils],.blk 35 (Rj (Ar p n d j).1),.blk 35 (Rj (Ar p n d j).2)]) (λj=>p.length-j) (λj=>j<=p.length) 0 (Qg _) rfl rfl λj hj=>?_
 have hv:=Qde (k:=j) hp hn hd;have hjl:j*(t+1)<=p.length*(t+1):=Q3 _ Fj;have hjl2:j*t<=j*(t+1):=Zv _ Fj;by_cases hlt:j<p.length
 ·have hc:=G0 hp (p.length-1-j);have hm1:Gl ((Ar p n d j).1*n)<=4294967295:=Qc (Hb _ _) Fj;have hm2:Gl (p.getD (p.length-1-j) 0*(Ar p n d j).2)<=4294967295:=Qc (Hb _ _) Fj;refine go tt [.t Fo,.k (Nj (Fy _) (Fy _) Fj Fj),.r 22 (eI (b:=((p.length-1-j:Nat):Int)) Fj),.x (M3 (Sr (p:=p) (k:=p.length-1-j) Fj)),.k (Nj (Fy _) (Fy _) Fj Fj),.k (UP (Fy _) (Fy _) hm1 hm2),.k (Nj (Fy _) (Fy _) Fj Fj),.r 17 (eI (b:=(p.length:Int)-1-((j+1:Nat):Int)) Fj)] rfl Fv ?_;exact rd (j+1) Fj hlt rfl
 ·obtain rfl:j=p.length:=Fj;exact Ux [.f Fo] rfl
theorem En(tp:Gk p)(hl:p.length<274877906944)(hp:Bd 4294967295 p):U3 292 [pr p] [.agg (Rj (p.getD (p.length-1) 0))]:=by
 have cn:=Ti tp hl hp;by_cases h0:p=[]
 ·subst h0;exact Uy func292 rfl [.k cn,.t Fp] rfl (by simp[Af]) trivial
 ·have Dz:0<p.length:=Yl.2 h0;exact Uy func292 rfl [.k cn,.f (by simpa using h0),.r 12 (eI (b:=((p.length-1:Nat):Int)) Fo),.x (M3 (Sr Fj))] rfl rfl Fu
variable{q:Rat}
theorem Qvv{a b:Int}(h1:a=q.num)(h2:b=(q.den:Int)):[sg a,mg a,sg b,mg b]=rl q:=by rw[h1,h2]
theorem YQ{n d:Int}(h0:d≠0)(hn:Gl n<=4294967295)(hd:Gl d<=4294967295):U3 178 [.agg (Rj n),.agg (Rj d)] [.agg (rl (Rat.divInt n d))]:=by
 have cg:=Qhg (Rk [n,d]) (λz hz=>by simp at hz;rcases hz with rfl|rfl <;> assumption);have gp:=sW (n:=n) h0;have gs:=Qbm (n:=n) h0 hd;have m1:=IJ n d;have m2:=IY n d;obtain⟨g,hg⟩:=nmE (((Sx [n,d]:Nat):Int));rw[<-hg]at cg gp gs m1 m2;by_cases hneg:d<0
 ·obtain⟨e1,e2⟩:=Qsg (n:=n) hneg;rw[<-hg]at e1 e2;rw[<-Qvv e1 e2];exact Uy func178 rfl [.k cg,.t (by simpa using hneg),.k (EQ (Fy n) hn),.k (EQ (Fy d) hd),.k (Oq (Fy _) (Fy _) (by rw[Te];exact hn) gs Fj (Qb7 m1)),.k (Oq (Fy _) (Fy _) (by rw[Te];exact hd) gs Fj (Qb7 m2))] rfl
 ·obtain⟨e1,e2⟩:=Qb0 (n:=n) (d:=d) Fj;rw[<-hg]at e1 e2;rw[<-Qvv e1 e2];exact Uy func178 rfl [.k cg,.f (by simpa using hneg),.k (Oq (Fy _) (Fy _) hn gs Fj m1),.k (Oq (Fy _) (Fy _) hd gs Fj m2)] rfl
theorem CU{x y x' y':LV}{n d:Int}(h1:Hh x y n)(h2:Hh x' y' d)(hn:Gl n<=4294967295)(hd:Gl d<=4294967295):U3 111 [.agg [x,y,x',y']] [.agg (rl (Hm n d))]:=by
 have c1:=Bl h1 hn;have c2:=Bl h2 hd;obtain⟨b,l,rfl,rfl,_⟩:=h1;obtain⟨b',l',rfl,rfl,_⟩:=h2;by_cases h0:d=0
 ·have e:Hm n d=Rat.divInt n 1:=by unfold Hm;rw[if_pos h0]
  rw[e];exact Uy func111 rfl [.k c2,.k Ed,.t (by simpa using h0),.k (EZ (z:=1) Fl),.k c1,.k (YQ Fl hn Fl)] rfl
 ·have e:Hm n d=Rat.divInt n d:=by unfold Hm;rw[if_neg h0]
  rw[e];exact Uy func111 rfl [.k c2,.k Ed,.f (by simpa using h0),.k c1,.k (YQ h0 hn hd)] rfl
theorem EM(hq:Qs 4294967295 q):U3 111 [.agg (rl q)] [.agg (rl q)]:=by
 have:=CU (Fy q.num) (Fy (q.den:Int)) hq.1 hq.2;rwa[Po]at this
theorem Qxh{n:Int}(hn:Gl n<=4294967295):U3 38 [.agg (Rj n)] [.agg (rl (n:Rat))] :=
 Uy func38 rfl [.k (Bl (Fy n) hn),.k (EZ (z:=1) Fl)] rfl (by simp[rl]) trivial
theorem kQ{a b:Rat}(ha:Qs 2147483647 a)(hb:Qs 2147483647 b):U3 123 [.agg (rl a),.agg (rl b)] [.agg (Rj (a.num*(b.den:Int))),.agg (Rj (b.num*(a.den:Int))),.agg (Rj ((a.den:Int)*(b.den:Int)))] :=
 Uy func123 rfl [.k (EM (ha.mono Fl)),.k (EM (hb.mono Fl)),.k (Nj (Fy _) (Fy _) (Qc ha.1 Fl) (Qc hb.2 Fl)),.k (Nj (Fy _) (Fy _) (Qc hb.1 Fl) (Qc ha.2 Fl)),.k (Nj (Fy _) (Fy _) (Qc ha.2 Fl) (Qc hb.2 Fl))] rfl
theorem Ee{a b:Rat}(ha:Qs 2147483647 a)(hb:Qs 2147483647 b):U3 60 [.agg (rl a),.agg (rl b)] [.oi (Rx a b)] :=
 Uy func60 rfl [.k (kQ ha hb),.k (SE (Fy _) (Fy _) (Qc (Hb _ _) (by have:=ha.1;have:=hb.2;omega)) (Qc (Hb _ _) (by have:=hb.1;have:=ha.2;omega)))] rfl
theorem EP{x y x' y':LV}{n d:Int}(h1:Hh x y n)(h2:Hh x' y' d)(hn:Gl n<=4294967295)(hd:Gl d<=4294967295):U3 53 [.agg [x,y,x',y'],.one (.row [])] [.agg (rl (Hm n d))]:=by
 have c1:=CU h1 h2 hn hd;obtain⟨b,l,rfl,rfl,_⟩:=h1;obtain⟨b',l',rfl,rfl,_⟩:=h2;refine G5 func53 rfl ?_;refine Uv [.k c1] rfl ?_;refine U0 (S:=Unit) 3 (λL1 _=>(12,.v (.oi 0))::L1) (λ_=>[.blk 41 [.bool b,.row (lm l),.bool b',.row (lm l')],.blk 41 [.bool false,.nils,.bool false,.nils],.blk 41 (rl (Hm n d))]) (λ_=>0) (λ_=>True) () trivial rfl rfl λ_ _=>?_
 exact Ux [.f Fp] rfl
theorem Cx(hq:Qs 4294967295 q):U3 53 [.agg (rl q),.one (.row [])] [.agg (rl q)]:=by
 have:=EP (Fy q.num) (Fy (q.den:Int)) hq.1 hq.2;rwa[Po]at this
theorem Qq4(hq:Qs 4294967295 q):U3 247 [.agg (rl q)] [.agg (rl q)]:=Uy func247 rfl [.k (Cx hq)] rfl
theorem oP{p:U6}{s t:Nat}(tp:Gk p)(hl:p.length<274877906944)(hp:Bd s p)(hq:Qs t q)(hst:s+p.length*(t+1)+2*t+10<=4294967295):U3 199 [pr p,.agg (rl q)] [.oi (Rp p q)]:=by
 have cc:=SE (Fy (Qzc p q.num q.den)) FQ (Qc (Qde hp hq.1 hq.2).1 Fj) Fl;exact Uy func199 rfl [.k (Qq4 (hq.mono Fj)),.k (Ti tp hl (Fz hp Fj)),.k (Qhx hl hp hq.1 hq.2 hst),.k cc] rfl
theorem Qit{p:U6}{g:Int}(hl:p.length<274877906944)(hp:Bd 4294967295 p)(hg:Gl g≤4294967295)(h0:g≠0)(hd:∀z∈p,z % g=0):U3 185 [pr p,.agg (Rj g)] [pr (trim (p.map (· / g)))]:=by
 refine G5 func185 rfl ?_;refine Uw [.r 9 (eI (b:=(p.length:Int)) Fp),.i p.length,.i p.length,.r 12 (eI (b:=(p.length:Int)) Fp)] rfl ?_;rw[I1 λk=>Rj (p.getD k 0 / g)];refine U0 (S:=Nat) 2 (λL1 k=>(13,.v (.oi k))::L1) (λk=>[.blk 35 (Rj g),.row false 35 2 (qS (λk=>Rj (p.getD k 0 / g)) [.bool false,.nils] p.length k)]) (λk=>p.length-k) (λk=>k<=p.length) 0 (Qg _) rfl rfl λk hk=>?_
 by_cases hlt:k<p.length
 ·have hg2:=Sr hlt;refine go tt [.t Fo,.x (M3 hg2),.k (Oq (Fy _) (Fy _) (G0 hp k) hg h0 (hd _ (Qa hg2))),.i k] rfl (by simp[Gd,O2];omega) ?_;have e:=XM (λk=>Rj (p.getD k 0 / g)) [.bool false,.nils] hlt;rw[e];exact rd (k+1) Fj hlt rfl
 ·obtain rfl:k=p.length:=Fj;have e:qS (λk=>Rj (p.getD k 0 / g)) [.bool false,.nils] p.length p.length=(p.map (· / g)).map Rj:=by
   rw[XP];refine X4 λi=>?_
   by_cases hi:i<p.length
   ·simp[Jl hi,List.getD,Qf hi]
   ·simp[Qy,hi]
  rw[e];exact Ux [.f Fp,.k (D5 (Rk (p.map (· / g))) (by simp;exact hl) (SS hp g))] rfl
theorem OW(p:U6):∀c∈p.map Rj,c.length=2:=Qvq p λ_=>rfl
variable{d:Int}
theorem vO{lx ly:Fc}{px py:U6}{x y:LV}(hx:IsInts lx px)(hy:IsInts ly py)(hd:Hh x y d)(hk:Cs 4294967294 1073741824 (Crv.mk px py d)):U3 120 [.agg [.row lx,.row ly,x,y]] [.agg (cl (Crv.norm (Crv.mk px py d)))]:=by
 have hlx:=hk.lx;have hly:=hk.ly;simp only at hlx hly;have htx:=Sw px;have hty:=Sw py;have hd1:Gl (Crv.mk px py d).d'<=4294967295:=Qc (Qlf hk.d Fj) Fj;have hg1:=Crv.isz_g (Crv.mk px py d) hd1;have hg0:=Crv.g_ne (Crv.mk px py d);have hgd:=Crv.g_dvd (Crv.mk px py d);have cx:=D5 hx Fj (Fz hk.x Fj);have cy:=D5 hy Fj (Fz hk.y Fj);have cd:=Bl hd (Qc hk.d Fj);have bx:Bd 4294967295 (trim px):=Fz (Mg hk.x) Fj;have by_:Bd 4294967295 (trim py):=Fz (Mg hk.y) Fj;obtain⟨b,l,rfl,rfl,_⟩:=hd;obtain⟨e,he⟩:=nmE ((Crv.mk px py d).d');obtain⟨g,hgg⟩:=nmE ((Crv.mk px py d).g);obtain⟨X,hX⟩:=nmE (trim px);obtain⟨Y,hY⟩:=nmE (trim py);have hnorm:(Crv.mk px py d).norm=⟨trim (X.map (· / g)),trim (Y.map (· / g)),e / g⟩:=by rw[he,hgg,hX,hY];rfl
 rw[hnorm];have hgdef:g=if e<0 then -((Sx (e::(X++Y)):Nat):Int)else(Sx (e::(X++Y)):Nat):=by rw[hgg,he,hX,hY];rfl
 have hde:e=if d=0 then 1 else d:=by rw[he];rfl
 simp only[<-he,<-hgg,<-hX,<-hY]at hd1 hg1 hg0 hgd htx hty cx cy bx by_;clear hnorm hgg he hX hY;refine G5 func120 rfl ?_;refine Uv [.k cx,.k cy,.k cd,.k Ed] rfl ?_;refine ct 1 (S:=Unit) (λ_=>[(2,.v (.one (.ow 1 0))),(3,.v (pr X)),(4,.v (pr Y)),(5,.v (.one (.ow 2 0)))]) (λ_=>[.blk 37 [.row lx,.row ly,.bool b,.row (lm l)],.blk 37 [.nils,.nils,.bool false,.nils],.blk 35 (Rj e)]) (λ_=>True) rfl ?_ ?_
 ·by_cases h0:d=0
  ·rw[hde,if_pos h0];exact go tt [.t (by simpa using h0),.k (EZ (z:=1) Fl)] rfl trivial (rc () trivial rfl)
  ·rw[hde,if_neg h0];exact go tt [.f (by simpa using h0)] rfl trivial (rc () trivial rfl)
 ·intro _ _;have hgi:IsInts ([Rj e]++X.map Rj++Y.map Rj) (e::(X++Y)):=by
   have:=Rk (e::(X++Y));simpa using this
  have hgs:∀z∈e::(X++Y),Gl z≤4294967295:=λz hz=>by
   rcases Qk.1 hz with rfl|hz
   ·exact hd1
   ·rcases Qp.1 hz with hz|hz
    ·exact bx z hz
    ·exact by_ z hz
  have cg:=Qhg hgi hgs;have co1:=Qit (p:=X) Fj bx hg1 hg0 λz hz=>hgd z (Qh _ (Zy _ hz))
  have co2:=Qit (p:=Y) Fj by_ hg1 hg0 λz hz=>hgd z (Qh _ (X9 _ hz))
  have ce:=Oq (Fy e) (Fy g) hd1 hg1 hg0 (hgd e (Qw ..));have hszg:=CE hgs;by_cases hneg:e<0
  ·rw[if_pos hneg]at hgdef;have cn:=EQ (Fy ((Sx (e::(X++Y)):Nat):Int)) hszg;rw[<-hgdef]at cn;exact Ux [.lo,.s (OW X),.s (OW Y),.k cg,.t (by simpa using hneg),.k cn,.k ce,.k co1,.k co2] rfl rfl Fu
  ·rw[if_neg hneg]at hgdef;rw[<-hgdef]at cg;exact Ux [.lo,.s (OW X),.s (OW Y),.k cg,.f (by simpa using hneg),.k ce,.k co1,.k co2] rfl rfl Fu
theorem EF{k:Crv}(hn:KX k)(hk:Cs 4294967294 1073741824 k):U3 120 [.agg (cl k)] [.agg (cl k)]:=by
 have h:=vO (Rk k.x) (Rk k.y) (Fy k.d) hk;rw[Crv.norm_of hn]at h;exact h
theorem GM{lx ly:Fc}{px py:U6}{x y:LV}(hx:IsInts lx px)(hy:IsInts ly py)(hd:Hh x y d)(hk:Cs 4294967294 1073741824 (Crv.mk px py d))(h0:d≠0):U3 136 [.one (.row lx),.one (.row ly),.agg [x,y]] [.agg (cl (Crv.norm (Crv.mk px py d))),.oi 0]:=by
 have cd:=Bl hd (Qc hk.d Fj);have cn:=vO hx hy hd hk;obtain⟨b,l,rfl,rfl,_⟩:=hd;exact Uy func136 rfl [.k cd,.k Ed,.f (by simpa using h0),.k cn] rfl
def Q44(x y:Int):Crv:=Crv.norm ⟨trim [x],trim [y],0⟩
theorem Qac{a b:Crv}(ha:KX a)(hb:KX b)(ca:Cs 4294967294 1073741824 a)(cb:Cs 4294967294 1073741824 b):U3 191 [.agg (cl a),.agg (cl b)] [.one (.bool (Nv a b))]:=by
 have na:=EF ha ca;have nb:=EF hb cb;have alx:=ca.lx;have aly:=ca.ly;have blx:=cb.lx;have bly:=cb.ly;have sx:=CV (p:=a.x) (q:=b.x) Fj Fj (Fz ca.x Fj) (Fz cb.x Fj);have sy:=CV (p:=a.y) (q:=b.y) Fj Fj (Fz ca.y Fj) (Fz cb.y Fj);have sd:=SE (Fy a.d) (Fy b.d) (Qc ca.d Fj) (Qc cb.d Fj);rw[ha.1,hb.1]at sx;rw[ha.2.1,hb.2.1]at sy;by_cases h1:a.x=b.x
 ·by_cases h2:a.y=b.y
  ·exact Uy func191 rfl [.k na,.k nb,.k sx,.t (by simpa using h1),.k sy,.t (by simpa using h2),.k sd] rfl (by simp[Nv,h1,h2,kW]) trivial
  ·exact Uy func191 rfl [.k na,.k nb,.k sx,.t (by simpa using h1),.k sy,.f (by simpa using h2)] rfl (by simp[Nv,h1,h2]) trivial
 ·exact Uy func191 rfl [.k na,.k nb,.k sx,.f (by simpa using h1),.f rfl] rfl (by simp[Nv,h1]) trivial
variable{l:List Pt}
theorem Pw{i:Nat}{p:Pt}(h:l[i]? = some p):(l.map Ge)[i]? = some [pl p.c.x,pl p.c.y,sg p.c.d,mg p.c.d,.int .i64 p.id]:=Rm h
theorem P8(l:List Pt):∀c∈l.map Ge,c.length=5:=Qvq l λ_=>rfl
theorem Qag{lx ly:Fc}{px py:U6}{x y:LV}{d:Int}(hx:IsInts lx px)(hy:IsInts ly py)(hd:Hh x y d)(hk:Cs 4294967294 1073741824 (Crv.mk px py d))(id:Int):U3 223 [.agg [.row lx,.row ly,x,y,.int .i64 id]] [.agg (Ge ⟨Crv.norm (Crv.mk px py d),id⟩)]:=by
 have cd:=Bl hd (Qc hk.d Fj);by_cases h0:d=0
 ·subst h0;have ck:Cs 4294967294 1073741824 (Crv.mk px py 1):=⟨hk.x,hk.y,show Gl 1<=4294967294 by decide,hk.lx,hk.ly⟩;have cm:=GM hx hy (Fy 1) ck Fl;have e:Crv.norm (Crv.mk px py 1)=Crv.norm (Crv.mk px py 0):=by simp only[Crv.norm,Crv.g,Crv.d'];rfl
  rw[e]at cm;obtain⟨b,l,rfl,rfl,_⟩:=hd;exact Uy func223 rfl [.k cd,.k Ed,.t Fp,.k (EZ (z:=1) Fl),.k cm] rfl
 ·have cm:=GM hx hy hd hk h0;obtain⟨b,l,rfl,rfl,_⟩:=hd;exact Uy func223 rfl [.k cd,.k Ed,.f (by simpa using h0),.k cm] rfl
theorem Qil(id:Int)(hl:l.length<1073741824):U3 222 [.agg [pts l],.oi id] [.oi (Sp l id:Int),.one (.bool (has l id))]:=by
 refine G5 func222 rfl ?_;refine Uv [] rfl ?_;refine ct 2 (S:=Unit) (λ_=>[(1,.v (.oi id)),(2,.v (.one (.ow 0 0))),(6,.v (.oi (Sp l id:Int)))]) (λ_=>[.blk 178 [pts l]]) (λ_=>True) rfl ?_ ?_
 ·refine U0 (S:=Nat) 1 (λL1 k=>(6,.v (.oi k))::L1) (λ_=>[.blk 178 [pts l]]) (λk=>l.length-k) (λk=>k<=l.length/\∀j p,j<k->l[j]? = some p->p.id<id) 0 ⟨Qg _,λj p h=>Fj⟩ rfl rfl λk ⟨hk,hlt⟩=>?_
  by_cases h:k<l.length
  ·obtain⟨p,hp⟩:=gxE (l:=l) (i:=k) h;by_cases hid:p.id<id
   ·refine Uw [.t Fo,.x (Pw hp),.t (by simpa using hid)] rfl ?_;exact rd (k+1) Fj ⟨h,λj q hj hq=>by
     rcases Zc j k with h2|h2
     ·exact hlt j q h2 hq
     ·have:j=k:=Fj;subst this;rw[hp]at hq;injection hq with hq;rw[<-hq];exact hid⟩ rfl
   ·have e:=OT hlt (.inr ⟨p,hp,hid⟩);refine Uv [.t Fo,.x (Pw hp),.f (by simpa using hid)] rfl ?_;rw[e];exact rc () trivial rfl
  ·obtain rfl:k=l.length:=Fj;have e:=OT hlt (.inl rfl);refine Uv [.f Fp,.f rfl] rfl ?_;rw[e];exact rc () trivial rfl
 ·intro _ _;by_cases h:Sp l id<l.length
  ·obtain⟨p,hp⟩:=gxE (l:=l) (i:=Sp l id) h;have e:has l id=decide (p.id=id):=by simp[has,hp]
   rw[e];exact Ux [.g 30 true Fo,.x (Pw hp)] rfl
  ·have e:has l id=false:=by simp[has,Qy (Yq h)]
   rw[e];exact Ux [.g 30 false Fo] rfl
theorem QX:U3 162 [.agg [pts l]] [.one (pts l)]:=Uy func162 rfl [] rfl
theorem rR{lx ly:Fc}{px py:U6}{x y:LV}{d id:Int}(hx:IsInts lx px)(hy:IsInts ly py)(hd:Hh x y d)(hk:Cs 4294967294 1073741824 (Crv.mk px py d))(hl:l.length<=1000000):
 U3 158 [.agg [pts l],.agg [.row lx,.row ly,x,y,.int .i64 id]] [.agg [pts (if FT l (Pt.mk (Crv.norm (Crv.mk px py d)) id)=0 then put l (Pt.mk (Crv.norm (Crv.mk px py d)) id)else l)],.oi (FT l (Pt.mk (Crv.norm (Crv.mk px py d)) id))]:=by
 have ca:=Qil (l:=l) id Fj;have cf:=Qag hx hy hd hk id;obtain⟨b,r,rfl,rfl,_⟩:=hd;obtain⟨q,hq⟩:=nmE (Pt.mk (Crv.norm (Crv.mk px py d)) id);have hqi:q.id=id:=by rw[hq]
 rw[<-hq]at cf ⊢;have Dz:=uT l id;by_cases h1:has l id=true
 ·have e:FT l q=6:=by simp[FT,hqi,h1]
  rw[e,if_neg Fl];exact Uy func158 rfl [.k ca,.t h1] rfl
 by_cases h2:6<=l.length
 ·have e:FT l q=9:=by simp[FT,hqi,h1,h2]
  rw[e,if_neg Fl];exact Uy func158 rfl [.k ca,.f (by simpa using h1),.t Fo] rfl
 have e:FT l q=0:=by simp[FT,hqi,h1,h2]
 rw[e,if_pos rfl];have s1:∀c∈(l.map Ge).take (Sp l id),c.length=5:=λc hc=>P8 l c (Qn hc)
 have s3:∀c∈(l.map Ge).drop (Sp l id),c.length=5:=λc hc=>P8 l c (Qx hc)
 refine Uy func158 rfl [.k ca,.f (by simpa using h1),.f Fo,.i (Sp l id),.s s1,.k cf,.i (Sp l id),.s s3] rfl ?_ ?_
 ·simp[put,hqi,pts,Yf,Vd,Ge]
 ·simp[Gd];exact⟨Fj,Dz,λ_ _=>rfl,Fj,Fj,Dz⟩
theorem dW(hok:∀p∈l,Qpc 4294967294 1073741824 p)(hl:l.length<1073741824):U3 167 [.agg [pts l]] [.one (pts (Gv l))]:=by
 refine G5 func167 rfl ?_;refine Uv [.o 3 39 5] rfl ?_;refine U0 (S:=Nat) 2 (λL1 i=>(12,.v (.oi i))::(3,.v (.one (.orow 1 5 none)))::L1) (λi=>[.blk 178 [pts l],.row false 39 5 (((l.take i).foldl Pq []).map Ge)]) (λi=>l.length-i) (λi=>i<=l.length) 0 (Qg _) rfl rfl λi hi=>?_
 by_cases hlt:i<l.length
 ·obtain⟨p,hp⟩:=gxE (l:=l) (i:=i) hlt;obtain⟨hn,hk⟩:=hok p (Qa hp);have hws:=Px Pq [] l hp;have hwl:=UW l i;have hwm:=UU l i;obtain⟨o,ho⟩:=nmE ((l.take i).foldl Pq []);rw[<-ho]at hws hwl hwm ⊢;refine Uv [.t Fo,.x (Pw hp)] rfl ?_;refine U0 (S:=Nat) 3 (λL1 k=>(18,.v (.oi k))::(6,.v (.one (.bool ((o.take k).any λq=>Nv p.c q.c))))::L1) (λk=>[.blk 178 [pts l],.row false 39 5 (o.map Ge),.blk 39 (Ge p)]) (λk=>o.length-k) (λk=>k<=o.length) 0 (Qg _) rfl rfl λk hk2=>?_
  by_cases hk3:k<o.length
  ·obtain⟨q,hq⟩:=gxE (l:=o) (i:=k) hk3;obtain⟨hqn,hqk⟩:=hok q (hwm q (Qa hq));have hany:((o.take (k+1)).any λq=>Nv p.c q.c)=(((o.take k).any λq=>Nv p.c q.c) || Nv p.c q.c):=by rw[Jv,hq,List.any_append];simp
   cases hb:(o.take k).any λq=>Nv p.c q.c with
   |
    true =>
    rw[hb]at hany;refine Uw [.t Fo,.i k,.x (Pw hq),.t rfl,.r 29 (v:=.one (.bool ((o.take (k+1)).any λq=>Nv p.c q.c))) (by rw[hany];rfl)] rfl ?_;exact rd (k+1) Fj hk3 rfl
   |
    false =>
    rw[hb]at hany;refine Uw [.t Fo,.i k,.x (Pw hq),.f rfl,.k (Qac hn hqn hk hqk),.r 29 (v:=.one (.bool ((o.take (k+1)).any λq=>Nv p.c q.c))) (by rw[hany];rfl)] rfl ?_;exact rd (k+1) Fj hk3 rfl
  ·obtain rfl:k=o.length:=Fj;rw[Q6];cases hb:o.any λq=>Nv p.c q.c with
   |
    true =>
    have e:Pq o p=o:=by unfold Pq;rw[if_pos hb]
    exact go tt [.f Fp,.f rfl] rfl Fu (rd (i+1) Fj hlt (by rw[hws,e];rfl))
   |
    false =>
    have e:Pq o p=o++[p]:=by unfold Pq;rw[if_neg (by rw[hb];decide)]
    exact go tt [.f Fp,.t rfl] rfl Fu (rd (i+1) Fj hlt (by rw[hws,e,J7];rfl))
 ·obtain rfl:i=l.length:=Fj;exact Ux [.f Fp] rfl (by rw[Q6];rfl) trivial
theorem Qda(q:Rat):Gk [-q.num,(q.den:Int)]:=by
 have:=q.den_nz;simp[Gk,trim,this]
theorem Q0t{s:Nat}{q:Rat}(h:Qs s q):Bd s [-q.num,(q.den:Int)]:=λz hz=>by
 simp at hz;rcases hz with rfl|rfl
 ·rw[Te];exact h.1
 ·exact h.2
theorem JI{x y x' y':LV}{n d:Int}(h1:Hh x y n)(h2:Hh x' y' d)(hn:Gl n<=4294967295)(hd:Gl d<=4294967295)(hq:Qs 4294967295 (Hm n d)):U3 25 [.agg [x,y,x',y']] [.agg (qa (Hm n d))]:=by
 have c1:=EP h1 h2 hn hd;obtain⟨b,l,rfl,rfl,_⟩:=h1;obtain⟨b',l',rfl,rfl,_⟩:=h2;exact Uy func25 rfl [.k c1,.k (EQ (Fy _) hq.1),.k (Cx hq)] rfl
theorem Ep{k:Crv}(hn:KX k)(hk:Cs 4294967294 1073741824 k):U3 149 [.agg (cl k)] [.agg (cl k)]:=by
 have h0:k.d≠0:=by have:=hn.2.2.1;omega
 have cm:=GM (Rk k.x) (Rk k.y) (Fy k.d) hk h0;rw[show Crv.mk k.x k.y k.d=k from rfl,Crv.norm_of hn]at cm;exact Uy func149 rfl [.k (Bl (Fy k.d) (Qc hk.d Fj)),.k Ed,.f (by simpa using h0),.k cm] rfl
theorem GR{a b:Crv}(ha:KX a)(hb:KX b)(ca:Cb a)(cb:Cb b):U3 138 [.agg (cl a),.agg (cl b)] [pr (Hr a b)]:=by
 have l1:=ca.lx;have l2:=cb.lx;have l3:=G8 b.x a.d;have l4:=G8 a.x b.d;exact Uy func138 rfl [.k (Ep ha (ca.mono Fj Fj)),.k (Ep hb (cb.mono Fj Fj)),.k (M6 Fj (Fz cb.x Fj) (Qc ca.d Fj)),.k (M6 Fj (Fz ca.x Fj) (Qc cb.d Fj)),.k (SD Fj Fj (Fz (Hi cb.x ca.d) Fj) (Fz (Hi ca.x cb.d) Fj))] rfl
theorem GF{a b:Crv}(ha:KX a)(hb:KX b)(ca:Cb a)(cb:Cb b):U3 139 [.agg (cl a),.agg (cl b)] [pr (Hq a b)]:=by
 have l1:=ca.ly;have l2:=cb.ly;have l3:=G8 b.y a.d;have l4:=G8 a.y b.d;exact Uy func139 rfl [.k (Ep ha (ca.mono Fj Fj)),.k (Ep hb (cb.mono Fj Fj)),.k (M6 Fj (Fz cb.y Fj) (Qc ca.d Fj)),.k (M6 Fj (Fz ca.y Fj) (Qc cb.d Fj)),.k (SD Fj Fj (Fz (Hi cb.y ca.d) Fj) (Fz (Hi ca.y cb.d) Fj))] rfl
def Mp(ps:U7):Fc:=ps.map λp=>[pl p]
theorem Si{ps:U7}{i:Nat}{p:U6}(h:ps[i]? = some p):(Mp ps)[i]? = some [pl p]:=Rm h
end Orr
