/- Ntt L1 L2 L3 L4 L5 M1 P2 M2 PolyL RatL CrvL CrowdL PredL CertL Y1 Y2 Q1 C1 -/
import Derived.Test.YtoohlnnpalgnaaaGreatPart03
import Derived.Laws.StructEq
import Derived.Test.YtoohlnnpalgnaaaGreatProg
import Derived.Test.YtoohlnnpalgnaaaGreatPart00
set_option linter.all false
namespace Orr
open Go Go.Proofs Tryz
theorem lU (d:Nat) (x y:Int) (w:World):(Op.equalIn (d+1) 3 (.int .i64 x) (.int .i64 y)).run prog w=.ok (decide (x=y)) w:=by
 simp [Op.equalIn,runUnderlying3];rfl
noncomputable def ti3:TI prog:=Ox 3 isAgg3 sizeOf3 underlying3 zeroValue3 typeInfo3 8 rfl
noncomputable def ti4:TI prog:=Ox 4 isAgg4 sizeOf4 underlying4 zeroValue4 typeInfo4 1 rfl
noncomputable def ti5:TI prog:=Ox 5 isAgg5 sizeOf5 underlying5 zeroValue5 typeInfo5 1 rfl
noncomputable def ti9:TI prog:=Ox 9 isAgg9 sizeOf9 underlying9 zeroValue9 typeInfo9 16 rfl
noncomputable def ti22:TI prog:=Ox 22 isAgg22 sizeOf22 underlying22 zeroValue22 typeInfo22 24 rfl
noncomputable def ti23:TI prog:=Ox 23 isAgg23 sizeOf23 underlying23 zeroValue23 typeInfo23 24 rfl
noncomputable def ti24:TI prog:=Ox 24 isAgg24 sizeOf24 underlying24 zeroValue24 typeInfo24 8 rfl
noncomputable def ti27:TI prog:=FO (ks:=[1,1,1]) (ag:=[false,false,false]) 27 isAgg27 sizeOf27 underlying27 zeroValue27 typeInfo27 24 rfl ⟨sizeOf24,sizeOf25,sizeOf3,trivial⟩ ⟨isAgg24,isAgg25,isAgg3,trivial⟩ rfl
noncomputable def ti30:TI prog:=Ox 30 isAgg30 sizeOf30 underlying30 zeroValue30 typeInfo30 8 rfl
noncomputable def ti32:TI prog:=Ox 32 isAgg32 sizeOf32 underlying32 zeroValue32 typeInfo32 24 rfl
noncomputable def ti33:TI prog:=Ox 33 isAgg33 sizeOf33 underlying33 zeroValue33 typeInfo33 24 rfl
noncomputable def ti34:TI prog:=Ox 34 isAgg34 sizeOf34 underlying34 zeroValue34 typeInfo34 24 rfl
noncomputable def ti36:TI prog:=FO (ks:=[1,1]) (ag:=[false,false]) 36 isAgg36 sizeOf36 underlying36 zeroValue36 typeInfo36 32 rfl ⟨sizeOf4,sizeOf34,trivial⟩ ⟨isAgg4,isAgg34,trivial⟩ rfl
noncomputable def ti38:TI prog:=FO (ks:=[1,1,2]) (ag:=[false,false,true]) 38 isAgg38 sizeOf38 underlying38 zeroValue38 typeInfo38 80 rfl ⟨sizeOf33,sizeOf33,sizeOf36,trivial⟩ ⟨isAgg33,isAgg33,isAgg36,trivial⟩ rfl
noncomputable def ti40:TI prog:=FO (ks:=[4,1]) (ag:=[true,false]) 40 isAgg40 sizeOf40 underlying40 zeroValue40 typeInfo40 88 rfl ⟨sizeOf38,sizeOf3,trivial⟩ ⟨isAgg38,isAgg3,trivial⟩ rfl
noncomputable def ti42:TI prog:=FO (ks:=[2,2]) (ag:=[true,true]) 42 isAgg42 sizeOf42 underlying42 zeroValue42 typeInfo42 64 rfl ⟨sizeOf36,sizeOf36,trivial⟩ ⟨isAgg36,isAgg36,trivial⟩ rfl
noncomputable def ti44:TI prog:=FO (ks:=[1,1,1,5,4]) (ag:=[false,false,false,true,true]) 44 isAgg44 sizeOf44 underlying44 zeroValue44 typeInfo44 176 rfl ⟨sizeOf3,sizeOf3,sizeOf3,sizeOf40,sizeOf42,trivial⟩ ⟨isAgg3,isAgg3,isAgg3,isAgg40,isAgg42,trivial⟩ rfl
noncomputable def ti47:TI prog:=Ox 47 isAgg47 sizeOf47 underlying47 zeroValue47 typeInfo47 24 rfl
noncomputable def ti49:TI prog:=FO (ks:=[1,1]) (ag:=[false,false]) 49 isAgg49 sizeOf49 underlying49 zeroValue49 typeInfo49 32 rfl ⟨sizeOf47,sizeOf4,trivial⟩ ⟨isAgg47,isAgg4,trivial⟩ rfl
noncomputable def ti51:TI prog:=FO (ks:=[2,2]) (ag:=[true,true]) 51 isAgg51 sizeOf51 underlying51 zeroValue51 typeInfo51 64 rfl ⟨sizeOf49,sizeOf49,trivial⟩ ⟨isAgg49,isAgg49,trivial⟩ rfl
noncomputable def ti57:TI prog:=Ox 57 isAgg57 sizeOf57 underlying57 zeroValue57 typeInfo57 24 rfl
noncomputable def ti59:TI prog:=FO (ks:=[1,1,1,1,1]) (ag:=[false,false,false,false,false]) 59 isAgg59 sizeOf59 underlying59 zeroValue59 typeInfo59 120 rfl ⟨sizeOf23,sizeOf23,sizeOf23,sizeOf23,sizeOf57,trivial⟩ ⟨isAgg23,isAgg23,isAgg23,isAgg23,isAgg57,trivial⟩ rfl
set_option maxRecDepth 20000 in
theorem Qne (d:Nat) (x0 x1 x2 x3 x4 y0 y1 y2 y3 y4:Int) (w:World):(Op.equalIn (d+1+1) 63 (.agg #[.int .i64 x0,.int .i64 x1,.int .i64 x2,.int .i64 x3,.int .i64 x4]) (.agg #[.int .i64 y0,.int .i64 y1,.int .i64 y2,.int .i64 y3,.int .i64 y4])).run prog w=.ok (decide ([x0,x1,x2,x3,x4]=[y0,y1,y2,y3,y4])) w:=by
 rw [run_equalIn_array w (d+1) _ _ (n:=5) (e:=3) rfl rfl];rw [show List.range 5=[0,1,2,3,4] from rfl,show prog.cellsOf 3=1 from rfl];simp [Op.eqItems,Go.part,isAgg3,lU];by_cases h0:x0=y0 <;> by_cases h1:x1=y1 <;> by_cases h2:x2=y2 <;> by_cases h3:x3=y3 <;> by_cases h4:x4=y4 <;> simp [h0,h1,h2,h3,h4]
theorem Qtp (a b:Uk) (ha:a.length=5) (hb:b.length=5) (w:World):(Op.equal 63 (.agg (a.map (Value.int .i64)).toArray) (.agg (b.map (Value.int .i64)).toArray)).run prog w=.ok (decide (a=b)) w:=by
 match a,ha,b,hb with
 | [x0,x1,x2,x3,x4],_,[y0,y1,y2,y3,y4],_=>exact Qne 9998 x0 x1 x2 x3 x4 y0 y1 y2 y3 y4 w
noncomputable def ti63:TI prog:={ tiA 63 isAgg63 sizeOf63 underlying63 zeroValue63 typeInfo63 40 rfl sizeOf3 with eqn:=some 5,heq:=λk h=>by injection h with h; subst h; exact ⟨eqGuardType63,Qtp⟩ }
noncomputable def ti66:TI prog:=Ox 66 isAgg66 sizeOf66 underlying66 zeroValue66 typeInfo66 24 rfl
noncomputable def ti70:TI prog:=Ox 70 isAgg70 sizeOf70 underlying70 zeroValue70 typeInfo70 24 rfl
noncomputable def ti73:TI prog:=Ox 73 isAgg73 sizeOf73 underlying73 zeroValue73 typeInfo73 8 rfl
abbrev mP:List (Nat×Nat×String):=[(388,0,"Advance"),(194,0,"Begin"),(389,0,"Certs"),(63,0,"Clone"),(390,0,"Drop"),(391,0,"Events"),(396,0,"Go"),(81,0,"Ids"),(392,0,"Next"),(400,0,"Now"),(393,0,"Put"),(394,0,"Turn")]
theorem Qui:∀ x∈mP,∀ b o w,(method (prog.types.size+Made.depth) 74 (.pointer (some ⟨b,o,none⟩)) x.2.2).run prog w=.ok (x.1,.pointer (some ⟨b,o+x.2.1,none⟩)) w:=λx hx=>by
 simp only [mP,Qm,Xy,or_false] at hx;rcases hx with rfl | rfl | rfl | rfl | rfl | rfl | rfl | rfl | rfl | rfl | rfl | rfl <;> first | exact Ai (E:=220) typeInfo74 rfl underlying74 | exact D3 (S:=220) (i:=0) typeInfo74 rfl underlying220 rfl underlying216 (λ_ h=>by cases h) sizeOf216 (by decide)
noncomputable def ti74:TI prog:={ Ox 74 isAgg74 sizeOf74 underlying74 zeroValue74 typeInfo74 8 rfl with ms:=mP,hms:=Qui }
abbrev mM:List (Nat×Nat×String):=[(417,0,"Advance"),(194,0,"Begin"),(389,0,"Certs"),(64,0,"Clone"),(418,0,"Drop"),(391,0,"Events"),(396,0,"Go"),(392,0,"Next"),(400,0,"Now"),(419,0,"Put"),(420,0,"Turn"),(84,0,"Winner")]
theorem Quj:∀ x∈mM,∀ b o w,(method (prog.types.size+Made.depth) 75 (.pointer (some ⟨b,o,none⟩)) x.2.2).run prog w=.ok (x.1,.pointer (some ⟨b,o+x.2.1,none⟩)) w:=λx hx=>by
 simp only [mM,Qm,Xy,or_false] at hx;rcases hx with rfl | rfl | rfl | rfl | rfl | rfl | rfl | rfl | rfl | rfl | rfl | rfl <;> first | exact Ai (E:=223) typeInfo75 rfl underlying75 | exact D3 (S:=223) (i:=0) typeInfo75 rfl underlying223 rfl underlying216 (λ_ h=>by cases h) sizeOf216 (by decide)
noncomputable def ti75:TI prog:={ Ox 75 isAgg75 sizeOf75 underlying75 zeroValue75 typeInfo75 8 rfl with ms:=mM,hms:=Quj }
abbrev mN:List (Nat×Nat×String):=[(422,0,"Advance"),(194,0,"Begin"),(389,0,"Certs"),(65,0,"Clone"),(423,0,"Drop"),(391,0,"Events"),(396,0,"Go"),(82,0,"Ids"),(392,0,"Next"),(400,0,"Now"),(424,0,"Put"),(425,0,"Turn")]
theorem Quk:∀ x∈mN,∀ b o w,(method (prog.types.size+Made.depth) 76 (.pointer (some ⟨b,o,none⟩)) x.2.2).run prog w=.ok (x.1,.pointer (some ⟨b,o+x.2.1,none⟩)) w:=λx hx=>by
 simp only [mN,Qm,Xy,or_false] at hx;rcases hx with rfl | rfl | rfl | rfl | rfl | rfl | rfl | rfl | rfl | rfl | rfl | rfl <;> first | exact Ai (E:=225) typeInfo76 rfl underlying76 | exact D3 (S:=225) (i:=0) typeInfo76 rfl underlying225 rfl underlying216 (λ_ h=>by cases h) sizeOf216 (by decide)
noncomputable def ti76:TI prog:={ Ox 76 isAgg76 sizeOf76 underlying76 zeroValue76 typeInfo76 8 rfl with ms:=mN,hms:=Quk }
abbrev mB:List (Nat×Nat×String):=[(427,0,"Advance"),(194,0,"Begin"),(389,0,"Certs"),(66,0,"Clone"),(428,0,"Drop"),(391,0,"Events"),(396,0,"Go"),(85,0,"Ids"),(392,0,"Next"),(400,0,"Now"),(429,0,"Put"),(430,0,"Turn")]
theorem Qul:∀ x∈mB,∀ b o w,(method (prog.types.size+Made.depth) 77 (.pointer (some ⟨b,o,none⟩)) x.2.2).run prog w=.ok (x.1,.pointer (some ⟨b,o+x.2.1,none⟩)) w:=λx hx=>by
 simp only [mB,Qm,Xy,or_false] at hx;rcases hx with rfl | rfl | rfl | rfl | rfl | rfl | rfl | rfl | rfl | rfl | rfl | rfl <;> first | exact Ai (E:=227) typeInfo77 rfl underlying77 | exact D3 (S:=227) (i:=0) typeInfo77 rfl underlying227 rfl underlying216 (λ_ h=>by cases h) sizeOf216 (by decide)
noncomputable def ti77:TI prog:={ Ox 77 isAgg77 sizeOf77 underlying77 zeroValue77 typeInfo77 8 rfl with ms:=mB,hms:=Qul }
abbrev mD:List (Nat×Nat×String):=[(432,0,"Advance"),(194,0,"Begin"),(389,0,"Certs"),(67,0,"Clone"),(433,0,"Drop"),(391,0,"Events"),(396,0,"Go"),(392,0,"Next"),(400,0,"Now"),(434,0,"Put"),(83,0,"Triples"),(435,0,"Turn")]
theorem Qum:∀ x∈mD,∀ b o w,(method (prog.types.size+Made.depth) 78 (.pointer (some ⟨b,o,none⟩)) x.2.2).run prog w=.ok (x.1,.pointer (some ⟨b,o+x.2.1,none⟩)) w:=λx hx=>by
 simp only [mD,Qm,Xy,or_false] at hx;rcases hx with rfl | rfl | rfl | rfl | rfl | rfl | rfl | rfl | rfl | rfl | rfl | rfl <;> first | exact Ai (E:=229) typeInfo78 rfl underlying78 | exact D3 (S:=229) (i:=0) typeInfo78 rfl underlying229 rfl underlying216 (λ_ h=>by cases h) sizeOf216 (by decide)
noncomputable def ti78:TI prog:={ Ox 78 isAgg78 sizeOf78 underlying78 zeroValue78 typeInfo78 8 rfl with ms:=mD,hms:=Qum }
noncomputable def ti80:TI prog:=FO (ks:=[1,4,1,1,1,1,1]) (ag:=[false,true,false,false,false,false,false]) 80 isAgg80 sizeOf80 underlying80 zeroValue80 typeInfo80 112 rfl ⟨sizeOf73,sizeOf42,sizeOf74,sizeOf75,sizeOf76,sizeOf77,sizeOf78,trivial⟩ ⟨isAgg73,isAgg42,isAgg74,isAgg75,isAgg76,isAgg77,isAgg78,trivial⟩ rfl
set_option maxRecDepth 20000 in
theorem Qnf (d:Nat) (x0 x1 x2 y0 y1 y2:Int) (w:World):(Op.equalIn (d+1+1) 84 (.agg #[.int .i64 x0,.int .i64 x1,.int .i64 x2]) (.agg #[.int .i64 y0,.int .i64 y1,.int .i64 y2])).run prog w=.ok (decide ([x0,x1,x2]=[y0,y1,y2])) w:=by
 rw [run_equalIn_array w (d+1) _ _ (n:=3) (e:=3) rfl rfl];rw [show List.range 3=[0,1,2] from rfl,show prog.cellsOf 3=1 from rfl];simp [Op.eqItems,Go.part,isAgg3,lU];by_cases h0:x0=y0 <;> by_cases h1:x1=y1 <;> by_cases h2:x2=y2 <;> simp [h0,h1,h2]
theorem pT (a b:Uk) (ha:a.length=3) (hb:b.length=3) (w:World):(Op.equal 84 (.agg (a.map (Value.int .i64)).toArray) (.agg (b.map (Value.int .i64)).toArray)).run prog w=.ok (decide (a=b)) w:=by
 match a,ha,b,hb with
 | [x0,x1,x2],_,[y0,y1,y2],_=>exact Qnf 9998 x0 x1 x2 y0 y1 y2 w
noncomputable def ti84:TI prog:={ tiA 84 isAgg84 sizeOf84 underlying84 zeroValue84 typeInfo84 24 rfl sizeOf3 with eqn:=some 3,heq:=λk h=>by injection h with h; subst h; exact ⟨eqGuardType84,pT⟩ }
noncomputable def ti87:TI prog:=Ox 87 isAgg87 sizeOf87 underlying87 zeroValue87 typeInfo87 24 rfl
noncomputable def ti88:TI prog:=Ox 88 isAgg88 sizeOf88 underlying88 zeroValue88 typeInfo88 24 rfl
noncomputable def ti90:TI prog:=FO (ks:=[1,1,4,4]) (ag:=[false,false,true,true]) 90 isAgg90 sizeOf90 underlying90 zeroValue90 typeInfo90 176 rfl ⟨sizeOf87,sizeOf88,sizeOf51,sizeOf51,trivial⟩ ⟨isAgg87,isAgg88,isAgg51,isAgg51,trivial⟩ rfl
noncomputable def ti93:TI prog:=Ox 93 isAgg93 sizeOf93 underlying93 zeroValue93 typeInfo93 24 rfl
set_option maxRecDepth 20000 in
theorem Qng (d:Nat) (x0 x1 x2 x3 y0 y1 y2 y3:Int) (w:World):(Op.equalIn (d+1+1) 95 (.agg #[.int .i64 x0,.int .i64 x1,.int .i64 x2,.int .i64 x3]) (.agg #[.int .i64 y0,.int .i64 y1,.int .i64 y2,.int .i64 y3])).run prog w=.ok (decide ([x0,x1,x2,x3]=[y0,y1,y2,y3])) w:=by
 rw [run_equalIn_array w (d+1) _ _ (n:=4) (e:=3) rfl rfl];rw [show List.range 4=[0,1,2,3] from rfl,show prog.cellsOf 3=1 from rfl];simp [Op.eqItems,Go.part,isAgg3,lU];by_cases h0:x0=y0 <;> by_cases h1:x1=y1 <;> by_cases h2:x2=y2 <;> by_cases h3:x3=y3 <;> simp [h0,h1,h2,h3]
noncomputable def ti95:TI prog:=tiA 95 isAgg95 sizeOf95 underlying95 zeroValue95 typeInfo95 32 rfl sizeOf3
set_option maxRecDepth 20000 in
theorem Qnh (d:Nat) (x x0 x1 x2 x3 y y0 y1 y2 y3:Int) (w:World):(Op.equalIn (d+1+1+1) 97 (.agg #[.int .i64 x,.int .i64 x0,.int .i64 x1,.int .i64 x2,.int .i64 x3]) (.agg #[.int .i64 y,.int .i64 y0,.int .i64 y1,.int .i64 y2,.int .i64 y3])).run prog w=.ok (decide ([x,x0,x1,x2,x3]=[y,y0,y1,y2,y3])) w:=by
 rw [run_equalIn_struct w (d+1+1) 97 _ _ rfl Tryz.stoodInHeld97];have hf:(prog.fieldsOf 97).toList=[{ name := "Kind",type:=3,offset:=0,embedded:=false,tag := "",pkgPath := "",byteOffset:=0 },{ name := "Ids",type:=95,offset:=1,embedded:=false,tag := "",pkgPath := "",byteOffset:=8 }]:=by simp [Program.fieldsOf,underlying97]
 rw [hf];simp [Op.eqFields,Go.part,isAgg3,isAgg95,sizeOf95,sizeOf3,lU,Qng];by_cases h:x=y <;> by_cases h0:x0=y0 <;> by_cases h1:x1=y1 <;> by_cases h2:x2=y2 <;> by_cases h3:x3=y3 <;> simp [h,h0,h1,h2,h3]
theorem Qtq (a b:Uk) (ha:a.length=5) (hb:b.length=5) (w:World):(Op.equal 97 (.agg (a.map (Value.int .i64)).toArray) (.agg (b.map (Value.int .i64)).toArray)).run prog w=.ok (decide (a=b)) w:=by
 match a,ha,b,hb with
 | [x,x0,x1,x2,x3],_,[y,y0,y1,y2,y3],_=>exact Qnh 9997 x x0 x1 x2 x3 y y0 y1 y2 y3 w
noncomputable def ti97:TI prog:={ FO (ks:=[1,4]) (ag:=[false,true]) 97 isAgg97 sizeOf97 underlying97 zeroValue97 typeInfo97 40 rfl ⟨sizeOf3,sizeOf95,trivial⟩ ⟨isAgg3,isAgg95,trivial⟩ rfl with eqn:=some 5,heq:=λk h=>by injection h with h; subst h; exact ⟨eqGuardType97,Qtq⟩ }
noncomputable def ti99:TI prog:=FO (ks:=[5,1,1]) (ag:=[true,false,false]) 99 isAgg99 sizeOf99 underlying99 zeroValue99 typeInfo99 72 rfl ⟨sizeOf97,sizeOf33,sizeOf3,trivial⟩ ⟨isAgg97,isAgg33,isAgg3,trivial⟩ rfl
noncomputable def ti105:TI prog:=FO (ks:=[1,4,4]) (ag:=[false,true,true]) 105 isAgg105 sizeOf105 underlying105 zeroValue105 typeInfo105 152 rfl ⟨sizeOf33,sizeOf42,sizeOf42,trivial⟩ ⟨isAgg33,isAgg42,isAgg42,trivial⟩ rfl
noncomputable def ti109:TI prog:=Ox 109 isAgg109 sizeOf109 underlying109 zeroValue109 typeInfo109 24 rfl
noncomputable def ti139:TI prog:=Ox 139 isAgg139 sizeOf139 underlying139 zeroValue139 typeInfo139 16 rfl
noncomputable def ti140:TI prog:=tiA 140 isAgg140 sizeOf140 underlying140 zeroValue140 typeInfo140 80 rfl sizeOf139
noncomputable def ti151:TI prog:=Ox 151 isAgg151 sizeOf151 underlying151 zeroValue151 typeInfo151 4 rfl
noncomputable def ti159:TI prog:=FO (ks:=[1,1,1]) (ag:=[false,false,false]) 159 isAgg159 sizeOf159 underlying159 zeroValue159 typeInfo159 40 rfl ⟨sizeOf3,sizeOf3,sizeOf22,trivial⟩ ⟨isAgg3,isAgg3,isAgg22,trivial⟩ rfl
noncomputable def ti201:TI prog:=Ox 201 isAgg201 sizeOf201 underlying201 zeroValue201 typeInfo201 24 rfl
noncomputable def ti202:TI prog:=Ox 202 isAgg202 sizeOf202 underlying202 zeroValue202 typeInfo202 24 rfl
noncomputable def ti204:TI prog:=FO (ks:=[10,1,1,1]) (ag:=[true,false,false,false]) 204 isAgg204 sizeOf204 underlying204 zeroValue204 typeInfo204 232 rfl ⟨sizeOf90,sizeOf202,sizeOf3,sizeOf93,trivial⟩ ⟨isAgg90,isAgg202,isAgg3,isAgg93,trivial⟩ rfl
noncomputable def ti205:TI prog:=tiA 205 isAgg205 sizeOf205 underlying205 zeroValue205 typeInfo205 1160 rfl sizeOf204
noncomputable def ti207:TI prog:=FO (ks:=[1,1,1,4,65]) (ag:=[false,false,false,true,true]) 207 isAgg207 sizeOf207 underlying207 zeroValue207 typeInfo207 1264 rfl ⟨sizeOf3,sizeOf3,sizeOf201,sizeOf51,sizeOf205,trivial⟩ ⟨isAgg3,isAgg3,isAgg201,isAgg51,isAgg205,trivial⟩ rfl
noncomputable def ti214:TI prog:=Ox 214 isAgg214 sizeOf214 underlying214 zeroValue214 typeInfo214 24 rfl
noncomputable def ti216:TI prog:=FO (ks:=[1,9,1,1]) (ag:=[false,true,false,false]) 216 isAgg216 sizeOf216 underlying216 zeroValue216 typeInfo216 192 rfl ⟨sizeOf4,sizeOf105,sizeOf214,sizeOf3,trivial⟩ ⟨isAgg4,isAgg105,isAgg214,isAgg3,trivial⟩ rfl
noncomputable def ti218:TI prog:=FO (ks:=[1]) (ag:=[false]) 218 isAgg218 sizeOf218 underlying218 zeroValue218 typeInfo218 24 rfl ⟨sizeOf22,trivial⟩ ⟨isAgg22,trivial⟩ rfl
noncomputable def ti220:TI prog:=FO (ks:=[12,1,1]) (ag:=[true,true,false]) 220 isAgg220 sizeOf220 underlying220 zeroValue220 typeInfo220 240 rfl ⟨sizeOf216,sizeOf218,sizeOf22,trivial⟩ ⟨isAgg216,isAgg218,isAgg22,trivial⟩ rfl
noncomputable def ti221:TI prog:=Ox 221 isAgg221 sizeOf221 underlying221 zeroValue221 typeInfo221 24 rfl
noncomputable def ti223:TI prog:=FO (ks:=[12,1,1,1]) (ag:=[true,true,false,false]) 223 isAgg223 sizeOf223 underlying223 zeroValue223 typeInfo223 264 rfl ⟨sizeOf216,sizeOf218,sizeOf22,sizeOf221,trivial⟩ ⟨isAgg216,isAgg218,isAgg22,isAgg221,trivial⟩ rfl
noncomputable def ti225:TI prog:=FO (ks:=[12,1,1]) (ag:=[true,true,false]) 225 isAgg225 sizeOf225 underlying225 zeroValue225 typeInfo225 240 rfl ⟨sizeOf216,sizeOf218,sizeOf22,trivial⟩ ⟨isAgg216,isAgg218,isAgg22,trivial⟩ rfl
noncomputable def ti227:TI prog:=FO (ks:=[12,1,1]) (ag:=[true,true,false]) 227 isAgg227 sizeOf227 underlying227 zeroValue227 typeInfo227 240 rfl ⟨sizeOf216,sizeOf218,sizeOf22,trivial⟩ ⟨isAgg216,isAgg218,isAgg22,trivial⟩ rfl
noncomputable def ti229:TI prog:=FO (ks:=[12,1,1]) (ag:=[true,true,false]) 229 isAgg229 sizeOf229 underlying229 zeroValue229 typeInfo229 240 rfl ⟨sizeOf216,sizeOf218,sizeOf57,trivial⟩ ⟨isAgg216,isAgg218,isAgg57,trivial⟩ rfl
noncomputable def ti232:TI prog:=Ox 232 isAgg232 sizeOf232 underlying232 zeroValue232 typeInfo232 24 rfl
noncomputable def ti265:TI prog:=Ox 265 isAgg265 sizeOf265 underlying265 zeroValue265 typeInfo265 8 rfl
noncomputable def ti266:TI prog:=Ox 266 isAgg266 sizeOf266 underlying266 zeroValue266 typeInfo266 8 rfl
noncomputable def ti323:TI prog:=tiA 323 isAgg323 sizeOf323 underlying323 zeroValue323 typeInfo323 176 rfl sizeOf40
theorem Qau (em:Bool) (n:Nat) (v:Int) (w:World):(Instr.checkKey em (n+1) 3 (.int .i64 v)).run prog w=.ok () w:=by
 rw [Instr.checkKey];simp [runUnderlying3]
theorem kR (em:Bool) (n:Nat) (a b c:Int) (w:World):(Instr.checkKey em (n+1+1) 84 (.agg #[.int .i64 a,.int .i64 b,.int .i64 c])).run prog w=.ok () w:=by
 rw [Instr.checkKey];simp [runUnderlying84];rw [show List.range' 0 3=[0,1,2] from rfl];simp [Go.part,isAgg3,sizeOf3,Qau]
theorem SX (em:Bool) (ks:Uk) (hk:ks.length=3) (w:World):(Instr.checkKey em 10000 84 (Ad ks)).run prog w=.ok () w:=by
 match ks,hk with
 | [a,b,c],_=>exact kR em 9998 a b c w
theorem Qhl:MapT prog 328 84 3 (.int .i64 0):=⟨runUnderlying328,⟨_,runUnderlying84,λ_ _=>rfl⟩,SX,λx y hx hy w=>pT x y hx hy w,zeroValue3,rfl⟩
noncomputable def ti328:TI prog:={ Ox 328 isAgg328 sizeOf328 underlying328 zeroValue328 typeInfo328 8 rfl with md:=some (.int .i64 0),hmd:=λd h=>by injection h with h; subst h; exact ⟨84,3,Qhl⟩ }
theorem Qhm:MapT prog 329 84 4 (.bool false):=⟨runUnderlying329,⟨_,runUnderlying84,λ_ _=>rfl⟩,SX,λx y hx hy w=>pT x y hx hy w,zeroValue4,rfl⟩
noncomputable def ti329:TI prog:={ Ox 329 isAgg329 sizeOf329 underlying329 zeroValue329 typeInfo329 8 rfl with md:=some (.bool false),hmd:=λd h=>by injection h with h; subst h; exact ⟨84,4,Qhm⟩ }
noncomputable def ti332:TI prog:=FO (ks:=[5,1,1,1,1]) (ag:=[true,false,false,false,false]) 332 isAgg332 sizeOf332 underlying332 zeroValue332 typeInfo332 104 rfl ⟨sizeOf97,sizeOf87,sizeOf3,sizeOf93,sizeOf4,trivial⟩ ⟨isAgg97,isAgg87,isAgg3,isAgg93,isAgg4,trivial⟩ rfl
noncomputable def ti340:TI prog:=Ox 340 isAgg340 sizeOf340 underlying340 zeroValue340 typeInfo340 24 rfl
noncomputable def ti349:TI prog:=tiA 349 isAgg349 sizeOf349 underlying349 zeroValue349 typeInfo349 72 rfl sizeOf32
noncomputable def ti352:TI prog:=FO (ks:=[7,1,1,9]) (ag:=[true,false,false,true]) 352 isAgg352 sizeOf352 underlying352 zeroValue352 typeInfo352 232 rfl ⟨sizeOf99,sizeOf4,sizeOf4,sizeOf105,trivial⟩ ⟨isAgg99,isAgg4,isAgg4,isAgg105,trivial⟩ rfl
noncomputable def ti365:TI prog:=Ox 365 isAgg365 sizeOf365 underlying365 zeroValue365 typeInfo365 24 rfl
noncomputable def ti369:TI prog:=FO (ks:=[1]) (ag:=[false]) 369 isAgg369 sizeOf369 underlying369 zeroValue369 typeInfo369 24 rfl ⟨sizeOf340,trivial⟩ ⟨isAgg340,trivial⟩ rfl
noncomputable def ti378:TI prog:=FO (ks:=[1,1,4]) (ag:=[false,false,true]) 378 isAgg378 sizeOf378 underlying378 zeroValue378 typeInfo378 128 rfl ⟨sizeOf87,sizeOf87,sizeOf38,trivial⟩ ⟨isAgg87,isAgg87,isAgg38,trivial⟩ rfl
noncomputable def ti380:TI prog:=FO (ks:=[6,1]) (ag:=[true,false]) 380 isAgg380 sizeOf380 underlying380 zeroValue380 typeInfo380 136 rfl ⟨sizeOf378,sizeOf3,trivial⟩ ⟨isAgg378,isAgg3,trivial⟩ rfl
noncomputable def ti382:TI prog:=Ox 382 isAgg382 sizeOf382 underlying382 zeroValue382 typeInfo382 24 rfl
noncomputable def ti386:TI prog:=tiA 386 isAgg386 sizeOf386 underlying386 zeroValue386 typeInfo386 272 rfl sizeOf380
noncomputable def ti405:TI prog:=Ox 405 isAgg405 sizeOf405 underlying405 zeroValue405 typeInfo405 24 rfl
noncomputable def ti406:TI prog:=Ox 406 isAgg406 sizeOf406 underlying406 zeroValue406 typeInfo406 24 rfl
noncomputable def tt:TT prog:=(.nd (.nd (.nd (.nd (.nd (.nd (.nd .nil ti3 .nil) ti4 .nil) ti5 (.nd .nil ti9 .nil)) ti22 (.nd (.nd (.nd .nil ti23 .nil) ti24 .nil) ti27 (.nd .nil ti30 .nil))) ti32 (.nd (.nd (.nd (.nd .nil ti33 .nil) ti34 .nil) ti36 (.nd .nil ti38 .nil)) ti40 (.nd (.nd (.nd .nil ti42 .nil) ti44 .nil) ti47 (.nd .nil ti49 .nil)))) ti51 (.nd (.nd (.nd (.nd (.nd .nil ti57 .nil) ti59 .nil) ti63 (.nd .nil ti66 .nil)) ti70 (.nd (.nd (.nd .nil ti73 .nil) ti74 .nil) ti75 (.nd .nil ti76 .nil))) ti77 (.nd (.nd (.nd (.nd .nil ti78 .nil) ti80 .nil) ti84 (.nd .nil ti87 .nil)) ti88 (.nd (.nd (.nd .nil ti90 .nil) ti93 .nil) ti95 (.nd .nil ti97 .nil))))) ti99 (.nd (.nd (.nd (.nd (.nd (.nd .nil ti105 .nil) ti109 .nil) ti139 (.nd .nil ti140 .nil)) ti151 (.nd (.nd (.nd .nil ti159 .nil) ti201 .nil) ti202 (.nd .nil ti204 .nil))) ti205 (.nd (.nd (.nd (.nd .nil ti207 .nil) ti214 .nil) ti216 (.nd .nil ti218 .nil)) ti220 (.nd (.nd (.nd .nil ti221 .nil) ti223 .nil) ti225 (.nd .nil ti227 .nil)))) ti229 (.nd (.nd (.nd (.nd (.nd .nil ti232 .nil) ti265 .nil) ti266 (.nd .nil ti323 .nil)) ti328 (.nd (.nd (.nd .nil ti329 .nil) ti332 .nil) ti340 (.nd .nil ti349 .nil))) ti352 (.nd (.nd (.nd (.nd .nil ti365 .nil) ti369 .nil) ti378 (.nd .nil ti380 .nil)) ti382 (.nd (.nd .nil ti386 .nil) ti405 (.nd .nil ti406 .nil))))))
instance:Mo prog:=⟨rfl⟩
theorem Ub {n : Nat} {Q : Exit -> Sg -> List OB -> Prop} {L L' : Sg} {B B' : List OB} {it it' : List It} {as0 : List Qv} {ob : List Prop} (hs : List (H Tryz.prog)) (h : (match run tt n 100000 it L B hs [] [] with
 | some (it, L, B, q, ob) => (match EI ob with
  | some ob => some (it, L, B, q.map (·.1), q.map (·.2), ob)
  | none => none)
 | none => none) = some (it', L', B', as0, as0, ob)) (k : AK Tryz.prog n Q it' L' B') (ho : Uz ob := by exact trivial) : AK Tryz.prog n Q it L B := go tt hs h ho k
theorem Uc {n : Nat} {Q : Exit -> Sg -> List OB -> Prop} {L L' : Sg} {B B' : List OB} {it it' : List It} {as0 : List Qv} {ob : List Prop} (hs : List (H Tryz.prog)) (h : (match run tt n 100000 it L B hs [] [] with
 | some (it, L, B, q, ob) => (match EI ob with
  | some ob => some (it, L, B, q.map (·.1), q.map (·.2), ob)
  | none => none)
 | none => none) = some (it', L', B', as0, as0, ob)) (k : AK Tryz.prog n Q it' L' B') (ho : Uz ob := by simp [Uz]; omega) : AK Tryz.prog n Q it L B := go tt hs h ho k
theorem Ue {n : Nat} {f : FuncId} {fn : Func} {c : Code} {args res us : List TV} {as0 : List Qv} {ob : List Prop} (hf : Tryz.prog.funcs[f]? = some fn) (hh : (fn.body, fn.ntmps, (fn.name == "runtime.NumGoroutine"), Nat.ble args.length n) = (some c, n, false, true)) (hs : List (H Tryz.prog))
 (h : wE tt n c fn.results.toList args hs = some (us, as0, as0, ob)) (he : us = res := by exact rfl) (ho : Uz ob := by exact trivial) : ER Tryz.prog f args res := w tt hf hh hs h he ho
theorem Ud {n : Nat} {L : Sg} {B : List OB} {fn : Func} {res us : List TV} {it : List It} {as0 : List Qv} {ob : List Prop} (hs : List (H Tryz.prog)) (h : enE tt n fn.results.toList it L B hs = some (us, as0, as0, ob)) (he : us = res := by exact rfl) (ho : Uz ob := by exact trivial) : AK Tryz.prog n (RQ Tryz.prog fn n 0 λu B => u = res /\ B = []) it L B := en tt hs h he ho
theorem Uf {n : Nat} {L : Sg} {B : List OB} {fn : Func} {k : Nat} {res : List TV} {Bout : List OB} {it : List It} {as0 : List Qv} {ob : List Prop} (ps is : List Nat) (hs : List (H Tryz.prog)) (h : edE tt n k fn.results.toList it L B hs res Bout ps is = some (as0, as0, ob)) (ho : Uz ob := by exact trivial) : AK Tryz.prog n (RQ Tryz.prog fn n k λu B => u = res /\ B = Bout) it L B := ed tt ps is hs h ho
theorem Ug {n : Nat} {Q : Exit -> Sg -> List OB -> Prop} {L : Sg} {B : List OB} {S : Type} {c : Code} {r : List It} {L1 : Sg} (k : Nat) (st : Sg -> S -> Sg) (bs : S -> List OB) (μ : S -> Nat) (I : S -> Prop) (s0 : S) (h0 : I s0) (hL : prn (vJ c []) L = some L1) {as0 : List Qv} (hs : two (bE none L B (st L1 s0) (bs s0)) = some (as0, as0))
 (round : ∀ s, I s -> AK Tryz.prog n Q (.code c :: .rnd (some k) (λL B => ∃ s', μ s' < μ s /\ I s' /\ L = st L1 s' /\ B = bs s') :: r) (st L1 s) (bs s)) (hk : ∀ s, I s -> (bs s).length = k := by exact λ_ _ => rfl) : AK Tryz.prog n Q (.code (.loop c) :: r) L B := lp k st bs μ I s0 h0 hL hk hs round
abbrev Uh (f : Nat) (a r : List TV) : Prop := ER Tryz.prog f a r
end Orr
namespace Orr
open Go Go.Proofs Tryz
set_option maxRecDepth 10000
def lm (l:Um):Uq:=l.map λ(x:Nat)=>[.int .u32 (x:Int)]
abbrev lr (l:Um):TV:=.one (.row (lm l))
theorem U4 (l:Um):(lm l).length=l.length:=by simp [lm]
theorem Gz {l:Um} {i x:Nat} (h:l[i]? = some x):(lm l)[i]? = some [.int .u32 (x:Int)]:=by simp [lm,h]
def yC:Um->Um
 | []=>[]
 |
  x::l=>match yC l with
  | []=>if x=0 then [] else [x]
  | r=>x::r
theorem Qpq {l:Um}:yC l=[]↔∀ x∈l,x=0:=by
 induction l with
 | nil=>simp [yC]
 |
  cons x l ih =>
  simp only [yC]
  split
  ·rename_i e;have h1:=ih.1 e;by_cases h:x=0
   ·simp [h]; exact h1
   ·simp [h]
  ·rename_i r hne;simp only [reduceCtorEq,Qm,forall_eq_or_imp,false_iff,not_and];exact λ_ h=>hne (ih.2 h)
theorem GQ:∀ {l:Um} {n:Nat},n<=l.length->(∀ j,n<=j->j<l.length->l[j]? = some 0)->(n=0\/∃ x,l[n-1]? = some x/\x≠0)->l.take n=yC l
 | [],n,h,_,_=>by simp at h; subst h; rfl
 |
  x::l,0,h,hz,_=>by
  rw [Vv];refine (Qpq.2 λy hy=>?_).symm;obtain ⟨j,hj⟩:=Zh.1 hy;have:=hz j (Qh _) (Qf.1 hj).1;rw [hj] at this; injection this
 |
  x::l,n+1,h,hz,ht=>by
  simp only [Q7,Nat.add_le_add_iff_right] at h;have hz':∀ j,n<=j->j<l.length->l[j]? = some 0:=λj h1 h2=>by simpa using hz (j+1) (by omega) (by simpa using h2)
  cases n with
  |
   zero =>
   have e:yC l=[]:=(GQ (n:=0) h hz' (.inl rfl)).symm;rcases ht with h | ⟨y,h1,h2⟩
   ·omega
   ·simp at h1; subst h1; simp [yC,e,h2]
  |
   succ n =>
   have ih:=GQ (n:=n+1) h hz' (.inr (by rcases ht with h | ⟨y,h1,h2⟩; (· omega); exact ⟨y,by simpa using h1,h2⟩));simp only [Ve,yC];rw [<-ih];cases hl:l with
   | nil=>rw [hl] at h; simp at h
   | cons y l'=>simp [Ve]
theorem Qx6 (l:Um):Uh 182 [lr l] [lr (yC l)]:=by
 refine Fw func182 rfl (ln 0 rfl rfl λhl=>?_);rw [U4] at hl;refine Ub [] rfl ?_;refine Ug (S:=Nat) 0 (λL1 n=>(3,.v (.oi n))::L1) (λ_=>[]) id (λn=>n<=l.length/\∀ j,n<=j->j<l.length->l[j]? = some 0) (lm l).length ⟨by rw [U4]; exact Ql _,λj h1 h2=>by rw [U4] at h1; omega⟩ rfl rfl λn ⟨h1,h2⟩=>?_
 cases n with
 | zero=>exact Ud [.f (by simp),.f rfl,.i 0] rfl (by rw [<-GQ h1 h2 (.inl rfl)]; simp [lm]) (by simp [Uz,Hp])
 |
  succ n =>
  obtain ⟨x,hx⟩:=gxE (l:=l) (i:=n) (by omega);by_cases h0:x=0
  ·refine go tt [.t (by simp),.r 11 (v:=.oi n) (by simp),.x (Gz hx),.t (by simp [h0]),.r 17 (v:=.oi n) (by simp)] rfl (by simp [Uz,Hp]; omega) ?_;exact rd n (by simp) ⟨by omega,λj h3 h4=>by
    rcases Vl h3 with rfl | h3
    ·rw [hx,h0]
    ·exact h2 j h3 h4⟩ rfl
  ·exact Ud [.t (by simp),.r 11 (v:=.oi n) (by simp),.x (Gz hx),.f (by simp [h0]),.i (n+1)] rfl (by rw [<-GQ h1 h2 (.inr ⟨x,hx,h0⟩)]; simp [lm]) (by simp [Uz,Hp,U4] <;> omega)
def Sm (l:Um):Prop:=∀ x∈l,x<4294967296
theorem yD:∀ l:Um,Cut l (yC l).length/\l.take (yC l).length=yC l
 | []=>⟨⟨Ql _,λj _ h=>by simp at h,λh=>by simp [yC] at h⟩,rfl⟩
 |
  x::l=>by
  obtain ⟨⟨h1,h2,h3⟩,h4⟩:=yD l;simp only [yC]
  split
  ·rename_i e;rw [e] at h2 h3;by_cases h:x=0
   ·rw [if_pos h];refine ⟨⟨Qh _,λj _ hj=>?_,λh=>by simp at h⟩,rfl⟩;cases j with
    | zero=>simp [h]
    | succ j=>simpa using h2 j (Qh _) (by simpa using hj)
   ·rw [if_neg h];refine ⟨⟨by simp,λj h5 hj=>?_,λ_=>⟨x,rfl,h⟩⟩,rfl⟩;cases j with
    | zero=>simp at h5
    | succ j=>simpa using h2 j (Qh _) (by simpa using hj)
  ·rename_i r hne;refine ⟨⟨by simp [h1],λj h5 hj=>?_,λ_=>?_⟩,by simp [h4]⟩
   ·cases j with
    | zero=>simp at h5
    | succ j=>simpa using h2 j (by simpa using h5) (by simpa using hj)
   ·have hp:0<(yC l).length:=by
     cases e:yC l with
     | nil=>exact absurd e hne
     | cons=>simp
    obtain ⟨y,h5,h6⟩:=h3 hp;refine ⟨y,?_,h6⟩;rw [Q7,show (yC l).length+1-1=((yC l).length-1)+1 from by omega];simpa using h5
theorem zQ {l:Um} (h:Sm l):yC l=Fy (val l):=by
 obtain ⟨h1,h2⟩:=yD l;refine Qhg ?_ ?_
 ·rw [<-h2]; exact Qm5 h1 h
 ·rw [<-h2]; exact Qm6 h1
theorem Lf (x:Nat):Sm (Fy x):=(Da x).1
theorem Ri {x k:Nat} (h:sz x<=k):32*(Fy x).length<=k+31:=by
 have:=Qn7 (Da x);rw [G7] at this; omega
theorem VU {l:Um} (h:Sm l):Uh 182 [lr l] [lr (Fy (val l))]:=zQ h ▸ Qx6 l
theorem Qhh (l:Um):∀ c∈lm l,c.length=1:=λc hc=>by
 obtain ⟨x,_,rfl⟩:=Q8.1 hc; rfl
theorem VD {l:Um} (h:Sm l) (hs:sz (val l)<=4294967296):Uh 219 [lr l] [lr (Fy (val l))] :=
 Ue func219 rfl [.k (VU h),.s (Qhh (Fy (val l)))] rfl rfl (by have:=Ri hs; simp [Uz,Hp,U4]; omega)
theorem HV {a:Um} (ha:Sm a):∃ p,Uh 182 [lr a] [lr p]/\vH p/\val p=val a/\p.length<=a.length/\p=Fy (val a) :=
 ⟨_,VU ha,Da _,G7 _,by rw [<-zQ ha]; exact (yD a).1.1,rfl⟩
theorem Qdk {a b:Um} (ha:Sm a) (hb:Sm b):Uh 213 [lr a,lr b] [.oi (ZJ (val a) (val b))]:=by
 refine Fw func213 rfl (ln 0 rfl rfl λhl=>ln 1 rfl rfl λhl'=>?_);rw [U4] at hl hl';obtain ⟨p,ca,np,vp,lp',_⟩:=HV ha;obtain ⟨q,cb,nq,vq,lq,_⟩:=HV hb;rw [<-vp,<-vq];by_cases h:p.length=q.length
 ·refine go tt [.k ca,.k cb,.f (by simp [U4,h])] rfl (by simp [Uz,Hp,U4] <;> omega) ?_;refine Ug (S:=Int) 0 (λL1 i=>(5,.v (.oi i))::L1) (λ_=>[]) (λi=>(i+1).toNat) (λi=>-1<=i/\i<p.length/\p.drop (i+1).toNat=q.drop (i+1).toNat) (((lm p).length:Int)-1) ⟨by omega,by simp [U4]; omega,by simp [U4,h]⟩ rfl rfl λi ⟨h1,h2,h3⟩=>?_
  rcases K9 i 0 with hi | hi
  ·obtain rfl:i=-1:=by omega
   exact Ud [.f (by decide)] rfl (by rw [dC]; exact congrArg val (by simpa using h3)) trivial
  ·obtain ⟨k,rfl⟩:=Kk hi;have e:((k:Int)+1).toNat=k+1:=by omega
   rw [e] at h3;obtain ⟨x,hx⟩:=gxE (l:=p) (i:=k) (by omega);obtain ⟨y,hy⟩:=gxE (l:=q) (i:=k) (by omega);rcases Km x y with hxy | rfl | hxy
   ·exact Ud [.t (by simp),.x (Gz hx),.x (Gz hy),.t (by simp; omega)] rfl (by rw [PI (iE np.1 h3 hx hy hxy)]) (by simp [Uz,Hp,U4] <;> omega)
   ·refine go tt [.t (by simp),.x (Gz hx),.x (Gz hy),.f (by simp),.x (Gz hx),.x (Gz hy),.f (by simp)] rfl (by simp [Uz,Hp,U4] <;> omega) ?_;exact rd ((k:Int)-1) (by omega) ⟨by omega,by omega,by rw [show ((k:Int)-1+1).toNat=k from by omega]; exact Qa2 h3 hx hy⟩ rfl
   ·exact Ud [.t (by simp),.x (Gz hx),.x (Gz hy),.f (by simp; omega),.x (Gz hx),.x (Gz hy),.t (by simp; omega)] rfl (by rw [PE (iE nq.1 h3.symm hy hx hxy)]) (by simp [Uz,Hp,U4] <;> omega)
 ·by_cases h2:p.length<q.length
  ·exact Ud [.k ca,.k cb,.t (by simp [U4]; omega),.t (by simp [U4]; omega)] rfl (by rw [PI (Ds np nq h2)]) (by simp [Uz,Hp])
  ·exact Ud [.k ca,.k cb,.t (by simp [U4]; omega),.f (by simp [U4]; omega)] rfl (by rw [PE (Ds nq np (by omega))]) (by simp [Uz,Hp])
theorem KI (m:Nat):List.replicate m [LV.int .u32 0]=lm (List.replicate m 0):=by simp [lm]
theorem Cd (l:Um) (i x:Nat):(lm l).set i [.int .u32 (x:Int)]=lm (l.set i x):=by simp [lm,Vu]
theorem Dl {a b:Int} (h:a=b):TV.one (LV.int .u64 a)=.one (.int .u64 b):=h ▸ rfl
theorem L9 {a b:Int} (h:a=b):TV.one (LV.int .u32 a)=.one (.int .u32 b):=h ▸ rfl
theorem eI {a b:Int} (h:a=b):TV.one (LV.int .i64 a)=.oi b:=h ▸ rfl
theorem zX (z:Int):IntKind.u32.wrap z=z % 4294967296:=by simp [IntKind.wrap,IntKind.bits,IntKind.signed]
theorem w64 (z:Int):IntKind.u64.wrap z=z % 18446744073709551616:=by simp [IntKind.wrap,IntKind.bits,IntKind.signed]
theorem Qqg {a b:Um} (ha:Sm a) (hb:Sm b) (h1:sz (val a)<=4294967296) (h2:sz (val b)<=4294967296):Uh 307 [lr a,lr b] [lr (Fy (val a+val b))]:=by
 refine Fw func307 rfl ?_;obtain ⟨p,ca,np,vp,_,ep⟩:=HV ha;obtain ⟨q,cb,nq,vq,_,eq⟩:=HV hb;have lp':=Ri h1;have lq:=Ri h2;rw [<-ep] at lp';rw [<-eq] at lq;rw [<-vp,<-vq];refine Ub [.k ca,.k cb] rfl ?_;refine ct 1 (S:=Um×Um) (λs=>[(0,.v (lr s.1)),(1,.v (lr s.2))]) (λ_=>[]) (λs=>vH s.1/\vH s.2/\32*s.1.length<=4294967327/\s.2.length<=s.1.length/\val s.1+val s.2=val p+val q) rfl ?_ ?_
 ·by_cases h:p.length<q.length
  ·exact go tt [.t (by simp [U4]; omega)] rfl trivial (rc (q,p) ⟨nq,np,lq,Yg h,Ju _ _⟩ rfl)
  ·exact go tt [.f (by simp [U4]; omega)] rfl trivial (rc (p,q) ⟨np,nq,lp',J5 h,rfl⟩ rfl)
 ·intro ⟨p',q'⟩ ⟨np,nq,hp,hq,e⟩;dsimp only at np nq hp hq e;rw [<-e];clear ca cb e vp vq ep eq;refine go tt [.i ((lm p').length+1),.i ((lm p').length+1)] rfl (by simp [Uz,Hp,U4] <;> omega) ?_;rw [KI];refine lp (S:=Nat×Um×Nat) 1 (λL1 s=>(27,.v (.oi (s.1:Int)))::(6,.v (.one (.int .u64 (s.2.2:Int))))::L1) (λs=>[.row false 151 1 (lm s.2.1)]) (λs=>p'.length-s.1)
   (λs=>s.1<=p'.length/\s.2.1.length=p'.length+1/\Sm s.2.1/\s.2.2<=1/\val (s.2.1.take s.1)+s.2.2*4294967296^s.1=val (p'.take s.1)+val (q'.take s.1)) (0,List.replicate ((lm p').length+1) 0,0)
   ⟨Qh _,by simp [U4],λx hx=>by rw [Zx hx]; decide,Qh _,by simp [val]⟩ rfl (λ_ _=>rfl) rfl λ⟨i,o,c⟩ ⟨j1,j2,j3,j4,j5⟩=>?_
  dsimp only at j1 j2 j3 j4 j5 ⊢;by_cases hi:i<p'.length
  ·obtain ⟨x,hx⟩:=gxE (l:=p') (i:=i) hi;have xb:=np.1 x (Qa hx);have fin:∀ y s,(q'[i]? = some y\/q'.length<=i/\y=0)->y<4294967296->s=x+c+y->p'.length-(i+1)<p'.length-i/\i+1<=p'.length/\(o.set i (s % 4294967296)).length=p'.length+1/\Sm (o.set i (s % 4294967296))/\s / 4294967296<=1 /\
    val ((o.set i (s % 4294967296)).take (i+1))+s / 4294967296*4294967296^(i+1)=val (p'.take (i+1))+val (q'.take (i+1)):=λy s hy hyb hs =>
    ⟨by omega,hi,by simp [j2],Bb j3 i _ (by omega),by omega,vR (by omega) hx hy j5 hs⟩
   by_cases hi2:i<q'.length
   ·obtain ⟨y,hy⟩:=gxE (l:=q') (i:=i) hi2;have yb:=nq.1 y (Qa hy);refine go tt [.t (by simp [U4]; omega),.x (Gz hx),.t (by simp [U4]; omega),.x (Gz hy),.w 2,.r 50 (v:=.one (.int .u32 (((x+c+y) % 4294967296:Nat):Int))) (by simp [IntKind.wrap,IntKind.bits,IntKind.signed]),.i 32,.r 52 (v:=.one (.int .u64 (((x+c+y) / 4294967296:Nat):Int))) (by simp),.i i] rfl (by simp [Uz,Hp,U4,IntKind.bits] <;> omega) ?_;rw [Cd];exact rd (i+1,o.set i ((x+c+y) % 4294967296),(x+c+y) / 4294967296) (fin y _ (.inl hy) yb rfl).1 (fin y _ (.inl hy) yb rfl).2 rfl
   ·refine go tt [.t (by simp [U4]; omega),.x (Gz hx),.f (by simp [U4]; omega),.w 0,.r 50 (v:=.one (.int .u32 (((x+c+0) % 4294967296:Nat):Int))) (by simp [IntKind.wrap,IntKind.bits,IntKind.signed]),.i 32,.r 52 (v:=.one (.int .u64 (((x+c+0) / 4294967296:Nat):Int))) (by simp),.i i] rfl (by simp [Uz,Hp,U4,IntKind.bits] <;> omega) ?_;rw [Cd];exact rd (i+1,o.set i ((x+c+0) % 4294967296),(x+c+0) / 4294967296) (fin 0 _ (.inr ⟨by omega,rfl⟩) (by decide) rfl).1 (fin 0 _ (.inr ⟨by omega,rfl⟩) (by decide) rfl).2 rfl
  ·obtain rfl:i=p'.length:=by omega
   refine go tt [.f (by simp [U4]),.w 0,.r 59 (v:=.one (.int .u32 (c:Int))) (by simp [IntKind.wrap,IntKind.bits,IntKind.signed]; omega),.i (lm p').length] rfl (by simp [Uz,Hp,U4,j2]) ?_;rw [U4,Cd];have e:val (o.set p'.length c)=val p'+val q':=by
    have h1:=QA o p'.length c (by omega);rw [Qn (by simp; omega)] at h1;rw [Qn (Ql _),Qn hq] at j5;rw [h1,<-j5,Zp]
   rw [<-e];exact Ud [.k (VU (Bb j3 _ c (by omega)))] rfl
theorem kM {x y:Nat}:ZJ x y<0↔x<y:=by unfold ZJ; split <;> (try split) <;> omega
theorem Qql {a b:Um} (ha:Sm a) (hb:Sm b) (h1:sz (val a)<=4294967296):Uh 308 [lr a,lr b] (if val b<=val a then [lr (Fy (val a-val b)),.one (.bool true)] else [lr [],.one (.bool false)]):=by
 refine Fw func308 rfl ?_;obtain ⟨p,ca,np,vp,_,ep⟩:=HV ha;obtain ⟨q,cb,nq,vq,_,_⟩:=HV hb;have hp:=Ri h1;rw [<-ep] at hp;rw [<-vp,<-vq];have cc:=Qdk np.1 nq.1;by_cases hlt:val p<val q
 ·rw [if_neg (by omega)];exact Ud [.k ca,.k cb,.k cc,.t (by simpa using kM.2 hlt)] rfl
 rw [if_pos (by omega)];have hq:q.length<=p.length:=J5 λh=>hlt (Ds np nq h)
 refine go tt [.k ca,.k cb,.k cc,.f (by have:=mt kM.1 hlt; simpa using this),.i (lm p).length,.i (lm p).length] rfl (by simp [Uz,Hp,U4] <;> omega) ?_;rw [KI];refine lp (S:=Nat×Um×Nat) 1 (λL1 s=>(24,.v (.oi (s.1:Int)))::(7,.v (.one (.int .u64 (s.2.2:Int))))::L1) (λs=>[.row false 151 1 (lm s.2.1)]) (λs=>p.length-s.1)
  (λs=>s.1<=p.length/\s.2.1.length=p.length/\Sm s.2.1/\s.2.2<=1/\val (s.2.1.take s.1)+val (q.take s.1)=val (p.take s.1)+s.2.2*4294967296^s.1) (0,List.replicate (lm p).length 0,0)
  ⟨Qh _,by simp [U4],λx hx=>by rw [Zx hx]; decide,Qh _,by simp [val]⟩ rfl (λ_ _=>rfl) rfl λ⟨i,o,c⟩ ⟨j1,j2,j3,j4,j5⟩=>?_
 dsimp only at j1 j2 j3 j4 j5 ⊢;by_cases hi:i<p.length
 ·obtain ⟨x,hx⟩:=gxE (l:=p) (i:=i) hi;have xb:=np.1 x (Qa hx);have fin:∀ y s,(q[i]? = some y\/q.length<=i/\y=0)->y<4294967296->s=(x+18446744073709551616-c-y) % 18446744073709551616->p.length-(i+1)<p.length-i/\i+1<=p.length/\(o.set i (s % 4294967296)).length=p.length/\Sm (o.set i (s % 4294967296))/\s / 9223372036854775808<=1 /\
   val ((o.set i (s % 4294967296)).take (i+1))+val (q.take (i+1))=val (p.take (i+1))+s / 9223372036854775808*4294967296^(i+1):=λy s hy hyb hs=>by
   obtain ⟨h1,h2⟩:=Qjw (o:=o) (by omega) hx hy xb hyb j4 j5 hs;exact ⟨by omega,hi,by simp [j2],Bb j3 i _ (by omega),h2,h1⟩
  by_cases hi2:i<q.length
  ·obtain ⟨y,hy⟩:=gxE (l:=q) (i:=i) hi2;have yb:=nq.1 y (Qa hy);obtain ⟨s,hs⟩:=nmE ((x+18446744073709551616-c-y) % 18446744073709551616);refine go tt [.t (by simp [U4]; omega),.x (Gz hx),.w 1,.r 32 (Dl (b:=(((x+18446744073709551616-c) % 18446744073709551616:Nat):Int)) (by rw [w64]; omega)),.t (by simp [U4]; omega),.x (Gz hy),.w 1,.r 43 (Dl (b:=(s:Int)) (by rw [w64]; omega)),.w 0,.r 47 (L9 (b:=((s % 4294967296:Nat):Int)) (by rw [zX]; omega)),.i 63,.r 49 (Dl (b:=((s / 9223372036854775808:Nat):Int)) (by simp)),.i i] rfl (by simp [Uz,Hp,U4,IntKind.bits] <;> omega) ?_;rw [Cd];exact rd (i+1,o.set i (s % 4294967296),s / 9223372036854775808) (fin y _ (.inl hy) yb hs).1 (fin y _ (.inl hy) yb hs).2 rfl
  ·obtain ⟨s,hs⟩:=nmE ((x+18446744073709551616-c-0) % 18446744073709551616);have hf:=fin 0 _ (.inr ⟨by omega,rfl⟩) (by decide) hs;refine go tt [.t (by simp [U4]; omega),.x (Gz hx),.w 1,.r 32 (Dl (b:=(s:Int)) (by rw [w64]; omega)),.f (by simp [U4]; omega),.w 0,.r 47 (L9 (b:=((s % 4294967296:Nat):Int)) (by rw [zX]; omega)),.i 63,.r 49 (Dl (b:=((s / 9223372036854775808:Nat):Int)) (by simp)),.i i] rfl (by simp [Uz,Hp,U4,IntKind.bits] <;> omega) ?_;rw [Cd];exact rd (i+1,o.set i (s % 4294967296),s / 9223372036854775808) hf.1 hf.2 rfl
 ·obtain rfl:i=p.length:=by omega
  have e:val o=val p-val q:=by
   rw [Qn (Nat.le_of_eq j2),Qn hq,Qn (Ql _)] at j5;have h1:=Bh o j3;rw [j2] at h1;rcases Nat.le_one_iff_eq_zero_or_eq_one.1 j4 with rfl | rfl <;> omega
  rw [<-e];exact Ud [.f (by simp [U4]),.k (VU j3)] rfl
theorem Qwm {a b:Um} (ha:Sm a) (hb:Sm b) (h1:sz (val a)<=4294967296) (h2:sz (val b)<=4294967296):Uh 113 [lr a,lr b] [lr (Fy (val a*val b))]:=by
 refine Fw func113 rfl ?_;obtain ⟨p,ca,np,vp,_,ep⟩:=HV ha;obtain ⟨q,cb,nq,vq,_,eq⟩:=HV hb;have hp:=Ri h1;have hq:=Ri h2;rw [<-ep] at hp;rw [<-eq] at hq;rw [<-vp,<-vq];refine go tt [.k ca,.k cb,.i ((lm p).length+(lm q).length),.i ((lm p).length+(lm q).length)] rfl (by simp [Uz,Hp,U4] <;> omega) ?_;rw [KI];refine lp (S:=Nat×Um) 1 (λL1 s=>(24,.v (.oi (s.1:Int)))::L1) (λs=>[.row false 151 1 (lm s.2)]) (λs=>p.length-s.1)
  (λs=>s.1<=p.length/\s.2.length=p.length+q.length/\Sm s.2/\(∀ j,s.1+q.length<=j->j<s.2.length->s.2[j]? = some 0)/\val s.2=val (p.take s.1)*val q) (0,List.replicate ((lm p).length+(lm q).length) 0)
  ⟨Qh _,by simp [U4],λx hx=>by rw [Zx hx]; decide,λj _ hj=>by rw [Jx,if_pos (by simpa using hj)],by simp [val,TW]⟩ rfl (λ_ _=>rfl) rfl λ⟨i,o⟩ ⟨j1,j2,j3,j4,j5⟩=>?_
 dsimp only at j1 j2 j3 j4 j5 ⊢;by_cases hi:i<p.length
 ·obtain ⟨x,hx⟩:=gxE (l:=p) (i:=i) hi;have xb:=np.1 x (Qa hx);refine Ub [.t (by simp [U4]; omega),.x (Gz hx)] rfl ?_;refine lp (S:=Nat×Um×Nat) 1 (λL1 s=>(31,.v (.oi (s.1:Int)))::(8,.v (.one (.int .u64 (s.2.2:Int))))::L1) (λs=>[.row false 151 1 (lm s.2.1)]) (λs=>q.length-s.1)
   (λs=>s.1<=q.length/\s.2.1.length=p.length+q.length/\Sm s.2.1/\(∀ j,i+q.length<=j->j<s.2.1.length->s.2.1[j]? = some 0)/\s.2.2<4294967296/\val s.2.1+s.2.2*4294967296^(i+s.1)=val (p.take i)*val q+4294967296^i*x*val (q.take s.1)) (0,o,0)
   ⟨Qh _,j2,j3,j4,by simp,by simp [val,j5]⟩ rfl (λ_ _=>rfl) rfl λ⟨k,o',c⟩ ⟨k1,k2,k3,k4,k5,k6⟩=>?_
  dsimp only at k1 k2 k3 k4 k5 k6 ⊢;by_cases hk:k<q.length
  ·obtain ⟨y,hy⟩:=gxE (l:=q) (i:=k) hk;have yb:=nq.1 y (Qa hy);obtain ⟨z,hz⟩:=gxE (l:=o') (i:=i+k) (by omega);have zb:=k3 z (Qa hz);have hm:=XT xb yb;have hm2:(x:Int)*(y:Int)=((x*y:Nat):Int):=by push_cast; rfl
   obtain ⟨s,hs⟩:=nmE (x*y+z+c);refine go tt [.t (by simp [U4]; omega),.x (Gz hy),.r 40 (Dl (b:=((x*y:Nat):Int)) (by push_cast; rfl)),.i (i+k),.x (Gz hz),.r 50 (Dl (b:=(s:Int)) (by omega)),.w 1,.r 56 (L9 (b:=((s % 4294967296:Nat):Int)) (by rw [zX]; omega)),.i 32,.r 58 (Dl (b:=((s / 4294967296:Nat):Int)) (by simp)),.i (i+k)] rfl ?_ ?_
   ·simp [Uz,Hp,U4,IntKind.bits] <;> omega
   ·rw [Cd];exact rd (k+1,o'.set (i+k) (s % 4294967296),s / 4294967296) (show q.length-(k+1)<q.length-k by omega) ⟨hk,by simp [k2],Bb k3 _ _ (by omega),λj h3 h4=>by
     rw [Yc (by omega)]; exact k4 j h3 (by simpa using h4),(show s / 4294967296<4294967296 from by omega),Qhs hz hy k6 hs⟩ rfl
  ·obtain rfl:k=q.length:=by omega
   by_cases hq0:0<q.length
   ·refine go tt [.f (by simp [U4]),.t (by simp [U4]; omega),.w 1,.r 70 (L9 (b:=((c % 4294967296:Nat):Int)) (by rw [zX]; omega)),.i (i+(lm q).length)] rfl (by simp [Uz,Hp,U4,IntKind.bits] <;> omega) ?_;rw [Cd];refine rd (i+1,o'.set (i+(lm q).length) (c % 4294967296)) (show p.length-(i+1)<p.length-i by omega) ⟨hi,by simp [k2],Bb k3 _ _ (by omega),λj h3 h4=>?_,?_⟩ rfl
    ·rw [U4,List.getElem?_set_ne (by dsimp only at h3; omega)];exact k4 j (by dsimp only at h3; omega) (by simpa using h4)
    ·rw [U4];exact Qhr (k4 _ (Ql _) (by omega)) hx k5 rfl k6
   ·have q0:q=[]:=Qj (by omega);refine go tt [.f (by simp [U4]),.f (by simp [U4,q0])] rfl (by simp [Uz,Hp,U4,IntKind.bits] <;> omega) ?_;refine rd (i+1,o') (show p.length-(i+1)<p.length-i by omega) ⟨hi,k2,k3,λj h3 h4=>k4 j (by dsimp only at h3; omega) h4,?_⟩ rfl;have c0:c*4294967296^(i+q.length)=0/\val o'=0:=by
     subst q0;simp only [val,List.take_nil,Yw] at k6;omega
    rw [c0.2,q0]; rfl
 ·obtain rfl:i=p.length:=by omega
  rw [Qn (Ql _)] at j5;rw [<-j5];exact Ud [.f (by simp [U4]),.k (VU j3)] rfl
theorem o64 {k q:Nat} (hq:q<4294967296) (hb:4294967296*k+q<18446744073709551616):orI .u64 ((4294967296*k:Nat):Int) (q:Int)=((4294967296*k+q:Nat):Int):=by
 have e1:(BitVec.ofInt 64 ((4294967296*k:Nat):Int)).toNat=4294967296*k:=by rw [BitVec.toNat_ofInt]; omega
 have e2:(BitVec.ofInt 64 (q:Int)).toNat=q:=by rw [BitVec.toNat_ofInt]; omega
 show IntKind.u64.wrap ((BitVec.ofInt 64 ((4294967296*k:Nat):Int) ||| BitVec.ofInt 64 (q:Int)).toNat:Int)=_;rw [BitVec.toNat_or,e1,e2,Qus hq,w64]; omega
theorem oM {k p:Nat} (hp:p<4294967296) (hb:4294967296*k+p<18446744073709551616):orI .u64 (p:Int) ((4294967296*k:Nat):Int)=((4294967296*k+p:Nat):Int):=by
 have:=o64 hp hb;unfold orI at this ⊢;rw [BitVec.or_comm]; exact this
theorem o32 {s k p:Nat} (hp:p<2^s) (h1:p<4294967296) (h2:2^s*k<4294967296) (hb:p+2^s*k<4294967296):orI .u32 (p:Int) ((2^s*k:Nat):Int)=((p+2^s*k:Nat):Int):=by
 have e1:(BitVec.ofInt 32 ((2^s*k:Nat):Int)).toNat=2^s*k:=by rw [BitVec.toNat_ofInt]; omega
 have e2:(BitVec.ofInt 32 (p:Int)).toNat=p:=by rw [BitVec.toNat_ofInt]; omega
 have e3:p ||| 2^s*k=p+2^s*k:=by
  have:=Wq (i:=s) (b:=p) hp k;rw [Nat.or_comm,<-this,Ju]
 show IntKind.u32.wrap ((BitVec.ofInt 32 (p:Int) ||| BitVec.ofInt 32 ((2^s*k:Nat):Int)).toNat:Int)=_;rw [BitVec.toNat_or,e1,e2,e3,zX]; omega
theorem Qww {l:Um} {v:Nat} (hl:Sm l) (hn:l.length<274877906944) (h0:0<v) (hv:v<4294967296):Uh 302 [lr l,.one (.int .u32 (v:Int))] [lr (Fy (val l / v)),.one (.int .u32 ((val l % v:Nat):Int))]:=by
 refine Fw func302 rfl ?_;refine go tt [.i (lm l).length,.i (lm l).length] rfl (by simp [Uz,Hp,U4] <;> omega) ?_;rw [KI];refine lp (S:=Int×Um×Nat) 1 (λL1 s=>(8,.v (.oi s.1))::(7,.v (.one (.int .u64 (s.2.2:Int))))::L1) (λs=>[.row false 151 1 (lm s.2.1)]) (λs=>(s.1+1).toNat)
  (λs=>-1<=s.1/\s.1<l.length/\s.2.1.length=l.length/\Sm s.2.1/\s.2.2<v/\val (l.drop (s.1+1).toNat)=v*val (s.2.1.drop (s.1+1).toNat)+s.2.2) (((lm l).length:Int)-1,List.replicate (lm l).length 0,0)
  ⟨by simp [U4]; omega,by simp [U4]; omega,by simp [U4],λx hx=>by rw [Zx hx]; decide,h0,by simp [U4,val]⟩ rfl (λ_ _=>rfl) rfl λ⟨i,o,r⟩ ⟨j1,j2,j3,j4,j5,j6⟩=>?_
 dsimp only at j1 j2 j3 j4 j5 j6 ⊢;rcases K9 i 0 with hi | hi
 ·obtain rfl:i=-1:=by omega
  simp only [show ((-1:Int)+1).toNat=0 from rfl,Xv] at j6;have e1:val l / v=val o:=by rw [j6,W7 h0,V2 j5,Xk]
  have e2:val l % v=r:=by rw [j6,W8,Xs j5]
  rw [e1,e2];exact Ud [.f (by decide),.k (VU j4)] rfl rfl (by simp [Uz,Hp,U4,IntKind.bits] <;> omega)
 ·obtain ⟨k,rfl⟩:=Kk hi;have e:((k:Int)+1).toNat=k+1:=by omega
  rw [e] at j6;obtain ⟨x,hx⟩:=gxE (l:=l) (i:=k) (by omega);have xb:=hl x (Qa hx);obtain ⟨s,hs⟩:=nmE (r*4294967296+x);obtain ⟨k1,k2,k3⟩:=Qh1 hx xb (show k<o.length by omega) h0 j5 j6 hs;obtain ⟨q,hq⟩:=nmE (s / v);obtain ⟨u,hu⟩:=nmE (s % v);have hqi:(s:Int).tdiv v=(q:Int):=by rw [V7 (by omega),hq]; rfl
  have hui:(s:Int).tmod v=(u:Int):=by rw [Y0 (by omega),hu]; rfl
  rw [<-hq,<-hu] at k3;rw [<-hq] at k1;rw [<-hu] at k2;refine go tt [.t (by simp),.i 32,.r 21 (Dl (b:=((4294967296*r:Nat):Int)) (by omega)),.x (Gz hx),.r 27 (Dl (b:=(s:Int)) (by rw [o64 xb (by omega)]; omega)),
   .r 33 (Dl (b:=(q:Int)) hqi),.w 0,.r 34 (L9 (b:=((q % 4294967296:Nat):Int)) (by rw [zX]; omega)),.r 38 (Dl (b:=(u:Int)) hui),.i k] rfl (by simp [Uz,Hp,U4,IntKind.bits,hqi] <;> omega) ?_
  rw [Cd];exact rd ((k:Int)-1,o.set k (q % 4294967296),u) (by dsimp only; omega) ⟨by dsimp only; omega,by dsimp only; omega,by simp [j3],Bb j4 _ _ (by omega),k2,by dsimp only; rw [show ((k:Int)-1+1).toNat=k from by omega]; exact k3⟩ rfl
theorem WT {i:Nat} {s:ByteArray} (h:∀ i,i<256->(s[i]?).map (·.toNat)=some (sz i)) (hi:i<256):(s[i]?).map (·.toNat)=some (sz i):=h i hi
set_option maxRecDepth 100000 in
theorem cD {x:Nat} (hx:x<4294967296):Uh 301 [.one (.int .u32 (x:Int))] [.oi (sz x:Int)]:=by
 refine Fw func301 rfl ?_;have h31:sz x<=32:=Ni.2 (by omega);by_cases h1:65536<=x
 ·have e1:sz x=16+sz (x / 2^16):=FD (by omega);obtain ⟨y,hy⟩:=nmE (x / 2^16);rw [<-hy] at e1;by_cases h2:256<=y
  ·have e2:sz y=8+sz (y / 2^8):=FD (by omega);obtain ⟨z,hz⟩:=nmE (y / 2^8);rw [<-hz] at e2;exact Ud [.t (by simp; omega),.i 16,.r 6 (L9 (b:=(y:Int)) (by simp [hy])),.t (by simp; omega),.i 8,.r 10 (L9 (b:=(z:Int)) (by simp [hz])),.y (WT (i:=z) (by decide) (by omega))] rfl (by rw [e1,e2]; simp; omega) (by simp [Uz,Hp,IntKind.bits] <;> omega)
  ·exact Ud [.t (by simp; omega),.i 16,.r 6 (L9 (b:=(y:Int)) (by simp [hy])),.f (by simp; omega),.y (WT (i:=y) (by decide) (by omega))] rfl (by rw [e1]; simp) (by simp [Uz,Hp,IntKind.bits] <;> omega)
 ·by_cases h2:256<=x
  ·have e2:sz x=8+sz (x / 2^8):=FD (by omega);obtain ⟨z,hz⟩:=nmE (x / 2^8);rw [<-hz] at e2;exact Ud [.f (by simp; omega),.t (by simp; omega),.i 8,.r 10 (L9 (b:=(z:Int)) (by simp [hz])),.y (WT (i:=z) (by decide) (by omega))] rfl (by rw [e2]; simp) (by simp [Uz,Hp,IntKind.bits] <;> omega)
  ·exact Ud [.f (by simp; omega),.f (by simp; omega),.y (WT (i:=x) (by decide) (by omega))] rfl (by simp) (by simp [Uz,Hp,IntKind.bits] <;> omega)
theorem Qse {x:Nat} (hx:x<4294967296):Uh 303 [.one (.int .u32 (x:Int))] [.oi ((32-sz x:Nat):Int)]:=by
 have h31:sz x<=32:=Ni.2 (by omega);exact Ue func303 rfl [.k (cD hx)] rfl (by simp; omega) (by simp [Uz,Hp] <;> omega)
theorem sU {l:Um} (hl:Sm l) (hs:sz (val l)<=4294967296):Uh 267 [lr l] [.oi (sz (val l):Int)]:=by
 refine Fw func267 rfl ?_;obtain ⟨p,ca,np,vp,_,ep⟩:=HV hl;have hp:=Ri hs;rw [<-ep] at hp;rw [<-vp] at hs ⊢;by_cases h0:p=[]
 ·subst h0;exact Ud [.k ca,.t (by simp [lm])] rfl rfl (by simp [Uz,Hp])
 ·have hpl:0<p.length:=J1.2 h0;obtain ⟨x,hx,hx0⟩:=np.2 h0;have xb:=np.1 x (Qa hx);have e:=bI np hx;have h31:sz x<=32:=Ni.2 (by omega);have hn:(lm p).length≠0:=by rw [U4]; omega
  refine Ud [.k ca,.f (by simp [U4]; omega),.r 15 (eI (b:=((p.length-1:Nat):Int)) (by rw [U4]; omega)),.x (Gz hx),.k (cD xb)] rfl (by rw [e,U4]; simp; omega) (by simp [Uz,Hp,U4] <;> omega)
theorem gI {s:Nat} (h:s<=31):((s:Nat):Int).tdiv 32=((0:Nat):Int):=by
 rw [V7 (by omega)]; omega
theorem Qiv {s:Nat} (h:s<=31):((s:Nat):Int).tmod 32=(s:Int):=Int.tmod_eq_of_lt (by omega) (by omega)
theorem Quh {s:Nat} (h:s<=31):max 0 (min (s:Int) 65536)=(s:Int):=by omega
theorem Qwq {a:Um} {s:Nat} (ha:Sm a) (h1:sz (val a)<=4294967400) (hs:s<=31):Uh 332 [lr a,.oi s] [lr (Fy (val a*2^s))]:=by
 refine Fw func332 rfl ?_;obtain ⟨p,ca,np,vp,_,ep⟩:=HV ha;have hp:=Ri h1;rw [<-ep] at hp;rw [<-vp];have hq:((s:Nat):Int).tdiv 32=0:=gI hs;by_cases h0:p=[]
 ·subst h0;exact Ud [.k ca,.t (by simp [lm])] rfl (by simp [val,G9,lm]) (by simp [Uz,Hp])
 have hpl:0<p.length:=J1.2 h0;refine go tt [.k ca,.r 15 (eI (b:=(s:Int)) (Quh hs)),.f (by simp [U4]; omega),.r 20 (eI (b:=((0:Nat):Int)) (gI hs)),.r 22 (eI (b:=(s:Int)) (Qiv hs)),.r 28 (eI (b:=(((lm p).length+1:Nat):Int)) (by omega)),.i ((lm p).length+1),.i ((lm p).length+1)] rfl (by have e:=U4 p; simp only [Uz,Hp]; omega) ?_;rw [KI];refine lp (S:=Nat×Um) 1 (λL1 s=>(32,.v (.oi (s.1:Int)))::L1) (λs=>[.row false 151 1 (lm s.2)]) (λs=>p.length-s.1)
  (λr=>r.1<=p.length/\r.2.length=p.length+1/\Sm r.2/\(∃ z,r.2[r.1]? = some z/\z<2^s)/\val (r.2.take (r.1+1))=val (p.take r.1)*2^s) (0,List.replicate ((lm p).length+1) 0)
  ⟨Qh _,by simp [U4],λx hx=>by rw [Zx hx]; decide,⟨0,by simp,Z3 (by decide)⟩,by simp [val,J3]⟩ rfl (λ_ _=>rfl) rfl λ⟨i,o⟩ ⟨j1,j2,j3,⟨z,hz,hzs⟩,j5⟩=>?_
 dsimp only at j1 j2 j3 hz hzs j5 ⊢;by_cases hi:i<p.length
 ·obtain ⟨x,hx⟩:=gxE (l:=p) (i:=i) hi;have xb:=np.1 x (Qa hx);have zb:=j3 z (Qa hz);obtain ⟨k1,k2,k3,k4⟩:=Qji hs hx xb hz hzs (by omega) j5;have hxs:=Qu7 hs xb;have h31:2^s<=2^31:=Zs (by decide) hs;have ec:(x:Int)*2^s=((x*2^s:Nat):Int):=by push_cast; rfl
  obtain ⟨m,hm⟩:=nmE (x*2^s);rw [<-hm] at k1 k2 k3 k4 hxs ec;refine go tt [.t (by simp [U4]; omega),.x (Gz hx),.i s,.r 40 (Dl (b:=(m:Int)) ec),.i i,.x (Gz hz),.w 0,.r 52 (L9 (b:=((m % 4294967296:Nat):Int)) (by rw [zX]; omega)),.r 53 (L9 (b:=((z+m % 4294967296:Nat):Int)) (by rw [k4,o32 hzs zb (by omega) (by omega)])),.i i,
   .i 32,.r 61 (Dl (b:=((m / 2^32:Nat):Int)) (by simp)),.w 0,.r 62 (L9 (b:=((m / 2^32 % 4294967296:Nat):Int)) (by rw [zX]; omega)),.i (i+1)] rfl (by simp [Uz,Hp,U4,IntKind.bits,ec] <;> omega) ?_
  rw [Cd,Cd];exact rd (i+1,(o.set i (z+m % 4294967296)).set (i+1) (m / 2^32 % 4294967296)) (show p.length-(i+1)<p.length-i by omega) ⟨hi,by simp [j2],Bb (Bb j3 _ _ (by omega)) _ _ (by omega),⟨_,by rw [Ja (by simp; omega)],by omega⟩,k3⟩ rfl
 ·obtain rfl:i=p.length:=by omega
  rw [Qn (by omega),Qn (Ql _)] at j5;rw [<-j5];exact Ud [.f (by simp [U4]),.k (VU j3)] rfl
theorem Qwr {a:Um} {s:Nat} (ha:Sm a) (h1:sz (val a)<=4294967400) (hs:s<=31):Uh 306 [lr a,.oi s] [lr (Fy (val a / 2^s))]:=by
 refine Fw func306 rfl ?_;obtain ⟨p,ca,np,vp,_,ep⟩:=HV ha;have hp:=Ri h1;rw [<-ep] at hp;rw [<-vp];have hq:((s:Nat):Int).tdiv 32=0:=gI hs;by_cases h0:p=[]
 ·subst h0;exact Ud [.k ca,.r 14 (eI (b:=(s:Int)) (Quh hs)),.r 16 (eI (b:=((0:Nat):Int)) (gI hs)),.r 18 (eI (b:=(s:Int)) (Qiv hs)),.t (by simp [lm])] rfl (by simp [val,G9,lm]) (by simp only [Uz,Hp]; omega)
 have hpl:0<p.length:=J1.2 h0;refine go tt [.k ca,.r 14 (eI (b:=(s:Int)) (Quh hs)),.r 16 (eI (b:=((0:Nat):Int)) (gI hs)),.r 18 (eI (b:=(s:Int)) (Qiv hs)),.f (by simp [U4]; omega),.r 27 (eI (b:=((lm p).length:Int)) (by omega)),.i (lm p).length,.i (lm p).length] rfl (by have e:=U4 p; simp only [Uz,Hp]; omega) ?_;rw [KI];refine lp (S:=Nat×Um) 1 (λL1 s=>(31,.v (.oi (s.1:Int)))::L1) (λs=>[.row false 151 1 (lm s.2)]) (λs=>p.length-s.1)
  (λr=>r.1<=p.length/\r.2.length=p.length/\Sm r.2/\val (r.2.take r.1)=val p / 2^s % 4294967296^r.1) (0,List.replicate (lm p).length 0)
  ⟨Qh _,by simp [U4],λx hx=>by rw [Zx hx]; decide,by simp [val]; omega⟩ rfl (λ_ _=>rfl) rfl λ⟨i,o⟩ ⟨j1,j2,j3,j5⟩=>?_
 dsimp only at j1 j2 j3 j5 ⊢;by_cases hi:i<p.length
 ·obtain ⟨x,hx⟩:=gxE (l:=p) (i:=i) hi;have xb:=np.1 x (Qa hx);have fin:∀ y m,(p[i+1]? = some y\/p.length<=i+1/\y=0)->m=(x+y*2^32) / 2^s->p.length-(i+1)<p.length-i/\i+1<=p.length/\(o.set i (m % 4294967296)).length=p.length/\Sm (o.set i (m % 4294967296))/\val ((o.set i (m % 4294967296)).take (i+1))=val p / 2^s % 4294967296^(i+1):=λy m hy hm =>
   ⟨by omega,hi,by simp [j2],Bb j3 _ _ (by omega),by subst hm; exact Qjj hs hx hy (by omega) np.1 j5⟩
  have hsp:0<2^s:=Z3 (by decide);by_cases hy0:i+1<p.length
  ·obtain ⟨y,hy⟩:=gxE (l:=p) (i:=i+1) hy0;have yb:=np.1 y (Qa hy);obtain ⟨v,hv⟩:=nmE (4294967296*y+x);obtain ⟨m,hm⟩:=nmE (v / 2^s);have hml:m<=v:=hm ▸ J0 _ _;have hf:=fin y m (.inl hy) (by rw [hm,hv]; congr 1; omega);refine go tt [.t (by simp [U4]; omega),.x (Gz hx),.t (by simp [U4]; omega),.x (Gz hy),.i 32,.r 57 (Dl (b:=((4294967296*y:Nat):Int)) (by omega)),.r 58 (Dl (b:=(v:Int)) (by rw [oM xb (by omega)]; omega)),
    .i s,.r 63 (Dl (b:=(m:Int)) (by rw [hm]; push_cast; rfl)),.w 0,.r 64 (L9 (b:=((m % 4294967296:Nat):Int)) (by rw [zX]; omega)),.i i] rfl (by simp [Uz,Hp,U4,IntKind.bits] <;> omega) ?_
   rw [Cd];exact rd (i+1,o.set i (m % 4294967296)) hf.1 hf.2 rfl
  ·obtain ⟨m,hm⟩:=nmE (x / 2^s);have hml:m<=x:=hm ▸ J0 _ _;have hf:=fin 0 m (.inr ⟨by omega,rfl⟩) (by rw [hm]; simp);refine go tt [.t (by simp [U4]; omega),.x (Gz hx),.f (by simp [U4]; omega),
    .i s,.r 63 (Dl (b:=(m:Int)) (by rw [hm]; push_cast; rfl)),.w 0,.r 64 (L9 (b:=((m % 4294967296:Nat):Int)) (by rw [zX]; omega)),.i i] rfl (by simp [Uz,Hp,U4,IntKind.bits] <;> omega) ?_
   rw [Cd];exact rd (i+1,o.set i (m % 4294967296)) hf.1 hf.2 rfl
 ·obtain rfl:i=p.length:=by omega
  have hvl:=Bh p np.1;rw [Qn (by omega),Xs (Z4 (J0 _ _) hvl)] at j5;rw [<-j5];exact Ud [.f (by simp [U4,j2]),.k (VU j3)] rfl
def wK:Nat->Nat->Um
 | 0,_=>[]
 | k+1,v=>v % 4294967296::wK k (v / 4294967296)
theorem Qfv:∀ {l:Um},Sm l->l=wK l.length (val l)
 | [],_=>rfl
 |
  x::l,h=>by
  have hx:=h x (.head _);have ih:=Qfv (l:=l) λy hy=>h y (.tail _ hy)
  simp only [Q7,wK,val];rw [show (x+4294967296*val l) % 4294967296=x by omega,show (x+4294967296*val l) / 4294967296=val l by omega,<-ih]
theorem pK {l:Um} {k v:Nat} (h:Sm l) (hk:l.length=k) (hv:val l=v):wK k v=l:=by
 rw [<-hk,<-hv]; exact (Qfv h).symm
theorem xY:∀ {k v:Nat},(wK k v).length=k/\Sm (wK k v)/\(v<4294967296^k->val (wK k v)=v)
 | 0,v=>⟨rfl,λx hx=>by (cases hx),λh=>by simp at h; subst h; rfl⟩
 |
  k+1,v=>by
  obtain ⟨h1,h2,h3⟩:=xY (k:=k) (v:=v / 4294967296);refine ⟨by simp [wK,h1],λx hx=>?_,λh=>?_⟩
  ·rcases Qm.1 hx with rfl | hx
   ·exact Z5 _ (by decide)
   ·exact h2 x hx
  ·simp only [wK,val];rw [h3 (by rw [Zq] at h; exact X9 (by rw [Zp]; exact h))];omega
theorem Qfd {a:Um} {s n:Nat} (ha:Sm a) (h1:sz (val a)<=4294967400) (hs:s<=31) (hn:n<274877906944) (h0:0<n) (hv:val a*2^s<4294967296^n) :
 U5 prog 304 [lr a,.oi s,.oi n] [] [.one (.orow 0 1 none)] [.row false 151 1 (lm (wK n (val a*2^s)))]:=by
 refine Fw func304 rfl ?_;obtain ⟨v,hvv⟩:=nmE (val a*2^s);have cs:=Qwq ha h1 hs;rw [<-hvv] at cs hv ⊢;have hl:(Fy v).length<=n:=by
  apply Classical.byContradiction;intro hh;have h2:=UI (Da v) (λe=>by rw [e] at hh; simp at hh);rw [G7] at h2;have h3:4294967296^n<=4294967296^((Fy v).length-1):=Zs (by decide) (by omega);omega
 refine go tt [.i n,.i n,.k cs,.s (Qhh (Fy v)),.i (Fy v).length] rfl (by simp [Uz,Hp,U4] <;> omega) ?_;have e:List.take 0 (List.replicate n [LV.int .u32 0])++(List.take (Fy v).length (lm (Fy v))++List.drop (0+(Fy v).length) (List.replicate n [LV.int .u32 0]))=lm (wK n v):=by
  rw [pK (l:=Fy v++List.replicate (n-(Fy v).length) 0) (λx hx=>?_) (by simp; omega) (by rw [Bf,TW,G7]; simp)]
  ·rw [Vv,Yf,Qn (by rw [U4]; exact Ql _)];simp [lm]
  ·rcases Qq.1 hx with hx | hx
   ·exact Lf v x hx
   ·rw [Zx hx]; decide
 rw [e];exact Uf [] [0] [] rfl
theorem AY {pre x post:Um} {i u:Nat} (h:x[i]? = some u):(lm (pre++x++post))[pre.length+i]? = some [.int .u32 (u:Int)]:=Gz (by
 have hi:=(Qf.1 h).1;rw [Za,Xg (by omega),Jj,Zm hi]; exact h)
theorem Qka {pre x post:Um} {i v:Nat} (h:i<x.length):(lm (pre++x++post)).set (pre.length+i) [.int .u32 (v:Int)]=lm (pre++x.set i v++post):=by
 rw [Cd,Za,List.set_append_right _ _ (by omega),Jj,List.set_append_left _ _ h,<-Za]
theorem Qmj {pre x post ly:Um} {top nx xn x1 x2:Nat} (D:Dig x ly ly.length top nx xn x1 x2) (hn:ly.length<274877906944) :
 U5 prog 305 [.one (.orow 0 1 (some (pre.length,x.length))),lr ly] [.row true 151 1 (lm (pre++x++post))] [.one (.int .u32 ((val x / val ly:Nat):Int))] [.row true 151 1 (lm (pre++wK x.length (val x % val ly)++post))]:=by
 refine Fw func305 rfl ?_;have hxl:=D.hx;have hn2:=D.hn;have hb:=D.bnd;obtain ⟨head,hh⟩:=nmE (xn*2^32+x1);obtain ⟨g0,hg0⟩:=nmE (head / top);obtain ⟨r0,hr0⟩:=nmE (head % top);have hst:=D.start;rw [<-hh,<-hg0] at hst;have ht0:=D.top0;have hg0l:g0<=head:=hg0 ▸ J0 _ _;have hr0l:r0<top:=hr0 ▸ Z5 _ ht0;have htd:(head:Int).tdiv top=(g0:Int):=by rw [V7 (by omega),hg0]; rfl
 have htm:(head:Int).tmod top=(r0:Int):=by rw [Y0 (by omega),hr0]; rfl
 refine go tt [.r 23 (eI (b:=(ly.length:Int)) (by rw [U4])),.r 26 (eI (b:=((ly.length-1:Nat):Int)) (by omega)),.x (Gz D.ltop),.r 32 (eI (b:=((ly.length-2:Nat):Int)) (by omega)),.x (Gz D.lnx),
  .i ly.length,.x (AY D.xn),.i 32,.r 41 (Dl (b:=((4294967296*xn:Nat):Int)) (by omega)),.r 44 (eI (b:=((ly.length-1:Nat):Int)) (by omega)),.i (ly.length-1),.x (AY D.x1),.r 48 (Dl (b:=(head:Int)) (by rw [o64 hb.2.2.2.1 (by omega)]; omega)),
  .r 51 (Dl (b:=(g0:Int)) htd),.r 54 (Dl (b:=(r0:Int)) htm)] rfl ?_ ?_
 ·simp only [Uz,Hp,htd,IntKind.bits]; omega
 refine ct 2 (S:=Nat) (λg=>[(0,.v (.one (.orow 0 1 (some (pre.length,x.length))))),(1,.v (lr ly)),(5,.v (.oi (ly.length:Int))),(9,.v (.one (.int .u64 (g:Int))))]) (λ_=>[.row true 151 1 (lm (pre++x++post))]) (λg=>val x / val ly<=g/\(g-1)*val ly<=val x/\g<=4294967296) rfl ?_ ?_
 ·refine lp (S:=Nat×Nat) 1 (λL1 s=>(9,.v (.one (.int .u64 (s.1:Int))))::(10,.v (.one (.int .u64 (s.2:Int))))::L1) (λ_=>[.row true 151 1 (lm (pre++x++post))]) (λs=>4294967296-s.2)
   (λs=>s.1*top+s.2=xn*2^32+x1/\val x / val ly<=s.1/\s.2<4294967296/\s.1<18446744073709551616) (g0,r0)
   ⟨by rw [<-hh,hg0,hr0,Nat.mul_comm]; exact Nat.div_add_mod _ _,hst,by dsimp only; omega,by dsimp only; omega⟩ rfl (λ_ _=>rfl) rfl λ⟨g,r⟩ ⟨j1,j2,j3,j4⟩=>?_
  dsimp only at j1 j2 j3 j4 ⊢;by_cases hge:4294967296<=g
  ·have hrd:=D.round j1 j2 (.inl hge);by_cases h2:4294967296<=r+top
   ·exact go tt [.t (by simp; omega),.t rfl,.r 73 (Dl (b:=((g-1:Nat):Int)) (by omega)),.t (by simp; omega)] rfl (by simp [Uz,Hp] <;> omega) (rc (g-1) ⟨hrd.2.1,(hrd.2.2.2 h2).1,(hrd.2.2.2 h2).2⟩ rfl)
   ·exact go tt [.t (by simp; omega),.t rfl,.r 73 (Dl (b:=((g-1:Nat):Int)) (by omega)),.f (by simp; omega)] rfl (by simp [Uz,Hp] <;> omega) (rd (g-1,r+top) (by dsimp only; omega) ⟨hrd.2.2.1,hrd.2.1,by dsimp only; omega,by dsimp only; omega⟩ rfl)
  ·have hgn:=XT (x:=g) (y:=nx) (by omega) hb.2.1;by_cases hc:r*2^32+x2<g*nx
   ·have hrd:=D.round j1 j2 (.inr hc);have e1:(g:Int)*(nx:Int)=((g*nx:Nat):Int):=by push_cast; rfl
    obtain ⟨m,hm⟩:=nmE (g*nx);rw [<-hm] at e1 hgn hc;by_cases h2:4294967296<=r+top
    ·exact go tt [.f (by simp; omega),.r 60 (Dl (b:=(m:Int)) e1),.i 32,.r 62 (Dl (b:=((4294967296*r:Nat):Int)) (by omega)),.r 65 (eI (b:=((ly.length-2:Nat):Int)) (by omega)),.i (ly.length-2),.x (AY D.x2),.r 69 (Dl (b:=((4294967296*r+x2:Nat):Int)) (o64 hb.2.2.2.2 (by omega))),.t (by simp; omega),.r 73 (Dl (b:=((g-1:Nat):Int)) (by omega)),.t (by simp; omega)] rfl (by simp only [Uz,Hp,e1,IntKind.bits]; omega) (rc (g-1) ⟨hrd.2.1,(hrd.2.2.2 h2).1,(hrd.2.2.2 h2).2⟩ rfl)
    ·exact go tt [.f (by simp; omega),.r 60 (Dl (b:=(m:Int)) e1),.i 32,.r 62 (Dl (b:=((4294967296*r:Nat):Int)) (by omega)),.r 65 (eI (b:=((ly.length-2:Nat):Int)) (by omega)),.i (ly.length-2),.x (AY D.x2),.r 69 (Dl (b:=((4294967296*r+x2:Nat):Int)) (o64 hb.2.2.2.2 (by omega))),.t (by simp; omega),.r 73 (Dl (b:=((g-1:Nat):Int)) (by omega)),.f (by simp; omega)] rfl (by simp only [Uz,Hp,e1,IntKind.bits]; omega) (rd (g-1,r+top) (by dsimp only; omega) ⟨hrd.2.2.1,hrd.2.1,by dsimp only; omega,by dsimp only; omega⟩ rfl)
   ·have hf:=D.fin j1 (by omega) (by omega);have e1:(g:Int)*(nx:Int)=((g*nx:Nat):Int):=by push_cast; rfl
    obtain ⟨m,hm⟩:=nmE (g*nx);rw [<-hm] at e1 hgn hc;exact go tt [.f (by simp; omega),.r 60 (Dl (b:=(m:Int)) e1),.i 32,.r 62 (Dl (b:=((4294967296*r:Nat):Int)) (by omega)),.r 65 (eI (b:=((ly.length-2:Nat):Int)) (by omega)),.i (ly.length-2),.x (AY D.x2),.r 69 (Dl (b:=((4294967296*r+x2:Nat):Int)) (o64 hb.2.2.2.2 (by omega))),.f (by simp; omega)] rfl (by simp only [Uz,Hp,e1,IntKind.bits]; omega) (rc g ⟨j2,hf,by omega⟩ rfl)
 ·intro g ⟨q1,q2,q3⟩;refine Ub [.r 80 (eI (b:=(ly.length:Int)) (by rw [U4]))] rfl ?_;refine lp (S:=Nat×Um×Nat×Nat) 1 (λL1 s=>(81,.v (.oi (s.1:Int)))::(11,.v (.one (.int .u64 (s.2.2.1:Int))))::(12,.v (.one (.int .u64 (s.2.2.2:Int))))::L1) (λs=>[.row true 151 1 (lm (pre++s.2.1++post))]) (λs=>ly.length-s.1)
   (λs=>s.1<=ly.length/\s.2.1.length=ly.length+1/\Sm s.2.1/\s.2.2.2<=1/\s.2.2.1<4294967296/\val (s.2.1.take s.1)+g*val (ly.take s.1)=val (x.take s.1)+(s.2.2.1+s.2.2.2)*4294967296^s.1/\s.2.1.drop s.1=x.drop s.1) (0,x,0,0)
   ⟨Qh _,hxl,D.xb,Qh _,by simp,by simp [val],rfl⟩ rfl (λ_ _=>rfl) rfl λ⟨i,o,cy,bw⟩ ⟨j1,j2,j3,j4,j5,j6,j7⟩=>?_
  dsimp only at j1 j2 j3 j4 j5 j6 j7 ⊢;by_cases hi:i<ly.length
  ·obtain ⟨w1,hw1⟩:=gxE (l:=ly) (i:=i) hi;obtain ⟨u,hu⟩:=gxE (l:=x) (i:=i) (by omega);have wb:=D.lb w1 (Qa hw1);have ub:=D.xb u (Qa hu);have hou:=(UJ j7).trans hu;have hgw:g*w1<=18446744069414584320:=by
    have:=Zf q3 (show w1<=4294967295 by omega);omega
   obtain ⟨s,hs⟩:=nmE (((u+18446744073709551616-(g*w1+cy) % 4294967296) % 18446744073709551616+18446744073709551616-bw) % 18446744073709551616);have hstep:=jH (o:=o) (by omega) hu hw1 ub j4 j6 rfl hs;have e1:(g:Int)*(w1:Int)=((g*w1:Nat):Int):=by push_cast; rfl
   obtain ⟨m,hm⟩:=nmE (g*w1);rw [<-hm] at e1 hgw hs hstep;obtain ⟨p,hp⟩:=nmE (m+cy);rw [<-hp] at hs hstep;refine go tt [.t (by simp; omega),.x (Gz hw1),.r 89 (Dl (b:=(m:Int)) e1),.r 91 (Dl (b:=(p:Int)) (by omega)),.i 32,.r 93 (Dl (b:=((p / 2^32:Nat):Int)) (by simp)),.i i,.x (AY hou),.w 1,.r 100 (L9 (b:=((p % 4294967296:Nat):Int)) (by rw [zX]; omega)),.w 1,.r 102 (Dl (b:=(((u+18446744073709551616-p % 4294967296) % 18446744073709551616:Nat):Int)) (by rw [w64]; omega)),.w 0,.r 104 (Dl (b:=(s:Int)) (by rw [w64]; omega)),
    .w 0,.r 108 (L9 (b:=((s % 4294967296:Nat):Int)) (by rw [zX]; omega)),.i 63,.r 110 (Dl (b:=((s / 2^63:Nat):Int)) (by simp)),.i i] rfl (by simp only [Uz,Hp,e1,IntKind.bits,U4,Qy]; omega) ?_
   rw [Qka (by omega)];exact rd (i+1,o.set i (s % 4294967296),p / 2^32,s / 2^63) (by dsimp only; omega) ⟨hi,by simp [j2],Bb j3 _ _ (by omega),hstep.2,by dsimp only; omega,hstep.1,IJ j7⟩ rfl
  ·obtain rfl:i=ly.length:=by omega
   have hon:=(UJ j7).trans D.xn;rw [Qn (l:=ly) (Ql _)] at j6;obtain ⟨s,hs⟩:=nmE (((xn+18446744073709551616-cy) % 18446744073709551616+18446744073709551616-bw) % 18446744073709551616);obtain ⟨oa,hoa⟩:=nmE (o.set ly.length (s % 4294967296));have oal:oa.length=ly.length+1:=by rw [hoa,Jr]; exact j2
   have oab:Sm oa:=hoa ▸ Bb j3 _ _ (by omega);by_cases EH:s / 2^63=0
   ·have hf:=D.fin0 j2 j5 j4 q1 j6 hs EH;refine go tt [.f (by simp),.i ly.length,.x (AY hon),.w 1,.r 119 (Dl (b:=(((xn+18446744073709551616-cy) % 18446744073709551616:Nat):Int)) (by rw [w64]; omega)),.w 0,.r 121 (Dl (b:=(s:Int)) (by rw [w64]; omega)),.w 0,.r 125 (L9 (b:=((s % 4294967296:Nat):Int)) (by rw [zX]; omega)),.i ly.length,.i 63,.r 128 (Dl (b:=((s / 2^63:Nat):Int)) (by simp)),.t (by simp; omega),.w 0,.r 131 (L9 (b:=((val x / val ly:Nat):Int)) (by rw [zX]; omega))] rfl (by simp only [Uz,Hp,IntKind.bits,U4,Qy]; omega) ?_;rw [Qka (by omega),<-pK (l:=o.set ly.length (s % 4294967296)) (k:=x.length) (hoa ▸ oab) (by rw [<-hoa,oal,hxl]) hf.2];exact Uf [] [0] [] rfl
   ·have hf:=D.fin1 j2 j3 j5 j4 q2 j6 hs EH;rw [<-hoa] at hf;obtain ⟨v1,hv1⟩:=gxE (l:=oa) (i:=ly.length) (by omega);refine go tt [.f (by simp),.i ly.length,.x (AY hon),.w 1,.r 119 (Dl (b:=(((xn+18446744073709551616-cy) % 18446744073709551616:Nat):Int)) (by rw [w64]; omega)),.w 0,.r 121 (Dl (b:=(s:Int)) (by rw [w64]; omega)),.w 0,.r 125 (L9 (b:=((s % 4294967296:Nat):Int)) (by rw [zX]; omega)),.i ly.length,.i 63,.r 128 (Dl (b:=((s / 2^63:Nat):Int)) (by simp)),.f (by simp; omega),.r 133 (eI (b:=(ly.length:Int)) (by rw [U4]))] rfl (by simp only [Uz,Hp,IntKind.bits,U4,Qy]; omega) ?_;rw [Qka (by omega),<-hoa];refine lp (S:=Nat×Um×Nat) 1 (λL1 s=>(134,.v (.oi (s.1:Int)))::(18,.v (.one (.int .u64 (s.2.2:Int))))::L1) (λs=>[.row true 151 1 (lm (pre++s.2.1++post))]) (λs=>ly.length-s.1)
     (λs=>s.1<=ly.length/\s.2.1.length=ly.length+1/\Sm s.2.1/\s.2.2<=1/\val (s.2.1.take s.1)+s.2.2*4294967296^s.1=val (oa.take s.1)+val (ly.take s.1)/\s.2.1.drop s.1=oa.drop s.1) (0,oa,0)
     ⟨Qh _,oal,oab,Qh _,by simp [val],rfl⟩ rfl (λ_ _=>rfl) rfl λ⟨j,o2,bk⟩ ⟨r1,r2,r3,r4,r5,r6⟩=>?_
    dsimp only at r1 r2 r3 r4 r5 r6 ⊢;by_cases hj:j<ly.length
    ·obtain ⟨w1,hw1⟩:=gxE (l:=ly) (i:=j) hj;obtain ⟨u,hu⟩:=gxE (l:=oa) (i:=j) (by omega);have wb:=D.lb w1 (Qa hw1);have ub:=oab u (Qa hu);have hou:=(UJ r6).trans hu;obtain ⟨m,hm⟩:=nmE (u+bk+w1);have hstep:=vR (o:=o2) (by omega) hu (.inl hw1) r5 hm;refine go tt [.t (by simp; omega),.x (Gz hw1),.i j,.x (AY hou),.r 148 (Dl (b:=(m:Int)) (by omega)),.w 0,.r 152 (L9 (b:=((m % 4294967296:Nat):Int)) (by rw [zX]; omega)),.i 32,.r 154 (Dl (b:=((m / 4294967296:Nat):Int)) (by simp)),.i j] rfl (by simp only [Uz,Hp,IntKind.bits,U4,Qy]; omega) ?_;rw [Qka (by omega)];exact rd (j+1,o2.set j (m % 4294967296),m / 4294967296) (by dsimp only; omega) ⟨hj,by simp [r2],Bb r3 _ _ (by omega),by dsimp only; omega,hstep,IJ r6⟩ rfl
    ·obtain rfl:j=ly.length:=by omega
     have hon2:=(UJ r6).trans hv1;have vb:=oab v1 (Qa hv1);rw [Qn (l:=ly) (Ql _)] at r5;have hf2:=D.fin2 oal oab r2 r3 hv1 r4 hf.2 r5;refine go tt [.f (by simp),.i ly.length,.x (AY hon2),.w 1,.r 165 (L9 (b:=(((v1+bk) % 4294967296:Nat):Int)) (by rw [zX]; omega)),.i ly.length,.w 0,.r 168 (L9 (b:=((g % 4294967296:Nat):Int)) (by rw [zX]; omega)),.w 0,.r 169 (L9 (b:=((val x / val ly:Nat):Int)) (Qx4 hf.1 D.qlt))] rfl (by simp only [Uz,Hp,IntKind.bits,U4,Qy]; omega) ?_;rw [Qka (by omega),<-pK (l:=o2.set ly.length ((v1+bk) % 4294967296)) (k:=x.length) (Bb r3 _ _ (by omega)) (by rw [Jr,r2,hxl]) hf2];exact Uf [] [0] [] rfl
theorem Qeo {o ly:Um} {lo top nx xn x1 x2:Nat} (hlo:lo+(ly.length+1)<=o.length) (D:Dig (WF o lo ly.length) ly ly.length top nx xn x1 x2) (hn:ly.length<274877906944) :
 U5 prog 305 [.one (.orow 0 1 (some (lo,ly.length+1))),lr ly] [.row true 151 1 (lm o)] [.one (.int .u32 ((val (WF o lo ly.length) / val ly:Nat):Int))] [.row true 151 1 (lm (o.take lo++wK (ly.length+1) (val (WF o lo ly.length) % val ly)++o.drop (lo+ly.length+1)))]:=by
 have:=Qmj (pre:=o.take lo) (post:=o.drop (lo+ly.length+1)) D hn;have e1:(o.take lo).length=lo:=by rw [Qt]; omega
 have e2:=GY (o:=o) (i:=lo) (n:=ly.length) (by omega);rw [e1,e2,YL] at this;exact this
theorem vL {a b:Um} (ha:Sm a) (hb:Sm b) (h1:sz (val a)<=4294967296) (h2:sz (val b)<=4294967296) (hy:0<val b):Uh 268 [lr a,lr b] [lr (Fy (val a / val b)),lr (Fy (val a % val b)),.oi 0]:=by
 refine Fw func268 rfl ?_;obtain ⟨p,ca,np,vp,_,ep⟩:=HV ha;obtain ⟨q,cb,nq,vq,_,eq⟩:=HV hb;have hp:=Ri h1;have hq:=Ri h2;rw [<-ep] at hp;rw [<-eq] at hq;rw [<-vp,<-vq];rw [<-vp] at h1;rw [<-vq] at h2 hy;have q0:q≠[]:=λe=>by rw [e] at hy; simp [val] at hy
 have qp:0<q.length:=J1.2 q0;have c1:¬((lm q).length:Int)=0:=by rw [U4]; omega
 by_cases hlt:p.length<q.length
 ·have hv:=Ds np nq hlt;rw [V2 hv,Xs hv,G9];exact Ud [.k ca,.k cb,.f (by simpa using c1),.t (by simp [U4]; omega),.k (VD np.1 h1)] rfl rfl (by simp [Uz,Hp])
 by_cases hone:q.length=1
 ·obtain ⟨y,rfl⟩:∃ y,q=[y]:=by
   match q,hone with
   | [y],_=>exact ⟨y,rfl⟩
  have yb:=nq.1 y (.head _);have vy:val [y]=y:=by simp [val]
  rw [vy] at hy ⊢;have co:=Qww np.1 (by omega) hy yb;have sm:Sm [val p % y]:=λz hz=>by
   simp at hz; subst hz; exact Nat.lt_trans (Z5 _ hy) yb
  have cc:=VU sm;rw [show val [val p % y]=val p % y from by simp [val]] at cc;exact Ud [.k ca,.k cb,.f (by simp [lm]),.f (by simp [U4]; omega),.t (by simp [lm]),.x (Gz (l:=[y]) (i:=0) rfl),.k co,.k cc] rfl rfl (by simp [Uz,Hp])
 ·have hle:q.length<=p.length:=J5 hlt;obtain ⟨y1,hy1,hy10⟩:=nq.2 q0;have y1b:=nq.1 y1 (Qa hy1);have hszy:=bI nq hy1;have hsz1:sz y1<=32:=Ni.2 (by omega);have hsz0:0<sz y1:=Qvh (by omega);obtain ⟨s,hs⟩:=nmE (32-sz y1);have hs31:s<=31:=by omega
  have L9:(2:Nat)^32=4294967296:=by decide
  obtain ⟨x,hx⟩:=nmE (val p);obtain ⟨y,hyv⟩:=nmE (val q);have cl:=Qse y1b;rw [<-hs] at cl;have hvx:val p*2^s<4294967296^(p.length+1):=by
   have h1:=Bh p np.1;rw [Zq];exact Z6 (Xl h1 (show 0<2^s from Z3 (by decide))) (Zu _ (by rw [<-L9]; exact Zs (by decide) (by omega)))
  have hvy:val q*2^s<4294967296^q.length:=by
   have h1:=UD (val q);rw [<-L9,<-Ks];have h2:val q*2^s<2^sz (val q)*2^s:=Xl h1 (Z3 (by decide));rw [<-Xd] at h2;rw [show 32*q.length=sz (val q)+s from by omega];exact h2
  have cx:=Qfd np.1 (show sz (val p)<=4294967400 by omega) hs31 (show p.length+1<274877906944 by omega) (by omega) hvx;have cy:=Qfd nq.1 (show sz (val q)<=4294967400 by omega) hs31 (show q.length<274877906944 by omega) qp hvy;obtain ⟨hXl,hXb,hXv⟩:=xY (k:=p.length+1) (v:=val p*2^s);obtain ⟨hYl,hYb,hYv⟩:=xY (k:=q.length) (v:=val q*2^s);have hXv:=hXv hvx;have hYv:=hYv hvy;obtain ⟨X,hX⟩:=nmE (wK (p.length+1) (val p*2^s));obtain ⟨Y,hY⟩:=nmE (wK q.length (val q*2^s));rw [<-hX] at hXl hXb hXv cx;rw [<-hY] at hYl hYb hYv cy;have hyB:4294967296^(q.length-1)<=val q:=UI nq q0;have hR:=nN hXv hYv hXl hXb hYl hYb (show 2<=q.length by omega) (Bh p np.1) hyB hle;refine go tt [.k ca,.k cb,.f (by simpa using c1),.f (by simp [U4]; omega),.f (by simp [U4]; omega),.r 49 (eI (b:=((q.length-1:Nat):Int)) (by rw [U4]; omega)),.x (Gz hy1),.k cl,.r 57 (eI (b:=((p.length+1:Nat):Int)) (by rw [U4]; omega)),.c [0] cx,.r 62 (eI (b:=(q.length:Int)) (by rw [U4])),.c [1] cy,.r 65 (eI (b:=(q.length:Int)) (by rw [U4,hYl])),.r 70 (eI (b:=((p.length-q.length+1:Nat):Int)) (by rw [U4]; omega)),.i (p.length-q.length+1),.i (p.length-q.length+1),.r 73 (eI (b:=((p.length-q.length+1:Nat):Int)) (by simp))] rfl ?_ ?_
  ·simp only [Uz,Hp,IntKind.bits,U4];omega
  ·rw [KI];refine pb 1 rfl rfl ?_;refine lp (S:=Int×Um×Um) 3 (λL1 s=>(13,.v (.oi s.1))::L1) (λs=>[.row false 151 1 (lm s.2.2),.gone,.row false 151 1 (lm s.2.1)]) (λs=>(s.1+1).toNat)
    (λs=>-1<=s.1/\s.1<p.length-q.length+1/\s.2.1.length=p.length-q.length+1/\Sm s.2.1/\Rest s.2.2 Y p.length q.length (s.1+1).toNat/\val (s.2.1.drop (s.1+1).toNat)*4294967296^(s.1+1).toNat*val Y+val s.2.2=val X) (((p.length-q.length+1:Nat):Int)-1,List.replicate (p.length-q.length+1) 0,X)
    ⟨by dsimp only; omega,by dsimp only; omega,by simp,λx hx=>by rw [List.eq_of_mem_replicate hx]; decide,by simpa using hR,by simp [val]⟩ rfl (λ_ _=>rfl) rfl λ⟨i,oq,ox⟩ ⟨j1,j2,j3,j4,j5,j6⟩=>?_
   dsimp only at j1 j2 j3 j4 j5 j6 ⊢;rcases K9 i 0 with hi | hi
   ·obtain rfl:i=-1:=by omega
    simp only [show ((-1:Int)+1).toNat=0 from rfl,Xv,Vd,Ys] at j5 j6;have hlt':val ox<val q*2^s:=by have:=j5.lt; rw [hYv] at this; simpa using this
    have hfin:=Qiw (x:=val p) (y:=val q) (s:=s) (r:=val ox) (q:=oq) hy (by rw [<-hXv,<-hYv]; exact j6) hlt';have hoxl:=j5.ol;have hox:=cQ (o:=ox) (n:=q.length) (by omega) (Nat.lt_trans hlt' hvy);have hszm:sz (val (ox.take q.length))<=4294967400:=by
     rw [hox,hfin.2];have h1:=Qjx (val p % val q) (2^s);have h2':=Tr (Yg (Z5 (val p) hy));have h3:sz (2^s)<=s+1:=Ni.2 (Nat.pow_lt_pow_right (by decide) (by omega));omega
    have cs:=Qwr (a:=ox.take q.length) (λu hu=>j5.ob u (Qo hu)) hszm hs31;rw [hox,hfin.2,Nat.mul_div_cancel _ (Z3 (by decide))] at cs;have cq:=VU j4;rw [hfin.1] at cq;exact Ud [.f (by decide),.p 2,.p 0,.k cq,.i q.length,.r 95 (v:=lr (ox.take q.length)) (by simp [lm]),.k cs] rfl rfl (by simp [Uz,Hp,U4]; omega)
   ·obtain ⟨k,rfl⟩:=Kk hi;have e:((k:Int)+1).toNat=k+1:=by omega
    rw [e] at j5 j6;obtain ⟨top,nx,xn,x1,x2,D⟩:=j5.dig;have hoxl:=j5.ol;have hm:=j5.hm;have cd:=Qeo (o:=ox) (lo:=k) (by omega) (hYl.symm ▸ D) (by omega);rw [hYl] at cd;have hwl:=GY (o:=ox) (i:=k) (n:=q.length) (by omega);have hwlt:val (WF ox k q.length) % val Y<4294967296^(q.length+1):=by
     have h3:=Bh (WF ox k q.length) D.xb;rw [hwl] at h3;exact Z4 (Nat.mod_le _ _) h3
    obtain ⟨d1,d2,d3⟩:=xY (k:=q.length+1) (v:=val (WF ox k q.length) % val Y);have hnx:=j5.next (w':=wK (q.length+1) (val (WF ox k q.length) % val Y)) (d1.trans hwl.symm) d2 (d3 hwlt) (q:=oq) (by omega) j6;have hdg:=D.qlt;refine go tt [.t (by simp),.i k,.i (k+q.length+1),.r 87 (v:=.one (.orow 0 1 (some (k,q.length+1)))) (by rw [show k+q.length+1-k=q.length+1 by omega]),.c [0] cd,.i k] rfl ?_ ?_
    ·simp only [Uz,U4]; omega
    ·rw [Cd];refine rd ((k:Int)-1,oq.set k (val (WF ox k q.length) / val Y),ox.take k++wK (q.length+1) (val (WF ox k q.length) % val Y)++ox.drop (k+q.length+1)) (by dsimp only; omega) ⟨by dsimp only; omega,by dsimp only; omega,by simp [j3],Bb j4 _ _ hdg,?_,?_⟩ rfl
     ·dsimp only; rw [show ((k:Int)-1+1).toNat=k from by omega]; exact hnx.1
     ·dsimp only; rw [show ((k:Int)-1+1).toNat=k from by omega]; exact hnx.2
def sg (z:Int):LV:=.bool (decide (z<0))
def mg (z:Int):LV:=.row (lm (Fy z.natAbs))
abbrev Hh (z:Int):Up:=[sg z,mg z]
def Gs (x y:LV) (z:Int):Prop:=∃ b l,x=.bool b/\y=.row (lm l)/\Sm l/\z=Fb b (val l)
theorem U3 (z:Int):Gs (sg z) (mg z) z:=by
 refine ⟨_,_,rfl,rfl,Lf _,?_⟩;rw [G7];unfold Fb;by_cases h:z<0 <;> simp [h] <;> omega
theorem Quq (b:Bool) (m:Nat):[LV.bool (b && decide (0<m)),LV.row (lm (Fy m))]=Hh (Fb b m):=by
 simp only [Hh,sg,mg,DU,Ro]
theorem Dn {m:Nat}:0<(Fy m).length↔0<m:=by
 rcases Q0 m with h | h
 ·subst h; rw [G9]; simp
 ·rw [En (by omega)]; simp [h]
theorem Po (b:Bool) (m:Nat):Uh 112 [lr (Fy m),.one (.bool b)] [.agg (Hh (Fb b m))]:=by
 rw [<-Quq];have e:=Dn (m:=m);cases b with
 | false=>exact Ue func112 rfl [.f rfl] rfl
 | true=>exact Ue func112 rfl [.t rfl] rfl (by simp [U4,e]) trivial
theorem Pm {b:Bool} {m:Nat} {k:Nat} (h:Fe (Fb b m)<=k):sz m<=k:=by
 unfold Fe at h; rwa [Ro] at h
theorem Bz {x y:LV} {z:Int} (hi:Gs x y z) (hs:Fe z<=4294967295):Uh 151 [.agg [x,y]] [.agg (Hh z)]:=by
 obtain ⟨b,l,rfl,rfl,hl,rfl⟩:=hi;exact Ue func151 rfl [.k (VD hl (Qc (Pm hs) (by decide))),.k (Po _ _)] rfl
theorem UG (b:Bool) (m:Nat):Fb (!b) m=-(Fb b m):=by unfold Fb; cases b <;> simp
theorem NN {x y:LV} {z:Int} (hi:Gs x y z) (hs:Fe z<=4294967295):Uh 165 [.agg [x,y]] [.agg (Hh (-z))]:=by
 obtain ⟨b,l,rfl,rfl,hl,rfl⟩:=hi;rw [<-UG];exact Ue func165 rfl [.k (VD hl (Qc (Pm hs) (by decide))),.k (Po _ _)] rfl
theorem Nq {x y x' y':LV} {z z':Int} (hi:Gs x y z) (hi':Gs x' y' z') (hs:Fe z<=4294967295) (hs':Fe z'<=4294967295):Uh 48 [.agg [x,y],.agg [x',y']] [.agg (Hh (z*z'))]:=by
 obtain ⟨b,l,rfl,rfl,hl,rfl⟩:=hi;obtain ⟨b',l',rfl,rfl,hl',rfl⟩:=hi';have e:Fb b (val l)*Fb b' (val l')=Fb (b != b') (val l*val l'):=by
  unfold Fb; cases b <;> cases b' <;> simp [Int.neg_mul,Int.mul_neg]
 rw [e];exact Ue func48 rfl [.k (Qwm hl hl' (Qc (Pm hs) (by decide)) (Qc (Pm hs') (by decide))),.k (Po _ _)] rfl
theorem ND {a b:Um} (ha:Sm a) (hb:Sm b) (h1:sz (val a)<=4294967296) (h:val b<=val a):Uh 308 [lr a,lr b] [lr (Fy (val a-val b)),.one (.bool true)]:=by
 have:=Qql ha hb h1; rwa [if_pos h] at this
theorem Qef {a b:Um} (ha:Sm a) (hb:Sm b) (h1:sz (val a)<=4294967296) (h:val a<val b):Uh 308 [lr a,lr b] [lr [],.one (.bool false)]:=by
 have:=Qql ha hb h1; rwa [if_neg (by omega)] at this
theorem VE {x y x' y':LV} {z z':Int} (hi:Gs x y z) (hi':Gs x' y' z') (hs:Fe z<=4294967295) (hs':Fe z'<=4294967295):Uh 300 [.agg [x,y],.agg [x',y']] [.agg (Hh (z+z'))]:=by
 obtain ⟨b,l,rfl,rfl,hl,rfl⟩:=hi;obtain ⟨b',l',rfl,rfl,hl',rfl⟩:=hi';have s1:=Qc (Pm hs) (show 4294967295<=4294967296 by decide);have s2:=Qc (Pm hs') (show 4294967295<=4294967296 by decide);by_cases hb:b=b'
 ·subst hb;have e:Fb b (val l)+Fb b (val l')=Fb b (val l+val l'):=by unfold Fb; cases b <;> simp <;> omega
  rw [e];exact Ue func300 rfl [.t (by simp),.k (Qqg hl hl' s1 s2),.k (Po _ _)] rfl
 ·by_cases hle:val l'<=val l
  ·have e:Fb b (val l)+Fb b' (val l')=Fb b (val l-val l'):=by unfold Fb; cases b <;> cases b' <;> simp at hb ⊢ <;> omega
   rw [e];exact Ue func300 rfl [.f (by simpa using hb),.k (ND hl hl' s1 hle),.t rfl,.k (Po _ _)] rfl
  ·have e:Fb b (val l)+Fb b' (val l')=Fb b' (val l'-val l):=by unfold Fb; cases b <;> cases b' <;> simp at hb ⊢ <;> omega
   rw [e];exact Ue func300 rfl [.f (by simpa using hb),.k (Qef hl hl' s1 (by omega)),.f rfl,.k (ND hl' hl s2 (by omega)),.k (Po _ _)] rfl
theorem Qen {x y x' y':LV} {z z':Int} (hi:Gs x y z) (hi':Gs x' y' z') (hs:Fe z<=4294967295) (hs':Fe z'<=4294967295):Uh 284 [.agg [x,y],.agg [x',y']] [.agg (Hh (z-z'))]:=by
 obtain ⟨b',l',rfl,rfl,hl',rfl⟩:=hi';have hn:Gs (.bool (!b')) (.row (lm l')) (-(Fb b' (val l'))):=⟨_,_,rfl,rfl,hl',(UG _ _).symm⟩;rw [Int.sub_eq_add_neg];have hi2:=hi;obtain ⟨b,l,rfl,rfl,hl,_⟩:=hi;exact Ue func284 rfl [.k (VE hi2 hn hs (by rw [Hx]; exact hs'))] rfl
theorem Qe7 {x y:LV} {z:Int} (hi:Gs x y z) (hs:Fe z<=4294967295):Uh 212 [.agg [x,y]] [.oi (Int.sign z)]:=by
 obtain ⟨b,l,rfl,rfl,hl,rfl⟩:=hi;have s1:=Qc (Pm hs) (show 4294967295<=4294967296 by decide);have cb:=sU hl s1;by_cases h0:val l=0
 ·have e:Fb b (val l)=0:=by unfold Fb; rw [h0]; cases b <;> simp
  rw [e];exact Ue func212 rfl [.k cb,.t (by simp [LO,h0])] rfl
 ·have EH:sz (val l)≠0:=λh=>h0 (LO.1 h)
  cases b
  ·have e:(Fb false (val l)).sign=1:=Int.sign_eq_one_of_pos (by unfold Fb; simp; omega);rw [e];exact Ue func212 rfl [.k cb,.f (by simp; omega),.f rfl] rfl
  ·have e:(Fb true (val l)).sign=-1:=Int.sign_eq_neg_one_of_neg (by unfold Fb; simp; omega);rw [e];exact Ue func212 rfl [.k cb,.f (by simp; omega),.t rfl] rfl
theorem GO {x y x' y':LV} {z z':Int} (hi:Gs x y z) (hi':Gs x' y' z') (hs:Fe z<=4294967295) (hs':Fe z'<=4294967295):Uh 142 [.agg [x,y],.agg [x',y']] [.oi (B7 z z')]:=by
 have c1:=Qe7 hi hs;have c2:=Qe7 hi' hs';obtain ⟨b,l,rfl,rfl,hl,hz⟩:=hi;obtain ⟨b',l',rfl,rfl,hl',hz'⟩:=hi';have k1:=Ao z;have k2:=Ao z';have zl:z.natAbs=val l:=by rw [hz,Ro]
 have zl':z'.natAbs=val l':=by rw [hz',Ro]
 by_cases h1:z.sign<z'.sign
 ·have e:B7 z z'=-1:=by unfold B7; rw [if_pos (by omega)]
  rw [e];exact Ue func142 rfl [.k c1,.k c2,.t (by simpa using h1)] rfl
 ·by_cases h2:z'.sign<z.sign
  ·have e:B7 z z'=1:=by unfold B7; rw [if_neg (by omega),if_pos (by omega)]
   rw [e];exact Ue func142 rfl [.k c1,.k c2,.f (by simpa using h1),.t (by simpa using h2)] rfl
  ·by_cases h3:z.sign<0
   ·have e:ZJ (val l') (val l)=B7 z z':=by unfold B7 ZJ; rw [<-zl,<-zl']; split <;> split <;> (try split) <;> (try split) <;> omega
    have cc:=Qdk hl' hl;rw [e] at cc;exact Ue func142 rfl [.k c1,.k c2,.f (by simpa using h1),.f (by simpa using h2),.t (by simpa using h3),.k cc] rfl
   ·have e:ZJ (val l) (val l')=B7 z z':=by unfold B7 ZJ; rw [<-zl,<-zl']; split <;> split <;> (try split) <;> (try split) <;> omega
    have cc:=Qdk hl hl';rw [e] at cc;exact Ue func142 rfl [.k c1,.k c2,.f (by simpa using h1),.f (by simpa using h2),.f (by simpa using h3),.k cc] rfl
theorem Lj {z:Int}:Uh 152 [.agg (Hh z)] [.one (.bool (decide (z=0)))] :=
 Ue func152 rfl [] rfl (by simp only [U4]; congr 3; have:=Dn (m:=z.natAbs); rw [decide_eq_decide]; omega) trivial
theorem zP {z:Int} (h1:-9223372036854775808<=z/\z<=9223372036854775807):Uh 153 [.oi z] [.agg (Hh z)]:=by
 obtain ⟨m,hm⟩:=nmE (z.natAbs);have sm:Sm [m % 4294967296,m / 4294967296]:=λx hx=>by
  simp at hx; rcases hx with rfl | rfl <;> omega
 have hv:val [m % 4294967296,m / 4294967296]=m:=by simp only [val]; omega
 have cn:=VD sm (by rw [hv]; exact Qc (Ni.2 (show m<2^64 by omega)) (show 64<=4294967296 by decide));rw [hv] at cn;by_cases hz:z<0
 ·have e:Fb true m=z:=by unfold Fb; simp; omega
  have cm:=Po true m;rw [e] at cm;exact Ue func153 rfl [.w 0,.r 5 (Dl (b:=((18446744073709551616-m:Nat):Int)) (by rw [w64]; omega)),.t (by simpa using hz),.w 0,.r 9 (Dl (b:=(m:Int)) (by rw [w64]; omega)),.w 0,.r 11 (L9 (b:=((m % 4294967296:Nat):Int)) (by rw [zX]; omega)),.i 32,.r 13 (Dl (b:=((m / 4294967296:Nat):Int)) (by simp)),.k cn,.r 18 (v:=.one (.bool true)) (by simp [hz]),.k cm] rfl rfl (by simp [Uz,IntKind.bits] <;> omega)
 ·have e:Fb false m=z:=by unfold Fb; simp; omega
  have cm:=Po false m;rw [e] at cm;exact Ue func153 rfl [.w 0,.r 5 (Dl (b:=(m:Int)) (by rw [w64]; omega)),.f (by simpa using hz),.w 0,.r 11 (L9 (b:=((m % 4294967296:Nat):Int)) (by rw [zX]; omega)),.i 32,.r 13 (Dl (b:=((m / 4294967296:Nat):Int)) (by simp)),.k cn,.r 18 (v:=.one (.bool false)) (by simp; omega),.k cm] rfl rfl (by simp [Uz,IntKind.bits] <;> omega)
theorem sH {m n:Nat} (h1:sz m<=4294967296) (h2:sz n<=4294967296) (hn:0<n):Uh 268 [lr (Fy m),lr (Fy n)] [lr (Fy (m / n)),lr (Fy (m % n)),.oi 0]:=by
 have:=vL (Lf m) (Lf n) (by rw [G7]; exact h1) (by rw [G7]; exact h2) (by rw [G7]; exact hn);rwa [G7,G7] at this
theorem Qak {x y x' y':LV} {z z':Int} (hi:Gs x y z) (hi':Gs x' y' z') (hs:Fe z<=4294967295) (hs':Fe z'<=4294967295) (hz:z'≠0):Uh 269 [.agg [x,y],.agg [x',y']] [.agg (Hh (z / z')),.agg (Hh (z % z')),.oi 0]:=by
 obtain ⟨b,l,rfl,rfl,hl,hz1⟩:=hi;obtain ⟨b',l',rfl,rfl,hl',hz2⟩:=hi';have zl:z.natAbs=val l:=by rw [hz1,Ro]
 have zl':z'.natAbs=val l':=by rw [hz2,Ro]
 have s1:sz (val l)<=4294967296:=Qc (Pm (hz1 ▸ hs)) (by decide);have s2:sz (val l')<=4294967296:=Qc (Pm (hz2 ▸ hs')) (by decide);have hp:0<z'.natAbs:=by omega
 have e1:z=if b=true then -(z.natAbs:Int) else (z.natAbs:Int):=by rw [zl]; exact hz1
 have e2:z'=if b'=true then -(z'.natAbs:Int) else (z'.natAbs:Int):=by rw [zl']; exact hz2
 have cd:=vL hl hl' s1 s2 (by omega);rw [<-zl,<-zl'] at cd;have s0:sz (z.natAbs % z'.natAbs)<=4294967296:=Qc (Tr (Yg (Z5 _ hp))) (by rw [zl']; exact s2);cases b with
 |
  false =>
  obtain ⟨d1,d2⟩:=BN e2 hp e1;rw [d1,d2];exact Ue func269 rfl [.k cd,.f rfl,.k (Po _ _),.k (Po _ _),.f rfl,.f rfl] rfl
 |
  true =>
  by_cases h0:z.natAbs % z'.natAbs=0
  ·obtain ⟨d1,d2⟩:=SO e2 hp e1 h0;rw [d1,d2];exact Ue func269 rfl [.k cd,.f rfl,.k (Po _ _),.k (Po _ _),.t rfl,.f (by rw [h0,G9]; rfl)] rfl
  ·obtain ⟨d1,d2⟩:=BM e2 hp e1 (by omega);rw [d1,d2];have ca:=Qqg (a:=Fy (z.natAbs / z'.natAbs)) (b:=[1]) (Lf _) (λx hx=>by simp at hx; subst hx; decide) (by rw [G7]; exact Qc (Tr (J0 _ _)) (by rw [zl]; exact s1)) (by decide);have cs:=ND (a:=l') (b:=Fy (z.natAbs % z'.natAbs)) hl' (Lf _) s2 (by rw [G7,<-zl']; exact Yg (Z5 _ hp));rw [G7] at ca cs;rw [<-zl'] at cs;have hl0:=Dn (m:=z.natAbs % z'.natAbs);exact Ue func269 rfl [.k cd,.f rfl,.k (Po _ _),.k (Po _ _),.t rfl,.t (by simp [U4]; omega),.k ca,.k cs,.k (Po _ _),.k (Po _ _)] rfl
theorem Aw {x y x' y':LV} {z z':Int} (hi:Gs x y z) (hi':Gs x' y' z') (hs:Fe z<=4294967295) (hs':Fe z'<=4294967295) (hz:z'≠0) (hd:z % z'=0):Uh 216 [.agg [x,y],.agg [x',y']] [.agg (Hh (z / z')),.oi 0]:=by
 have cd:=Qak hi hi' hs hs' hz;obtain ⟨b,l,rfl,rfl,_⟩:=hi;obtain ⟨b',l',rfl,rfl,_⟩:=hi';exact Ue func216 rfl [.k cd,.f rfl,.f (by rw [hd]; simp [U4,G9])] rfl
end Orr
namespace Orr
open Go
abbrev Qzx (l:Um):LV:=.row (lm l)
def Ru (l:Uk):Nat:=l.foldl (λg z=>Nat.gcd g z.natAbs) 0
theorem Qbc {l:Uk} {i:Nat} {z:Int} (h:l[i]? = some z):Ru (l.take (i+1))=Nat.gcd (Ru (l.take i)) z.natAbs:=by
 unfold Ru;rw [Y5,h];simp [Vr]
theorem Qno (g x:Nat):Nat.gcd x (g % x)=Nat.gcd g x:=by
 rw [Nat.gcd_comm g x,Nat.gcd_rec x g,Nat.gcd_comm]
theorem ED (l:Uk):l.foldl (λg z=>Nat.gcd g z.natAbs) 1=1:=by
 induction l with
 | nil=>rfl
 | cons z l ih=>simp [ih]
theorem Qgo {l:Uk} {i:Nat} (h:Ru (l.take i)=1):Ru l=1:=by
 have e:l=l.take i++l.drop i:=(Zi i l).symm;unfold Ru at h ⊢;rw [e,Vr,h,ED]
def trim:Uk->Uk
 | []=>[]
 |
  x::l=>match trim l with
  | []=>if x=0 then [] else [x]
  | y::k=>x::y::k
theorem WJ:∀ {l:Uk},(∀ x∈l,x=0)->trim l=[]
 | [],_=>rfl
 |
  x::l,h=>by
  have ih:=WJ (l:=l) (λy hy=>h y (Qg _ hy));simp [trim,ih,h x (Qx ..)]
theorem qO:∀ {l:Uk} {m:Nat} {y:Int},(∀ j x,m<j->l[j]? = some x->x=0)->l[m]? = some y->y≠0->trim l=l.take (m+1)
 | [],m,y,_,h,_=>by simp at h
 |
  x::l,0,y,h1,h2,h3=>by
  have h0:trim l=[]:=WJ λz hz=>by
   obtain ⟨j,hj⟩:=Zh.1 hz;exact h1 (j+1) z (by omega) (by simpa using hj)
  simp at h2;subst h2;simp [trim,h0,h3]
 |
  x::l,m+1,y,h1,h2,h3=>by
  have ih:=qO (l:=l) (m:=m) (y:=y) (λj z hj hz=>h1 (j+1) z (by omega) (by simpa using hz)) (by simpa using h2) h3;cases hl:l with
  | nil=>subst hl; simp at h2
  |
   cons u k =>
   subst hl;rw [Ve] at ih;simp only [trim] at ih ⊢;rw [ih];simp
def U9 (l:Uk):Prop:=trim l=l
theorem Tl:∀ (l:Uk),U9 (trim l)
 | []=>rfl
 |
  x::l=>by
  have ih:=Tl l;unfold U9 at ih ⊢;cases h:trim l with
  | nil=>by_cases hx:x=0 <;> simp [trim,h,hx]
  |
   cons y k =>
   rw [h] at ih;simp only [trim,h] at ih ⊢;rw [ih]
theorem rC {l:Uk} {m:Nat} (hm:m<=l.length) (h1:∀ j x,m<=j->l[j]? = some x->x=0) (h2:0<m->∃ y,l[m-1]? = some y/\y≠0):trim l=l.take m:=by
 rcases Q0 m with h0 | h0
 ·subst h0;rw [WJ λz hz=>?_]; rfl;obtain ⟨j,hj⟩:=Zh.1 hz;exact h1 j z (by omega) hj
 ·obtain ⟨y,hy,hy0⟩:=h2 h0;have:=qO (l:=l) (m:=m-1) (y:=y) (λj x hj hx=>h1 j x (by omega) hx) hy hy0;rwa [show m-1+1=m from by omega] at this
def IsInts:Uq->Uk->Prop
 | [],[]=>True
 | x::l,z::p=>(∃ a b,x=[a,b]/\Gs a b z)/\IsInts l p
 | _,_=>False
theorem IsInts.len:∀ {l:Uq} {p:Uk},IsInts l p->l.length=p.length
 | [],[],_=>rfl
 | x::l,z::p,h=>by simp [h.2.len]
 | [],_::_,h=>h.elim
 | _::_,[],h=>h.elim
theorem IsInts.get:∀ {l:Uq} {p:Uk},IsInts l p->∀ {i:Nat} {z:Int},p[i]? = some z->∃ a b,l[i]? = some [a,b]/\Gs a b z
 | [],[],_,i,z,h=>by simp at h
 |
  x::l,y::p,h,0,z,hz=>by
  simp at hz; subst hz;obtain ⟨a,b,rfl,hi⟩:=h.1;exact ⟨a,b,rfl,hi⟩
 | x::l,y::p,h,i+1,z,hz=>by simpa using h.2.get (i:=i) (by simpa using hz)
 | [],_::_,h,_,_,_=>h.elim
 | _::_,[],h,_,_,_=>h.elim
theorem Gl:∀ (p:Uk),IsInts (p.map Hh) p
 | []=>trivial
 | z::p=>⟨⟨_,_,rfl,U3 z⟩,Gl p⟩
theorem IsInts.append:∀ {l l':Uq} {p p':Uk},IsInts l p->IsInts l' p'->IsInts (l++l') (p++p')
 | [],_,[],_,_,h=>h
 | x::l,_,z::p,_,h,h'=>⟨h.1,h.2.append h'⟩
 | [],_,_::_,_,h,_=>h.elim
 | _::_,_,[],_,h,_=>h.elim
def pl (p:Uk):LV:=.row (p.map Hh)
def ids (l:Uk):LV:=.row (l.map λ(x:Int)=>[.int .i64 x])
theorem QW:Gs (.bool false) (.row []) 0:=⟨false,[],rfl,rfl,(λx hx=>by cases hx),rfl⟩
theorem Qpa:sg 0=.bool false:=rfl
theorem Qbl {z:Int}:(Fy z.natAbs).length=0↔z=0:=by
 constructor
 ·intro h;have h0:=Qj h;have:=(UO (Da z.natAbs)).2 h0;rw [G7] at this; omega
 ·rintro rfl; rw [show (0:Int).natAbs=0 from rfl,G9]; rfl
theorem Gt {α β:Type} {f:α->β} {l:List α} {i:Nat} {x:α} (h:l[i]? = some x):(l.map f)[i]? = some (f x):=by rw [Zb,h]; rfl
theorem Qq7 {α:Type} {f:α->Up} {sz:Nat} (l:List α) (h:∀ x,(f x).length=sz):∀ c∈l.map f,c.length=sz:=λc hc=>by
 obtain ⟨x,_,rfl⟩:=Q8.1 hc;exact h x
theorem Qn0:mg 0=.row []:=by simp [mg,G9,lm]
theorem D7:Hh 0=[LV.bool false,LV.row []]:=by simp [Hh,Qpa,Qn0]
end Orr
namespace Orr
open Go Go.Proofs Tryz
set_option maxRecDepth 10000
theorem MY {p:Uk} (hs:∀ z∈p,Fe z≤4294967295):sz (Ru p)≤4294967295:=by
 have key:∀ (p:Uk) (g:Nat),sz g≤4294967295->(∀ z∈p,Fe z≤4294967295)->sz (p.foldl (λg z=>Nat.gcd g z.natAbs) g)≤4294967295:=by
  intro p
  induction p with
  | nil=>exact λg h _=>h
  |
   cons z p ih =>
   intro g h hs;refine ih _ ?_ λy hy=>hs y (.tail _ hy)
   rcases Q0 g with h0 | h0
   ·subst h0; show sz (Nat.gcd 0 z.natAbs)<=_; rw [Nat.gcd_zero_left]; exact hs z (.head _)
   ·exact Qc (Tr (Nat.gcd_le_left _ h0)) h
 exact key p 0 (by decide) hs
theorem Qds {l:Uq} {p:Uk} (hi:IsInts l p) (hs:∀ z∈p,Fe z≤4294967295):Uh 215 [.one (.row l)] [.agg (Hh ((Ru p:Nat):Int))]:=by
 refine Fw func215 rfl (ln 0 rfl rfl λhl=>?_);have hlp:=hi.len;refine Ub [.z 3,.r 3 (v:=lr (Fy (Ru (p.take 0)))) (by simp [Ru,G9,lm])] rfl ?_;refine ct 2 (S:=Unit) (λ_=>[(2,.v (.one (.ow 0 0))),(3,.v (lr (Fy (Ru p))))]) (λ_=>[.blk 36 [.bool false,.nils],.gone]) (λ_=>True) rfl ?_ ?_
 ·refine Ug (S:=Nat) 1 (λL1 i=>(12,.v (.oi i))::(3,.v (lr (Fy (Ru (p.take i)))))::L1) (λ_=>[.blk 36 [.bool false,.nils]]) (λi=>p.length-i) (λi=>i<=p.length) 0 (Qh _) rfl rfl λi hip=>?_
  by_cases h:i<p.length
  ·have hlt:i<l.length:=by omega
   obtain ⟨c,hc⟩:=gxE (l:=l) (i:=i) hlt;obtain ⟨z,hz⟩:=gxE (l:=p) (i:=i) h;obtain ⟨x,y,hc',b,r,rfl,rfl,hr,hzz⟩:=hi.get hz;rw [hc] at hc'; injection hc' with hc'; subst hc'
   have hsz:=hs z (Qa hz);have hg0:sz (Ru (p.take i))<=4294967295:=MY λy hy=>hs y (Qo hy)
   have ezr:z.natAbs=val r:=by rw [hzz,Ro]
   have cn:=VD hr (by rw [<-ezr]; exact Qc hsz (by decide));rw [<-ezr] at cn;refine Ub [.t (by simp; omega),.x hc,.k cn] rfl ?_;refine Ug (S:=Nat×Nat) 2 (λL1 s=>(3,.v (lr (Fy s.1)))::(6,.v (lr (Fy s.2)))::L1) (λ_=>[.blk 36 [.bool false,.nils],.blk 36 [.bool b,.row (lm r)]]) (λs=>s.2) (λs=>Nat.gcd s.1 s.2=Nat.gcd (Ru (p.take i)) z.natAbs/\sz s.1<=4294967295/\sz s.2<=4294967295) (Ru (p.take i),z.natAbs) ⟨rfl,hg0,hsz⟩ rfl rfl λ⟨g,u⟩ ⟨j1,j2,j3⟩=>?_
   dsimp only at j1 j2 j3 ⊢;have hul:=Dn (m:=u);by_cases hu:0<u
   ·have cd:=sH (m:=g) (n:=u) (by omega) (by omega) hu;refine Ub [.t (by simp [U4]; omega),.k cd] rfl ?_;exact rd (u,g % u) (Z5 _ hu) ⟨(Qno g u).trans j1,j3,Qc (Tr (Yg (Z5 _ hu))) j3⟩ rfl
   ·obtain rfl:u=0:=by omega
    rw [Nat.gcd_zero_right,<-Qbc hz] at j1;subst j1;by_cases h1:Ru (p.take (i+1))=1
    ·have e1:Fy (Ru (p.take (i+1)))=[1]:=by rw [h1,En (by decide)]; simp [G9]
     refine Ub [.f (by simp [G9,lm]),.t (by rw [e1]; rfl),.x (Gz (i:=0) (x:=1) (by rw [e1]; rfl)),.t rfl] rfl ?_;exact rc () trivial (by rw [h1,Qgo h1]; rfl)
    ·obtain ⟨g,hg⟩:=nmE (Ru (p.take (i+1)));rw [<-hg] at h1 j2 ⊢;by_cases h2:(Fy g).length=1
     ·obtain ⟨v,hv⟩:∃ v,Fy g=[v]:=by
       match hm:Fy g,h2 with
       | [v],_=>exact ⟨v,rfl⟩
      have hv1:v≠1:=λe=>h1 (by rw [<-G7 g,hv,e]; rfl)
      refine go tt [.f (by simp [G9,lm]),.t (by simp [U4,h2]),.x (Gz (i:=0) (x:=v) (by rw [hv]; rfl)),.f (by simp; omega)] rfl (by simp [Uz] <;> omega) ?_;exact rd (i+1) (by omega) h (by rw [<-hg]; rfl)
     ·refine go tt [.f (by simp [G9,lm]),.f (by simp [U4]; omega),.f rfl] rfl (by simp [Uz] <;> omega) ?_;exact rd (i+1) (by omega) h (by rw [<-hg]; rfl)
  ·obtain rfl:i=p.length:=by omega
   refine Ub [.f (by simp; omega)] rfl ?_;rw [Q5];exact rc () trivial rfl
 ·intro _ _;have cn:=VD (Lf (Ru p)) (by rw [G7]; exact Qc (MY hs) (by decide));rw [G7] at cn;exact Ud [.k cn,.k (Po false _)] rfl (by simp [Fb]) trivial
end Orr
namespace Orr
def Bd (s:Nat) (p:Uk):Prop:=∀ z∈p,Fe z≤s
theorem M6:Fe 0=0:=rfl
theorem Qdd {s:Nat} {p:Uk} (h:Bd s p) {i:Nat} {z:Int} (hz:p[i]? = some z):Fe z<=s:=h z (Qa hz)
theorem Fo {s:Nat} {p:Uk} (h:Bd s p) (k:Nat):Fe (p.getD k 0)<=s:=by
 rw [Qi];cases hk:p[k]? with
 | none=>rw [Kx,M6]; exact Qh _
 | some z=>exact Qdd h hk
theorem U0 {s t:Nat} {p:Uk} (h:Bd s p) (ht:s<=t):Bd t p:=λz hz=>Qc (h z hz) ht
theorem GN {s:Nat}:Bd s []:=λz hz=>by cases hz
theorem Qry {s:Nat} {n:Nat} {g:Nat->Int} (h:∀ k,k<n->Fe (g k)<=s):Bd s ((List.range n).map g):=λz hz=>by
 obtain ⟨k,hk,rfl⟩:=Q8.1 hz;exact h k (Kj.1 hk)
theorem rL:∀ (l:Uk),∀ z∈trim l,z∈l
 | [],z,h=>by cases h
 |
  x::l,z,h=>by
  have ih:=rL l;cases hl:trim l with
  |
   nil =>
   simp only [trim,hl] at h
   split at h
   ·cases h
   ·rw [Qk] at h; rw [h]; exact Qx ..
  |
   cons y k =>
   simp only [trim,hl] at h;rcases Qm.1 h with rfl | h
   ·exact Qx ..
   ·exact Qg _ (ih z (by rw [hl]; exact h))
theorem Rt (l:Uk):(trim l).length<=l.length:=by
 induction l with
 | nil=>exact Ql _
 |
  cons x l ih =>
  cases hl:trim l with
  | nil=>simp only [trim,hl]; split <;> simp
  | cons y k=>simp only [trim,hl]; rw [hl] at ih; simp at ih ⊢; exact ih
theorem Su {s:Nat} {p:Uk} (h:Bd s p):Bd s (trim p):=λz hz=>h z (rL p z hz)
theorem YC:∀ (l:Uk) (k:Nat),(trim l).getD k 0=l.getD k 0
 | [],k=>rfl
 |
  x::l,k=>by
  have ih:=YC l;cases hl:trim l with
  |
   nil =>
   rw [hl] at ih;simp only [trim,hl]
   split
   ·rename_i hx;cases k with
    | zero=>simp [hx]
    | succ k=>have:=ih k; simp at this ⊢; exact this
   ·cases k with
    | zero=>simp
    | succ k=>have:=ih k; simp at this ⊢; exact this
  |
   cons y m =>
   rw [hl] at ih;simp only [trim,hl];cases k with
   | zero=>simp
   | succ k=>have:=ih k; simp at this ⊢; exact this
def As (n:Nat) (g:Nat->Int):Uk:=trim ((List.range n).map g)
theorem Fv (n:Nat) (g:Nat->Int):U9 (As n g):=Tl _
theorem I1 (n:Nat) (g:Nat->Int):(As n g).length<=n:=Qc (Rt _) (by simp)
theorem Sy (n:Nat) (g:Nat->Int) (k:Nat):(As n g).getD k 0=if k<n then g k else 0:=by
 unfold As;rw [YC,Qi,Zb]
 split
 ·rename_i h; rw [List.getElem?_range h]; rfl
 ·rename_i h; rw [List.getElem?_eq_none (by simpa using h)]; rfl
theorem JS {s n:Nat} {g:Nat->Int} (h:∀ k,k<n->Fe (g k)<=s):Bd s (As n g):=Su (Qry h)
def ZK (p q:Uk):Uk:=As (max p.length q.length) λk=>p.getD k 0+q.getD k 0
def Mx (p q:Uk):Uk:=As (max p.length q.length) λk=>p.getD k 0-q.getD k 0
def Mi (p:Uk):Uk:=As p.length λk=>-(p.getD k 0)
def Ft (p:Uk) (c:Int):Uk:=As p.length λk=>p.getD k 0*c
def Gv (p:Uk):Uk:=As (p.length-1) λk=>p.getD (k+1) 0*((k+1:Nat):Int)
theorem WR {s t:Nat} {p q:Uk} (h:Bd s p) (h':Bd t q):Bd (max s t+1) (ZK p q):=JS λk _=>Qc (YJ _ _) (by have:=Fo h k; have:=Fo h' k; omega)
theorem De {s t:Nat} {p q:Uk} (h:Bd s p) (h':Bd t q):Bd (max s t+1) (Mx p q):=JS λk _=>Qc (xO _ _) (by have:=Fo h k; have:=Fo h' k; omega)
theorem PP {s:Nat} {p:Uk} (h:Bd s p):Bd s (Mi p):=JS λk _=>by rw [Hx]; exact Fo h k
theorem Gf {s t:Nat} {p:Uk} {c:Int} (h:Bd s p) (hc:Fe c<=t):Bd (s+t) (Ft p c):=JS λk _=>Qc (Ga _ _) (by have:=Fo h k; omega)
theorem XW (p q:Uk):(ZK p q).length<=max p.length q.length:=I1 _ _
theorem M8 (p q:Uk):(Mx p q).length<=max p.length q.length:=I1 _ _
theorem XU (p:Uk):(Mi p).length<=p.length:=I1 _ _
theorem Fx (p:Uk) (c:Int):(Ft p c).length<=p.length:=I1 _ _
theorem M7 (p:Uk):(Gv p).length<=p.length-1:=I1 _ _
theorem xI {k t:Nat} (h:k<2^t):Fe (k:Int)<=t:=by rw [Sj]; simpa using h
theorem Qbi {k:Nat} (h:k<274877906944):Fe (k:Int)<=4294967295:=Qc (xI (t:=38) (Kh h (by decide))) (by omega)
theorem zG {s t:Nat} {p:Uk} (h:Bd s p) (hl:p.length<=2^t):Bd (s+t) (Gv p):=JS λk hk=>Qc (Ga _ _) (by
 have:=Fo h (k+1);have:=xI (k:=k+1) (t:=t) (by omega);omega)
def Oa (x:Int) (b:Uk) (i:Nat) (o:Uk):Nat->Uk
 | 0=>o
 | k+1=>(Oa x b i o k).set (i+k) ((Oa x b i o k).getD (i+k) 0+x*b.getD k 0)
def Aj (a b o:Uk):Nat->Uk
 | 0=>o
 | i+1=>Oa (a.getD i 0) b i (Aj a b o i) b.length
def Gk (a b:Uk):Uk:=if a.length=0\/b.length=0 then [] else trim (Aj a b (List.replicate (a.length+b.length-1) 0) a.length)
theorem Ob (x:Int) (b:Uk) (i:Nat) (o:Uk) (k:Nat):(Oa x b i o k).length=o.length:=by
 induction k with
 | zero=>rfl
 | succ k ih=>simp [Oa,ih]
theorem D5 (a b o:Uk) (i:Nat):(Aj a b o i).length=o.length:=by
 induction i with
 | zero=>rfl
 | succ i ih=>simp [Aj,Ob,ih]
theorem Qgv (l:Uk) (i m:Nat) (v:Int) (h:i<l.length):(l.set i v).getD m 0=if m=i then v else l.getD m 0:=by
 rw [Qi,Yj,Qi];by_cases e:i=m
 ·subst e; simp [h]
 ·rw [if_neg e,if_neg (λh=>e h.symm)]
theorem Qbq (x:Int) (b:Uk) (i:Nat) (o:Uk) (k m:Nat) (h:i+k<=o.length):(Oa x b i o k).getD m 0=if i<=m/\m<i+k then o.getD m 0+x*b.getD (m-i) 0 else o.getD m 0:=by
 induction k with
 | zero=>simp only [Oa]; rw [if_neg (by omega)]
 |
  succ k ih =>
  have ih:=ih (by omega);simp only [Oa];rw [Qgv _ _ _ _ (by rw [Ob]; omega)];by_cases e:m=i+k
  ·subst e;rw [if_pos rfl,if_pos (by omega),show i+k-i=k from by omega];rw [ih,if_neg (by omega)]
  ·rw [if_neg e,ih];by_cases h1:i<=m/\m<i+k
   ·rw [if_pos h1,if_pos (by omega)]
   ·rw [if_neg h1,if_neg (by omega)]
theorem M9 {x y:Int} {s t:Nat} (hx:Fe x<=s) (hy:Fe y<=t):(x*y).natAbs<=2^(s+t):=by
 have h:=Qc (Ga x y) (show _<=s+t by omega);rw [Sj] at h; omega
theorem jG {x:Int} {b:Uk} {i:Nat} {o:Uk} {k M:Nat} (h:i+k<=o.length) (ho:∀ m,(o.getD m 0).natAbs<=i*M) (hx:∀ j,(x*b.getD j 0).natAbs<=M) (m:Nat):((Oa x b i o k).getD m 0).natAbs<=(i+1)*M:=by
 rw [Qbq x b i o k m h,Z9];have h1:=ho m
 split
 ·have h2:=hx (m-i);generalize i*M=q at *;omega
 ·omega
theorem jF {a b o:Uk} {i M:Nat} (h:∀ j,j<i->j+b.length<=o.length) (ho:∀ m,o.getD m 0=0) (hx:∀ i j,(a.getD i 0*b.getD j 0).natAbs<=M) (m:Nat):((Aj a b o i).getD m 0).natAbs<=i*M:=by
 induction i generalizing m with
 | zero=>simp only [Aj]; rw [ho]; simp
 |
  succ i ih =>
  simp only [Aj];exact jG (by rw [D5]; exact h i (by omega)) (ih λj hj=>h j (by omega)) (hx i) m
theorem Ij {z:Int} {i s t:Nat} (h:z.natAbs<=i*2^s) (hi:i<2^t):Fe z<=s+t:=by
 rw [Sj];have h1:i*2^s<2^t*2^s:=Xl hi (Z3 (by decide));rw [<-Xd,Ju t s] at h1;omega
theorem Ca (n m:Nat):(List.replicate n (0:Int)).getD m 0=0:=by
 rw [Qi,Jx]; split <;> rfl
theorem NF {s:Nat} {p:Uk} (h:∀ m,Fe (p.getD m 0)<=s):Bd s p:=λz hz=>by
 obtain ⟨i,hi⟩:=Zh.1 hz;have:=h i;rw [Qi,hi] at this;exact this
theorem S0 (a b:Uk):(Gk a b).length<=a.length+b.length-1:=by
 unfold Gk
 split
 ·simp
 ·refine Qc (Rt _) ?_;rw [D5]; simp
theorem Md {s t u:Nat} {a b:Uk} (ha:Bd s a) (hb:Bd t b) (hl:a.length<2^u):Bd (s+t+u) (Gk a b):=by
 unfold Gk
 split
 ·exact GN
 ·refine Su (NF λm=>?_);exact Ij (jF (M:=2^(s+t)) (λj hj=>by simp; omega) (Ca _) (λi j=>M9 (Fo ha i) (Fo hb j)) m) hl
theorem Hw (a b:Uk):U9 (Gk a b):=by
 unfold Gk
 split
 ·rfl
 ·exact Tl _
def Ls (a:Uk) (n d:Int):Nat->Int×Int
 | 0=>(0,1)
 | k+1=>((Ls a n d k).1*n+a.getD (a.length-1-k) 0*(Ls a n d k).2,(Ls a n d k).2*d)
def Quv (a:Uk) (n d:Int):Int:=(Ls a n d a.length).1
theorem iI {a:Uk} {n d:Int} {s t k:Nat} (ha:Bd s a) (hn:Fe n<=t) (hd:Fe d<=t):Fe (Ls a n d k).1<=s+2+k*(t+1)/\Fe (Ls a n d k).2<=1+k*t:=by
 induction k with
 | zero=>exact ⟨by simp [Ls,M6],by simp [Ls]; decide⟩
 |
  succ k ih =>
  obtain ⟨h1,h2⟩:=ih;have h3:=Fo ha (a.length-1-k);have e1:k*(t+1)=k*t+k:=by rw [Xi,Ys]
  rw [Z9,Z9];refine ⟨?_,?_⟩
  ·simp only [Ls];refine Qc (YJ _ _) ?_;have h4:=Ga (Ls a n d k).1 n;have h5:=Ga (a.getD (a.length-1-k) 0) (Ls a n d k).2;generalize k*t=q at *;rw [e1] at h1 ⊢;omega
  ·simp only [Ls];have h4:=Ga (Ls a n d k).2 d;generalize k*t=q at *;omega
end Orr
namespace Orr
theorem xZ {x y:Int}:B7 x y=0↔x=y:=by
 unfold B7;constructor
 ·intro h
  split at h
  ·omega
  ·split at h <;> omega
 ·rintro rfl; simp
theorem H5 {p:Uk} (h:U9 p) (h0:0<p.length):p.getD (p.length-1) 0≠0:=by
 induction p with
 | nil=>simp at h0
 |
  cons x l ih =>
  unfold U9 at h;cases hl:trim l with
  |
   nil =>
   simp only [trim,hl] at h
   split at h
   ·cases h
   ·rename_i hx;injection h with h1 h2;subst h2;simpa using hx
  |
   cons y k =>
   simp only [trim,hl] at h;injection h with h1 h2;rw [<-hl] at h2;have ih:=ih h2 (by rw [<-h2,hl]; simp);have h3:0<l.length:=by rw [<-h2,hl]; simp
   simp only [Q7,J8];obtain ⟨m,hm⟩:∃ m,l.length=m+1:=⟨l.length-1,by omega⟩;rw [hm] at ih ⊢;simpa using ih
end Orr
namespace Orr
theorem uE (p:Uk):(List.range p.length).map (λk=>p.getD k 0)=p:=by
 apply Xj;intro i;rw [Zb];rcases Q9 i p.length with h | h
 ·rw [Xz h];simp [Qe h]
 ·rw [Qw (by simpa using h),Qw h]; rfl
theorem BI {p q:Uk} (hl:p.length=q.length) (h:∀ j,j<p.length->p.getD j 0=q.getD j 0):p=q:=by
 rw [<-uE p,<-uE q,<-hl];exact Xo λj hj=>h j (Kj.1 hj)
end Orr
namespace Orr
abbrev rl (q:Rat):Up:=[sg q.num,mg q.num,sg (q.den:Int),mg (q.den:Int)]
theorem Dz (n d:Int):Ru [n,d]=Int.gcd d n:=by
 unfold Ru;simp only [Z8,List.foldl_nil,Nat.gcd_zero_left];exact Nat.gcd_comm _ _
theorem uX {n d:Int} (hd:d≠0):(0:Int)<((Ru [n,d]:Nat):Int):=by
 rw [Dz];have:=Int.gcd_pos_of_ne_zero_left n hd;omega
theorem CH (n d:Int):n % ((Ru [n,d]:Nat):Int)=0:=by
 rw [Dz]; exact Yn (Wv ..)
theorem CS (n d:Int):d % ((Ru [n,d]:Nat):Int)=0:=by
 rw [Dz]; exact Yn (Int.gcd_dvd_left ..)
theorem aJ {n g:Int} (h:n % g=0):-n % g=0:=by
 exact Yn (Int.dvd_neg.2 (Vf h))
theorem lI {n d:Int} {s:Nat} (hd:d≠0) (h:Fe d<=s):Fe ((Ru [n,d]:Nat):Int)<=s:=by
 rw [Dz];refine Qc (Tr ?_) h;have:=Kv (by omega:0<d.natAbs) (show Int.gcd d n∣d.natAbs from Wy _ _);simpa using this
theorem eN {n d:Int} (hd:0<d):n / ((Ru [n,d]:Nat):Int)=(Rat.divInt n d).num/\d / ((Ru [n,d]:Nat):Int)=((Rat.divInt n d).den:Int):=by
 rw [Dz,Rat.num_divInt,Wm,if_neg (by omega),Jm hd,Kq];refine ⟨rfl,?_⟩;rw [Int.natCast_ediv,Int.natAbs_of_nonneg (by omega)]
theorem Qnz {n d:Int} (hd:d<0):-n / ((Ru [n,d]:Nat):Int)=(Rat.divInt n d).num/\-d / ((Ru [n,d]:Nat):Int)=((Rat.divInt n d).den:Int):=by
 rw [Dz,Rat.num_divInt,Wm,if_neg (by omega),X4 hd,Ko,Kq];refine ⟨rfl,?_⟩;rw [Int.natCast_ediv,Int.ofNat_natAbs_of_nonpos (by omega)]
theorem XY (u g:Int):Fe (u / g)<=Fe u:=by
 unfold Fe;exact Tr (Int.natAbs_ediv_le_natAbs u g)
theorem Ac {n d:Int} {s:Nat} (h:Fe n<=s):Fe (Rat.divInt n d).num<=s:=by
 rw [Rat.num_divInt];refine Qc (XY _ _) ?_;unfold Fe;rw [J6];refine Qc (Tr ?_) h;have:d.sign.natAbs<=1:=by rcases Ao d with ⟨_,e⟩ | ⟨_,e⟩ | ⟨_,e⟩ <;> rw [e] <;> decide
 calc d.sign.natAbs*n.natAbs<=1*n.natAbs:=Qz _ this
  _=n.natAbs:=Wn _
theorem Ab {n d:Int} {s:Nat} (h:Fe d<=s) (h1:1<=s):Fe ((Rat.divInt n d).den:Int)<=s:=by
 rw [Wm]
 split
 ·exact h1
 ·refine Qc (Tr ?_) h;exact J0 _ _
def Qs (s:Nat) (q:Rat):Prop:=Fe q.num<=s/\Fe (q.den:Int)<=s
theorem Qs.mono {s t:Nat} {q:Rat} (h:Qs s q) (ht:s<=t):Qs t q:=⟨Qc h.1 ht,Qc h.2 ht⟩
theorem Qs.divInt {s:Nat} {n d:Int} (h:Fe n<=s) (h':Fe d<=s) (h1:1<=s):Qs s (Rat.divInt n d):=⟨Ac h,Ab h' h1⟩
theorem E4 (q:Rat):(q.den:Int)≠0:=by have:=q.den_nz; omega
theorem den_pos (q:Rat):(0:Int)<(q.den:Int):=by have:=q.den_nz; omega
def Gu (n d:Int):Rat:=Rat.divInt n (if d=0 then 1 else d)
theorem Sv (q:Rat):Gu q.num q.den=q:=by
 unfold Gu;rw [if_neg (E4 q)]; exact Z2 q
def G6 (a b:Rat):Int:=B7 (a.num*(b.den:Int)) (b.num*(a.den:Int))
theorem Nm {a b:Rat}:G6 a b<0↔a<b:=by
 rw [Rat.lt_iff]; unfold G6 B7;constructor
 ·intro h; split at h
  ·assumption
  ·split at h <;> omega
 ·intro h; rw [if_pos h]; decide
theorem Dk {a b:Rat}:0<G6 a b↔b<a:=by
 rw [Rat.lt_iff]; unfold G6 B7;constructor
 ·intro h; split at h
  ·omega
  ·split at h
   ·assumption
   ·omega
 ·intro h; rw [if_neg (by omega),if_pos h]; decide
theorem Ej (a:Rat):G6 a a=0:=by unfold G6 B7; simp
structure Crv where
 x:List Int
 y:List Int
 d:Int
abbrev cl (k:Crv):Up:=[pl k.x,pl k.y,sg k.d,mg k.d]
def Crv.d' (k:Crv):Int:=if k.d=0 then 1 else k.d
def Crv.g (k:Crv):Int:=if k.d'<0 then -((Ru (k.d'::(trim k.x++trim k.y)):Nat):Int) else (Ru (k.d'::(trim k.x++trim k.y)):Nat)
def Crv.norm (k:Crv):Crv:=⟨trim ((trim k.x).map (· / k.g)),trim ((trim k.y).map (· / k.g)),k.d' / k.g⟩
theorem ZI {l:Uk}:∀ z∈l,((Ru l:Nat):Int)∣z:=by
 have key:∀ (l:Uk) (g:Nat),(l.foldl (λg z=>Nat.gcd g z.natAbs) g∣g)/\∀ z∈l,l.foldl (λg z=>Nat.gcd g z.natAbs) g∣z.natAbs:=by
  intro l
  induction l with
  | nil=>intro g; exact ⟨Nat.dvd_refl _,by simp⟩
  |
   cons u l ih =>
   intro g;obtain ⟨h1,h2⟩:=ih (Nat.gcd g u.natAbs);refine ⟨Nat.dvd_trans h1 (Wy _ _),λz hz=>?_⟩;rcases Qm.1 hz with rfl | hz
   ·exact Nat.dvd_trans h1 (Nat.gcd_dvd_right _ _)
   ·exact h2 z hz
 intro z hz;have:=(key l 0).2 z hz;exact Wp.2 this
theorem Crv.d'_ne (k:Crv):k.d'≠0:=by unfold Crv.d'; split <;> omega
theorem Crv.gcd_ne (k:Crv):Ru (k.d'::(trim k.x++trim k.y))≠0:=by
 intro e;have h:=ZI (l:=k.d'::(trim k.x++trim k.y)) k.d' (Qx ..);rw [e] at h;exact k.d'_ne (by simpa using h)
theorem Crv.g_ne (k:Crv):k.g≠0:=by
 have h0:=k.gcd_ne;unfold Crv.g
 split <;> omega
theorem Crv.g_dvd (k:Crv):∀ z∈k.d'::(trim k.x++trim k.y),z % k.g=0:=by
 intro z hz;have h:=ZI z hz;refine Yn ?_;unfold Crv.g
 split
 ·exact Ua.2 h
 ·exact h
theorem Crv.isz_g (k:Crv) {s:Nat} (h:Fe k.d'<=s):Fe k.g<=s:=by
 have hd:=ZI (l:=k.d'::(trim k.x++trim k.y)) k.d' (Qx ..);have hle:Ru (k.d'::(trim k.x++trim k.y))<=k.d'.natAbs:=Kv (by have:=k.d'_ne; omega) (Wp.1 hd);refine Qc (Tr ?_) h;unfold Crv.g
 split <;> simp <;> exact hle
structure Cs (s n:Nat) (k:Crv):Prop where
 x:Bd s k.x
 y:Bd s k.y
 d:Fe k.d<=s
 lx:k.x.length<=n
 ly:k.y.length<=n
theorem Qg9 {k:Crv} {s:Nat} (h:Fe k.d<=s) (h1:1<=s):Fe k.d'<=s:=by unfold Crv.d'; split <;> first | exact h1 | exact h
theorem GM {s:Nat} {p:Uk} (h:Bd s p) (g:Int):Bd s (p.map (· / g)):=λz hz=>by
 obtain ⟨u,hu,rfl⟩:=Q8.1 hz;exact Qc (XY u g) (h u hu)
theorem Cs.norm {s n:Nat} {k:Crv} (h:Cs s n k) (h1:1<=s):Cs s n k.norm:=by
 refine ⟨Su (GM (Su h.x) _),Su (GM (Su h.y) _),Qc (XY _ _) (Qg9 h.d h1),?_,?_⟩
 ·refine Qc (Rt _) ?_; rw [Q6]; exact Qc (Rt _) h.lx
 ·refine Qc (Rt _) ?_; rw [Q6]; exact Qc (Rt _) h.ly
theorem Cs.mono {s n t m:Nat} {k:Crv} (h:Cs s n k) (hs:s<=t) (hn:n<=m):Cs t m k:=⟨U0 h.x hs,U0 h.y hs,Qc h.d hs,Qc h.lx hn,Qc h.ly hn⟩
def JH (k:Crv):Prop:=U9 k.x/\U9 k.y/\0<k.d/\Ru (k.d::(k.x++k.y))=1
theorem Crv.norm_of {k:Crv} (h:JH k):k.norm=k:=by
 obtain ⟨h1,h2,h3,h4⟩:=h;have hd:k.d'=k.d:=by unfold Crv.d'; rw [if_neg (by omega)]
 have hx:trim k.x=k.x:=h1;have hy:trim k.y=k.y:=h2;have hg:k.g=1:=by unfold Crv.g; rw [hd,hx,hy,h4,if_neg (by omega)]; rfl
 unfold Crv.norm;rw [hg,hd,hx,hy];simp [hx,hy]
theorem xM {l:Uk} {g:Int} (hg:g≠0) (hga:g.natAbs=Ru l):Ru (l.map (· / g))=1:=by
 have key:∀ (l:Uk) (a:Nat),(∀ z∈l,g∣z)->l.foldl (λa z=>Nat.gcd a z.natAbs) (a*g.natAbs)=((l.map (· / g)).foldl (λa z=>Nat.gcd a z.natAbs) a)*g.natAbs:=by
  intro l
  induction l with
  | nil=>intro a _; rfl
  |
   cons z l ih =>
   intro a h;simp only [Z0,Z8];have hz:z.natAbs=(z / g).natAbs*g.natAbs:=by
    obtain ⟨q,rfl⟩:=h z (Qx ..);rw [Jd _ hg,J6,Zp]
   rw [hz,Nat.gcd_mul_right];exact ih _ λu hu=>h u (Qg _ hu)
 have h:=key l 0 λz hz=>X1.1 (by rw [hga]; exact X1.2 (ZI z hz))
 rw [Yh] at h;have h':Ru l=Ru (l.map (· / g))*g.natAbs:=h;rw [<-hga] at h';have hp:0<g.natAbs:=by omega
 exact Nat.eq_of_mul_eq_mul_right hp (by rw [Wn]; exact h'.symm)
theorem JK {l:Uk} {g:Int} (ht:U9 l) (hg:g≠0) (hd:∀ z∈l,g∣z):U9 (l.map (· / g)):=by
 induction l with
 | nil=>rfl
 |
  cons x l ih =>
  have hne:∀ z∈x::l,z≠0->z / g≠0:=λz hz h0 h1=>by
   obtain ⟨q,rfl⟩:=hd z hz;rw [Jd _ hg] at h1;rw [h1] at h0; simp at h0
  unfold U9 at ht ih ⊢;cases hl:trim l with
  |
   nil =>
   simp only [trim,hl] at ht
   split at ht
   ·cases ht
   ·rename_i hx;injection ht with _ h2;subst h2;simp [trim,hne x (Qx ..) hx]
  |
   cons y k =>
   simp only [trim,hl] at ht;injection ht with _ h2;have hll:trim l=l:=by rw [hl]; exact h2
   have ih:=ih hll λz hz=>hd z (Qg _ hz)
   rw [Z0];have hne2:l.map (· / g)≠[]:=by rw [<-hll,hl]; simp
   cases hm:l.map (· / g) with
   | nil=>exact absurd hm hne2
   |
    cons u w =>
    rw [hm] at ih;have e:trim (x / g::u::w)=match trim (u::w) with | []=>if x / g=0 then [] else [x / g] | y::k=>x / g::y::k:=rfl
    rw [e,ih]
theorem Crv.nml (k:Crv):JH k.norm:=by
 have hg:=k.g_ne;have hdv:∀ z∈k.d'::(trim k.x++trim k.y),k.g∣z:=λz hz=>Vf (k.g_dvd z hz)
 have hx:=JK (g:=k.g) (Tl k.x) hg λz hz=>hdv z (by simp [hz])
 have hy:=JK (g:=k.g) (Tl k.y) hg λz hz=>hdv z (by simp [hz])
 refine ⟨Tl _,Tl _,?_,?_⟩
 ·show 0<k.d' / k.g;obtain ⟨q,hq⟩:=hdv k.d' (Qx ..);have h0:=k.d'_ne;have hgc:=k.gcd_ne;have e:k.d' / k.g=q:=by rw [hq,Jd _ hg]
  rw [e];unfold Crv.g at hq hg;have hq0:q≠0:=λe=>by rw [e,Wc] at hq; exact h0 hq
  split at hq
  ·rename_i hneg;rcases Wo hq0 with h | h
   ·have:=V9 (a:=-((Ru (k.d'::(trim k.x++trim k.y)):Nat):Int)) (b:=q) (by omega) h;omega
   ·exact h
  ·rename_i hneg;rcases Wo hq0 with h | h
   ·have:=V8 (a:=((Ru (k.d'::(trim k.x++trim k.y)):Nat):Int)) (b:=q) (by omega) h;omega
   ·exact h
 ·show Ru (k.d' / k.g::(trim ((trim k.x).map (· / k.g))++trim ((trim k.y).map (· / k.g))))=1;rw [show trim ((trim k.x).map (· / k.g))=(trim k.x).map (· / k.g) from hx,show trim ((trim k.y).map (· / k.g))=(trim k.y).map (· / k.g) from hy,<-Yd,<-Z0 (f:=(· / k.g))];refine xM hg ?_;unfold Crv.g
  split <;> omega
structure Pt where
 c:Crv
 id:Int
def Fa (p:Pt):Up:=[pl p.c.x,pl p.c.y,sg p.c.d,mg p.c.d,.int .i64 p.id]
def pts (l:List Pt):LV:=.row (l.map Fa)
def Im:List Pt->Int->Nat
 | [],_=>0
 | p::l,id=>if p.id<id then Im l id+1 else 0
def has (l:List Pt) (id:Int):Bool:=match l[Im l id]? with
 | some p=>decide (p.id=id)
 | none=>false
theorem nY (l:List Pt) (id:Int):Im l id<=l.length:=by
 induction l with
 | nil=>exact Ql _
 | cons p l ih=>simp only [Im]; split <;> simp <;> omega
theorem LJ:∀ {l:List Pt} {id:Int} {k:Nat},(∀ j p,j<k->l[j]? = some p->p.id<id)->(k=l.length\/∃ p,l[k]? = some p/\¬p.id<id)->Im l id=k
 |
  [],id,k,_,h=>by
  rcases h with h | ⟨p,h,_⟩
  ·subst h; rfl
  ·simp at h
 |
  q::l,id,0,_,h=>by
  rcases h with h | ⟨p,h,h2⟩
  ·simp at h
  ·simp at h; subst h; simp [Im,h2]
 |
  q::l,id,k+1,h1,h=>by
  have hq:=h1 0 q (by omega) rfl;simp only [Im,hq,if_true];rw [LJ (k:=k) (λj p hj hp=>h1 (j+1) p (by omega) (by simpa using hp))];rcases h with h | ⟨p,h,h2⟩
  ·left; simpa using h
  ·right; exact ⟨p,by simpa using h,h2⟩
def put (l:List Pt) (q:Pt):List Pt:=l.take (Im l q.id)++q::l.drop (Im l q.id)
def KL (l:List Pt) (q:Pt):Int:=if has l q.id=true then 6 else if 6<=l.length then 9 else 0
def oV (s n:Nat) (p:Pt):Prop:=JH p.c/\Cs s n p.c
theorem aO (l:List Pt) (q:Pt):(put l q).length=l.length+1:=by
 have:=nY l q.id;simp [put]; omega
theorem MS {l:List Pt} {q p:Pt} (h:p∈put l q):p=q\/p∈l:=by
 unfold put at h;rcases Qq.1 h with h | h
 ·exact .inr (Qo h)
 ·rcases Qm.1 h with h | h
  ·exact .inl h
  ·exact .inr (Q3 h)
def Lu (a b:Crv):Bool:=decide (a.x=b.x/\a.y=b.y/\a.d=b.d)
def Bs (out:List Pt) (p:Pt):List Pt:=if out.any (λq=>Lu p.c q.c)=true then out else out++[p]
def Tg (l:List Pt):List Pt:=l.foldl Bs []
theorem Qcm {out:List Pt} {p q:Pt} (h:q∈Bs out p):q∈out\/q=p:=by
 unfold Bs at h
 split at h
 ·exact .inl h
 ·rcases Qq.1 h with h | h
  ·exact .inl h
  ·exact .inr (by simpa using h)
theorem Qcl (out:List Pt) (p:Pt):(Bs out p).length<=out.length+1:=by
 unfold Bs; split <;> simp
theorem Tv {α β:Type} (f:β->α->β) (b:β) (l:List α) {i:Nat} {x:α} (h:l[i]? = some x):(l.take (i+1)).foldl f b=f ((l.take i).foldl f b) x:=by
 rw [Y5,h]; simp [Vr]
theorem VB (l:List Pt) (i:Nat):∀ q∈(l.take i).foldl Bs [],q∈l:=by
 induction i with
 | zero=>simp
 |
  succ i ih =>
  intro q hq;cases hi:l[i]? with
  |
   none =>
   rw [Qn (by have:=Jq.1 hi; omega)] at hq;rw [Qn (Jq.1 hi)] at ih;exact ih q hq
  |
   some x =>
   rw [Tv _ _ _ hi] at hq;rcases Qcm hq with h | h
   ·exact ih q h
   ·subst h; exact Qa hi
theorem VN (l:List Pt) (i:Nat):((l.take i).foldl Bs []).length<=i:=by
 induction i with
 | zero=>simp
 |
  succ i ih =>
  cases hi:l[i]? with
  |
   none =>
   rw [Qn (by have:=Jq.1 hi; omega)];rw [Qn (Jq.1 hi)] at ih;omega
  |
   some x =>
   rw [Tv _ _ _ hi];have:=Qcl ((l.take i).foldl Bs []) x;omega
theorem Nk {l:List Pt} {q:Pt} (h:q∈Tg l):q∈l:=by
 have:=VB l l.length q;rw [Q5] at this;exact this h
theorem Oz (l:List Pt):(Tg l).length<=l.length:=by
 have:=VN l l.length;rwa [Q5] at this
def H7 (p:Uk) (q:Rat):Int:=B7 (Quv p q.num q.den) 0
abbrev qa (q:Rat):Up:=pl [-q.num,(q.den:Int)]::(rl q++rl q)
def Tq (sgn:Uk->Int):Nat->Uk->Int
 | 0,_=>0
 | k+1,p=>if p.length=0 then 0 else if sgn p=0 then Tq sgn k (Gv p) else sgn p
theorem XZ (sgn:Uk->Int):∀ (k:Nat) (p:Uk),p.length<=k->Tq sgn k p=Tq sgn p.length p
 |
  0,p,h=>by
  have:p.length=0:=by omega
  rw [this]
 |
  k+1,p,h=>by
  cases hp:p.length with
  | zero=>simp [Tq,hp]
  |
   succ m =>
   simp only [Tq];have h1:=M7 p;rw [XZ sgn k (Gv p) (by omega),XZ sgn m (Gv p) (by omega)]
theorem uK (sgn:Uk->Int) {p:Uk} (h:p.length=0):Tq sgn p.length p=0:=by rw [h]; rfl
theorem uY (sgn:Uk->Int) {p:Uk} (h:0<p.length) (hs:sgn p≠0):Tq sgn p.length p=sgn p:=by
 obtain ⟨m,hm⟩:∃ m,p.length=m+1:=⟨p.length-1,by omega⟩;rw [hm]; simp only [Tq]; rw [if_neg (by omega),if_neg hs]
theorem uV (sgn:Uk->Int) {p:Uk} (h:0<p.length) (hs:sgn p=0):Tq sgn p.length p=Tq sgn (Gv p).length (Gv p):=by
 obtain ⟨m,hm⟩:∃ m,p.length=m+1:=⟨p.length-1,by omega⟩;rw [hm]; simp only [Tq]; rw [if_neg (by omega),if_pos hs];exact XZ sgn m _ (by have:=M7 p; omega)
structure Tm where
 p:List Int
 lo:Rat
 hi:Rat
abbrev ta (t:Tm):Up:=pl t.p::(rl t.lo++rl t.hi)
abbrev tq (q:Rat):Tm:=⟨[-q.num,(q.den:Int)],q,q⟩
def Hg (sg:Uk->Int) (p:Uk):Int:=Tq sg p.length p
structure Pb (p:List Int):Prop where
 t:U9 p
 l:p.length<=64
 b:Bd 16777216 p
abbrev Qb (q:Rat):Prop:=Qs 16777216 q
abbrev Cb (k:Crv):Prop:=Cs 1048576 16 k
def Gh (a b:Crv):Uk:=Mx (Ft b.x a.d) (Ft a.x b.d)
def Gg (a b:Crv):Uk:=Mx (Ft b.y a.d) (Ft a.y b.d)
theorem fB {a b:Crv} (ha:Cb a) (hb:Cb b):Pb (Gh a b)/\(Gh a b).length<=16/\Bd 2097153 (Gh a b):=by
 have h1:Bd 2097153 (Gh a b):=U0 (De (Gf hb.x ha.d) (Gf ha.x hb.d)) (by omega);have h2:(Gh a b).length<=16:=by
  refine Qc (M8 _ _) ?_;have:=Fx b.x a.d; have:=Fx a.x b.d; have:=ha.lx; have:=hb.lx;omega
 exact ⟨⟨Fv _ _,by omega,U0 h1 (by omega)⟩,h2,h1⟩
theorem fM {a b:Crv} (ha:Cb a) (hb:Cb b):Pb (Gg a b)/\(Gg a b).length<=16/\Bd 2097153 (Gg a b):=by
 have h1:Bd 2097153 (Gg a b):=U0 (De (Gf hb.y ha.d) (Gf ha.y hb.d)) (by omega);have h2:(Gg a b).length<=16:=by
  refine Qc (M8 _ _) ?_;have:=Fx b.y a.d; have:=Fx a.y b.d; have:=ha.ly; have:=hb.ly;omega
 exact ⟨⟨Fv _ _,by omega,U0 h1 (by omega)⟩,h2,h1⟩
def Lo (sg:Uk->Int) (a b:Pt):Ul->Bool
 | []=>decide (a.id<b.id)
 | p::l=>if 0<p.length then decide (0<Hg sg p) else Lo sg a b l
def By (sg:Uk->Int) (a b:Pt):Bool:=Lo sg a b [Gg b.c a.c,Gh b.c a.c]
def Tn (sg:Uk->Int) (a b:Pt):Bool:=Lo sg a b [Gh a.c b.c,Gg a.c b.c]
end Orr
namespace Orr
open Go
structure Ct where
 kind:Int
 i0:Int
 i1:Int
 i2:Int
 i3:Int
 p:List Int
 want:Int
abbrev Db (c:Ct):Up:=[.int .i64 c.kind,.int .i64 c.i0,.int .i64 c.i1,.int .i64 c.i2,.int .i64 c.i3,pl c.p,.int .i64 c.want]
def Lk (p q:Uk):Uk:=if 0<p.length then p else q
def Cx:Uk->Uk->Bool
 | x::l,y::m=>if x=y then Cx l m else decide (x<y)
 | _,_=>false
def uM (a b:Ct):Bool:=Cx [a.kind,a.i0,a.i1,a.i2,a.i3] [b.kind,b.i0,b.i1,b.i2,b.i3]
def XL (out:List Ct) (c:Ct):Nat->Nat
 | 0=>0
 |
  k+1=>match out[k]? with
  | some x=>if uM c x=true then XL out c k else k+1
  | none=>k+1
theorem aM (out:List Ct) (c:Ct):∀ k,XL out c k<=k
 | 0=>Ql _
 |
  k+1=>by
  simp only [XL]
  split
  ·split
   ·exact Nat.le_succ_of_le (aM out c k)
   ·exact Ql _
  ·exact Ql _
theorem Qok {out:List Ct} {c x:Ct} {k:Nat} (hx:out[k]? = some x) (h:uM c x=true):XL out c (k+1)=XL out c k:=by
 simp only [XL,hx,h,if_true]
theorem Qih {out:List Ct} {c x:Ct} {k:Nat} (hx:out[k]? = some x) (h:uM c x=false):XL out c (k+1)=k+1:=by
 simp [XL,hx,h]
def KW (out:List Ct) (c:Ct):List Ct:=out.take (XL out c out.length)++c::out.drop (XL out c out.length)
theorem Qg2 (out:List Ct) (c:Ct):(KW out c).length=out.length+1:=by
 have:=aM out c out.length;simp [KW]; omega
theorem Qg3 {out:List Ct} {c x:Ct} (h:x∈KW out c):x=c\/x∈out:=by
 simp only [KW,Qq,Qm] at h;rcases h with h | h | h
 ·exact .inr (Qo h)
 ·exact .inl h
 ·exact .inr (Q3 h)
def Fq (l:List Ct):List Ct:=l.foldl KW []
theorem bU (l:List Ct) (c:Ct):Fq (l++[c])=KW (Fq l) c:=by simp [Fq,Vr]
theorem bF {l:List Ct} {i:Nat} {c:Ct} (h:l[i]? = some c):Fq (l.take (i+1))=KW (Fq (l.take i)) c:=by
 rw [Zv,h]; exact bU _ _
theorem IC:∀ (l acc:List Ct),(l.foldl KW acc).length=acc.length+l.length
 | [],acc=>by simp
 | c::l,acc=>by simp only [Z8]; rw [IC l (KW acc c),Qg2]; simp; omega
theorem Ml (l:List Ct):(Fq l).length=l.length:=by unfold Fq; rw [IC]; simp
theorem ID:∀ (l acc:List Ct) {x:Ct},x∈l.foldl KW acc->x∈l\/x∈acc
 | [],acc,x,h=>.inr h
 |
  c::l,acc,x,h=>by
  simp only [Z8] at h;rcases ID l _ h with h | h
  ·exact .inl (Qg _ h)
  ·rcases Qg3 h with rfl | h
   ·exact .inl (Qx ..)
   ·exact .inr h
theorem Rw {l:List Ct} {x:Ct} (h:x∈Fq l):x∈l:=by
 rcases ID l [] h with h | h
 ·exact h
 ·cases h
theorem uG {α:Type} (l:List α) (z x:α) {k m':Nat} (hk:k<=l.length) (hm:m'=l.length-k) :
 ((l++[z]).take (k+1)++((l++[z]).drop k).take m'++(l++[z]).drop (k+1+m')).set k x=l.take k++x::l.drop k:=by
 subst hm;have e1:((l++[z]).drop k).take (l.length-k)=l.drop k:=by
  rw [Wg hk,Vq (by simp),Qn (by simp)]
 have e2:(l++[z]).drop (k+1+(l.length-k))=[]:=Yq (by simp; omega);rw [e1,e2,Zw];have e3:(l++[z]).take (k+1)=(l++[z]).take k++[(l++[z])[k]'(by simp; omega)]:=by rw [List.take_succ_eq_append_getElem]
 rw [e3,Vq hk,Za,List.set_append,if_neg (by simp; omega)];simp [Zy hk]
def Ak (a b:Pt):Uk:=Lk (Gh a.c b.c) (Gg a.c b.c)
def Ah (a b:Pt):Uk:=Lk (Gg b.c a.c) (Gh b.c a.c)
def QT (sg:Uk->Int) (a b:Pt):Ct:={ kind:=1,i0:=a.id,i1:=b.id,i2:=0,i3:=0,p:=Ak a b,want:=Hg sg (Ak a b) }
def Do (sg:Uk->Int) (a b:Pt):Ct:={ kind:=2,i0:=a.id,i1:=b.id,i2:=0,i3:=0,p:=Ah a b,want:=Hg sg (Ah a b) }
end Orr
namespace Orr
open Go Go.Proofs Tryz
set_option maxRecDepth 10000
abbrev pr (p:Uk):TV:=.one (pl p)
theorem Pe {p:Uk} {i:Nat} {z:Int} (h:p[i]? = some z):(p.map Hh)[i]? = some (Hh z):=Gt h
theorem NA (p:Uk):Uh 181 [pr p] [pr (trim p)]:=by
 refine Fw func181 rfl (ln 0 rfl rfl λhl=>?_);rw [Q6] at hl;refine Ub [] rfl ?_;refine lp (S:=Nat) 0 (λL1 n=>(3,.v (.oi n))::L1) (λ_=>[]) id (λn=>n<=p.length/\∀ j x,n<=j->p[j]? = some x->x=0) (p.map Hh).length ⟨by simp,λj x h1 h2=>by
  have:=(Qf.1 h2).1; simp at h1; omega⟩ rfl (λ_ _=>rfl) rfl λn ⟨h1,h2⟩=>?_
 cases n with
 | zero=>exact Ud [.f (by simp),.f rfl,.i 0] rfl (by rw [rC h1 h2 (λh=>by omega)]; simp [pl]) (by simp [Uz])
 |
  succ n =>
  obtain ⟨x,hx⟩:=gxE (l:=p) (i:=n) (by omega);by_cases h0:x=0
  ·refine Uc [.t (by simp),.r 11 (v:=.oi n) (by simp),.x (Pe hx),.k Lj,.t (by simp [h0]),.r 17 (v:=.oi n) (by simp)] rfl ?_;exact rd n (by simp) ⟨by omega,λj y h3 h4=>by
    rcases Vl h3 with rfl | h3
    ·rw [hx] at h4; injection h4 with h4; rw [<-h4,h0]
    ·exact h2 j y h3 h4⟩ rfl
  ·exact Ud [.t (by simp),.r 11 (v:=.oi n) (by simp),.x (Pe hx),.k Lj,.f (by simp [h0]),.i (n+1)] rfl (by rw [rC h1 h2 (λ_=>⟨x,hx,h0⟩)]; simp [pl,Jv]) (by simp [Uz] <;> omega)
theorem dF (p:Uk) (k:Nat):Uh 285 [pr p,.oi k] [.agg (Hh (p.getD k 0))]:=by
 by_cases h:k<p.length
 ·have hx:=Qe h;have e:p.getD k 0=p[k]:=by simp [List.getD,hx]
  rw [e];exact Ue func285 rfl [.t (by simp; omega),.x (Pe hx)] rfl
 ·have e:p.getD k 0=0:=by simp [List.getD,Qw (J5 h)]
  rw [e,D7];exact Ue func285 rfl [.f (by simp; omega)] rfl
def EG (f:Nat->Up) (z:Up) (n k:Nat):Uq:=(List.range n).map λi=>if i<k then f i else z
theorem A7 (f:Nat->Up) (z:Up) (n k:Nat):(EG f z n k).length=n:=by simp [EG]
theorem E7 (f:Nat->Up) (z:Up) (n:Nat):List.replicate n z=EG f z n 0:=by
 refine Xj λi=>?_
 simp only [EG,Jx,Zb];by_cases h:i<n
 ·simp [h]
 ·simp [h]
theorem QV (f:Nat->Up) (z:Up) (n:Nat):EG f z n n=(List.range n).map f:=by
 refine Xo λi hi=>?_
 rw [if_pos (Kj.1 hi)]
theorem QK (f:Nat->Up) (z:Up) {n k:Nat} (h:k<n):(EG f z n k).set k (f k)=EG f z n (k+1):=by
 refine Xj λi=>?_
 rw [Yj];simp only [EG,Zb,Q6,List.length_range,h,if_true];by_cases e:k=i
 ·subst e; simp [h]
 ·simp only [e,if_false];by_cases hi:i<n
  ·simp only [Xz hi,Yi];congr 1;by_cases h2:i<k
   ·rw [if_pos h2,if_pos (by omega)]
   ·rw [if_neg h2,if_neg (by omega)]
  ·simp [Qw,hi]
theorem zA {n fid:Nat} {l1 l2:Up} {g:Nat->Int} (hn:n<274877906944) (h:∀ k,k<n->ER prog fid [.oi k,.one (.sh l1),.one (.sh l2)] [.agg (Hh (g k))]):Uh 110 [.oi n,.one (.fn fid [] [.sh l1,.sh l2])] [pr (As n g)]:=by
 refine Fw func110 rfl ?_;refine Uc [.i n,.i n,.r 10 (eI (b:=(n:Int)) (by simp))] rfl ?_;rw [E7 λk=>Hh (g k)];refine Ug (S:=Nat) 1 (λL1 k=>(11,.v (.oi k))::L1) (λk=>[.row false 36 2 (EG (λk=>Hh (g k)) [.bool false,.nils] n k)]) (λk=>n-k) (λk=>k<=n) 0 (Qh _) rfl rfl λk hk=>?_
 by_cases hlt:k<n
 ·refine go tt [.t (by simp; omega),.k (h k hlt),.i k] rfl (by simp [Uz,A7]; omega) ?_;have e:=QK (λk=>Hh (g k)) [.bool false,.nils] hlt;rw [e];exact rd (k+1) (by omega) hlt rfl
 ·obtain rfl:k=n:=by omega
  have e:EG (λk=>Hh (g k)) [.bool false,.nils] k k=((List.range k).map g).map Hh:=by rw [QV]; simp
  rw [e];exact Ud [.f (by simp),.k (NA _)] rfl
theorem dU {n fid:Nat} {l1:Up} {g:Nat->Int} (hn:n<274877906944) (h:∀ k,k<n->ER prog fid [.oi k,.one (.sh l1)] [.agg (Hh (g k))]):Uh 110 [.oi n,.one (.fn fid [] [.sh l1])] [pr (As n g)]:=by
 refine Fw func110 rfl ?_;refine Uc [.i n,.i n,.r 10 (eI (b:=(n:Int)) (by simp))] rfl ?_;rw [E7 λk=>Hh (g k)];refine Ug (S:=Nat) 1 (λL1 k=>(11,.v (.oi k))::L1) (λk=>[.row false 36 2 (EG (λk=>Hh (g k)) [.bool false,.nils] n k)]) (λk=>n-k) (λk=>k<=n) 0 (Qh _) rfl rfl λk hk=>?_
 by_cases hlt:k<n
 ·refine go tt [.t (by simp; omega),.k (h k hlt),.i k] rfl (by simp [Uz,A7]; omega) ?_;have e:=QK (λk=>Hh (g k)) [.bool false,.nils] hlt;rw [e];exact rd (k+1) (by omega) hlt rfl
 ·obtain rfl:k=n:=by omega
  have e:EG (λk=>Hh (g k)) [.bool false,.nils] k k=((List.range k).map g).map Hh:=by rw [QV]; simp
  rw [e];exact Ud [.f (by simp),.k (NA _)] rfl
theorem Qr4 {p q:Uk} (k:Nat) (hp:Bd 4294967295 p) (hq:Bd 4294967295 q):Uh 299 [.oi k,.one (.sh [pl p]),.one (.sh [pl q])] [.agg (Hh (p.getD k 0+q.getD k 0))] :=
 Ue func299 rfl [.k (dF p k),.k (dF q k),.k (VE (U3 _) (U3 _) (Fo hp k) (Fo hq k))] rfl
theorem Qso {p q:Uk} (k:Nat) (hp:Bd 4294967295 p) (hq:Bd 4294967295 q):Uh 283 [.oi k,.one (.sh [pl p]),.one (.sh [pl q])] [.agg (Hh (p.getD k 0-q.getD k 0))] :=
 Ue func283 rfl [.k (dF p k),.k (dF q k),.k (Qen (U3 _) (U3 _) (Fo hp k) (Fo hq k))] rfl
theorem Ra {p:Uk} {k:Nat} (h:k<p.length):p[k]? = some (p.getD k 0):=by simp [List.getD,Qe h]
theorem Qee {p:Uk} {c:Int} {k:Nat} (hk:k<p.length) (hp:Bd 4294967295 p) (hc:Fe c<=4294967295):Uh 111 [.oi k,.one (.sh [pl p]),.one (.sh (Hh c))] [.agg (Hh (p.getD k 0*c))] :=
 Ue func111 rfl [.x (Pe (Ra hk)),.k (Nq (U3 _) (U3 _) (Fo hp k) hc)] rfl
theorem Qsh {p:Uk} {k:Nat} (hk:k<p.length) (hp:Bd 4294967295 p):Uh 339 [.oi k,.one (.sh [pl p])] [.agg (Hh (-(p.getD k 0)))] :=
 Ue func339 rfl [.x (Pe (Ra hk)),.k (NN (U3 _) (Fo hp k))] rfl
theorem oL {p:Uk} {k:Nat} (hk:k+1<p.length) (hl:p.length<274877906944) (hp:Bd 4294967295 p):Uh 317 [.oi k,.one (.sh [pl p])] [.agg (Hh (p.getD (k+1) 0*((k+1:Nat):Int)))] :=
 Ue func317 rfl [.x (Pe (Ra hk)),.r 10 (eI (b:=((k+1:Nat):Int)) (by omega)),.k (zP (by omega)),.k (Nq (U3 _) (U3 _) (Fo hp _) (Qbi (show k+1<274877906944 by omega)))] rfl rfl (by simp [Uz] <;> omega)
theorem zM {p q:Uk} (hlp:p.length<274877906944) (hlq:q.length<274877906944) (hp:Bd 4294967295 p) (hq:Bd 4294967295 q):Uh 265 [pr p,pr q] [pr (ZK p q)] :=
 Ue func265 rfl [.r 9 (eI (b:=((max p.length q.length:Nat):Int)) (by simp; omega)),.k (zA (by omega) λk _=>Qr4 k hp hq)] rfl
theorem GA {p q:Uk} (hlp:p.length<274877906944) (hlq:q.length<274877906944) (hp:Bd 4294967295 p) (hq:Bd 4294967295 q):Uh 243 [pr p,pr q] [pr (Mx p q)] :=
 Ue func243 rfl [.r 9 (eI (b:=((max p.length q.length:Nat):Int)) (by simp; omega)),.k (zA (by omega) λk _=>Qso k hp hq)] rfl
theorem Qd4 {p:Uk} (hlp:p.length<274877906944) (hp:Bd 4294967295 p):Uh 320 [pr p] [pr (Mi p)] :=
 Ue func320 rfl [.r 4 (eI (b:=(p.length:Int)) (by simp)),.k (dU hlp λk hk=>Qsh hk hp)] rfl
theorem Mz {p:Uk} {c:Int} (hlp:p.length<274877906944) (hp:Bd 4294967295 p) (hc:Fe c<=4294967295):Uh 47 [pr p,.agg (Hh c)] [pr (Ft p c)] :=
 Ue func47 rfl [.r 6 (eI (b:=(p.length:Int)) (by simp)),.k (zA hlp λk hk=>Qee hk hp hc)] rfl
theorem Iv {p:Uk} (hlp:p.length<274877906944) (hp:Bd 4294967295 p):Uh 280 [pr p] [pr (Gv p)] :=
 Ue func280 rfl [.r 6 (eI (b:=((p.length-1:Nat):Int)) (by simp; omega)),.k (dU (by omega) λk hk=>oL (by omega) hlp hp)] rfl rfl (by simp [Uz]; omega)
theorem L8 {ls:Uq} {p:Uk} (hi:IsInts ls p) (hl:p.length<274877906944) (hs:Bd 4294967295 p):Uh 205 [.one (.row ls)] [pr (trim p)]:=by
 refine Fw func205 rfl ?_;have hlen:=hi.len;refine Uc [.i ls.length,.i ls.length] rfl ?_;rw [E7 λk=>Hh (p.getD k 0)];refine Ug (S:=Nat) 1 (λL1 k=>(11,.v (.oi k))::L1) (λk=>[.row false 36 2 (EG (λk=>Hh (p.getD k 0)) [.bool false,.nils] ls.length k)]) (λk=>ls.length-k) (λk=>k<=ls.length) 0 (Qh _) rfl rfl λk hk=>?_
 by_cases hlt:k<ls.length
 ·obtain ⟨x,y,hx,hxy⟩:=hi.get (Ra (p:=p) (k:=k) (by omega));have cn:=Bz hxy (Fo hs k);obtain ⟨b,l,rfl,rfl,_⟩:=hxy;refine go tt [.t (by simp; omega),.x hx,.k cn,.i k] rfl (by simp [Uz,A7]; omega) ?_;have e:=QK (λk=>Hh (p.getD k 0)) [.bool false,.nils] hlt;rw [e];exact rd (k+1) (by omega) hlt rfl
 ·obtain rfl:k=ls.length:=by omega
  have e:EG (λk=>Hh (p.getD k 0)) [.bool false,.nils] ls.length ls.length=p.map Hh:=by
   rw [QV,hlen];refine Xj λi=>?_
   by_cases hi:i<p.length
   ·simp [Xz hi,List.getD,Qe hi]
   ·simp [Qw,hi]
  rw [e];exact Ud [.f (by simp),.k (NA _)] rfl
theorem Ht {p:Uk} (ht:U9 p) (hl:p.length<274877906944) (hs:Bd 4294967295 p):Uh 205 [pr p] [pr p]:=by
 have:=L8 (Gl p) hl hs;rw [ht] at this; exact this
theorem Qnp {p:Uk} {i:Nat} {z:Int} (h:p[i]? = some z):(p.map λ(x:Int)=>[LV.int .i64 x])[i]? = some [.int .i64 z]:=Gt h
theorem cA {p:Uk} (hl:p.length<274877906944) (hr:∀ z∈p,-9223372036854775808≤z/\z≤9223372036854775807):Uh 150 [.one (ids p)] [pr (trim p)]:=by
 refine Fw func150 rfl ?_;refine Uc [.r 7 (eI (b:=(p.length:Int)) (by simp)),.i p.length,.i p.length,.r 10 (eI (b:=(p.length:Int)) (by simp))] rfl ?_;rw [E7 λk=>Hh (p.getD k 0)];refine Ug (S:=Nat) 1 (λL1 k=>(11,.v (.oi k))::L1) (λk=>[.row false 36 2 (EG (λk=>Hh (p.getD k 0)) [.bool false,.nils] p.length k)]) (λk=>p.length-k) (λk=>k<=p.length) 0 (Qh _) rfl rfl λk hk=>?_
 by_cases hlt:k<p.length
 ·have hg:=Ra hlt;refine go tt [.t (by simp; omega),.x (Qnp hg),.k (zP (hr _ (Qa hg))),.i k] rfl (by simp [Uz,A7]; omega) ?_;have e:=QK (λk=>Hh (p.getD k 0)) [.bool false,.nils] hlt;rw [e];exact rd (k+1) (by omega) hlt rfl
 ·obtain rfl:k=p.length:=by omega
  have e:EG (λk=>Hh (p.getD k 0)) [.bool false,.nils] p.length p.length=p.map Hh:=by
   rw [QV];refine Xj λi=>?_
   by_cases hi:i<p.length
   ·simp [Xz hi,List.getD,Qe hi]
   ·simp [Qw,hi]
  rw [e];exact Ud [.f (by simp),.k (NA _)] rfl
theorem nZ (l:Uk) (i:Nat) (z:Int):(l.map Hh).set i (Hh z)=(l.set i z).map Hh:=by rw [Vu]
theorem MM (m:Nat):((List.replicate m [LV.bool false,LV.nils]).map λc=>c.map UE)=(List.replicate m (0:Int)).map Hh:=by
 simp [D7,UE]
theorem zN {p0 q:Uk} {s t:Nat} (tq:U9 q) (hlp:p0.length<137438953472) (hlq:q.length<137438953472) (hp:Bd s p0) (hq:Bd t q) (hst:s+t<=4294967000):Uh 266 [pr p0,pr q] [pr (Gk (trim p0) q)]:=by
 have cp:=L8 (Gl p0) (by omega) (U0 hp (show s<=4294967295 by omega));have hp:=Su hp;have hlp:=Z4 (Rt p0) hlp;obtain ⟨p,ep⟩:=nmE (trim p0);rw [<-ep] at cp hp hlp ⊢;have cq:=Ht tq (by omega) (U0 hq (show t<=4294967295 by omega));by_cases h0:p.length=0
 ·have e:Gk p q=[]:=by unfold Gk; rw [if_pos (.inl h0)]
  rw [e];exact Ue func266 rfl [.k cp,.k cq,.t (by simp; exact Qj h0),.t rfl] rfl
 by_cases h1:q.length=0
 ·have e:Gk p q=[]:=by unfold Gk; rw [if_pos (.inr h1)]
  rw [e];exact Ue func266 rfl [.k cp,.k cq,.f (by simp; intro h; subst h; simp at h0),.t (by simp; exact Qj h1)] rfl
 refine Fw func266 rfl ?_;have e:Gk p q=trim (Aj p q (List.replicate (p.length+q.length-1) 0) p.length):=by unfold Gk; rw [if_neg (by omega)]
 rw [e];obtain ⟨N,hN⟩:=nmE (p.length+q.length-1);rw [<-hN];obtain ⟨o,ho⟩:=nmE (List.replicate N (0:Int));rw [<-ho];have hol:o.length=N:=by rw [ho]; simp
 have ho0:∀ m,o.getD m 0=0:=λm=>by rw [ho]; exact Ca N m
 refine Uc [.k cp,.k cq,.f (by simp; intro h; subst h; simp at h0),.f (by simp; intro h; subst h; simp at h1),.r 27 (eI (b:=(N:Int)) (by simp; omega)),.i N,.i N] rfl ?_;refine nl 0 rfl rfl rfl ?_;rw [MM,<-ho];refine Ug (S:=Nat) 1 (λL1 i=>(31,.v (.oi i))::L1) (λi=>[.row false 36 2 ((Aj p q o i).map Hh)]) (λi=>p.length-i) (λi=>i<=p.length) 0 (Qh _) rfl rfl λi hi=>?_
 by_cases hlt:i<p.length
 ·refine Ub [.t (by simp; omega),.x (Pe (Ra hlt))] rfl ?_;refine Ug (S:=Nat) 2 (λL1 k=>(38,.v (.oi k))::L1) (λk=>[.row false 36 2 ((Oa (p.getD i 0) q i (Aj p q o i) k).map Hh),.blk 36 (Hh (p.getD i 0))]) (λk=>q.length-k) (λk=>k<=q.length) 0 (Qh _) rfl rfl λk hk=>?_
  by_cases hk2:k<q.length
  ·have hm1:Fe ((Oa (p.getD i 0) q i (Aj p q o i) k).getD (i+k) 0)<=4294967295:=Qc (Ij (t:=39) (jG (by rw [D5]; omega) (jF (λj hj=>by omega) ho0 (λi j=>M9 (Fo hp i) (Fo hq j))) (λj=>M9 (Fo hp i) (Fo hq j)) (i+k)) (Kh (show i+1<549755813888 by omega) (by decide))) (by omega);have hm2:Fe (p.getD i 0*q.getD k 0)<=4294967295:=Qc (Ga _ _) (by have:=Fo hp i; have:=Fo hq k; omega);have hg:(Oa (p.getD i 0) q i (Aj p q o i) k)[i+k]? = some ((Oa (p.getD i 0) q i (Aj p q o i) k).getD (i+k) 0):=Ra (by rw [Ob,D5]; omega);refine go tt [.t (by simp; omega),.x (Pe (Ra hk2)),.i (i+k),.x (Pe hg),.k (Nq (U3 _) (U3 _) (Qc (Fo hp i) (by omega)) (Qc (Fo hq k) (by omega))),.k (VE (U3 _) (U3 _) hm1 hm2),.i (i+k)] rfl (by simp [Uz,Ob,D5] <;> omega) ?_;rw [nZ];exact rd (k+1) (by omega) hk2 rfl
  ·obtain rfl:k=q.length:=by omega
   exact go tt [.f (by simp)] rfl (by simp [Uz]; omega) (rd (i+1) (by omega) hlt rfl)
 ·obtain rfl:i=p.length:=by omega
  exact Ud [.f (by simp),.k (NA _)] rfl
theorem GE {p q:Uk} {s t:Nat} (tp:U9 p) (tq:U9 q) (hlp:p.length<137438953472) (hlq:q.length<137438953472) (hp:Bd s p) (hq:Bd t q) (hst:s+t<=4294967000):Uh 266 [pr p,pr q] [pr (Gk p q)]:=by
 have h:=zN tq hlp hlq hp hq hst;rw [show trim p=p from tp] at h;exact h
theorem PN {p q:Uk} (hlp:p.length<274877906944) (hlq:q.length<274877906944) (hp:Bd 4294967295 p) (hq:Bd 4294967295 q):Uh 148 [pr p,pr q] [.one (.bool (decide (trim p=trim q)))]:=by
 refine Fw func148 rfl ?_;have cp:=L8 (Gl p) hlp hp;have cq:=L8 (Gl q) hlq hq;have bp:=Su hp;have bq:=Su hq;have l1:=Rt p;have l2:=Rt q;obtain ⟨a,ha⟩:=nmE (trim p);obtain ⟨b,hb⟩:=nmE (trim q);rw [<-ha] at cp bp l1 ⊢;rw [<-hb] at cq bq l2 ⊢;by_cases hl:a.length=b.length
 ·refine Ub [.k cp,.k cq,.f (by simp; omega)] rfl ?_;refine Ug (S:=Nat) 0 (λL1 i=>(18,.v (.oi i))::L1) (λ_=>[]) (λi=>a.length-i) (λi=>i<=a.length/\a.take i=b.take i) 0 ⟨Qh _,rfl⟩ rfl rfl λi ⟨hi,he⟩=>?_
  by_cases hlt:i<a.length
  ·have ga:=Ra hlt;have gb:=Ra (p:=b) (k:=i) (by omega);have cc:=GO (U3 (a.getD i 0)) (U3 (b.getD i 0)) (Fo bp i) (Fo bq i);by_cases hz:a.getD i 0=b.getD i 0
   ·refine Uc [.t (by simp; omega),.x (Pe ga),.x (Pe gb),.k cc,.f (by simpa using xZ.2 hz)] rfl ?_;exact rd (i+1) (by omega) ⟨hlt,by rw [Y5,Y5,he,ga,gb,hz]⟩ rfl
   ·exact Ud [.t (by simp; omega),.x (Pe ga),.x (Pe gb),.k cc,.t (by have:=mt xZ.1 hz; simpa using this)] rfl (by rw [decide_eq_false]; intro h; exact hz (by rw [h])) trivial
  ·obtain rfl:i=a.length:=by omega
   rw [Q5,hl,Q5] at he;exact Ud [.f (by simp)] rfl (by rw [decide_eq_true he]) trivial
 ·exact Ud [.k cp,.k cq,.t (by simp; omega)] rfl (by rw [decide_eq_false]; intro h; exact hl (by rw [h])) trivial
theorem Qd7 {p:Uk} {n d:Int} {s t:Nat} (hl:p.length<274877906944) (hp:Bd s p) (hn:Fe n<=t) (hd:Fe d<=t) (hst:s+p.length*(t+1)+2*t+10<=4294967295):Uh 310 [pr p,.agg (Hh n),.agg (Hh d)] [.agg (Hh (Quv p n d))]:=by
 refine Fw func310 rfl ?_;refine Uc [.k (zP (z:=1) (by decide)),.r 13 (eI (b:=(p.length:Int)-1-((0:Nat):Int)) (by simp))] rfl ?_;refine nlb 3 rfl rfl rfl ?_;have e0:[LV.bool false,LV.nils].map UE=Hh (Ls p n d 0).1:=by simp [UE,Ls,D7]
 rw [e0];refine Ug (S:=Nat) 5 (λL1 j=>(9,.v (.oi ((p.length:Int)-1-(j:Int))))::L1) (λj=>[.blk 36 (Hh n),.blk 36 (Hh d),.blk 36 [.bool false,.nils],.blk 36 (Hh (Ls p n d j).1),.blk 36 (Hh (Ls p n d j).2)]) (λj=>p.length-j) (λj=>j<=p.length) 0 (Qh _) rfl rfl λj hj=>?_
 have hv:=iI (k:=j) hp hn hd;have hjl:j*(t+1)<=p.length*(t+1):=Qz _ (by omega);have hjl2:j*t<=j*(t+1):=Zu _ (by omega);by_cases hlt:j<p.length
 ·have hc:=Fo hp (p.length-1-j);have hm1:Fe ((Ls p n d j).1*n)<=4294967295:=Qc (Ga _ _) (by omega);have hm2:Fe (p.getD (p.length-1-j) 0*(Ls p n d j).2)<=4294967295:=Qc (Ga _ _) (by omega);refine go tt [.t (by simp; omega),.k (Nq (U3 _) (U3 _) (by omega) (by omega)),.r 22 (eI (b:=((p.length-1-j:Nat):Int)) (by omega)),.x (Pe (Ra (p:=p) (k:=p.length-1-j) (by omega))),.k (Nq (U3 _) (U3 _) (by omega) (by omega)),.k (VE (U3 _) (U3 _) hm1 hm2),.k (Nq (U3 _) (U3 _) (by omega) (by omega)),.r 17 (eI (b:=(p.length:Int)-1-((j+1:Nat):Int)) (by omega))] rfl (by simp [Uz] <;> omega) ?_;exact rd (j+1) (by omega) hlt rfl
 ·obtain rfl:j=p.length:=by omega
  exact Ud [.f (by simp; omega)] rfl
theorem Df {p:Uk} (tp:U9 p) (hl:p.length<274877906944) (hp:Bd 4294967295 p):Uh 334 [pr p] [.agg (Hh (p.getD (p.length-1) 0))]:=by
 have cn:=Ht tp hl hp;by_cases h0:p=[]
 ·subst h0;exact Ue func334 rfl [.k cn,.t (by simp)] rfl (by simp [D7]) trivial
 ·have hpl:0<p.length:=J1.2 h0;exact Ue func334 rfl [.k cn,.f (by simpa using h0),.r 12 (eI (b:=((p.length-1:Nat):Int)) (by simp; omega)),.x (Pe (Ra (by omega)))] rfl rfl (by simp [Uz]; omega)
theorem Qrd {a b:Int} {q:Rat} (h1:a=q.num) (h2:b=(q.den:Int)):[sg a,mg a,sg b,mg b]=rl q:=by rw [h1,h2]
theorem ZR {n d:Int} (h0:d≠0) (hn:Fe n<=4294967295) (hd:Fe d<=4294967295):Uh 211 [.agg (Hh n),.agg (Hh d)] [.agg (rl (Rat.divInt n d))]:=by
 have cg:=Qds (Gl [n,d]) (λz hz=>by simp at hz; rcases hz with rfl | rfl <;> assumption);have gp:=uX (n:=n) h0;have gs:=lI (n:=n) h0 hd;have m1:=CH n d;have m2:=CS n d;obtain ⟨g,hg⟩:=nmE (((Ru [n,d]:Nat):Int));rw [<-hg] at cg gp gs m1 m2;by_cases hneg:d<0
 ·obtain ⟨e1,e2⟩:=Qnz (n:=n) hneg;rw [<-hg] at e1 e2;rw [<-Qrd e1 e2];exact Ue func211 rfl [.k cg,.t (by simpa using hneg),.k (NN (U3 n) hn),.k (NN (U3 d) hd),.k (Aw (U3 _) (U3 _) (by rw [Hx]; exact hn) gs (by omega) (aJ m1)),.k (Aw (U3 _) (U3 _) (by rw [Hx]; exact hd) gs (by omega) (aJ m2))] rfl
 ·obtain ⟨e1,e2⟩:=eN (n:=n) (d:=d) (by omega);rw [<-hg] at e1 e2;rw [<-Qrd e1 e2];exact Ue func211 rfl [.k cg,.f (by simpa using hneg),.k (Aw (U3 _) (U3 _) hn gs (by omega) m1),.k (Aw (U3 _) (U3 _) hd gs (by omega) m2)] rfl
theorem PD {x y x' y':LV} {n d:Int} (h1:Gs x y n) (h2:Gs x' y' d) (hn:Fe n<=4294967295) (hd:Fe d<=4294967295):Uh 140 [.agg [x,y,x',y']] [.agg (rl (Gu n d))]:=by
 have c1:=Bz h1 hn;have c2:=Bz h2 hd;obtain ⟨b,l,rfl,rfl,_⟩:=h1;obtain ⟨b',l',rfl,rfl,_⟩:=h2;by_cases h0:d=0
 ·have e:Gu n d=Rat.divInt n 1:=by unfold Gu; rw [if_pos h0]
  rw [e];exact Ue func140 rfl [.k c2,.k Lj,.t (by simpa using h0),.k (zP (z:=1) (by decide)),.k c1,.k (ZR (by decide) hn (by decide))] rfl
 ·have e:Gu n d=Rat.divInt n d:=by unfold Gu; rw [if_neg h0]
  rw [e];exact Ue func140 rfl [.k c2,.k Lj,.f (by simpa using h0),.k c1,.k (ZR h0 hn hd)] rfl
theorem BJ {q:Rat} (hq:Qs 4294967295 q):Uh 140 [.agg (rl q)] [.agg (rl q)]:=by
 have:=PD (U3 q.num) (U3 (q.den:Int)) hq.1 hq.2;rwa [Sv] at this
theorem Qs1 {n:Int} (hn:Fe n<=4294967295):Uh 122 [.agg (Hh n)] [.agg (rl (n:Rat))] :=
 Ue func122 rfl [.k (Bz (U3 n) hn),.k (zP (z:=1) (by decide))] rfl (by simp [rl]) trivial
theorem zL {a b:Rat} (ha:Qs 2147483647 a) (hb:Qs 2147483647 b):Uh 141 [.agg (rl a),.agg (rl b)] [.agg (Hh (a.num*(b.den:Int))),.agg (Hh (b.num*(a.den:Int))),.agg (Hh ((a.den:Int)*(b.den:Int)))] :=
 Ue func141 rfl [.k (BJ (ha.mono (by decide))),.k (BJ (hb.mono (by decide))),.k (Nq (U3 _) (U3 _) (Qc ha.1 (by decide)) (Qc hb.2 (by decide))),.k (Nq (U3 _) (U3 _) (Qc hb.1 (by decide)) (Qc ha.2 (by decide))),.k (Nq (U3 _) (U3 _) (Qc ha.2 (by decide)) (Qc hb.2 (by decide)))] rfl
theorem B5 {a b:Rat} (ha:Qs 2147483647 a) (hb:Qs 2147483647 b):Uh 70 [.agg (rl a),.agg (rl b)] [.oi (G6 a b)] :=
 Ue func70 rfl [.k (zL ha hb),.k (GO (U3 _) (U3 _) (Qc (Ga _ _) (by have:=ha.1; have:=hb.2; omega)) (Qc (Ga _ _) (by have:=hb.1; have:=ha.2; omega)))] rfl
theorem BX {x y x' y':LV} {n d:Int} (h1:Gs x y n) (h2:Gs x' y' d) (hn:Fe n<=4294967295) (hd:Fe d<=4294967295):Uh 69 [.agg [x,y,x',y'],.one (.row [])] [.agg (rl (Gu n d))]:=by
 have c1:=PD h1 h2 hn hd;obtain ⟨b,l,rfl,rfl,_⟩:=h1;obtain ⟨b',l',rfl,rfl,_⟩:=h2;refine Fw func69 rfl ?_;refine Ub [.k c1] rfl ?_;refine Ug (S:=Unit) 3 (λL1 _=>(12,.v (.oi 0))::L1) (λ_=>[.blk 42 [.bool b,.row (lm l),.bool b',.row (lm l')],.blk 42 [.bool false,.nils,.bool false,.nils],.blk 42 (rl (Gu n d))]) (λ_=>0) (λ_=>True) () trivial rfl rfl λ_ _=>?_
 exact Ud [.f (by simp)] rfl
theorem Nl {q:Rat} (hq:Qs 4294967295 q):Uh 69 [.agg (rl q),.one (.row [])] [.agg (rl q)]:=by
 have:=BX (U3 q.num) (U3 (q.den:Int)) hq.1 hq.2;rwa [Sv] at this
theorem Qmr {q:Rat} (hq:Qs 4294967295 q):Uh 309 [.agg (rl q)] [.agg (rl q)]:=Ue func309 rfl [.k (Nl hq)] rfl
theorem cI {p:Uk} {q:Rat} {s t:Nat} (tp:U9 p) (hl:p.length<274877906944) (hp:Bd s p) (hq:Qs t q) (hst:s+p.length*(t+1)+2*t+10<=4294967295):Uh 270 [pr p,.agg (rl q)] [.oi (H7 p q)]:=by
 have cc:=GO (U3 (Quv p q.num q.den)) QW (Qc (iI hp hq.1 hq.2).1 (by omega)) (by decide);exact Ue func270 rfl [.k (Qmr (hq.mono (by omega))),.k (Ht tp hl (U0 hp (by omega))),.k (Qd7 hl hp hq.1 hq.2 hst),.k cc] rfl
theorem Qex {p:Uk} {g:Int} (hl:p.length<274877906944) (hp:Bd 4294967295 p) (hg:Fe g≤4294967295) (h0:g≠0) (hd:∀ z∈p,z % g=0):Uh 217 [pr p,.agg (Hh g)] [pr (trim (p.map (· / g)))]:=by
 refine Fw func217 rfl ?_;refine Uc [.r 9 (eI (b:=(p.length:Int)) (by simp)),.i p.length,.i p.length,.r 12 (eI (b:=(p.length:Int)) (by simp))] rfl ?_;rw [E7 λk=>Hh (p.getD k 0 / g)];refine Ug (S:=Nat) 2 (λL1 k=>(13,.v (.oi k))::L1) (λk=>[.blk 36 (Hh g),.row false 36 2 (EG (λk=>Hh (p.getD k 0 / g)) [.bool false,.nils] p.length k)]) (λk=>p.length-k) (λk=>k<=p.length) 0 (Qh _) rfl rfl λk hk=>?_
 by_cases hlt:k<p.length
 ·have hg2:=Ra hlt;refine go tt [.t (by simp; omega),.x (Pe hg2),.k (Aw (U3 _) (U3 _) (Fo hp k) hg h0 (hd _ (Qa hg2))),.i k] rfl (by simp [Uz,A7]; omega) ?_;have e:=QK (λk=>Hh (p.getD k 0 / g)) [.bool false,.nils] hlt;rw [e];exact rd (k+1) (by omega) hlt rfl
 ·obtain rfl:k=p.length:=by omega
  have e:EG (λk=>Hh (p.getD k 0 / g)) [.bool false,.nils] p.length p.length=(p.map (· / g)).map Hh:=by
   rw [QV];refine Xj λi=>?_
   by_cases hi:i<p.length
   ·simp [Xz hi,List.getD,Qe hi]
   ·simp [Qw,hi]
  rw [e];exact Ud [.f (by simp),.k (L8 (Gl (p.map (· / g))) (by simp; exact hl) (GM hp g))] rfl
theorem DI (p:Uk):∀ c∈p.map Hh,c.length=2:=Qq7 p λ_=>rfl
theorem zD {lx ly:Uq} {px py:Uk} {x y:LV} {d:Int} (hx:IsInts lx px) (hy:IsInts ly py) (hd:Gs x y d) (hk:Cs 4294967294 1073741824 (Crv.mk px py d)):Uh 147 [.agg [.row lx,.row ly,x,y]] [.agg (cl (Crv.norm (Crv.mk px py d)))]:=by
 have hlx:=hk.lx;have hly:=hk.ly;simp only at hlx hly;have htx:=Rt px;have hty:=Rt py;have hd1:Fe (Crv.mk px py d).d'<=4294967295:=Qc (Qg9 hk.d (by omega)) (by omega);have hg1:=Crv.isz_g (Crv.mk px py d) hd1;have hg0:=Crv.g_ne (Crv.mk px py d);have hgd:=Crv.g_dvd (Crv.mk px py d);have cx:=L8 hx (by omega) (U0 hk.x (by omega));have cy:=L8 hy (by omega) (U0 hk.y (by omega));have cd:=Bz hd (Qc hk.d (by omega));have bx:Bd 4294967295 (trim px):=U0 (Su hk.x) (by omega);have by_:Bd 4294967295 (trim py):=U0 (Su hk.y) (by omega);obtain ⟨b,l,rfl,rfl,_⟩:=hd;obtain ⟨e,he⟩:=nmE ((Crv.mk px py d).d');obtain ⟨g,hgg⟩:=nmE ((Crv.mk px py d).g);obtain ⟨X,hX⟩:=nmE (trim px);obtain ⟨Y,hY⟩:=nmE (trim py);have hnorm:(Crv.mk px py d).norm=⟨trim (X.map (· / g)),trim (Y.map (· / g)),e / g⟩:=by rw [he,hgg,hX,hY]; rfl
 rw [hnorm];have hgdef:g=if e<0 then -((Ru (e::(X++Y)):Nat):Int) else (Ru (e::(X++Y)):Nat):=by rw [hgg,he,hX,hY]; rfl
 have hde:e=if d=0 then 1 else d:=by rw [he]; rfl
 simp only [<-he,<-hgg,<-hX,<-hY] at hd1 hg1 hg0 hgd htx hty cx cy bx by_;clear hnorm hgg he hX hY;refine Fw func147 rfl ?_;refine Ub [.k cx,.k cy,.k cd,.k Lj] rfl ?_;refine ct 1 (S:=Unit) (λ_=>[(2,.v (.one (.ow 1 0))),(3,.v (pr X)),(4,.v (pr Y)),(5,.v (.one (.ow 2 0)))]) (λ_=>[.blk 38 [.row lx,.row ly,.bool b,.row (lm l)],.blk 38 [.nils,.nils,.bool false,.nils],.blk 36 (Hh e)]) (λ_=>True) rfl ?_ ?_
 ·by_cases h0:d=0
  ·rw [hde,if_pos h0];exact go tt [.t (by simpa using h0),.k (zP (z:=1) (by decide))] rfl trivial (rc () trivial rfl)
  ·rw [hde,if_neg h0];exact go tt [.f (by simpa using h0)] rfl trivial (rc () trivial rfl)
 ·intro _ _;have hgi:IsInts ([Hh e]++X.map Hh++Y.map Hh) (e::(X++Y)):=by
   have:=Gl (e::(X++Y));simpa using this
  have hgs:∀ z∈e::(X++Y),Fe z≤4294967295:=λz hz=>by
   rcases Qm.1 hz with rfl | hz
   ·exact hd1
   ·rcases Qq.1 hz with hz | hz
    ·exact bx z hz
    ·exact by_ z hz
  have cg:=Qds hgi hgs;have co1:=Qex (p:=X) (by omega) bx hg1 hg0 λz hz=>hgd z (Qg _ (X8 _ hz))
  have co2:=Qex (p:=Y) (by omega) by_ hg1 hg0 λz hz=>hgd z (Qg _ (Jf _ hz))
  have ce:=Aw (U3 e) (U3 g) hd1 hg1 hg0 (hgd e (Qx ..));have hszg:=MY hgs;by_cases hneg:e<0
  ·rw [if_pos hneg] at hgdef;have cn:=NN (U3 ((Ru (e::(X++Y)):Nat):Int)) hszg;rw [<-hgdef] at cn;exact Ud [.lo,.s (DI X),.s (DI Y),.k cg,.t (by simpa using hneg),.k cn,.k ce,.k co1,.k co2] rfl rfl (by simp [Uz]; omega)
  ·rw [if_neg hneg] at hgdef;rw [<-hgdef] at cg;exact Ud [.lo,.s (DI X),.s (DI Y),.k cg,.f (by simpa using hneg),.k ce,.k co1,.k co2] rfl rfl (by simp [Uz]; omega)
theorem NL {k:Crv} (hn:JH k) (hk:Cs 4294967294 1073741824 k):Uh 147 [.agg (cl k)] [.agg (cl k)]:=by
 have h:=zD (Gl k.x) (Gl k.y) (U3 k.d) hk;rw [Crv.norm_of hn] at h; exact h
theorem WB {lx ly:Uq} {px py:Uk} {x y:LV} {d:Int} (hx:IsInts lx px) (hy:IsInts ly py) (hd:Gs x y d) (hk:Cs 4294967294 1073741824 (Crv.mk px py d)) (h0:d≠0):Uh 154 [.one (.row lx),.one (.row ly),.agg [x,y]] [.agg (cl (Crv.norm (Crv.mk px py d))),.oi 0]:=by
 have cd:=Bz hd (Qc hk.d (by omega));have cn:=zD hx hy hd hk;obtain ⟨b,l,rfl,rfl,_⟩:=hd;exact Ue func154 rfl [.k cd,.k Lj,.f (by simpa using h0),.k cn] rfl
theorem Qqm {lx ly:Uq} {px py:Uk} (hx:IsInts lx px) (hy:IsInts ly py) (hk:Cs 4294967294 1073741824 (Crv.mk px py 0)):Uh 80 [.one (.row lx),.one (.row ly)] [.agg (cl (Crv.norm (Crv.mk px py 0)))] :=
 Ue func80 rfl [.k (zD hx hy QW hk)] rfl
def Rx (x y:Int):Crv:=Crv.norm ⟨trim [x],trim [y],0⟩
theorem kA {x y:Int} (hx:-9223372036854775808<=x/\x<=9223372036854775807) (hy:-9223372036854775808<=y/\y<=9223372036854775807):Cs 64 1 ⟨trim [x],trim [y],0⟩:=by
 have key:∀ z:Int,-9223372036854775808<=z/\z<=9223372036854775807->Fe z<=64:=λz hz=>by
  rw [Sj];have:(2:Nat)^64=18446744073709551616:=by decide
  omega
 refine ⟨Su λz hz=>?_,Su λz hz=>?_,Qh _,Rt [x],Rt [y]⟩
 ·rw [Qk] at hz; rw [hz]; exact key x hx
 ·rw [Qk] at hz; rw [hz]; exact key y hy
theorem dZ {x y:Int} (hx:-9223372036854775808<=x/\x<=9223372036854775807) (hy:-9223372036854775808<=y/\y<=9223372036854775807):Uh 79 [.oi x,.oi y] [.agg (cl (Rx x y))] :=
 Ue func79 rfl [.k (cA (p:=[x]) (show 1<274877906944 by decide) (by intro z hz; rw [Qk] at hz; rw [hz]; exact hx)),.k (cA (p:=[y]) (show 1<274877906944 by decide) (by intro z hz; rw [Qk] at hz; rw [hz]; exact hy)),.k (Qqm (Gl _) (Gl _) ((kA hx hy).mono (by omega) (by omega)))] rfl
theorem dV {a b:Crv} (ha:JH a) (hb:JH b) (ca:Cs 4294967294 1073741824 a) (cb:Cs 4294967294 1073741824 b):Uh 75 [.agg (cl a),.agg (cl b)] [.one (.bool (Lu a b))]:=by
 have na:=NL ha ca;have nb:=NL hb cb;have alx:=ca.lx;have aly:=ca.ly;have blx:=cb.lx;have bly:=cb.ly;have sx:=PN (p:=a.x) (q:=b.x) (by omega) (by omega) (U0 ca.x (by omega)) (U0 cb.x (by omega));have sy:=PN (p:=a.y) (q:=b.y) (by omega) (by omega) (U0 ca.y (by omega)) (U0 cb.y (by omega));have sd:=GO (U3 a.d) (U3 b.d) (Qc ca.d (by omega)) (Qc cb.d (by omega));rw [ha.1,hb.1] at sx;rw [ha.2.1,hb.2.1] at sy;by_cases h1:a.x=b.x
 ·by_cases h2:a.y=b.y
  ·exact Ue func75 rfl [.k na,.k nb,.k sx,.t (by simpa using h1),.k sy,.t (by simpa using h2),.k sd] rfl (by simp [Lu,h1,h2,xZ]) trivial
  ·exact Ue func75 rfl [.k na,.k nb,.k sx,.t (by simpa using h1),.k sy,.f (by simpa using h2)] rfl (by simp [Lu,h1,h2]) trivial
 ·exact Ue func75 rfl [.k na,.k nb,.k sx,.f (by simpa using h1),.f rfl] rfl (by simp [Lu,h1]) trivial
end Orr
