/- Ntt L1 L2 L3 L4 L5 M1 P2 M2 PolyL RatL CrvL CrowdL PredL CertL Y1 Y2 Q1 C1 -/
import Derived.Test.YtoohlnnpalgnaaaGreatPart03
import Derived.Laws.StructEq
import Derived.Test.YtoohlnnpalgnaaaGreatProg
import Derived.Test.YtoohlnnpalgnaaaGreatPart00
set_option linter.all false
namespace Orr
open Go Go.Proofs Tryz
theorem aF(d:Nat)(x y:Int)(w:World):(Op.equalIn (d+1) 3 (.int .i64 x) (.int .i64 y)).run prog w=.ok (decide (x=y)) w:=by
 simp[Op.equalIn,runUnderlying3];rfl
noncomputable def ti3:TI prog:=QZ 3 isAgg3 sizeOf3 underlying3 zeroValue3 typeInfo3 8 rfl
noncomputable def ti4:TI prog:=QZ 4 isAgg4 sizeOf4 underlying4 zeroValue4 typeInfo4 1 rfl
noncomputable def ti5:TI prog:=QZ 5 isAgg5 sizeOf5 underlying5 zeroValue5 typeInfo5 1 rfl
noncomputable def ti9:TI prog:=QZ 9 isAgg9 sizeOf9 underlying9 zeroValue9 typeInfo9 16 rfl
noncomputable def ti22:TI prog:=QZ 22 isAgg22 sizeOf22 underlying22 zeroValue22 typeInfo22 24 rfl
noncomputable def ti23:TI prog:=QZ 23 isAgg23 sizeOf23 underlying23 zeroValue23 typeInfo23 24 rfl
noncomputable def ti24:TI prog:=QZ 24 isAgg24 sizeOf24 underlying24 zeroValue24 typeInfo24 8 rfl
noncomputable def ti27:TI prog:=GI (ks:=[1,1,1]) (ag:=[false,false,false]) 27 isAgg27 sizeOf27 underlying27 zeroValue27 typeInfo27 24 rfl ⟨sizeOf24,sizeOf25,sizeOf3,trivial⟩ ⟨isAgg24,isAgg25,isAgg3,trivial⟩ rfl
noncomputable def ti30:TI prog:=QZ 30 isAgg30 sizeOf30 underlying30 zeroValue30 typeInfo30 8 rfl
noncomputable def ti32:TI prog:=QZ 32 isAgg32 sizeOf32 underlying32 zeroValue32 typeInfo32 24 rfl
noncomputable def ti33:TI prog:=QZ 33 isAgg33 sizeOf33 underlying33 zeroValue33 typeInfo33 24 rfl
noncomputable def ti34:TI prog:=QZ 34 isAgg34 sizeOf34 underlying34 zeroValue34 typeInfo34 24 rfl
noncomputable def ti36:TI prog:=GI (ks:=[1,1]) (ag:=[false,false]) 36 isAgg36 sizeOf36 underlying36 zeroValue36 typeInfo36 32 rfl ⟨sizeOf4,sizeOf34,trivial⟩ ⟨isAgg4,isAgg34,trivial⟩ rfl
noncomputable def ti38:TI prog:=GI (ks:=[1,1,2]) (ag:=[false,false,true]) 38 isAgg38 sizeOf38 underlying38 zeroValue38 typeInfo38 80 rfl ⟨sizeOf33,sizeOf33,sizeOf36,trivial⟩ ⟨isAgg33,isAgg33,isAgg36,trivial⟩ rfl
noncomputable def ti40:TI prog:=GI (ks:=[4,1]) (ag:=[true,false]) 40 isAgg40 sizeOf40 underlying40 zeroValue40 typeInfo40 88 rfl ⟨sizeOf38,sizeOf3,trivial⟩ ⟨isAgg38,isAgg3,trivial⟩ rfl
noncomputable def ti42:TI prog:=GI (ks:=[2,2]) (ag:=[true,true]) 42 isAgg42 sizeOf42 underlying42 zeroValue42 typeInfo42 64 rfl ⟨sizeOf36,sizeOf36,trivial⟩ ⟨isAgg36,isAgg36,trivial⟩ rfl
noncomputable def ti44:TI prog:=GI (ks:=[1,1,1,5,4]) (ag:=[false,false,false,true,true]) 44 isAgg44 sizeOf44 underlying44 zeroValue44 typeInfo44 176 rfl ⟨sizeOf3,sizeOf3,sizeOf3,sizeOf40,sizeOf42,trivial⟩ ⟨isAgg3,isAgg3,isAgg3,isAgg40,isAgg42,trivial⟩ rfl
noncomputable def ti47:TI prog:=QZ 47 isAgg47 sizeOf47 underlying47 zeroValue47 typeInfo47 24 rfl
noncomputable def ti49:TI prog:=GI (ks:=[1,1]) (ag:=[false,false]) 49 isAgg49 sizeOf49 underlying49 zeroValue49 typeInfo49 32 rfl ⟨sizeOf47,sizeOf4,trivial⟩ ⟨isAgg47,isAgg4,trivial⟩ rfl
noncomputable def ti51:TI prog:=GI (ks:=[2,2]) (ag:=[true,true]) 51 isAgg51 sizeOf51 underlying51 zeroValue51 typeInfo51 64 rfl ⟨sizeOf49,sizeOf49,trivial⟩ ⟨isAgg49,isAgg49,trivial⟩ rfl
noncomputable def ti57:TI prog:=QZ 57 isAgg57 sizeOf57 underlying57 zeroValue57 typeInfo57 24 rfl
noncomputable def ti59:TI prog:=GI (ks:=[1,1,1,1,1]) (ag:=[false,false,false,false,false]) 59 isAgg59 sizeOf59 underlying59 zeroValue59 typeInfo59 120 rfl ⟨sizeOf23,sizeOf23,sizeOf23,sizeOf23,sizeOf57,trivial⟩ ⟨isAgg23,isAgg23,isAgg23,isAgg23,isAgg57,trivial⟩ rfl
set_option maxRecDepth 20000 in
theorem Qoy(d:Nat)(x0 x1 x2 x3 x4 y0 y1 y2 y3 y4:Int)(w:World):(Op.equalIn (d+1+1) 63 (.agg #[.int .i64 x0,.int .i64 x1,.int .i64 x2,.int .i64 x3,.int .i64 x4]) (.agg #[.int .i64 y0,.int .i64 y1,.int .i64 y2,.int .i64 y3,.int .i64 y4])).run prog w=.ok (decide ([x0,x1,x2,x3,x4]=[y0,y1,y2,y3,y4])) w:=by
 rw[run_equalIn_array w (d+1) _ _ (n:=5) (e:=3) rfl rfl];rw[show List.range 5=[0,1,2,3,4] from rfl,show prog.cellsOf 3=1 from rfl];simp[Op.eqItems,Go.part,isAgg3,aF];by_cases h0:x0=y0 <;> by_cases h1:x1=y1 <;> by_cases h2:x2=y2 <;> by_cases h3:x3=y3 <;> by_cases h4:x4=y4 <;> simp[h0,h1,h2,h3,h4]
theorem Qu5(a b:Um)(ha:a.length=5)(hb:b.length=5)(w:World):(Op.equal 63 (.agg (a.map (Value.int .i64)).toArray) (.agg (b.map (Value.int .i64)).toArray)).run prog w=.ok (decide (a=b)) w:=by
 match a,ha,b,hb with
 | [x0,x1,x2,x3,x4],_,[y0,y1,y2,y3,y4],_=>exact Qoy 9998 x0 x1 x2 x3 x4 y0 y1 y2 y3 y4 w
noncomputable def ti63:TI prog:={ tiA 63 isAgg63 sizeOf63 underlying63 zeroValue63 typeInfo63 40 rfl sizeOf3 with eqn:=some 5,heq:=λk h=>by injection h with h;subst h;exact⟨eqGuardType63,Qu5⟩ }
noncomputable def ti66:TI prog:=QZ 66 isAgg66 sizeOf66 underlying66 zeroValue66 typeInfo66 24 rfl
noncomputable def ti70:TI prog:=QZ 70 isAgg70 sizeOf70 underlying70 zeroValue70 typeInfo70 24 rfl
noncomputable def ti73:TI prog:=QZ 73 isAgg73 sizeOf73 underlying73 zeroValue73 typeInfo73 8 rfl
abbrev bF:List (Nat×Nat×String):=[(388,0,"Advance"),(194,0,"Begin"),(389,0,"Certs"),(63,0,"Clone"),(390,0,"Drop"),(391,0,"Events"),(396,0,"Go"),(81,0,"Ids"),(392,0,"Next"),(400,0,"Now"),(393,0,"Put"),(394,0,"Turn")]
theorem Qvx:∀x∈bF,∀b o w,(method (prog.types.size+Made.depth) 74 (.pointer (some ⟨b,o,none⟩)) x.2.2).run prog w=.ok (x.1,.pointer (some ⟨b,o+x.2.1,none⟩)) w:=λx hx=>by
 simp only[bF,Qn,X2,or_false]at hx;rcases hx with rfl|rfl|rfl|rfl|rfl|rfl|rfl|rfl|rfl|rfl|rfl|rfl <;> first|exact Av (E:=220) typeInfo74 rfl underlying74|exact Lj (S:=220) (i:=0) typeInfo74 rfl underlying220 rfl underlying216 (λ_ h=>by cases h) sizeOf216 (by decide)
noncomputable def ti74:TI prog:={ QZ 74 isAgg74 sizeOf74 underlying74 zeroValue74 typeInfo74 8 rfl with ms:=bF,hms:=Qvx }
abbrev bG:List (Nat×Nat×String):=[(417,0,"Advance"),(194,0,"Begin"),(389,0,"Certs"),(64,0,"Clone"),(418,0,"Drop"),(391,0,"Events"),(396,0,"Go"),(392,0,"Next"),(400,0,"Now"),(419,0,"Put"),(420,0,"Turn"),(84,0,"Winner")]
theorem Qvy:∀x∈bG,∀b o w,(method (prog.types.size+Made.depth) 75 (.pointer (some ⟨b,o,none⟩)) x.2.2).run prog w=.ok (x.1,.pointer (some ⟨b,o+x.2.1,none⟩)) w:=λx hx=>by
 simp only[bG,Qn,X2,or_false]at hx;rcases hx with rfl|rfl|rfl|rfl|rfl|rfl|rfl|rfl|rfl|rfl|rfl|rfl <;> first|exact Av (E:=223) typeInfo75 rfl underlying75|exact Lj (S:=223) (i:=0) typeInfo75 rfl underlying223 rfl underlying216 (λ_ h=>by cases h) sizeOf216 (by decide)
noncomputable def ti75:TI prog:={ QZ 75 isAgg75 sizeOf75 underlying75 zeroValue75 typeInfo75 8 rfl with ms:=bG,hms:=Qvy }
abbrev bR:List (Nat×Nat×String):=[(422,0,"Advance"),(194,0,"Begin"),(389,0,"Certs"),(65,0,"Clone"),(423,0,"Drop"),(391,0,"Events"),(396,0,"Go"),(82,0,"Ids"),(392,0,"Next"),(400,0,"Now"),(424,0,"Put"),(425,0,"Turn")]
theorem Qvz:∀x∈bR,∀b o w,(method (prog.types.size+Made.depth) 76 (.pointer (some ⟨b,o,none⟩)) x.2.2).run prog w=.ok (x.1,.pointer (some ⟨b,o+x.2.1,none⟩)) w:=λx hx=>by
 simp only[bR,Qn,X2,or_false]at hx;rcases hx with rfl|rfl|rfl|rfl|rfl|rfl|rfl|rfl|rfl|rfl|rfl|rfl <;> first|exact Av (E:=225) typeInfo76 rfl underlying76|exact Lj (S:=225) (i:=0) typeInfo76 rfl underlying225 rfl underlying216 (λ_ h=>by cases h) sizeOf216 (by decide)
noncomputable def ti76:TI prog:={ QZ 76 isAgg76 sizeOf76 underlying76 zeroValue76 typeInfo76 8 rfl with ms:=bR,hms:=Qvz }
abbrev bM:List (Nat×Nat×String):=[(427,0,"Advance"),(194,0,"Begin"),(389,0,"Certs"),(66,0,"Clone"),(428,0,"Drop"),(391,0,"Events"),(396,0,"Go"),(85,0,"Ids"),(392,0,"Next"),(400,0,"Now"),(429,0,"Put"),(430,0,"Turn")]
theorem Qv0:∀x∈bM,∀b o w,(method (prog.types.size+Made.depth) 77 (.pointer (some ⟨b,o,none⟩)) x.2.2).run prog w=.ok (x.1,.pointer (some ⟨b,o+x.2.1,none⟩)) w:=λx hx=>by
 simp only[bM,Qn,X2,or_false]at hx;rcases hx with rfl|rfl|rfl|rfl|rfl|rfl|rfl|rfl|rfl|rfl|rfl|rfl <;> first|exact Av (E:=227) typeInfo77 rfl underlying77|exact Lj (S:=227) (i:=0) typeInfo77 rfl underlying227 rfl underlying216 (λ_ h=>by cases h) sizeOf216 (by decide)
noncomputable def ti77:TI prog:={ QZ 77 isAgg77 sizeOf77 underlying77 zeroValue77 typeInfo77 8 rfl with ms:=bM,hms:=Qv0 }
abbrev bN:List (Nat×Nat×String):=[(432,0,"Advance"),(194,0,"Begin"),(389,0,"Certs"),(67,0,"Clone"),(433,0,"Drop"),(391,0,"Events"),(396,0,"Go"),(392,0,"Next"),(400,0,"Now"),(434,0,"Put"),(83,0,"Triples"),(435,0,"Turn")]
theorem Qv1:∀x∈bN,∀b o w,(method (prog.types.size+Made.depth) 78 (.pointer (some ⟨b,o,none⟩)) x.2.2).run prog w=.ok (x.1,.pointer (some ⟨b,o+x.2.1,none⟩)) w:=λx hx=>by
 simp only[bN,Qn,X2,or_false]at hx;rcases hx with rfl|rfl|rfl|rfl|rfl|rfl|rfl|rfl|rfl|rfl|rfl|rfl <;> first|exact Av (E:=229) typeInfo78 rfl underlying78|exact Lj (S:=229) (i:=0) typeInfo78 rfl underlying229 rfl underlying216 (λ_ h=>by cases h) sizeOf216 (by decide)
noncomputable def ti78:TI prog:={ QZ 78 isAgg78 sizeOf78 underlying78 zeroValue78 typeInfo78 8 rfl with ms:=bN,hms:=Qv1 }
noncomputable def ti80:TI prog:=GI (ks:=[1,4,1,1,1,1,1]) (ag:=[false,true,false,false,false,false,false]) 80 isAgg80 sizeOf80 underlying80 zeroValue80 typeInfo80 112 rfl ⟨sizeOf73,sizeOf42,sizeOf74,sizeOf75,sizeOf76,sizeOf77,sizeOf78,trivial⟩ ⟨isAgg73,isAgg42,isAgg74,isAgg75,isAgg76,isAgg77,isAgg78,trivial⟩ rfl
set_option maxRecDepth 20000 in
theorem Qoz(d:Nat)(x0 x1 x2 y0 y1 y2:Int)(w:World):(Op.equalIn (d+1+1) 84 (.agg #[.int .i64 x0,.int .i64 x1,.int .i64 x2]) (.agg #[.int .i64 y0,.int .i64 y1,.int .i64 y2])).run prog w=.ok (decide ([x0,x1,x2]=[y0,y1,y2])) w:=by
 rw[run_equalIn_array w (d+1) _ _ (n:=3) (e:=3) rfl rfl];rw[show List.range 3=[0,1,2] from rfl,show prog.cellsOf 3=1 from rfl];simp[Op.eqItems,Go.part,isAgg3,aF];by_cases h0:x0=y0 <;> by_cases h1:x1=y1 <;> by_cases h2:x2=y2 <;> simp[h0,h1,h2]
theorem nK(a b:Um)(ha:a.length=3)(hb:b.length=3)(w:World):(Op.equal 84 (.agg (a.map (Value.int .i64)).toArray) (.agg (b.map (Value.int .i64)).toArray)).run prog w=.ok (decide (a=b)) w:=by
 match a,ha,b,hb with
 | [x0,x1,x2],_,[y0,y1,y2],_=>exact Qoz 9998 x0 x1 x2 y0 y1 y2 w
noncomputable def ti84:TI prog:={ tiA 84 isAgg84 sizeOf84 underlying84 zeroValue84 typeInfo84 24 rfl sizeOf3 with eqn:=some 3,heq:=λk h=>by injection h with h;subst h;exact⟨eqGuardType84,nK⟩ }
noncomputable def ti87:TI prog:=QZ 87 isAgg87 sizeOf87 underlying87 zeroValue87 typeInfo87 24 rfl
noncomputable def ti88:TI prog:=QZ 88 isAgg88 sizeOf88 underlying88 zeroValue88 typeInfo88 24 rfl
noncomputable def ti90:TI prog:=GI (ks:=[1,1,4,4]) (ag:=[false,false,true,true]) 90 isAgg90 sizeOf90 underlying90 zeroValue90 typeInfo90 176 rfl ⟨sizeOf87,sizeOf88,sizeOf51,sizeOf51,trivial⟩ ⟨isAgg87,isAgg88,isAgg51,isAgg51,trivial⟩ rfl
noncomputable def ti93:TI prog:=QZ 93 isAgg93 sizeOf93 underlying93 zeroValue93 typeInfo93 24 rfl
set_option maxRecDepth 20000 in
theorem Qo0(d:Nat)(x0 x1 x2 x3 y0 y1 y2 y3:Int)(w:World):(Op.equalIn (d+1+1) 95 (.agg #[.int .i64 x0,.int .i64 x1,.int .i64 x2,.int .i64 x3]) (.agg #[.int .i64 y0,.int .i64 y1,.int .i64 y2,.int .i64 y3])).run prog w=.ok (decide ([x0,x1,x2,x3]=[y0,y1,y2,y3])) w:=by
 rw[run_equalIn_array w (d+1) _ _ (n:=4) (e:=3) rfl rfl];rw[show List.range 4=[0,1,2,3] from rfl,show prog.cellsOf 3=1 from rfl];simp[Op.eqItems,Go.part,isAgg3,aF];by_cases h0:x0=y0 <;> by_cases h1:x1=y1 <;> by_cases h2:x2=y2 <;> by_cases h3:x3=y3 <;> simp[h0,h1,h2,h3]
noncomputable def ti95:TI prog:=tiA 95 isAgg95 sizeOf95 underlying95 zeroValue95 typeInfo95 32 rfl sizeOf3
set_option maxRecDepth 20000 in
theorem Qo1(d:Nat)(x x0 x1 x2 x3 y y0 y1 y2 y3:Int)(w:World):(Op.equalIn (d+1+1+1) 97 (.agg #[.int .i64 x,.int .i64 x0,.int .i64 x1,.int .i64 x2,.int .i64 x3]) (.agg #[.int .i64 y,.int .i64 y0,.int .i64 y1,.int .i64 y2,.int .i64 y3])).run prog w=.ok (decide ([x,x0,x1,x2,x3]=[y,y0,y1,y2,y3])) w:=by
 rw[run_equalIn_struct w (d+1+1) 97 _ _ rfl Tryz.stoodInHeld97];have hf:(prog.fieldsOf 97).toList=[{ name := "Kind",type:=3,offset:=0,embedded:=false,tag := "",pkgPath := "",byteOffset:=0 },{ name := "Ids",type:=95,offset:=1,embedded:=false,tag := "",pkgPath := "",byteOffset:=8 }]:=by simp[Program.fieldsOf,underlying97]
 rw[hf];simp[Op.eqFields,Go.part,isAgg3,isAgg95,sizeOf95,sizeOf3,aF,Qo0];by_cases h:x=y <;> by_cases h0:x0=y0 <;> by_cases h1:x1=y1 <;> by_cases h2:x2=y2 <;> by_cases h3:x3=y3 <;> simp[h,h0,h1,h2,h3]
theorem Qu6(a b:Um)(ha:a.length=5)(hb:b.length=5)(w:World):(Op.equal 97 (.agg (a.map (Value.int .i64)).toArray) (.agg (b.map (Value.int .i64)).toArray)).run prog w=.ok (decide (a=b)) w:=by
 match a,ha,b,hb with
 | [x,x0,x1,x2,x3],_,[y,y0,y1,y2,y3],_=>exact Qo1 9997 x x0 x1 x2 x3 y y0 y1 y2 y3 w
noncomputable def ti97:TI prog:={ GI (ks:=[1,4]) (ag:=[false,true]) 97 isAgg97 sizeOf97 underlying97 zeroValue97 typeInfo97 40 rfl ⟨sizeOf3,sizeOf95,trivial⟩ ⟨isAgg3,isAgg95,trivial⟩ rfl with eqn:=some 5,heq:=λk h=>by injection h with h;subst h;exact⟨eqGuardType97,Qu6⟩ }
noncomputable def ti99:TI prog:=GI (ks:=[5,1,1]) (ag:=[true,false,false]) 99 isAgg99 sizeOf99 underlying99 zeroValue99 typeInfo99 72 rfl ⟨sizeOf97,sizeOf33,sizeOf3,trivial⟩ ⟨isAgg97,isAgg33,isAgg3,trivial⟩ rfl
noncomputable def ti105:TI prog:=GI (ks:=[1,4,4]) (ag:=[false,true,true]) 105 isAgg105 sizeOf105 underlying105 zeroValue105 typeInfo105 152 rfl ⟨sizeOf33,sizeOf42,sizeOf42,trivial⟩ ⟨isAgg33,isAgg42,isAgg42,trivial⟩ rfl
noncomputable def ti109:TI prog:=QZ 109 isAgg109 sizeOf109 underlying109 zeroValue109 typeInfo109 24 rfl
noncomputable def ti139:TI prog:=QZ 139 isAgg139 sizeOf139 underlying139 zeroValue139 typeInfo139 16 rfl
noncomputable def ti140:TI prog:=tiA 140 isAgg140 sizeOf140 underlying140 zeroValue140 typeInfo140 80 rfl sizeOf139
noncomputable def ti151:TI prog:=QZ 151 isAgg151 sizeOf151 underlying151 zeroValue151 typeInfo151 4 rfl
noncomputable def ti159:TI prog:=GI (ks:=[1,1,1]) (ag:=[false,false,false]) 159 isAgg159 sizeOf159 underlying159 zeroValue159 typeInfo159 40 rfl ⟨sizeOf3,sizeOf3,sizeOf22,trivial⟩ ⟨isAgg3,isAgg3,isAgg22,trivial⟩ rfl
noncomputable def ti201:TI prog:=QZ 201 isAgg201 sizeOf201 underlying201 zeroValue201 typeInfo201 24 rfl
noncomputable def ti202:TI prog:=QZ 202 isAgg202 sizeOf202 underlying202 zeroValue202 typeInfo202 24 rfl
noncomputable def ti204:TI prog:=GI (ks:=[10,1,1,1]) (ag:=[true,false,false,false]) 204 isAgg204 sizeOf204 underlying204 zeroValue204 typeInfo204 232 rfl ⟨sizeOf90,sizeOf202,sizeOf3,sizeOf93,trivial⟩ ⟨isAgg90,isAgg202,isAgg3,isAgg93,trivial⟩ rfl
noncomputable def ti205:TI prog:=tiA 205 isAgg205 sizeOf205 underlying205 zeroValue205 typeInfo205 1160 rfl sizeOf204
noncomputable def ti207:TI prog:=GI (ks:=[1,1,1,4,65]) (ag:=[false,false,false,true,true]) 207 isAgg207 sizeOf207 underlying207 zeroValue207 typeInfo207 1264 rfl ⟨sizeOf3,sizeOf3,sizeOf201,sizeOf51,sizeOf205,trivial⟩ ⟨isAgg3,isAgg3,isAgg201,isAgg51,isAgg205,trivial⟩ rfl
noncomputable def ti214:TI prog:=QZ 214 isAgg214 sizeOf214 underlying214 zeroValue214 typeInfo214 24 rfl
noncomputable def ti216:TI prog:=GI (ks:=[1,9,1,1]) (ag:=[false,true,false,false]) 216 isAgg216 sizeOf216 underlying216 zeroValue216 typeInfo216 192 rfl ⟨sizeOf4,sizeOf105,sizeOf214,sizeOf3,trivial⟩ ⟨isAgg4,isAgg105,isAgg214,isAgg3,trivial⟩ rfl
noncomputable def ti218:TI prog:=GI (ks:=[1]) (ag:=[false]) 218 isAgg218 sizeOf218 underlying218 zeroValue218 typeInfo218 24 rfl ⟨sizeOf22,trivial⟩ ⟨isAgg22,trivial⟩ rfl
noncomputable def ti220:TI prog:=GI (ks:=[12,1,1]) (ag:=[true,true,false]) 220 isAgg220 sizeOf220 underlying220 zeroValue220 typeInfo220 240 rfl ⟨sizeOf216,sizeOf218,sizeOf22,trivial⟩ ⟨isAgg216,isAgg218,isAgg22,trivial⟩ rfl
noncomputable def ti221:TI prog:=QZ 221 isAgg221 sizeOf221 underlying221 zeroValue221 typeInfo221 24 rfl
noncomputable def ti223:TI prog:=GI (ks:=[12,1,1,1]) (ag:=[true,true,false,false]) 223 isAgg223 sizeOf223 underlying223 zeroValue223 typeInfo223 264 rfl ⟨sizeOf216,sizeOf218,sizeOf22,sizeOf221,trivial⟩ ⟨isAgg216,isAgg218,isAgg22,isAgg221,trivial⟩ rfl
noncomputable def ti225:TI prog:=GI (ks:=[12,1,1]) (ag:=[true,true,false]) 225 isAgg225 sizeOf225 underlying225 zeroValue225 typeInfo225 240 rfl ⟨sizeOf216,sizeOf218,sizeOf22,trivial⟩ ⟨isAgg216,isAgg218,isAgg22,trivial⟩ rfl
noncomputable def ti227:TI prog:=GI (ks:=[12,1,1]) (ag:=[true,true,false]) 227 isAgg227 sizeOf227 underlying227 zeroValue227 typeInfo227 240 rfl ⟨sizeOf216,sizeOf218,sizeOf22,trivial⟩ ⟨isAgg216,isAgg218,isAgg22,trivial⟩ rfl
noncomputable def ti229:TI prog:=GI (ks:=[12,1,1]) (ag:=[true,true,false]) 229 isAgg229 sizeOf229 underlying229 zeroValue229 typeInfo229 240 rfl ⟨sizeOf216,sizeOf218,sizeOf57,trivial⟩ ⟨isAgg216,isAgg218,isAgg57,trivial⟩ rfl
noncomputable def ti232:TI prog:=QZ 232 isAgg232 sizeOf232 underlying232 zeroValue232 typeInfo232 24 rfl
noncomputable def ti265:TI prog:=QZ 265 isAgg265 sizeOf265 underlying265 zeroValue265 typeInfo265 8 rfl
noncomputable def ti266:TI prog:=QZ 266 isAgg266 sizeOf266 underlying266 zeroValue266 typeInfo266 8 rfl
noncomputable def ti323:TI prog:=tiA 323 isAgg323 sizeOf323 underlying323 zeroValue323 typeInfo323 176 rfl sizeOf40
theorem Qb1(em:Bool)(n:Nat)(v:Int)(w:World):(Instr.checkKey em (n+1) 3 (.int .i64 v)).run prog w=.ok () w:=by
 rw[Instr.checkKey];simp[runUnderlying3]
theorem uJ(em:Bool)(n:Nat)(a b c:Int)(w:World):(Instr.checkKey em (n+1+1) 84 (.agg #[.int .i64 a,.int .i64 b,.int .i64 c])).run prog w=.ok () w:=by
 rw[Instr.checkKey];simp[runUnderlying84];rw[show List.range' 0 3=[0,1,2] from rfl];simp[Go.part,isAgg3,sizeOf3,Qb1]
theorem SE(em:Bool)(ks:Um)(hk:ks.length=3)(w:World):(Instr.checkKey em 10000 84 (Ap ks)).run prog w=.ok () w:=by
 match ks,hk with
 | [a,b,c],_=>exact uJ em 9998 a b c w
theorem Qiz:MapT prog 328 84 3 (.int .i64 0):=⟨runUnderlying328,⟨_,runUnderlying84,λ_ _=>rfl⟩,SE,λx y hx hy w=>nK x y hx hy w,zeroValue3,rfl⟩
noncomputable def ti328:TI prog:={ QZ 328 isAgg328 sizeOf328 underlying328 zeroValue328 typeInfo328 8 rfl with md:=some (.int .i64 0),hmd:=λd h=>by injection h with h;subst h;exact⟨84,3,Qiz⟩ }
theorem Qi0:MapT prog 329 84 4 (.bool false):=⟨runUnderlying329,⟨_,runUnderlying84,λ_ _=>rfl⟩,SE,λx y hx hy w=>nK x y hx hy w,zeroValue4,rfl⟩
noncomputable def ti329:TI prog:={ QZ 329 isAgg329 sizeOf329 underlying329 zeroValue329 typeInfo329 8 rfl with md:=some (.bool false),hmd:=λd h=>by injection h with h;subst h;exact⟨84,4,Qi0⟩ }
noncomputable def ti332:TI prog:=GI (ks:=[5,1,1,1,1]) (ag:=[true,false,false,false,false]) 332 isAgg332 sizeOf332 underlying332 zeroValue332 typeInfo332 104 rfl ⟨sizeOf97,sizeOf87,sizeOf3,sizeOf93,sizeOf4,trivial⟩ ⟨isAgg97,isAgg87,isAgg3,isAgg93,isAgg4,trivial⟩ rfl
noncomputable def ti340:TI prog:=QZ 340 isAgg340 sizeOf340 underlying340 zeroValue340 typeInfo340 24 rfl
noncomputable def ti349:TI prog:=tiA 349 isAgg349 sizeOf349 underlying349 zeroValue349 typeInfo349 72 rfl sizeOf32
noncomputable def ti352:TI prog:=GI (ks:=[7,1,1,9]) (ag:=[true,false,false,true]) 352 isAgg352 sizeOf352 underlying352 zeroValue352 typeInfo352 232 rfl ⟨sizeOf99,sizeOf4,sizeOf4,sizeOf105,trivial⟩ ⟨isAgg99,isAgg4,isAgg4,isAgg105,trivial⟩ rfl
noncomputable def ti365:TI prog:=QZ 365 isAgg365 sizeOf365 underlying365 zeroValue365 typeInfo365 24 rfl
noncomputable def ti369:TI prog:=GI (ks:=[1]) (ag:=[false]) 369 isAgg369 sizeOf369 underlying369 zeroValue369 typeInfo369 24 rfl ⟨sizeOf340,trivial⟩ ⟨isAgg340,trivial⟩ rfl
noncomputable def ti378:TI prog:=GI (ks:=[1,1,4]) (ag:=[false,false,true]) 378 isAgg378 sizeOf378 underlying378 zeroValue378 typeInfo378 128 rfl ⟨sizeOf87,sizeOf87,sizeOf38,trivial⟩ ⟨isAgg87,isAgg87,isAgg38,trivial⟩ rfl
noncomputable def ti380:TI prog:=GI (ks:=[6,1]) (ag:=[true,false]) 380 isAgg380 sizeOf380 underlying380 zeroValue380 typeInfo380 136 rfl ⟨sizeOf378,sizeOf3,trivial⟩ ⟨isAgg378,isAgg3,trivial⟩ rfl
noncomputable def ti382:TI prog:=QZ 382 isAgg382 sizeOf382 underlying382 zeroValue382 typeInfo382 24 rfl
noncomputable def ti386:TI prog:=tiA 386 isAgg386 sizeOf386 underlying386 zeroValue386 typeInfo386 272 rfl sizeOf380
noncomputable def ti405:TI prog:=QZ 405 isAgg405 sizeOf405 underlying405 zeroValue405 typeInfo405 24 rfl
noncomputable def ti406:TI prog:=QZ 406 isAgg406 sizeOf406 underlying406 zeroValue406 typeInfo406 24 rfl
noncomputable def tt:TT prog:=(.nd (.nd (.nd (.nd (.nd (.nd (.nd .nil ti3 .nil) ti4 .nil) ti5 (.nd .nil ti9 .nil)) ti22 (.nd (.nd (.nd .nil ti23 .nil) ti24 .nil) ti27 (.nd .nil ti30 .nil))) ti32 (.nd (.nd (.nd (.nd .nil ti33 .nil) ti34 .nil) ti36 (.nd .nil ti38 .nil)) ti40 (.nd (.nd (.nd .nil ti42 .nil) ti44 .nil) ti47 (.nd .nil ti49 .nil)))) ti51 (.nd (.nd (.nd (.nd (.nd .nil ti57 .nil) ti59 .nil) ti63 (.nd .nil ti66 .nil)) ti70 (.nd (.nd (.nd .nil ti73 .nil) ti74 .nil) ti75 (.nd .nil ti76 .nil))) ti77 (.nd (.nd (.nd (.nd .nil ti78 .nil) ti80 .nil) ti84 (.nd .nil ti87 .nil)) ti88 (.nd (.nd (.nd .nil ti90 .nil) ti93 .nil) ti95 (.nd .nil ti97 .nil))))) ti99 (.nd (.nd (.nd (.nd (.nd (.nd .nil ti105 .nil) ti109 .nil) ti139 (.nd .nil ti140 .nil)) ti151 (.nd (.nd (.nd .nil ti159 .nil) ti201 .nil) ti202 (.nd .nil ti204 .nil))) ti205 (.nd (.nd (.nd (.nd .nil ti207 .nil) ti214 .nil) ti216 (.nd .nil ti218 .nil)) ti220 (.nd (.nd (.nd .nil ti221 .nil) ti223 .nil) ti225 (.nd .nil ti227 .nil)))) ti229 (.nd (.nd (.nd (.nd (.nd .nil ti232 .nil) ti265 .nil) ti266 (.nd .nil ti323 .nil)) ti328 (.nd (.nd (.nd .nil ti329 .nil) ti332 .nil) ti340 (.nd .nil ti349 .nil))) ti352 (.nd (.nd (.nd (.nd .nil ti365 .nil) ti369 .nil) ti378 (.nd .nil ti380 .nil)) ti382 (.nd (.nd .nil ti386 .nil) ti405 (.nd .nil ti406 .nil))))))
instance:Mo prog:=⟨rfl⟩
theorem Ud{n : Nat}{Q : Exit -> Sg -> List OB -> Prop}{L L' : Sg}{B B' : List OB}{it it' : List It}{as0 : List Qv}{ob : List Prop}(hs : List (H Tryz.prog))(h : (match run tt n 100000 it L B hs [] []with
 |some (it, L, B, q, ob) => (match IV ob with
  |some ob => some (it, L, B, q.map (·.1), q.map (·.2), ob)
  |none => none)
 |none => none) = some (it', L', B', as0, as0, ob)) (k : AK Tryz.prog n Q it' L' B') (ho : U4 ob := by exact trivial) : AK Tryz.prog n Q it L B := go tt hs h ho k
theorem Ue{n : Nat}{Q : Exit -> Sg -> List OB -> Prop}{L L' : Sg}{B B' : List OB}{it it' : List It}{as0 : List Qv}{ob : List Prop}(hs : List (H Tryz.prog))(h : (match run tt n 100000 it L B hs [] []with
 |some (it, L, B, q, ob) => (match IV ob with
  |some ob => some (it, L, B, q.map (·.1), q.map (·.2), ob)
  |none => none)
 |none => none) = some (it', L', B', as0, as0, ob)) (k : AK Tryz.prog n Q it' L' B') (ho : U4 ob := by simp[U4];omega) : AK Tryz.prog n Q it L B := go tt hs h ho k
theorem Ug {n : Nat} {f : FuncId} {fn : Func} {c : Code} {args res us : List TV} {as0 : List Qv} {ob : List Prop} (hf : Tryz.prog.funcs[f]? = some fn) (hh : (fn.body, fn.ntmps, (fn.name == "runtime.NumGoroutine"), Nat.ble args.length n) = (some c, n, false, true)) (hs : List (H Tryz.prog))
 (h : wE tt n c fn.results.toList args hs = some (us, as0, as0, ob)) (he : us = res := by exact rfl) (ho : U4 ob := by exact trivial) : AB Tryz.prog f args res := w tt hf hh hs h he ho
theorem Uf{n : Nat}{L : Sg}{B : List OB}{fn : Func}{res us : List TV}{it : List It}{as0 : List Qv}{ob : List Prop}(hs : List (H Tryz.prog))(h : enE tt n fn.results.toList it L B hs = some (us, as0, as0, ob))(he : us = res := by exact rfl)(ho : U4 ob := by exact trivial) : AK Tryz.prog n (RQ Tryz.prog fn n 0 λu B => u = res /\ B = []) it L B := en tt hs h he ho
theorem Uh{n : Nat}{L : Sg}{B : List OB}{fn : Func}{k : Nat}{res : List TV}{Bout : List OB}{it : List It}{as0 : List Qv}{ob : List Prop}(ps is : List Nat)(hs : List (H Tryz.prog))(h : edE tt n k fn.results.toList it L B hs res Bout ps is = some (as0, as0, ob))(ho : U4 ob := by exact trivial) : AK Tryz.prog n (RQ Tryz.prog fn n k λu B => u = res /\ B = Bout) it L B := ed tt ps is hs h ho
theorem Ui{n : Nat}{Q : Exit -> Sg -> List OB -> Prop}{L : Sg}{B : List OB}{S : Type}{c : Code}{r : List It}{L1 : Sg}(k : Nat)(st : Sg -> S -> Sg)(bs : S -> List OB)(μ : S -> Nat)(I : S -> Prop)(s0 : S)(h0 : I s0)(hL : prn (kF c []) L = some L1){as0 : List Qv}(hs : two (dS none L B (st L1 s0) (bs s0)) = some (as0, as0))
 (round : ∀s, I s -> AK Tryz.prog n Q (.code c :: .rnd (some k) (λL B => ∃s', μ s' < μ s /\ I s' /\ L = st L1 s' /\ B = bs s') :: r) (st L1 s) (bs s)) (hk : ∀s, I s -> (bs s).length = k := by exact λ_ _ => rfl) : AK Tryz.prog n Q (.code (.loop c) :: r) L B := lp k st bs μ I s0 h0 hL hk hs round
abbrev Uj(f : Nat)(a r : List TV) : Prop := AB Tryz.prog f a r
end Orr
namespace Orr
open Go Go.Proofs Tryz
set_option maxRecDepth 10000
def lm(l:Uo):Us:=l.map λ(x:Nat)=>[.int .u32 (x:Int)]
abbrev lr(l:Uo):TV:=.one (.row (lm l))
theorem U8(l:Uo):(lm l).length=l.length:=by simp[lm]
theorem G5{l:Uo}{i x:Nat}(h:l[i]? = some x):(lm l)[i]? = some [.int .u32 (x:Int)]:=by simp[lm,h]
def vO:Uo->Uo
 | []=>[]
 |
  x::l=>match vO l with
  | []=>if x=0 then []else [x]
  |r=>x::r
theorem Qrc{l:Uo}:vO l=[]↔∀x∈l,x=0:=by
 induction l with
 |nil=>simp[vO]
 |
  cons x l ih =>
  simp only[vO]
  split
  ·rename_i e;have h1:=ih.1 e;by_cases h:x=0
   ·simp[h];exact h1
   ·simp[h]
  ·rename_i r hne;simp only[reduceCtorEq,Qn,forall_eq_or_imp,false_iff,not_and];exact λ_ h=>hne (ih.2 h)
theorem GO:∀{l:Uo} {n:Nat},n<=l.length->(∀j,n<=j->j<l.length->l[j]? = some 0)->(n=0\/∃x,l[n-1]? = some x/\x≠0)->l.take n=vO l
 | [],n,h,_,_=>by simp at h;subst h;rfl
 |
  x::l,0,h,hz,_=>by
  rw[Vv];refine(Qrc.2 λy hy=>?_).symm;obtain⟨j,hj⟩:=Zk.1 hy;have:=hz j (Qh _) (Qf.1 hj).1;rw[hj]at this;injection this
 |
  x::l,n+1,h,hz,ht=>by
  simp only[Q5,Nat.add_le_add_iff_right]at h;have hz':∀j,n<=j->j<l.length->l[j]? = some 0:=λj h1 h2=>by simpa using hz (j+1) (by omega) (by simpa using h2)
  cases n with
  |
   zero =>
   have e:vO l=[]:=(GO (n:=0) h hz' (.inl rfl)).symm;rcases ht with h|⟨y,h1,h2⟩
   ·omega
   ·simp at h1;subst h1;simp[vO,e,h2]
  |
   succ n =>
   have ih:=GO (n:=n+1) h hz' (.inr (by rcases ht with h|⟨y,h1,h2⟩;(· omega);exact⟨y,by simpa using h1,h2⟩));simp only[Vf,vO];rw[<-ih];cases hl:l with
   |nil=>rw[hl]at h;simp at h
   |cons y l'=>simp[Vf]
theorem Qzm(l:Uo):Uj 182 [lr l] [lr (vO l)]:=by
 refine Fx func182 rfl (ln 0 rfl rfl λhl=>?_);rw[U8]at hl;refine Ud [] rfl ?_;refine Ui (S:=Nat) 0 (λL1 n=>(3,.v (.oi n))::L1) (λ_=>[]) id (λn=>n<=l.length/\∀j,n<=j->j<l.length->l[j]? = some 0) (lm l).length ⟨by rw[U8];exact Ql _,λj h1 h2=>by rw[U8]at h1;omega⟩ rfl rfl λn ⟨h1,h2⟩=>?_
 cases n with
 |zero=>exact Uf [.f (by simp),.f rfl,.i 0] rfl (by rw[<-GO h1 h2 (.inl rfl)];simp[lm]) (by simp[U4,Hw])
 |
  succ n =>
  obtain⟨x,hx⟩:=gxE (l:=l) (i:=n) (by omega);by_cases h0:x=0
  ·refine go tt [.t (by simp),.r 11 (v:=.oi n) (by simp),.x (G5 hx),.t (by simp[h0]),.r 17 (v:=.oi n) (by simp)] rfl (by simp[U4,Hw];omega) ?_;exact rd n (by simp) ⟨by omega,λj h3 h4=>by
    rcases Vl h3 with rfl|h3
    ·rw[hx,h0]
    ·exact h2 j h3 h4⟩ rfl
  ·exact Uf [.t (by simp),.r 11 (v:=.oi n) (by simp),.x (G5 hx),.f (by simp[h0]),.i (n+1)] rfl (by rw[<-GO h1 h2 (.inr ⟨x,hx,h0⟩)];simp[lm]) (by simp[U4,Hw,U8] <;> omega)
def Sm(l:Uo):Prop:=∀x∈l,x<4294967296
theorem kQ:∀l:Uo,Cut l (vO l).length/\l.take (vO l).length=vO l
 | []=>⟨⟨Ql _,λj _ h=>by simp at h,λh=>by simp[vO]at h⟩,rfl⟩
 |
  x::l=>by
  obtain⟨⟨h1,h2,h3⟩,h4⟩:=kQ l;simp only[vO]
  split
  ·rename_i e;rw[e]at h2 h3;by_cases h:x=0
   ·rw[if_pos h];refine⟨⟨Qh _,λj _ hj=>?_,λh=>by simp at h⟩,rfl⟩;cases j with
    |zero=>simp[h]
    |succ j=>simpa using h2 j (Qh _) (by simpa using hj)
   ·rw[if_neg h];refine⟨⟨by simp,λj h5 hj=>?_,λ_=>⟨x,rfl,h⟩⟩,rfl⟩;cases j with
    |zero=>simp at h5
    |succ j=>simpa using h2 j (Qh _) (by simpa using hj)
  ·rename_i r hne;refine⟨⟨by simp[h1],λj h5 hj=>?_,λ_=>?_⟩,by simp[h4]⟩
   ·cases j with
    |zero=>simp at h5
    |succ j=>simpa using h2 j (by simpa using h5) (by simpa using hj)
   ·have hp:0<(vO l).length:=by
     cases e:vO l with
     |nil=>exact absurd e hne
     |cons=>simp
    obtain⟨y,h5,h6⟩:=h3 hp;refine⟨y,?_,h6⟩;rw[Q5,show(vO l).length+1-1=((vO l).length-1)+1 from by omega];simpa using h5
theorem xW{l:Uo}(h:Sm l):vO l=Gd (val l):=by
 obtain⟨h1,h2⟩:=kQ l;refine Qis ?_ ?_
 ·rw[<-h2];exact Qoo h1 h
 ·rw[<-h2];exact Qop h1
theorem Lv(x:Nat):Sm (Gd x):=(Dt x).1
theorem Rp{x k:Nat}(h:sz x<=k):32*(Gd x).length<=k+31:=by
 have:=Qpr (Dt x);rw[Ha]at this;omega
theorem KQ{l:Uo}(h:Sm l):Uj 182 [lr l] [lr (Gd (val l))]:=xW h ▸ Qzm l
theorem Qiu(l:Uo):∀c∈lm l,c.length=1:=λc hc=>by
 obtain⟨x,_,rfl⟩:=Za.1 hc;rfl
theorem KP{l:Uo}(h:Sm l)(hs:sz (val l)<=4294967296):Uj 219 [lr l] [lr (Gd (val l))] :=
 Ug func219 rfl [.k (KQ h),.s (Qiu (Gd (val l)))] rfl rfl (by have:=Rp hs;simp[U4,Hw,U8];omega)
theorem RX{a:Uo}(ha:Sm a):∃p,Uj 182 [lr a] [lr p]/\wQ p/\val p=val a/\p.length<=a.length/\p=Gd (val a) :=
 ⟨_,KQ ha,Dt _,Ha _,by rw[<-xW ha];exact(kQ a).1.1,rfl⟩
theorem Qeo{a b:Uo}(ha:Sm a)(hb:Sm b):Uj 213 [lr a,lr b] [.oi (ZN (val a) (val b))]:=by
 refine Fx func213 rfl (ln 0 rfl rfl λhl=>ln 1 rfl rfl λhl'=>?_);rw[U8]at hl hl';obtain⟨p,ca,np,vp,lp',_⟩:=RX ha;obtain⟨q,cb,nq,vq,lq,_⟩:=RX hb;rw[<-vp,<-vq];by_cases h:p.length=q.length
 ·refine go tt [.k ca,.k cb,.f (by simp[U8,h])] rfl (by simp[U4,Hw,U8] <;> omega) ?_;refine Ui (S:=Int) 0 (λL1 i=>(5,.v (.oi i))::L1) (λ_=>[]) (λi=>(i+1).toNat) (λi=>-1<=i/\i<p.length/\p.drop (i+1).toNat=q.drop (i+1).toNat) (((lm p).length:Int)-1) ⟨by omega,by simp[U8];omega,by simp[U8,h]⟩ rfl rfl λi ⟨h1,h2,h3⟩=>?_
  rcases Kd i 0 with hi|hi
  ·obtain rfl:i=-1:=by omega
   exact Uf [.f (by decide)] rfl (by rw[eD];exact congrArg val (by simpa using h3)) trivial
  ·obtain⟨k,rfl⟩:=Kk hi;have e:((k:Int)+1).toNat=k+1:=by omega
   rw[e]at h3;obtain⟨x,hx⟩:=gxE (l:=p) (i:=k) (by omega);obtain⟨y,hy⟩:=gxE (l:=q) (i:=k) (by omega);rcases Kn x y with hxy|rfl|hxy
   ·exact Uf [.t (by simp),.x (G5 hx),.x (G5 hy),.t (by simp;omega)] rfl (by rw[MP (Qau np.1 h3 hx hy hxy)]) (by simp[U4,Hw,U8] <;> omega)
   ·refine go tt [.t (by simp),.x (G5 hx),.x (G5 hy),.f (by simp),.x (G5 hx),.x (G5 hy),.f (by simp)] rfl (by simp[U4,Hw,U8] <;> omega) ?_;exact rd ((k:Int)-1) (by omega) ⟨by omega,by omega,by rw[show((k:Int)-1+1).toNat=k from by omega];exact Qca h3 hx hy⟩ rfl
   ·exact Uf [.t (by simp),.x (G5 hx),.x (G5 hy),.f (by simp;omega),.x (G5 hx),.x (G5 hy),.t (by simp;omega)] rfl (by rw[MS (Qau nq.1 h3.symm hy hx hxy)]) (by simp[U4,Hw,U8] <;> omega)
 ·by_cases h2:p.length<q.length
  ·exact Uf [.k ca,.k cb,.t (by simp[U8];omega),.t (by simp[U8];omega)] rfl (by rw[MP (D8 np nq h2)]) (by simp[U4,Hw])
  ·exact Uf [.k ca,.k cb,.t (by simp[U8];omega),.f (by simp[U8];omega)] rfl (by rw[MS (D8 nq np (by omega))]) (by simp[U4,Hw])
theorem WM(m:Nat):List.replicate m [LV.int .u32 0]=lm (List.replicate m 0):=by simp[lm]
theorem Cv(l:Uo)(i x:Nat):(lm l).set i [.int .u32 (x:Int)]=lm (l.set i x):=by simp[lm,Vu]
theorem D3{a b:Int}(h:a=b):TV.one (LV.int .u64 a)=.one (.int .u64 b):=h ▸ rfl
theorem Ep{a b:Int}(h:a=b):TV.one (LV.int .u32 a)=.one (.int .u32 b):=h ▸ rfl
theorem eI{a b:Int}(h:a=b):TV.one (LV.int .i64 a)=.oi b:=h ▸ rfl
theorem xF(z:Int):IntKind.u32.wrap z=z % 4294967296:=by simp[IntKind.wrap,IntKind.bits,IntKind.signed]
theorem w64(z:Int):IntKind.u64.wrap z=z % 18446744073709551616:=by simp[IntKind.wrap,IntKind.bits,IntKind.signed]
theorem Qr1{a b:Uo}(ha:Sm a)(hb:Sm b)(h1:sz (val a)<=4294967296)(h2:sz (val b)<=4294967296):Uj 307 [lr a,lr b] [lr (Gd (val a+val b))]:=by
 refine Fx func307 rfl ?_;obtain⟨p,ca,np,vp,_,ep⟩:=RX ha;obtain⟨q,cb,nq,vq,_,eq⟩:=RX hb;have lp':=Rp h1;have lq:=Rp h2;rw[<-ep]at lp';rw[<-eq]at lq;rw[<-vp,<-vq];refine Ud [.k ca,.k cb] rfl ?_;refine ct 1 (S:=Uo×Uo) (λs=>[(0,.v (lr s.1)),(1,.v (lr s.2))]) (λ_=>[]) (λs=>wQ s.1/\wQ s.2/\32*s.1.length<=4294967327/\s.2.length<=s.1.length/\val s.1+val s.2=val p+val q) rfl ?_ ?_
 ·by_cases h:p.length<q.length
  ·exact go tt [.t (by simp[U8];omega)] rfl trivial (rc (q,p) ⟨nq,np,lq,Yk h,Ju _ _⟩ rfl)
  ·exact go tt [.f (by simp[U8];omega)] rfl trivial (rc (p,q) ⟨np,nq,lp',J8 h,rfl⟩ rfl)
 ·intro⟨p',q'⟩ ⟨np,nq,hp,hq,e⟩;dsimp only at np nq hp hq e;rw[<-e];clear ca cb e vp vq ep eq;refine go tt [.i ((lm p').length+1),.i ((lm p').length+1)] rfl (by simp[U4,Hw,U8] <;> omega) ?_;rw[WM];refine lp (S:=Nat×Uo×Nat) 1 (λL1 s=>(27,.v (.oi (s.1:Int)))::(6,.v (.one (.int .u64 (s.2.2:Int))))::L1) (λs=>[.row false 151 1 (lm s.2.1)]) (λs=>p'.length-s.1)
   (λs=>s.1<=p'.length/\s.2.1.length=p'.length+1/\Sm s.2.1/\s.2.2<=1/\val (s.2.1.take s.1)+s.2.2*4294967296^s.1=val (p'.take s.1)+val (q'.take s.1)) (0,List.replicate ((lm p').length+1) 0,0)
   ⟨Qh _,by simp[U8],λx hx=>by rw[Zx hx];decide,Qh _,by simp[val]⟩ rfl (λ_ _=>rfl) rfl λ⟨i,o,c⟩ ⟨j1,j2,j3,j4,j5⟩=>?_
  dsimp only at j1 j2 j3 j4 j5 ⊢;by_cases hi:i<p'.length
  ·obtain⟨x,hx⟩:=gxE (l:=p') (i:=i) hi;have xb:=np.1 x (Qc hx);have fin:∀y s,(q'[i]? = some y\/q'.length<=i/\y=0)->y<4294967296->s=x+c+y->p'.length-(i+1)<p'.length-i/\i+1<=p'.length/\(o.set i (s % 4294967296)).length=p'.length+1/\Sm (o.set i (s % 4294967296))/\s / 4294967296<=1 /\
    val ((o.set i (s % 4294967296)).take (i+1))+s / 4294967296*4294967296^(i+1)=val (p'.take (i+1))+val (q'.take (i+1)):=λy s hy hyb hs =>
    ⟨by omega,hi,by simp[j2],Bu j3 i _ (by omega),by omega,wZ (by omega) hx hy j5 hs⟩
   by_cases hi2:i<q'.length
   ·obtain⟨y,hy⟩:=gxE (l:=q') (i:=i) hi2;have yb:=nq.1 y (Qc hy);refine go tt [.t (by simp[U8];omega),.x (G5 hx),.t (by simp[U8];omega),.x (G5 hy),.w 2,.r 50 (v:=.one (.int .u32 (((x+c+y) % 4294967296:Nat):Int))) (by simp[IntKind.wrap,IntKind.bits,IntKind.signed]),.i 32,.r 52 (v:=.one (.int .u64 (((x+c+y) / 4294967296:Nat):Int))) (by simp),.i i] rfl (by simp[U4,Hw,U8,IntKind.bits] <;> omega) ?_;rw[Cv];exact rd (i+1,o.set i ((x+c+y) % 4294967296),(x+c+y) / 4294967296) (fin y _ (.inl hy) yb rfl).1 (fin y _ (.inl hy) yb rfl).2 rfl
   ·refine go tt [.t (by simp[U8];omega),.x (G5 hx),.f (by simp[U8];omega),.w 0,.r 50 (v:=.one (.int .u32 (((x+c+0) % 4294967296:Nat):Int))) (by simp[IntKind.wrap,IntKind.bits,IntKind.signed]),.i 32,.r 52 (v:=.one (.int .u64 (((x+c+0) / 4294967296:Nat):Int))) (by simp),.i i] rfl (by simp[U4,Hw,U8,IntKind.bits] <;> omega) ?_;rw[Cv];exact rd (i+1,o.set i ((x+c+0) % 4294967296),(x+c+0) / 4294967296) (fin 0 _ (.inr ⟨by omega,rfl⟩) (by decide) rfl).1 (fin 0 _ (.inr ⟨by omega,rfl⟩) (by decide) rfl).2 rfl
  ·obtain rfl:i=p'.length:=by omega
   refine go tt [.f (by simp[U8]),.w 0,.r 59 (v:=.one (.int .u32 (c:Int))) (by simp[IntKind.wrap,IntKind.bits,IntKind.signed];omega),.i (lm p').length] rfl (by simp[U4,Hw,U8,j2]) ?_;rw[U8,Cv];have e:val (o.set p'.length c)=val p'+val q':=by
    have h1:=ZG o p'.length c (by omega);rw[Qm (by simp;omega)]at h1;rw[Qm (Ql _),Qm hq]at j5;rw[h1,<-j5,Zq]
   rw[<-e];exact Uf [.k (KQ (Bu j3 _ c (by omega)))] rfl
theorem uY{x y:Nat}:ZN x y<0↔x<y:=by unfold ZN;split <;> (try split) <;> omega
theorem Qr5{a b:Uo}(ha:Sm a)(hb:Sm b)(h1:sz (val a)<=4294967296):Uj 308 [lr a,lr b] (if val b<=val a then [lr (Gd (val a-val b)),.one (.bool true)]else [lr [],.one (.bool false)]):=by
 refine Fx func308 rfl ?_;obtain⟨p,ca,np,vp,_,ep⟩:=RX ha;obtain⟨q,cb,nq,vq,_,_⟩:=RX hb;have hp:=Rp h1;rw[<-ep]at hp;rw[<-vp,<-vq];have cc:=Qeo np.1 nq.1;by_cases hlt:val p<val q
 ·rw[if_neg (by omega)];exact Uf [.k ca,.k cb,.k cc,.t (by simpa using uY.2 hlt)] rfl
 rw[if_pos (by omega)];have hq:q.length<=p.length:=J8 λh=>hlt (D8 np nq h)
 refine go tt [.k ca,.k cb,.k cc,.f (by have:=mt uY.1 hlt;simpa using this),.i (lm p).length,.i (lm p).length] rfl (by simp[U4,Hw,U8] <;> omega) ?_;rw[WM];refine lp (S:=Nat×Uo×Nat) 1 (λL1 s=>(24,.v (.oi (s.1:Int)))::(7,.v (.one (.int .u64 (s.2.2:Int))))::L1) (λs=>[.row false 151 1 (lm s.2.1)]) (λs=>p.length-s.1)
  (λs=>s.1<=p.length/\s.2.1.length=p.length/\Sm s.2.1/\s.2.2<=1/\val (s.2.1.take s.1)+val (q.take s.1)=val (p.take s.1)+s.2.2*4294967296^s.1) (0,List.replicate (lm p).length 0,0)
  ⟨Qh _,by simp[U8],λx hx=>by rw[Zx hx];decide,Qh _,by simp[val]⟩ rfl (λ_ _=>rfl) rfl λ⟨i,o,c⟩ ⟨j1,j2,j3,j4,j5⟩=>?_
 dsimp only at j1 j2 j3 j4 j5 ⊢;by_cases hi:i<p.length
 ·obtain⟨x,hx⟩:=gxE (l:=p) (i:=i) hi;have xb:=np.1 x (Qc hx);have fin:∀y s,(q[i]? = some y\/q.length<=i/\y=0)->y<4294967296->s=(x+18446744073709551616-c-y) % 18446744073709551616->p.length-(i+1)<p.length-i/\i+1<=p.length/\(o.set i (s % 4294967296)).length=p.length/\Sm (o.set i (s % 4294967296))/\s / 9223372036854775808<=1 /\
   val ((o.set i (s % 4294967296)).take (i+1))+val (q.take (i+1))=val (p.take (i+1))+s / 9223372036854775808*4294967296^(i+1):=λy s hy hyb hs=>by
   obtain⟨h1,h2⟩:=Qle (o:=o) (by omega) hx hy xb hyb j4 j5 hs;exact⟨by omega,hi,by simp[j2],Bu j3 i _ (by omega),h2,h1⟩
  by_cases hi2:i<q.length
  ·obtain⟨y,hy⟩:=gxE (l:=q) (i:=i) hi2;have yb:=nq.1 y (Qc hy);obtain⟨s,hs⟩:=nmE ((x+18446744073709551616-c-y) % 18446744073709551616);refine go tt [.t (by simp[U8];omega),.x (G5 hx),.w 1,.r 32 (D3 (b:=(((x+18446744073709551616-c) % 18446744073709551616:Nat):Int)) (by rw[w64];omega)),.t (by simp[U8];omega),.x (G5 hy),.w 1,.r 43 (D3 (b:=(s:Int)) (by rw[w64];omega)),.w 0,.r 47 (Ep (b:=((s % 4294967296:Nat):Int)) (by rw[xF];omega)),.i 63,.r 49 (D3 (b:=((s / 9223372036854775808:Nat):Int)) (by simp)),.i i] rfl (by simp[U4,Hw,U8,IntKind.bits] <;> omega) ?_;rw[Cv];exact rd (i+1,o.set i (s % 4294967296),s / 9223372036854775808) (fin y _ (.inl hy) yb hs).1 (fin y _ (.inl hy) yb hs).2 rfl
  ·obtain⟨s,hs⟩:=nmE ((x+18446744073709551616-c-0) % 18446744073709551616);have hf:=fin 0 _ (.inr ⟨by omega,rfl⟩) (by decide) hs;refine go tt [.t (by simp[U8];omega),.x (G5 hx),.w 1,.r 32 (D3 (b:=(s:Int)) (by rw[w64];omega)),.f (by simp[U8];omega),.w 0,.r 47 (Ep (b:=((s % 4294967296:Nat):Int)) (by rw[xF];omega)),.i 63,.r 49 (D3 (b:=((s / 9223372036854775808:Nat):Int)) (by simp)),.i i] rfl (by simp[U4,Hw,U8,IntKind.bits] <;> omega) ?_;rw[Cv];exact rd (i+1,o.set i (s % 4294967296),s / 9223372036854775808) hf.1 hf.2 rfl
 ·obtain rfl:i=p.length:=by omega
  have e:val o=val p-val q:=by
   rw[Qm (Nat.le_of_eq j2),Qm hq,Qm (Ql _)]at j5;have h1:=By o j3;rw[j2]at h1;rcases Nat.le_one_iff_eq_zero_or_eq_one.1 j4 with rfl|rfl <;> omega
  rw[<-e];exact Uf [.f (by simp[U8]),.k (KQ j3)] rfl
theorem Qx3{a b:Uo}(ha:Sm a)(hb:Sm b)(h1:sz (val a)<=4294967296)(h2:sz (val b)<=4294967296):Uj 113 [lr a,lr b] [lr (Gd (val a*val b))]:=by
 refine Fx func113 rfl ?_;obtain⟨p,ca,np,vp,_,ep⟩:=RX ha;obtain⟨q,cb,nq,vq,_,eq⟩:=RX hb;have hp:=Rp h1;have hq:=Rp h2;rw[<-ep]at hp;rw[<-eq]at hq;rw[<-vp,<-vq];refine go tt [.k ca,.k cb,.i ((lm p).length+(lm q).length),.i ((lm p).length+(lm q).length)] rfl (by simp[U4,Hw,U8] <;> omega) ?_;rw[WM];refine lp (S:=Nat×Uo) 1 (λL1 s=>(24,.v (.oi (s.1:Int)))::L1) (λs=>[.row false 151 1 (lm s.2)]) (λs=>p.length-s.1)
  (λs=>s.1<=p.length/\s.2.length=p.length+q.length/\Sm s.2/\(∀j,s.1+q.length<=j->j<s.2.length->s.2[j]? = some 0)/\val s.2=val (p.take s.1)*val q) (0,List.replicate ((lm p).length+(lm q).length) 0)
  ⟨Qh _,by simp[U8],λx hx=>by rw[Zx hx];decide,λj _ hj=>by rw[Jz,if_pos (by simpa using hj)],by simp[val,SQ]⟩ rfl (λ_ _=>rfl) rfl λ⟨i,o⟩ ⟨j1,j2,j3,j4,j5⟩=>?_
 dsimp only at j1 j2 j3 j4 j5 ⊢;by_cases hi:i<p.length
 ·obtain⟨x,hx⟩:=gxE (l:=p) (i:=i) hi;have xb:=np.1 x (Qc hx);refine Ud [.t (by simp[U8];omega),.x (G5 hx)] rfl ?_;refine lp (S:=Nat×Uo×Nat) 1 (λL1 s=>(31,.v (.oi (s.1:Int)))::(8,.v (.one (.int .u64 (s.2.2:Int))))::L1) (λs=>[.row false 151 1 (lm s.2.1)]) (λs=>q.length-s.1)
   (λs=>s.1<=q.length/\s.2.1.length=p.length+q.length/\Sm s.2.1/\(∀j,i+q.length<=j->j<s.2.1.length->s.2.1[j]? = some 0)/\s.2.2<4294967296/\val s.2.1+s.2.2*4294967296^(i+s.1)=val (p.take i)*val q+4294967296^i*x*val (q.take s.1)) (0,o,0)
   ⟨Qh _,j2,j3,j4,by simp,by simp[val,j5]⟩ rfl (λ_ _=>rfl) rfl λ⟨k,o',c⟩ ⟨k1,k2,k3,k4,k5,k6⟩=>?_
  dsimp only at k1 k2 k3 k4 k5 k6 ⊢;by_cases hk:k<q.length
  ·obtain⟨y,hy⟩:=gxE (l:=q) (i:=k) hk;have yb:=nq.1 y (Qc hy);obtain⟨z,hz⟩:=gxE (l:=o') (i:=i+k) (by omega);have zb:=k3 z (Qc hz);have hm:=JY xb yb;have hm2:(x:Int)*(y:Int)=((x*y:Nat):Int):=by push_cast;rfl
   obtain⟨s,hs⟩:=nmE (x*y+z+c);refine go tt [.t (by simp[U8];omega),.x (G5 hy),.r 40 (D3 (b:=((x*y:Nat):Int)) (by push_cast;rfl)),.i (i+k),.x (G5 hz),.r 50 (D3 (b:=(s:Int)) (by omega)),.w 1,.r 56 (Ep (b:=((s % 4294967296:Nat):Int)) (by rw[xF];omega)),.i 32,.r 58 (D3 (b:=((s / 4294967296:Nat):Int)) (by simp)),.i (i+k)] rfl ?_ ?_
   ·simp[U4,Hw,U8,IntKind.bits] <;> omega
   ·rw[Cv];exact rd (k+1,o'.set (i+k) (s % 4294967296),s / 4294967296) (show q.length-(k+1)<q.length-k by omega) ⟨hk,by simp[k2],Bu k3 _ _ (by omega),λj h3 h4=>by
     rw[Yg (by omega)];exact k4 j h3 (by simpa using h4),(show s / 4294967296<4294967296 from by omega),Qi7 hz hy k6 hs⟩ rfl
  ·obtain rfl:k=q.length:=by omega
   by_cases hq0:0<q.length
   ·refine go tt [.f (by simp[U8]),.t (by simp[U8];omega),.w 1,.r 70 (Ep (b:=((c % 4294967296:Nat):Int)) (by rw[xF];omega)),.i (i+(lm q).length)] rfl (by simp[U4,Hw,U8,IntKind.bits] <;> omega) ?_;rw[Cv];refine rd (i+1,o'.set (i+(lm q).length) (c % 4294967296)) (show p.length-(i+1)<p.length-i by omega) ⟨hi,by simp[k2],Bu k3 _ _ (by omega),λj h3 h4=>?_,?_⟩ rfl
    ·rw[U8,List.getElem?_set_ne (by dsimp only at h3;omega)];exact k4 j (by dsimp only at h3;omega) (by simpa using h4)
    ·rw[U8];exact Qi6 (k4 _ (Ql _) (by omega)) hx k5 rfl k6
   ·have q0:q=[]:=Qj (by omega);refine go tt [.f (by simp[U8]),.f (by simp[U8,q0])] rfl (by simp[U4,Hw,U8,IntKind.bits] <;> omega) ?_;refine rd (i+1,o') (show p.length-(i+1)<p.length-i by omega) ⟨hi,k2,k3,λj h3 h4=>k4 j (by dsimp only at h3;omega) h4,?_⟩ rfl;have c0:c*4294967296^(i+q.length)=0/\val o'=0:=by
     subst q0;simp only[val,List.take_nil,Yz]at k6;omega
    rw[c0.2,q0];rfl
 ·obtain rfl:i=p.length:=by omega
  rw[Qm (Ql _)]at j5;rw[<-j5];exact Uf [.f (by simp[U8]),.k (KQ j3)] rfl
theorem o64{k q:Nat}(hq:q<4294967296)(hb:4294967296*k+q<18446744073709551616):orI .u64 ((4294967296*k:Nat):Int) (q:Int)=((4294967296*k+q:Nat):Int):=by
 have e1:(BitVec.ofInt 64 ((4294967296*k:Nat):Int)).toNat=4294967296*k:=by rw[BitVec.toNat_ofInt];omega
 have e2:(BitVec.ofInt 64 (q:Int)).toNat=q:=by rw[BitVec.toNat_ofInt];omega
 show IntKind.u64.wrap ((BitVec.ofInt 64 ((4294967296*k:Nat):Int) ||| BitVec.ofInt 64 (q:Int)).toNat:Int)=_;rw[BitVec.toNat_or,e1,e2,Qv7 hq,w64];omega
theorem oM{k p:Nat}(hp:p<4294967296)(hb:4294967296*k+p<18446744073709551616):orI .u64 (p:Int) ((4294967296*k:Nat):Int)=((4294967296*k+p:Nat):Int):=by
 have:=o64 hp hb;unfold orI at this ⊢;rw[BitVec.or_comm];exact this
theorem o32{s k p:Nat}(hp:p<2^s)(h1:p<4294967296)(h2:2^s*k<4294967296)(hb:p+2^s*k<4294967296):orI .u32 (p:Int) ((2^s*k:Nat):Int)=((p+2^s*k:Nat):Int):=by
 have e1:(BitVec.ofInt 32 ((2^s*k:Nat):Int)).toNat=2^s*k:=by rw[BitVec.toNat_ofInt];omega
 have e2:(BitVec.ofInt 32 (p:Int)).toNat=p:=by rw[BitVec.toNat_ofInt];omega
 have e3:p ||| 2^s*k=p+2^s*k:=by
  have:=Wq (i:=s) (b:=p) hp k;rw[Nat.or_comm,<-this,Ju]
 show IntKind.u32.wrap ((BitVec.ofInt 32 (p:Int) ||| BitVec.ofInt 32 ((2^s*k:Nat):Int)).toNat:Int)=_;rw[BitVec.toNat_or,e1,e2,e3,xF];omega
theorem Qyd{l:Uo}{v:Nat}(hl:Sm l)(hn:l.length<274877906944)(h0:0<v)(hv:v<4294967296):Uj 302 [lr l,.one (.int .u32 (v:Int))] [lr (Gd (val l / v)),.one (.int .u32 ((val l % v:Nat):Int))]:=by
 refine Fx func302 rfl ?_;refine go tt [.i (lm l).length,.i (lm l).length] rfl (by simp[U4,Hw,U8] <;> omega) ?_;rw[WM];refine lp (S:=Int×Uo×Nat) 1 (λL1 s=>(8,.v (.oi s.1))::(7,.v (.one (.int .u64 (s.2.2:Int))))::L1) (λs=>[.row false 151 1 (lm s.2.1)]) (λs=>(s.1+1).toNat)
  (λs=>-1<=s.1/\s.1<l.length/\s.2.1.length=l.length/\Sm s.2.1/\s.2.2<v/\val (l.drop (s.1+1).toNat)=v*val (s.2.1.drop (s.1+1).toNat)+s.2.2) (((lm l).length:Int)-1,List.replicate (lm l).length 0,0)
  ⟨by simp[U8];omega,by simp[U8];omega,by simp[U8],λx hx=>by rw[Zx hx];decide,h0,by simp[U8,val]⟩ rfl (λ_ _=>rfl) rfl λ⟨i,o,r⟩ ⟨j1,j2,j3,j4,j5,j6⟩=>?_
 dsimp only at j1 j2 j3 j4 j5 j6 ⊢;rcases Kd i 0 with hi|hi
 ·obtain rfl:i=-1:=by omega
  simp only[show((-1:Int)+1).toNat=0 from rfl,Xy]at j6;have e1:val l / v=val o:=by rw[j6,W9 h0,V3 j5,Xn]
  have e2:val l % v=r:=by rw[j6,Ua,Xu j5]
  rw[e1,e2];exact Uf [.f (by decide),.k (KQ j4)] rfl rfl (by simp[U4,Hw,U8,IntKind.bits] <;> omega)
 ·obtain⟨k,rfl⟩:=Kk hi;have e:((k:Int)+1).toNat=k+1:=by omega
  rw[e]at j6;obtain⟨x,hx⟩:=gxE (l:=l) (i:=k) (by omega);have xb:=hl x (Qc hx);obtain⟨s,hs⟩:=nmE (r*4294967296+x);obtain⟨k1,k2,k3⟩:=Qji hx xb (show k<o.length by omega) h0 j5 j6 hs;obtain⟨q,hq⟩:=nmE (s / v);obtain⟨u,hu⟩:=nmE (s % v);have hqi:(s:Int).tdiv v=(q:Int):=by rw[V7 (by omega),hq];rfl
  have hui:(s:Int).tmod v=(u:Int):=by rw[Y5 (by omega),hu];rfl
  rw[<-hq,<-hu]at k3;rw[<-hq]at k1;rw[<-hu]at k2;refine go tt [.t (by simp),.i 32,.r 21 (D3 (b:=((4294967296*r:Nat):Int)) (by omega)),.x (G5 hx),.r 27 (D3 (b:=(s:Int)) (by rw[o64 xb (by omega)];omega)),
   .r 33 (D3 (b:=(q:Int)) hqi),.w 0,.r 34 (Ep (b:=((q % 4294967296:Nat):Int)) (by rw[xF];omega)),.r 38 (D3 (b:=(u:Int)) hui),.i k] rfl (by simp[U4,Hw,U8,IntKind.bits,hqi] <;> omega) ?_
  rw[Cv];exact rd ((k:Int)-1,o.set k (q % 4294967296),u) (by dsimp only;omega) ⟨by dsimp only;omega,by dsimp only;omega,by simp[j3],Bu j4 _ _ (by omega),k2,by dsimp only;rw[show((k:Int)-1+1).toNat=k from by omega];exact k3⟩ rfl
theorem UV{i:Nat}{s:ByteArray}(h:∀i,i<256->(s[i]?).map (·.toNat)=some (sz i))(hi:i<256):(s[i]?).map (·.toNat)=some (sz i):=h i hi
set_option maxRecDepth 100000 in
theorem lG{x:Nat}(hx:x<4294967296):Uj 301 [.one (.int .u32 (x:Int))] [.oi (sz x:Int)]:=by
 refine Fx func301 rfl ?_;have h31:sz x<=32:=Nv.2 (by omega);by_cases h1:65536<=x
 ·have e1:sz x=16+sz (x / 2^16):=GL (by omega);obtain⟨y,hy⟩:=nmE (x / 2^16);rw[<-hy]at e1;by_cases h2:256<=y
  ·have e2:sz y=8+sz (y / 2^8):=GL (by omega);obtain⟨z,hz⟩:=nmE (y / 2^8);rw[<-hz]at e2;exact Uf [.t (by simp;omega),.i 16,.r 6 (Ep (b:=(y:Int)) (by simp[hy])),.t (by simp;omega),.i 8,.r 10 (Ep (b:=(z:Int)) (by simp[hz])),.y (UV (i:=z) (by decide) (by omega))] rfl (by rw[e1,e2];simp;omega) (by simp[U4,Hw,IntKind.bits] <;> omega)
  ·exact Uf [.t (by simp;omega),.i 16,.r 6 (Ep (b:=(y:Int)) (by simp[hy])),.f (by simp;omega),.y (UV (i:=y) (by decide) (by omega))] rfl (by rw[e1];simp) (by simp[U4,Hw,IntKind.bits] <;> omega)
 ·by_cases h2:256<=x
  ·have e2:sz x=8+sz (x / 2^8):=GL (by omega);obtain⟨z,hz⟩:=nmE (x / 2^8);rw[<-hz]at e2;exact Uf [.f (by simp;omega),.t (by simp;omega),.i 8,.r 10 (Ep (b:=(z:Int)) (by simp[hz])),.y (UV (i:=z) (by decide) (by omega))] rfl (by rw[e2];simp) (by simp[U4,Hw,IntKind.bits] <;> omega)
  ·exact Uf [.f (by simp;omega),.f (by simp;omega),.y (UV (i:=x) (by decide) (by omega))] rfl (by simp) (by simp[U4,Hw,IntKind.bits] <;> omega)
theorem Qtx{x:Nat}(hx:x<4294967296):Uj 303 [.one (.int .u32 (x:Int))] [.oi ((32-sz x:Nat):Int)]:=by
 have h31:sz x<=32:=Nv.2 (by omega);exact Ug func303 rfl [.k (lG hx)] rfl (by simp;omega) (by simp[U4,Hw] <;> omega)
theorem mQ{l:Uo}(hl:Sm l)(hs:sz (val l)<=4294967296):Uj 267 [lr l] [.oi (sz (val l):Int)]:=by
 refine Fx func267 rfl ?_;obtain⟨p,ca,np,vp,_,ep⟩:=RX hl;have hp:=Rp hs;rw[<-ep]at hp;rw[<-vp]at hs ⊢;by_cases h0:p=[]
 ·subst h0;exact Uf [.k ca,.t (by simp[lm])] rfl rfl (by simp[U4,Hw])
 ·have hpl:0<p.length:=J3.2 h0;obtain⟨x,hx,hx0⟩:=np.2 h0;have xb:=np.1 x (Qc hx);have e:=dP np hx;have h31:sz x<=32:=Nv.2 (by omega);have hn:(lm p).length≠0:=by rw[U8];omega
  refine Uf [.k ca,.f (by simp[U8];omega),.r 15 (eI (b:=((p.length-1:Nat):Int)) (by rw[U8];omega)),.x (G5 hx),.k (lG xb)] rfl (by rw[e,U8];simp;omega) (by simp[U4,Hw,U8] <;> omega)
theorem tU{s:Nat}(h:s<=31):((s:Nat):Int).tdiv 32=((0:Nat):Int):=by
 rw[V7 (by omega)];omega
theorem Qkd{s:Nat}(h:s<=31):((s:Nat):Int).tmod 32=(s:Int):=Int.tmod_eq_of_lt (by omega) (by omega)
theorem Qvw{s:Nat}(h:s<=31):max 0 (min (s:Int) 65536)=(s:Int):=by omega
theorem Qx8{a:Uo}{s:Nat}(ha:Sm a)(h1:sz (val a)<=4294967400)(hs:s<=31):Uj 332 [lr a,.oi s] [lr (Gd (val a*2^s))]:=by
 refine Fx func332 rfl ?_;obtain⟨p,ca,np,vp,_,ep⟩:=RX ha;have hp:=Rp h1;rw[<-ep]at hp;rw[<-vp];have hq:((s:Nat):Int).tdiv 32=0:=tU hs;by_cases h0:p=[]
 ·subst h0;exact Uf [.k ca,.t (by simp[lm])] rfl (by simp[val,Hd,lm]) (by simp[U4,Hw])
 have hpl:0<p.length:=J3.2 h0;refine go tt [.k ca,.r 15 (eI (b:=(s:Int)) (Qvw hs)),.f (by simp[U8];omega),.r 20 (eI (b:=((0:Nat):Int)) (tU hs)),.r 22 (eI (b:=(s:Int)) (Qkd hs)),.r 28 (eI (b:=(((lm p).length+1:Nat):Int)) (by omega)),.i ((lm p).length+1),.i ((lm p).length+1)] rfl (by have e:=U8 p;simp only[U4,Hw];omega) ?_;rw[WM];refine lp (S:=Nat×Uo) 1 (λL1 s=>(32,.v (.oi (s.1:Int)))::L1) (λs=>[.row false 151 1 (lm s.2)]) (λs=>p.length-s.1)
  (λr=>r.1<=p.length/\r.2.length=p.length+1/\Sm r.2/\(∃z,r.2[r.1]? = some z/\z<2^s)/\val (r.2.take (r.1+1))=val (p.take r.1)*2^s) (0,List.replicate ((lm p).length+1) 0)
  ⟨Qh _,by simp[U8],λx hx=>by rw[Zx hx];decide,⟨0,by simp,Z2 (by decide)⟩,by simp[val,J4]⟩ rfl (λ_ _=>rfl) rfl λ⟨i,o⟩ ⟨j1,j2,j3,⟨z,hz,hzs⟩,j5⟩=>?_
 dsimp only at j1 j2 j3 hz hzs j5 ⊢;by_cases hi:i<p.length
 ·obtain⟨x,hx⟩:=gxE (l:=p) (i:=i) hi;have xb:=np.1 x (Qc hx);have zb:=j3 z (Qc hz);obtain⟨k1,k2,k3,k4⟩:=Qk0 hs hx xb hz hzs (by omega) j5;have hxs:=Qwn hs xb;have h31:2^s<=2^31:=Zs (by decide) hs;have ec:(x:Int)*2^s=((x*2^s:Nat):Int):=by push_cast;rfl
  obtain⟨m,hm⟩:=nmE (x*2^s);rw[<-hm]at k1 k2 k3 k4 hxs ec;refine go tt [.t (by simp[U8];omega),.x (G5 hx),.i s,.r 40 (D3 (b:=(m:Int)) ec),.i i,.x (G5 hz),.w 0,.r 52 (Ep (b:=((m % 4294967296:Nat):Int)) (by rw[xF];omega)),.r 53 (Ep (b:=((z+m % 4294967296:Nat):Int)) (by rw[k4,o32 hzs zb (by omega) (by omega)])),.i i,
   .i 32,.r 61 (D3 (b:=((m / 2^32:Nat):Int)) (by simp)),.w 0,.r 62 (Ep (b:=((m / 2^32 % 4294967296:Nat):Int)) (by rw[xF];omega)),.i (i+1)] rfl (by simp[U4,Hw,U8,IntKind.bits,ec] <;> omega) ?_
  rw[Cv,Cv];exact rd (i+1,(o.set i (z+m % 4294967296)).set (i+1) (m / 2^32 % 4294967296)) (show p.length-(i+1)<p.length-i by omega) ⟨hi,by simp[j2],Bu (Bu j3 _ _ (by omega)) _ _ (by omega),⟨_,by rw[Jc (by simp;omega)],by omega⟩,k3⟩ rfl
 ·obtain rfl:i=p.length:=by omega
  rw[Qm (by omega),Qm (Ql _)]at j5;rw[<-j5];exact Uf [.f (by simp[U8]),.k (KQ j3)] rfl
theorem Qx9{a:Uo}{s:Nat}(ha:Sm a)(h1:sz (val a)<=4294967400)(hs:s<=31):Uj 306 [lr a,.oi s] [lr (Gd (val a / 2^s))]:=by
 refine Fx func306 rfl ?_;obtain⟨p,ca,np,vp,_,ep⟩:=RX ha;have hp:=Rp h1;rw[<-ep]at hp;rw[<-vp];have hq:((s:Nat):Int).tdiv 32=0:=tU hs;by_cases h0:p=[]
 ·subst h0;exact Uf [.k ca,.r 14 (eI (b:=(s:Int)) (Qvw hs)),.r 16 (eI (b:=((0:Nat):Int)) (tU hs)),.r 18 (eI (b:=(s:Int)) (Qkd hs)),.t (by simp[lm])] rfl (by simp[val,Hd,lm]) (by simp only[U4,Hw];omega)
 have hpl:0<p.length:=J3.2 h0;refine go tt [.k ca,.r 14 (eI (b:=(s:Int)) (Qvw hs)),.r 16 (eI (b:=((0:Nat):Int)) (tU hs)),.r 18 (eI (b:=(s:Int)) (Qkd hs)),.f (by simp[U8];omega),.r 27 (eI (b:=((lm p).length:Int)) (by omega)),.i (lm p).length,.i (lm p).length] rfl (by have e:=U8 p;simp only[U4,Hw];omega) ?_;rw[WM];refine lp (S:=Nat×Uo) 1 (λL1 s=>(31,.v (.oi (s.1:Int)))::L1) (λs=>[.row false 151 1 (lm s.2)]) (λs=>p.length-s.1)
  (λr=>r.1<=p.length/\r.2.length=p.length/\Sm r.2/\val (r.2.take r.1)=val p / 2^s % 4294967296^r.1) (0,List.replicate (lm p).length 0)
  ⟨Qh _,by simp[U8],λx hx=>by rw[Zx hx];decide,by simp[val];omega⟩ rfl (λ_ _=>rfl) rfl λ⟨i,o⟩ ⟨j1,j2,j3,j5⟩=>?_
 dsimp only at j1 j2 j3 j5 ⊢;by_cases hi:i<p.length
 ·obtain⟨x,hx⟩:=gxE (l:=p) (i:=i) hi;have xb:=np.1 x (Qc hx);have fin:∀y m,(p[i+1]? = some y\/p.length<=i+1/\y=0)->m=(x+y*2^32) / 2^s->p.length-(i+1)<p.length-i/\i+1<=p.length/\(o.set i (m % 4294967296)).length=p.length/\Sm (o.set i (m % 4294967296))/\val ((o.set i (m % 4294967296)).take (i+1))=val p / 2^s % 4294967296^(i+1):=λy m hy hm =>
   ⟨by omega,hi,by simp[j2],Bu j3 _ _ (by omega),by subst hm;exact Qk1 hs hx hy (by omega) np.1 j5⟩
  have hsp:0<2^s:=Z2 (by decide);by_cases hy0:i+1<p.length
  ·obtain⟨y,hy⟩:=gxE (l:=p) (i:=i+1) hy0;have yb:=np.1 y (Qc hy);obtain⟨v,hv⟩:=nmE (4294967296*y+x);obtain⟨m,hm⟩:=nmE (v / 2^s);have hml:m<=v:=hm ▸ Jq _ _;have hf:=fin y m (.inl hy) (by rw[hm,hv];congr 1;omega);refine go tt [.t (by simp[U8];omega),.x (G5 hx),.t (by simp[U8];omega),.x (G5 hy),.i 32,.r 57 (D3 (b:=((4294967296*y:Nat):Int)) (by omega)),.r 58 (D3 (b:=(v:Int)) (by rw[oM xb (by omega)];omega)),
    .i s,.r 63 (D3 (b:=(m:Int)) (by rw[hm];push_cast;rfl)),.w 0,.r 64 (Ep (b:=((m % 4294967296:Nat):Int)) (by rw[xF];omega)),.i i] rfl (by simp[U4,Hw,U8,IntKind.bits] <;> omega) ?_
   rw[Cv];exact rd (i+1,o.set i (m % 4294967296)) hf.1 hf.2 rfl
  ·obtain⟨m,hm⟩:=nmE (x / 2^s);have hml:m<=x:=hm ▸ Jq _ _;have hf:=fin 0 m (.inr ⟨by omega,rfl⟩) (by rw[hm];simp);refine go tt [.t (by simp[U8];omega),.x (G5 hx),.f (by simp[U8];omega),
    .i s,.r 63 (D3 (b:=(m:Int)) (by rw[hm];push_cast;rfl)),.w 0,.r 64 (Ep (b:=((m % 4294967296:Nat):Int)) (by rw[xF];omega)),.i i] rfl (by simp[U4,Hw,U8,IntKind.bits] <;> omega) ?_
   rw[Cv];exact rd (i+1,o.set i (m % 4294967296)) hf.1 hf.2 rfl
 ·obtain rfl:i=p.length:=by omega
  have hvl:=By p np.1;rw[Qm (by omega),Xu (Z3 (Jq _ _) hvl)]at j5;rw[<-j5];exact Uf [.f (by simp[U8,j2]),.k (KQ j3)] rfl
def uM:Nat->Nat->Uo
 | 0,_=>[]
 |k+1,v=>v % 4294967296::uM k (v / 4294967296)
theorem Qg7:∀{l:Uo},Sm l->l=uM l.length (val l)
 | [],_=>rfl
 |
  x::l,h=>by
  have hx:=h x (.head _);have ih:=Qg7 (l:=l) λy hy=>h y (.tail _ hy)
  simp only[Q5,uM,val];rw[show(x+4294967296*val l) % 4294967296=x by omega,show(x+4294967296*val l) / 4294967296=val l by omega,<-ih]
theorem nZ{l:Uo}{k v:Nat}(h:Sm l)(hk:l.length=k)(hv:val l=v):uM k v=l:=by
 rw[<-hk,<-hv];exact(Qg7 h).symm
theorem jR:∀{k v:Nat},(uM k v).length=k/\Sm (uM k v)/\(v<4294967296^k->val (uM k v)=v)
 | 0,v=>⟨rfl,λx hx=>by(cases hx),λh=>by simp at h;subst h;rfl⟩
 |
  k+1,v=>by
  obtain⟨h1,h2,h3⟩:=jR (k:=k) (v:=v / 4294967296);refine⟨by simp[uM,h1],λx hx=>?_,λh=>?_⟩
  ·rcases Qn.1 hx with rfl|hx
   ·exact Z4 _ (by decide)
   ·exact h2 x hx
  ·simp only[uM,val];rw[h3 (by rw[Zr]at h;exact Jb (by rw[Zq];exact h))];omega
theorem Qgq{a:Uo}{s n:Nat}(ha:Sm a)(h1:sz (val a)<=4294967400)(hs:s<=31)(hn:n<274877906944)(h0:0<n)(hv:val a*2^s<4294967296^n) :
 U7 prog 304 [lr a,.oi s,.oi n] [] [.one (.orow 0 1 none)] [.row false 151 1 (lm (uM n (val a*2^s)))]:=by
 refine Fx func304 rfl ?_;obtain⟨v,hvv⟩:=nmE (val a*2^s);have cs:=Qx8 ha h1 hs;rw[<-hvv]at cs hv ⊢;have hl:(Gd v).length<=n:=by
  apply Classical.byContradiction;intro hh;have h2:=FD (Dt v) (λe=>by rw[e]at hh;simp at hh);rw[Ha]at h2;have h3:4294967296^n<=4294967296^((Gd v).length-1):=Zs (by decide) (by omega);omega
 refine go tt [.i n,.i n,.k cs,.s (Qiu (Gd v)),.i (Gd v).length] rfl (by simp[U4,Hw,U8] <;> omega) ?_;have e:List.take 0 (List.replicate n [LV.int .u32 0])++(List.take (Gd v).length (lm (Gd v))++List.drop (0+(Gd v).length) (List.replicate n [LV.int .u32 0]))=lm (uM n v):=by
  rw[nZ (l:=Gd v++List.replicate (n-(Gd v).length) 0) (λx hx=>?_) (by simp;omega) (by rw[Bw,SQ,Ha];simp)]
  ·rw[Vv,Yj,Qm (by rw[U8];exact Ql _)];simp[lm]
  ·rcases Qq.1 hx with hx|hx
   ·exact Lv v x hx
   ·rw[Zx hx];decide
 rw[e];exact Uh [] [0] [] rfl
theorem IH{pre x post:Uo}{i u:Nat}(h:x[i]? = some u):(lm (pre++x++post))[pre.length+i]? = some [.int .u32 (u:Int)]:=G5 (by
 have hi:=(Qf.1 h).1;rw[Zd,Z8 (by omega),Jl,Zi hi];exact h)
theorem Qlu{pre x post:Uo}{i v:Nat}(h:i<x.length):(lm (pre++x++post)).set (pre.length+i) [.int .u32 (v:Int)]=lm (pre++x.set i v++post):=by
 rw[Cv,Zd,List.set_append_right _ _ (by omega),Jl,List.set_append_left _ _ h,<-Zd]
theorem Qnz{pre x post ly:Uo}{top nx xn x1 x2:Nat}(D:Dig x ly ly.length top nx xn x1 x2)(hn:ly.length<274877906944) :
 U7 prog 305 [.one (.orow 0 1 (some (pre.length,x.length))),lr ly] [.row true 151 1 (lm (pre++x++post))] [.one (.int .u32 ((val x / val ly:Nat):Int))] [.row true 151 1 (lm (pre++uM x.length (val x % val ly)++post))]:=by
 refine Fx func305 rfl ?_;have hxl:=D.hx;have hn2:=D.hn;have hb:=D.bnd;obtain⟨head,hh⟩:=nmE (xn*2^32+x1);obtain⟨g0,hg0⟩:=nmE (head / top);obtain⟨r0,hr0⟩:=nmE (head % top);have hst:=D.start;rw[<-hh,<-hg0]at hst;have ht0:=D.top0;have hg0l:g0<=head:=hg0 ▸ Jq _ _;have hr0l:r0<top:=hr0 ▸ Z4 _ ht0;have htd:(head:Int).tdiv top=(g0:Int):=by rw[V7 (by omega),hg0];rfl
 have htm:(head:Int).tmod top=(r0:Int):=by rw[Y5 (by omega),hr0];rfl
 refine go tt [.r 23 (eI (b:=(ly.length:Int)) (by rw[U8])),.r 26 (eI (b:=((ly.length-1:Nat):Int)) (by omega)),.x (G5 D.ltop),.r 32 (eI (b:=((ly.length-2:Nat):Int)) (by omega)),.x (G5 D.lnx),
  .i ly.length,.x (IH D.xn),.i 32,.r 41 (D3 (b:=((4294967296*xn:Nat):Int)) (by omega)),.r 44 (eI (b:=((ly.length-1:Nat):Int)) (by omega)),.i (ly.length-1),.x (IH D.x1),.r 48 (D3 (b:=(head:Int)) (by rw[o64 hb.2.2.2.1 (by omega)];omega)),
  .r 51 (D3 (b:=(g0:Int)) htd),.r 54 (D3 (b:=(r0:Int)) htm)] rfl ?_ ?_
 ·simp only[U4,Hw,htd,IntKind.bits];omega
 refine ct 2 (S:=Nat) (λg=>[(0,.v (.one (.orow 0 1 (some (pre.length,x.length))))),(1,.v (lr ly)),(5,.v (.oi (ly.length:Int))),(9,.v (.one (.int .u64 (g:Int))))]) (λ_=>[.row true 151 1 (lm (pre++x++post))]) (λg=>val x / val ly<=g/\(g-1)*val ly<=val x/\g<=4294967296) rfl ?_ ?_
 ·refine lp (S:=Nat×Nat) 1 (λL1 s=>(9,.v (.one (.int .u64 (s.1:Int))))::(10,.v (.one (.int .u64 (s.2:Int))))::L1) (λ_=>[.row true 151 1 (lm (pre++x++post))]) (λs=>4294967296-s.2)
   (λs=>s.1*top+s.2=xn*2^32+x1/\val x / val ly<=s.1/\s.2<4294967296/\s.1<18446744073709551616) (g0,r0)
   ⟨by rw[<-hh,hg0,hr0,Nat.mul_comm];exact Nat.div_add_mod _ _,hst,by dsimp only;omega,by dsimp only;omega⟩ rfl (λ_ _=>rfl) rfl λ⟨g,r⟩ ⟨j1,j2,j3,j4⟩=>?_
  dsimp only at j1 j2 j3 j4 ⊢;by_cases hge:4294967296<=g
  ·have hrd:=D.round j1 j2 (.inl hge);by_cases h2:4294967296<=r+top
   ·exact go tt [.t (by simp;omega),.t rfl,.r 73 (D3 (b:=((g-1:Nat):Int)) (by omega)),.t (by simp;omega)] rfl (by simp[U4,Hw] <;> omega) (rc (g-1) ⟨hrd.2.1,(hrd.2.2.2 h2).1,(hrd.2.2.2 h2).2⟩ rfl)
   ·exact go tt [.t (by simp;omega),.t rfl,.r 73 (D3 (b:=((g-1:Nat):Int)) (by omega)),.f (by simp;omega)] rfl (by simp[U4,Hw] <;> omega) (rd (g-1,r+top) (by dsimp only;omega) ⟨hrd.2.2.1,hrd.2.1,by dsimp only;omega,by dsimp only;omega⟩ rfl)
  ·have hgn:=JY (x:=g) (y:=nx) (by omega) hb.2.1;by_cases hc:r*2^32+x2<g*nx
   ·have hrd:=D.round j1 j2 (.inr hc);have e1:(g:Int)*(nx:Int)=((g*nx:Nat):Int):=by push_cast;rfl
    obtain⟨m,hm⟩:=nmE (g*nx);rw[<-hm]at e1 hgn hc;by_cases h2:4294967296<=r+top
    ·exact go tt [.f (by simp;omega),.r 60 (D3 (b:=(m:Int)) e1),.i 32,.r 62 (D3 (b:=((4294967296*r:Nat):Int)) (by omega)),.r 65 (eI (b:=((ly.length-2:Nat):Int)) (by omega)),.i (ly.length-2),.x (IH D.x2),.r 69 (D3 (b:=((4294967296*r+x2:Nat):Int)) (o64 hb.2.2.2.2 (by omega))),.t (by simp;omega),.r 73 (D3 (b:=((g-1:Nat):Int)) (by omega)),.t (by simp;omega)] rfl (by simp only[U4,Hw,e1,IntKind.bits];omega) (rc (g-1) ⟨hrd.2.1,(hrd.2.2.2 h2).1,(hrd.2.2.2 h2).2⟩ rfl)
    ·exact go tt [.f (by simp;omega),.r 60 (D3 (b:=(m:Int)) e1),.i 32,.r 62 (D3 (b:=((4294967296*r:Nat):Int)) (by omega)),.r 65 (eI (b:=((ly.length-2:Nat):Int)) (by omega)),.i (ly.length-2),.x (IH D.x2),.r 69 (D3 (b:=((4294967296*r+x2:Nat):Int)) (o64 hb.2.2.2.2 (by omega))),.t (by simp;omega),.r 73 (D3 (b:=((g-1:Nat):Int)) (by omega)),.f (by simp;omega)] rfl (by simp only[U4,Hw,e1,IntKind.bits];omega) (rd (g-1,r+top) (by dsimp only;omega) ⟨hrd.2.2.1,hrd.2.1,by dsimp only;omega,by dsimp only;omega⟩ rfl)
   ·have hf:=D.fin j1 (by omega) (by omega);have e1:(g:Int)*(nx:Int)=((g*nx:Nat):Int):=by push_cast;rfl
    obtain⟨m,hm⟩:=nmE (g*nx);rw[<-hm]at e1 hgn hc;exact go tt [.f (by simp;omega),.r 60 (D3 (b:=(m:Int)) e1),.i 32,.r 62 (D3 (b:=((4294967296*r:Nat):Int)) (by omega)),.r 65 (eI (b:=((ly.length-2:Nat):Int)) (by omega)),.i (ly.length-2),.x (IH D.x2),.r 69 (D3 (b:=((4294967296*r+x2:Nat):Int)) (o64 hb.2.2.2.2 (by omega))),.f (by simp;omega)] rfl (by simp only[U4,Hw,e1,IntKind.bits];omega) (rc g ⟨j2,hf,by omega⟩ rfl)
 ·intro g ⟨q1,q2,q3⟩;refine Ud [.r 80 (eI (b:=(ly.length:Int)) (by rw[U8]))] rfl ?_;refine lp (S:=Nat×Uo×Nat×Nat) 1 (λL1 s=>(81,.v (.oi (s.1:Int)))::(11,.v (.one (.int .u64 (s.2.2.1:Int))))::(12,.v (.one (.int .u64 (s.2.2.2:Int))))::L1) (λs=>[.row true 151 1 (lm (pre++s.2.1++post))]) (λs=>ly.length-s.1)
   (λs=>s.1<=ly.length/\s.2.1.length=ly.length+1/\Sm s.2.1/\s.2.2.2<=1/\s.2.2.1<4294967296/\val (s.2.1.take s.1)+g*val (ly.take s.1)=val (x.take s.1)+(s.2.2.1+s.2.2.2)*4294967296^s.1/\s.2.1.drop s.1=x.drop s.1) (0,x,0,0)
   ⟨Qh _,hxl,D.xb,Qh _,by simp,by simp[val],rfl⟩ rfl (λ_ _=>rfl) rfl λ⟨i,o,cy,bw⟩ ⟨j1,j2,j3,j4,j5,j6,j7⟩=>?_
  dsimp only at j1 j2 j3 j4 j5 j6 j7 ⊢;by_cases hi:i<ly.length
  ·obtain⟨w1,hw1⟩:=gxE (l:=ly) (i:=i) hi;obtain⟨u,hu⟩:=gxE (l:=x) (i:=i) (by omega);have wb:=D.lb w1 (Qc hw1);have ub:=D.xb u (Qc hu);have hou:=(UE j7).trans hu;have hgw:g*w1<=18446744069414584320:=by
    have:=Zc q3 (show w1<=4294967295 by omega);omega
   obtain⟨s,hs⟩:=nmE (((u+18446744073709551616-(g*w1+cy) % 4294967296) % 18446744073709551616+18446744073709551616-bw) % 18446744073709551616);have hstep:=yN (o:=o) (by omega) hu hw1 ub j4 j6 rfl hs;have e1:(g:Int)*(w1:Int)=((g*w1:Nat):Int):=by push_cast;rfl
   obtain⟨m,hm⟩:=nmE (g*w1);rw[<-hm]at e1 hgw hs hstep;obtain⟨p,hp⟩:=nmE (m+cy);rw[<-hp]at hs hstep;refine go tt [.t (by simp;omega),.x (G5 hw1),.r 89 (D3 (b:=(m:Int)) e1),.r 91 (D3 (b:=(p:Int)) (by omega)),.i 32,.r 93 (D3 (b:=((p / 2^32:Nat):Int)) (by simp)),.i i,.x (IH hou),.w 1,.r 100 (Ep (b:=((p % 4294967296:Nat):Int)) (by rw[xF];omega)),.w 1,.r 102 (D3 (b:=(((u+18446744073709551616-p % 4294967296) % 18446744073709551616:Nat):Int)) (by rw[w64];omega)),.w 0,.r 104 (D3 (b:=(s:Int)) (by rw[w64];omega)),
    .w 0,.r 108 (Ep (b:=((s % 4294967296:Nat):Int)) (by rw[xF];omega)),.i 63,.r 110 (D3 (b:=((s / 2^63:Nat):Int)) (by simp)),.i i] rfl (by simp only[U4,Hw,e1,IntKind.bits,U8,Qu];omega) ?_
   rw[Qlu (by omega)];exact rd (i+1,o.set i (s % 4294967296),p / 2^32,s / 2^63) (by dsimp only;omega) ⟨hi,by simp[j2],Bu j3 _ _ (by omega),hstep.2,by dsimp only;omega,hstep.1,OU j7⟩ rfl
  ·obtain rfl:i=ly.length:=by omega
   have hon:=(UE j7).trans D.xn;rw[Qm (l:=ly) (Ql _)]at j6;obtain⟨s,hs⟩:=nmE (((xn+18446744073709551616-cy) % 18446744073709551616+18446744073709551616-bw) % 18446744073709551616);obtain⟨oa,hoa⟩:=nmE (o.set ly.length (s % 4294967296));have oal:oa.length=ly.length+1:=by rw[hoa,Xd];exact j2
   have oab:Sm oa:=hoa ▸ Bu j3 _ _ (by omega);by_cases AN:s / 2^63=0
   ·have hf:=D.fin0 j2 j5 j4 q1 j6 hs AN;refine go tt [.f (by simp),.i ly.length,.x (IH hon),.w 1,.r 119 (D3 (b:=(((xn+18446744073709551616-cy) % 18446744073709551616:Nat):Int)) (by rw[w64];omega)),.w 0,.r 121 (D3 (b:=(s:Int)) (by rw[w64];omega)),.w 0,.r 125 (Ep (b:=((s % 4294967296:Nat):Int)) (by rw[xF];omega)),.i ly.length,.i 63,.r 128 (D3 (b:=((s / 2^63:Nat):Int)) (by simp)),.t (by simp;omega),.w 0,.r 131 (Ep (b:=((val x / val ly:Nat):Int)) (by rw[xF];omega))] rfl (by simp only[U4,Hw,IntKind.bits,U8,Qu];omega) ?_;rw[Qlu (by omega),<-nZ (l:=o.set ly.length (s % 4294967296)) (k:=x.length) (hoa ▸ oab) (by rw[<-hoa,oal,hxl]) hf.2];exact Uh [] [0] [] rfl
   ·have hf:=D.fin1 j2 j3 j5 j4 q2 j6 hs AN;rw[<-hoa]at hf;obtain⟨v1,hv1⟩:=gxE (l:=oa) (i:=ly.length) (by omega);refine go tt [.f (by simp),.i ly.length,.x (IH hon),.w 1,.r 119 (D3 (b:=(((xn+18446744073709551616-cy) % 18446744073709551616:Nat):Int)) (by rw[w64];omega)),.w 0,.r 121 (D3 (b:=(s:Int)) (by rw[w64];omega)),.w 0,.r 125 (Ep (b:=((s % 4294967296:Nat):Int)) (by rw[xF];omega)),.i ly.length,.i 63,.r 128 (D3 (b:=((s / 2^63:Nat):Int)) (by simp)),.f (by simp;omega),.r 133 (eI (b:=(ly.length:Int)) (by rw[U8]))] rfl (by simp only[U4,Hw,IntKind.bits,U8,Qu];omega) ?_;rw[Qlu (by omega),<-hoa];refine lp (S:=Nat×Uo×Nat) 1 (λL1 s=>(134,.v (.oi (s.1:Int)))::(18,.v (.one (.int .u64 (s.2.2:Int))))::L1) (λs=>[.row true 151 1 (lm (pre++s.2.1++post))]) (λs=>ly.length-s.1)
     (λs=>s.1<=ly.length/\s.2.1.length=ly.length+1/\Sm s.2.1/\s.2.2<=1/\val (s.2.1.take s.1)+s.2.2*4294967296^s.1=val (oa.take s.1)+val (ly.take s.1)/\s.2.1.drop s.1=oa.drop s.1) (0,oa,0)
     ⟨Qh _,oal,oab,Qh _,by simp[val],rfl⟩ rfl (λ_ _=>rfl) rfl λ⟨j,o2,bk⟩ ⟨r1,r2,r3,r4,r5,r6⟩=>?_
    dsimp only at r1 r2 r3 r4 r5 r6 ⊢;by_cases hj:j<ly.length
    ·obtain⟨w1,hw1⟩:=gxE (l:=ly) (i:=j) hj;obtain⟨u,hu⟩:=gxE (l:=oa) (i:=j) (by omega);have wb:=D.lb w1 (Qc hw1);have ub:=oab u (Qc hu);have hou:=(UE r6).trans hu;obtain⟨m,hm⟩:=nmE (u+bk+w1);have hstep:=wZ (o:=o2) (by omega) hu (.inl hw1) r5 hm;refine go tt [.t (by simp;omega),.x (G5 hw1),.i j,.x (IH hou),.r 148 (D3 (b:=(m:Int)) (by omega)),.w 0,.r 152 (Ep (b:=((m % 4294967296:Nat):Int)) (by rw[xF];omega)),.i 32,.r 154 (D3 (b:=((m / 4294967296:Nat):Int)) (by simp)),.i j] rfl (by simp only[U4,Hw,IntKind.bits,U8,Qu];omega) ?_;rw[Qlu (by omega)];exact rd (j+1,o2.set j (m % 4294967296),m / 4294967296) (by dsimp only;omega) ⟨hj,by simp[r2],Bu r3 _ _ (by omega),by dsimp only;omega,hstep,OU r6⟩ rfl
    ·obtain rfl:j=ly.length:=by omega
     have hon2:=(UE r6).trans hv1;have vb:=oab v1 (Qc hv1);rw[Qm (l:=ly) (Ql _)]at r5;have hf2:=D.fin2 oal oab r2 r3 hv1 r4 hf.2 r5;refine go tt [.f (by simp),.i ly.length,.x (IH hon2),.w 1,.r 165 (Ep (b:=(((v1+bk) % 4294967296:Nat):Int)) (by rw[xF];omega)),.i ly.length,.w 0,.r 168 (Ep (b:=((g % 4294967296:Nat):Int)) (by rw[xF];omega)),.w 0,.r 169 (Ep (b:=((val x / val ly:Nat):Int)) (Qzk hf.1 D.qlt))] rfl (by simp only[U4,Hw,IntKind.bits,U8,Qu];omega) ?_;rw[Qlu (by omega),<-nZ (l:=o2.set ly.length ((v1+bk) % 4294967296)) (k:=x.length) (Bu r3 _ _ (by omega)) (by rw[Xd,r2,hxl]) hf2];exact Uh [] [0] [] rfl
theorem Qf0{o ly:Uo}{lo top nx xn x1 x2:Nat}(hlo:lo+(ly.length+1)<=o.length)(D:Dig (UX o lo ly.length) ly ly.length top nx xn x1 x2)(hn:ly.length<274877906944) :
 U7 prog 305 [.one (.orow 0 1 (some (lo,ly.length+1))),lr ly] [.row true 151 1 (lm o)] [.one (.int .u32 ((val (UX o lo ly.length) / val ly:Nat):Int))] [.row true 151 1 (lm (o.take lo++uM (ly.length+1) (val (UX o lo ly.length) % val ly)++o.drop (lo+ly.length+1)))]:=by
 have:=Qnz (pre:=o.take lo) (post:=o.drop (lo+ly.length+1)) D hn;have e1:(o.take lo).length=lo:=by rw[Qp];omega
 have e2:=HJ (o:=o) (i:=lo) (n:=ly.length) (by omega);rw[e1,e2,VR]at this;exact this
theorem wH{a b:Uo}(ha:Sm a)(hb:Sm b)(h1:sz (val a)<=4294967296)(h2:sz (val b)<=4294967296)(hy:0<val b):Uj 268 [lr a,lr b] [lr (Gd (val a / val b)),lr (Gd (val a % val b)),.oi 0]:=by
 refine Fx func268 rfl ?_;obtain⟨p,ca,np,vp,_,ep⟩:=RX ha;obtain⟨q,cb,nq,vq,_,eq⟩:=RX hb;have hp:=Rp h1;have hq:=Rp h2;rw[<-ep]at hp;rw[<-eq]at hq;rw[<-vp,<-vq];rw[<-vp]at h1;rw[<-vq]at h2 hy;have q0:q≠[]:=λe=>by rw[e]at hy;simp[val]at hy
 have qp:0<q.length:=J3.2 q0;have c1:¬((lm q).length:Int)=0:=by rw[U8];omega
 by_cases hlt:p.length<q.length
 ·have hv:=D8 np nq hlt;rw[V3 hv,Xu hv,Hd];exact Uf [.k ca,.k cb,.f (by simpa using c1),.t (by simp[U8];omega),.k (KP np.1 h1)] rfl rfl (by simp[U4,Hw])
 by_cases hone:q.length=1
 ·obtain⟨y,rfl⟩:∃y,q=[y]:=by
   match q,hone with
   | [y],_=>exact⟨y,rfl⟩
  have yb:=nq.1 y (.head _);have vy:val [y]=y:=by simp[val]
  rw[vy]at hy ⊢;have co:=Qyd np.1 (by omega) hy yb;have sm:Sm [val p % y]:=λz hz=>by
   simp at hz;subst hz;exact Nat.lt_trans (Z4 _ hy) yb
  have cc:=KQ sm;rw[show val [val p % y]=val p % y from by simp[val]]at cc;exact Uf [.k ca,.k cb,.f (by simp[lm]),.f (by simp[U8];omega),.t (by simp[lm]),.x (G5 (l:=[y]) (i:=0) rfl),.k co,.k cc] rfl rfl (by simp[U4,Hw])
 ·have hle:q.length<=p.length:=J8 hlt;obtain⟨y1,hy1,hy10⟩:=nq.2 q0;have y1b:=nq.1 y1 (Qc hy1);have hszy:=dP nq hy1;have hsz1:sz y1<=32:=Nv.2 (by omega);have hsz0:0<sz y1:=Qwx (by omega);obtain⟨s,hs⟩:=nmE (32-sz y1);have hs31:s<=31:=by omega
  have Ep:(2:Nat)^32=4294967296:=by decide
  obtain⟨x,hx⟩:=nmE (val p);obtain⟨y,hyv⟩:=nmE (val q);have cl:=Qtx y1b;rw[<-hs]at cl;have hvx:val p*2^s<4294967296^(p.length+1):=by
   have h1:=By p np.1;rw[Zr];exact Z6 (Xo h1 (show 0<2^s from Z2 (by decide))) (Zu _ (by rw[<-Ep];exact Zs (by decide) (by omega)))
  have hvy:val q*2^s<4294967296^q.length:=by
   have h1:=FP (val q);rw[<-Ep,<-Ks];have h2:val q*2^s<2^sz (val q)*2^s:=Xo h1 (Z2 (by decide));rw[<-Xf]at h2;rw[show 32*q.length=sz (val q)+s from by omega];exact h2
  have cx:=Qgq np.1 (show sz (val p)<=4294967400 by omega) hs31 (show p.length+1<274877906944 by omega) (by omega) hvx;have cy:=Qgq nq.1 (show sz (val q)<=4294967400 by omega) hs31 (show q.length<274877906944 by omega) qp hvy;obtain⟨hXl,hXb,hXv⟩:=jR (k:=p.length+1) (v:=val p*2^s);obtain⟨hYl,hYb,hYv⟩:=jR (k:=q.length) (v:=val q*2^s);have hXv:=hXv hvx;have hYv:=hYv hvy;obtain⟨X,hX⟩:=nmE (uM (p.length+1) (val p*2^s));obtain⟨Y,hY⟩:=nmE (uM q.length (val q*2^s));rw[<-hX]at hXl hXb hXv cx;rw[<-hY]at hYl hYb hYv cy;have hyB:4294967296^(q.length-1)<=val q:=FD nq q0;have hR:=cP hXv hYv hXl hXb hYl hYb (show 2<=q.length by omega) (By p np.1) hyB hle;refine go tt [.k ca,.k cb,.f (by simpa using c1),.f (by simp[U8];omega),.f (by simp[U8];omega),.r 49 (eI (b:=((q.length-1:Nat):Int)) (by rw[U8];omega)),.x (G5 hy1),.k cl,.r 57 (eI (b:=((p.length+1:Nat):Int)) (by rw[U8];omega)),.c [0] cx,.r 62 (eI (b:=(q.length:Int)) (by rw[U8])),.c [1] cy,.r 65 (eI (b:=(q.length:Int)) (by rw[U8,hYl])),.r 70 (eI (b:=((p.length-q.length+1:Nat):Int)) (by rw[U8];omega)),.i (p.length-q.length+1),.i (p.length-q.length+1),.r 73 (eI (b:=((p.length-q.length+1:Nat):Int)) (by simp))] rfl ?_ ?_
  ·simp only[U4,Hw,IntKind.bits,U8];omega
  ·rw[WM];refine pb 1 rfl rfl ?_;refine lp (S:=Int×Uo×Uo) 3 (λL1 s=>(13,.v (.oi s.1))::L1) (λs=>[.row false 151 1 (lm s.2.2),.gone,.row false 151 1 (lm s.2.1)]) (λs=>(s.1+1).toNat)
    (λs=>-1<=s.1/\s.1<p.length-q.length+1/\s.2.1.length=p.length-q.length+1/\Sm s.2.1/\Rest s.2.2 Y p.length q.length (s.1+1).toNat/\val (s.2.1.drop (s.1+1).toNat)*4294967296^(s.1+1).toNat*val Y+val s.2.2=val X) (((p.length-q.length+1:Nat):Int)-1,List.replicate (p.length-q.length+1) 0,X)
    ⟨by dsimp only;omega,by dsimp only;omega,by simp,λx hx=>by rw[List.eq_of_mem_replicate hx];decide,by simpa using hR,by simp[val]⟩ rfl (λ_ _=>rfl) rfl λ⟨i,oq,ox⟩ ⟨j1,j2,j3,j4,j5,j6⟩=>?_
   dsimp only at j1 j2 j3 j4 j5 j6 ⊢;rcases Kd i 0 with hi|hi
   ·obtain rfl:i=-1:=by omega
    simp only[show((-1:Int)+1).toNat=0 from rfl,Xy,Ve,Yw]at j5 j6;have hlt':val ox<val q*2^s:=by have:=j5.lt;rw[hYv]at this;simpa using this
    have hfin:=Qkf (x:=val p) (y:=val q) (s:=s) (r:=val ox) (q:=oq) hy (by rw[<-hXv,<-hYv];exact j6) hlt';have hoxl:=j5.ol;have hox:=dN (o:=ox) (n:=q.length) (by omega) (Nat.lt_trans hlt' hvy);have hszm:sz (val (ox.take q.length))<=4294967400:=by
     rw[hox,hfin.2];have h1:=Qlf (val p % val q) (2^s);have h2':=Ri (Yk (Z4 (val p) hy));have h3:sz (2^s)<=s+1:=Nv.2 (Nat.pow_lt_pow_right (by decide) (by omega));omega
    have cs:=Qx9 (a:=ox.take q.length) (λu hu=>j5.ob u (Qo hu)) hszm hs31;rw[hox,hfin.2,Nat.mul_div_cancel _ (Z2 (by decide))]at cs;have cq:=KQ j4;rw[hfin.1]at cq;exact Uf [.f (by decide),.p 2,.p 0,.k cq,.i q.length,.r 95 (v:=lr (ox.take q.length)) (by simp[lm]),.k cs] rfl rfl (by simp[U4,Hw,U8];omega)
   ·obtain⟨k,rfl⟩:=Kk hi;have e:((k:Int)+1).toNat=k+1:=by omega
    rw[e]at j5 j6;obtain⟨top,nx,xn,x1,x2,D⟩:=j5.dig;have hoxl:=j5.ol;have hm:=j5.hm;have cd:=Qf0 (o:=ox) (lo:=k) (by omega) (hYl.symm ▸ D) (by omega);rw[hYl]at cd;have hwl:=HJ (o:=ox) (i:=k) (n:=q.length) (by omega);have hwlt:val (UX ox k q.length) % val Y<4294967296^(q.length+1):=by
     have h3:=By (UX ox k q.length) D.xb;rw[hwl]at h3;exact Z3 (Nat.mod_le _ _) h3
    obtain⟨d1,d2,d3⟩:=jR (k:=q.length+1) (v:=val (UX ox k q.length) % val Y);have hnx:=j5.next (w':=uM (q.length+1) (val (UX ox k q.length) % val Y)) (d1.trans hwl.symm) d2 (d3 hwlt) (q:=oq) (by omega) j6;have hdg:=D.qlt;refine go tt [.t (by simp),.i k,.i (k+q.length+1),.r 87 (v:=.one (.orow 0 1 (some (k,q.length+1)))) (by rw[show k+q.length+1-k=q.length+1 by omega]),.c [0] cd,.i k] rfl ?_ ?_
    ·simp only[U4,U8];omega
    ·rw[Cv];refine rd ((k:Int)-1,oq.set k (val (UX ox k q.length) / val Y),ox.take k++uM (q.length+1) (val (UX ox k q.length) % val Y)++ox.drop (k+q.length+1)) (by dsimp only;omega) ⟨by dsimp only;omega,by dsimp only;omega,by simp[j3],Bu j4 _ _ hdg,?_,?_⟩ rfl
     ·dsimp only;rw[show((k:Int)-1+1).toNat=k from by omega];exact hnx.1
     ·dsimp only;rw[show((k:Int)-1+1).toNat=k from by omega];exact hnx.2
def sg(z:Int):LV:=.bool (decide (z<0))
def mg(z:Int):LV:=.row (lm (Gd z.natAbs))
abbrev G9(z:Int):Ur:=[sg z,mg z]
def Gg(x y:LV)(z:Int):Prop:=∃b l,x=.bool b/\y=.row (lm l)/\Sm l/\z=Fc b (val l)
theorem U5(z:Int):Gg (sg z) (mg z) z:=by
 refine⟨_,_,rfl,rfl,Lv _,?_⟩;rw[Ha];unfold Fc;by_cases h:z<0 <;> simp[h] <;> omega
theorem Qv5(b:Bool)(m:Nat):[LV.bool (b && decide (0<m)),LV.row (lm (Gd m))]=G9 (Fc b m):=by
 simp only[G9,sg,mg,LL,Rw]
theorem D5{m:Nat}:0<(Gd m).length↔0<m:=by
 rcases Q3 m with h|h
 ·subst h;rw[Hd];simp
 ·rw[E8 (by omega)];simp[h]
theorem P8(b:Bool)(m:Nat):Uj 112 [lr (Gd m),.one (.bool b)] [.agg (G9 (Fc b m))]:=by
 rw[<-Qv5];have e:=D5 (m:=m);cases b with
 |false=>exact Ug func112 rfl [.f rfl] rfl
 |true=>exact Ug func112 rfl [.t rfl] rfl (by simp[U8,e]) trivial
theorem P6{b:Bool}{m:Nat}{k:Nat}(h:Ff (Fc b m)<=k):sz m<=k:=by
 unfold Ff at h;rwa[Rw]at h
theorem Mr{x y:LV}{z:Int}(hi:Gg x y z)(hs:Ff z<=4294967295):Uj 151 [.agg [x,y]] [.agg (G9 z)]:=by
 obtain⟨b,l,rfl,rfl,hl,rfl⟩:=hi;exact Ug func151 rfl [.k (KP hl (Qa (P6 hs) (by decide))),.k (P8 _ _)] rfl
theorem FV(b:Bool)(m:Nat):Fc (!b) m=-(Fc b m):=by unfold Fc;cases b <;> simp
theorem BS{x y:LV}{z:Int}(hi:Gg x y z)(hs:Ff z<=4294967295):Uj 165 [.agg [x,y]] [.agg (G9 (-z))]:=by
 obtain⟨b,l,rfl,rfl,hl,rfl⟩:=hi;rw[<-FV];exact Ug func165 rfl [.k (KP hl (Qa (P6 hs) (by decide))),.k (P8 _ _)] rfl
theorem Pp{x y x' y':LV}{z z':Int}(hi:Gg x y z)(hi':Gg x' y' z')(hs:Ff z<=4294967295)(hs':Ff z'<=4294967295):Uj 48 [.agg [x,y],.agg [x',y']] [.agg (G9 (z*z'))]:=by
 obtain⟨b,l,rfl,rfl,hl,rfl⟩:=hi;obtain⟨b',l',rfl,rfl,hl',rfl⟩:=hi';have e:Fc b (val l)*Fc b' (val l')=Fc (b != b') (val l*val l'):=by
  unfold Fc;cases b <;> cases b' <;> simp[Int.neg_mul,Int.mul_neg]
 rw[e];exact Ug func48 rfl [.k (Qx3 hl hl' (Qa (P6 hs) (by decide)) (Qa (P6 hs') (by decide))),.k (P8 _ _)] rfl
theorem BD{a b:Uo}(ha:Sm a)(hb:Sm b)(h1:sz (val a)<=4294967296)(h:val b<=val a):Uj 308 [lr a,lr b] [lr (Gd (val a-val b)),.one (.bool true)]:=by
 have:=Qr5 ha hb h1;rwa[if_pos h]at this
theorem Qfp{a b:Uo}(ha:Sm a)(hb:Sm b)(h1:sz (val a)<=4294967296)(h:val a<val b):Uj 308 [lr a,lr b] [lr [],.one (.bool false)]:=by
 have:=Qr5 ha hb h1;rwa[if_neg (by omega)]at this
theorem KB{x y x' y':LV}{z z':Int}(hi:Gg x y z)(hi':Gg x' y' z')(hs:Ff z<=4294967295)(hs':Ff z'<=4294967295):Uj 300 [.agg [x,y],.agg [x',y']] [.agg (G9 (z+z'))]:=by
 obtain⟨b,l,rfl,rfl,hl,rfl⟩:=hi;obtain⟨b',l',rfl,rfl,hl',rfl⟩:=hi';have s1:=Qa (P6 hs) (show 4294967295<=4294967296 by decide);have s2:=Qa (P6 hs') (show 4294967295<=4294967296 by decide);by_cases hb:b=b'
 ·subst hb;have e:Fc b (val l)+Fc b (val l')=Fc b (val l+val l'):=by unfold Fc;cases b <;> simp <;> omega
  rw[e];exact Ug func300 rfl [.t (by simp),.k (Qr1 hl hl' s1 s2),.k (P8 _ _)] rfl
 ·by_cases hle:val l'<=val l
  ·have e:Fc b (val l)+Fc b' (val l')=Fc b (val l-val l'):=by unfold Fc;cases b <;> cases b' <;> simp at hb ⊢ <;> omega
   rw[e];exact Ug func300 rfl [.f (by simpa using hb),.k (BD hl hl' s1 hle),.t rfl,.k (P8 _ _)] rfl
  ·have e:Fc b (val l)+Fc b' (val l')=Fc b' (val l'-val l):=by unfold Fc;cases b <;> cases b' <;> simp at hb ⊢ <;> omega
   rw[e];exact Ug func300 rfl [.f (by simpa using hb),.k (Qfp hl hl' s1 (by omega)),.f rfl,.k (BD hl' hl s2 (by omega)),.k (P8 _ _)] rfl
theorem Qfx{x y x' y':LV}{z z':Int}(hi:Gg x y z)(hi':Gg x' y' z')(hs:Ff z<=4294967295)(hs':Ff z'<=4294967295):Uj 284 [.agg [x,y],.agg [x',y']] [.agg (G9 (z-z'))]:=by
 obtain⟨b',l',rfl,rfl,hl',rfl⟩:=hi';have hn:Gg (.bool (!b')) (.row (lm l')) (-(Fc b' (val l'))):=⟨_,_,rfl,rfl,hl',(FV _ _).symm⟩;rw[Int.sub_eq_add_neg];have hi2:=hi;obtain⟨b,l,rfl,rfl,hl,_⟩:=hi;exact Ug func284 rfl [.k (KB hi2 hn hs (by rw[Hn];exact hs'))] rfl
theorem Qgj{x y:LV}{z:Int}(hi:Gg x y z)(hs:Ff z<=4294967295):Uj 212 [.agg [x,y]] [.oi (Int.sign z)]:=by
 obtain⟨b,l,rfl,rfl,hl,rfl⟩:=hi;have s1:=Qa (P6 hs) (show 4294967295<=4294967296 by decide);have cb:=mQ hl s1;by_cases h0:val l=0
 ·have e:Fc b (val l)=0:=by unfold Fc;rw[h0];cases b <;> simp
  rw[e];exact Ug func212 rfl [.k cb,.t (by simp[EO,h0])] rfl
 ·have AN:sz (val l)≠0:=λh=>h0 (EO.1 h)
  cases b
  ·have e:(Fc false (val l)).sign=1:=Int.sign_eq_one_of_pos (by unfold Fc;simp;omega);rw[e];exact Ug func212 rfl [.k cb,.f (by simp;omega),.f rfl] rfl
  ·have e:(Fc true (val l)).sign=-1:=Int.sign_eq_neg_one_of_neg (by unfold Fc;simp;omega);rw[e];exact Ug func212 rfl [.k cb,.f (by simp;omega),.t rfl] rfl
theorem HE{x y x' y':LV}{z z':Int}(hi:Gg x y z)(hi':Gg x' y' z')(hs:Ff z<=4294967295)(hs':Ff z'<=4294967295):Uj 142 [.agg [x,y],.agg [x',y']] [.oi (Ld z z')]:=by
 have c1:=Qgj hi hs;have c2:=Qgj hi' hs';obtain⟨b,l,rfl,rfl,hl,hz⟩:=hi;obtain⟨b',l',rfl,rfl,hl',hz'⟩:=hi';have k1:=A2 z;have k2:=A2 z';have zl:z.natAbs=val l:=by rw[hz,Rw]
 have zl':z'.natAbs=val l':=by rw[hz',Rw]
 by_cases h1:z.sign<z'.sign
 ·have e:Ld z z'=-1:=by unfold Ld;rw[if_pos (by omega)]
  rw[e];exact Ug func142 rfl [.k c1,.k c2,.t (by simpa using h1)] rfl
 ·by_cases h2:z'.sign<z.sign
  ·have e:Ld z z'=1:=by unfold Ld;rw[if_neg (by omega),if_pos (by omega)]
   rw[e];exact Ug func142 rfl [.k c1,.k c2,.f (by simpa using h1),.t (by simpa using h2)] rfl
  ·by_cases h3:z.sign<0
   ·have e:ZN (val l') (val l)=Ld z z':=by unfold Ld ZN;rw[<-zl,<-zl'];split <;> split <;> (try split) <;> (try split) <;> omega
    have cc:=Qeo hl' hl;rw[e]at cc;exact Ug func142 rfl [.k c1,.k c2,.f (by simpa using h1),.f (by simpa using h2),.t (by simpa using h3),.k cc] rfl
   ·have e:ZN (val l) (val l')=Ld z z':=by unfold Ld ZN;rw[<-zl,<-zl'];split <;> split <;> (try split) <;> (try split) <;> omega
    have cc:=Qeo hl hl';rw[e]at cc;exact Ug func142 rfl [.k c1,.k c2,.f (by simpa using h1),.f (by simpa using h2),.f (by simpa using h3),.k cc] rfl
theorem Do{z:Int}:Uj 152 [.agg (G9 z)] [.one (.bool (decide (z=0)))] :=
 Ug func152 rfl [] rfl (by simp only[U8];congr 3;have:=D5 (m:=z.natAbs);rw[decide_eq_decide];omega) trivial
theorem BP{z:Int}(h1:-9223372036854775808<=z/\z<=9223372036854775807):Uj 153 [.oi z] [.agg (G9 z)]:=by
 obtain⟨m,hm⟩:=nmE (z.natAbs);have sm:Sm [m % 4294967296,m / 4294967296]:=λx hx=>by
  simp at hx;rcases hx with rfl|rfl <;> omega
 have hv:val [m % 4294967296,m / 4294967296]=m:=by simp only[val];omega
 have cn:=KP sm (by rw[hv];exact Qa (Nv.2 (show m<2^64 by omega)) (show 64<=4294967296 by decide));rw[hv]at cn;by_cases hz:z<0
 ·have e:Fc true m=z:=by unfold Fc;simp;omega
  have cm:=P8 true m;rw[e]at cm;exact Ug func153 rfl [.w 0,.r 5 (D3 (b:=((18446744073709551616-m:Nat):Int)) (by rw[w64];omega)),.t (by simpa using hz),.w 0,.r 9 (D3 (b:=(m:Int)) (by rw[w64];omega)),.w 0,.r 11 (Ep (b:=((m % 4294967296:Nat):Int)) (by rw[xF];omega)),.i 32,.r 13 (D3 (b:=((m / 4294967296:Nat):Int)) (by simp)),.k cn,.r 18 (v:=.one (.bool true)) (by simp[hz]),.k cm] rfl rfl (by simp[U4,IntKind.bits] <;> omega)
 ·have e:Fc false m=z:=by unfold Fc;simp;omega
  have cm:=P8 false m;rw[e]at cm;exact Ug func153 rfl [.w 0,.r 5 (D3 (b:=(m:Int)) (by rw[w64];omega)),.f (by simpa using hz),.w 0,.r 11 (Ep (b:=((m % 4294967296:Nat):Int)) (by rw[xF];omega)),.i 32,.r 13 (D3 (b:=((m / 4294967296:Nat):Int)) (by simp)),.k cn,.r 18 (v:=.one (.bool false)) (by simp;omega),.k cm] rfl rfl (by simp[U4,IntKind.bits] <;> omega)
theorem mJ{m n:Nat}(h1:sz m<=4294967296)(h2:sz n<=4294967296)(hn:0<n):Uj 268 [lr (Gd m),lr (Gd n)] [lr (Gd (m / n)),lr (Gd (m % n)),.oi 0]:=by
 have:=wH (Lv m) (Lv n) (by rw[Ha];exact h1) (by rw[Ha];exact h2) (by rw[Ha];exact hn);rwa[Ha,Ha]at this
theorem Qbq{x y x' y':LV}{z z':Int}(hi:Gg x y z)(hi':Gg x' y' z')(hs:Ff z<=4294967295)(hs':Ff z'<=4294967295)(hz:z'≠0):Uj 269 [.agg [x,y],.agg [x',y']] [.agg (G9 (z / z')),.agg (G9 (z % z')),.oi 0]:=by
 obtain⟨b,l,rfl,rfl,hl,hz1⟩:=hi;obtain⟨b',l',rfl,rfl,hl',hz2⟩:=hi';have zl:z.natAbs=val l:=by rw[hz1,Rw]
 have zl':z'.natAbs=val l':=by rw[hz2,Rw]
 have s1:sz (val l)<=4294967296:=Qa (P6 (hz1 ▸ hs)) (by decide);have s2:sz (val l')<=4294967296:=Qa (P6 (hz2 ▸ hs')) (by decide);have hp:0<z'.natAbs:=by omega
 have e1:z=if b=true then -(z.natAbs:Int)else(z.natAbs:Int):=by rw[zl];exact hz1
 have e2:z'=if b'=true then -(z'.natAbs:Int)else(z'.natAbs:Int):=by rw[zl'];exact hz2
 have cd:=wH hl hl' s1 s2 (by omega);rw[<-zl,<-zl']at cd;have s0:sz (z.natAbs % z'.natAbs)<=4294967296:=Qa (Ri (Yk (Z4 _ hp))) (by rw[zl'];exact s2);cases b with
 |
  false =>
  obtain⟨d1,d2⟩:=CL e2 hp e1;rw[d1,d2];exact Ug func269 rfl [.k cd,.f rfl,.k (P8 _ _),.k (P8 _ _),.f rfl,.f rfl] rfl
 |
  true =>
  by_cases h0:z.natAbs % z'.natAbs=0
  ·obtain⟨d1,d2⟩:=PD e2 hp e1 h0;rw[d1,d2];exact Ug func269 rfl [.k cd,.f rfl,.k (P8 _ _),.k (P8 _ _),.t rfl,.f (by rw[h0,Hd];rfl)] rfl
  ·obtain⟨d1,d2⟩:=CC e2 hp e1 (by omega);rw[d1,d2];have ca:=Qr1 (a:=Gd (z.natAbs / z'.natAbs)) (b:=[1]) (Lv _) (λx hx=>by simp at hx;subst hx;decide) (by rw[Ha];exact Qa (Ri (Jq _ _)) (by rw[zl];exact s1)) (by decide);have cs:=BD (a:=l') (b:=Gd (z.natAbs % z'.natAbs)) hl' (Lv _) s2 (by rw[Ha,<-zl'];exact Yk (Z4 _ hp));rw[Ha]at ca cs;rw[<-zl']at cs;have hl0:=D5 (m:=z.natAbs % z'.natAbs);exact Ug func269 rfl [.k cd,.f rfl,.k (P8 _ _),.k (P8 _ _),.t rfl,.t (by simp[U8];omega),.k ca,.k cs,.k (P8 _ _),.k (P8 _ _)] rfl
theorem Ic{x y x' y':LV}{z z':Int}(hi:Gg x y z)(hi':Gg x' y' z')(hs:Ff z<=4294967295)(hs':Ff z'<=4294967295)(hz:z'≠0)(hd:z % z'=0):Uj 216 [.agg [x,y],.agg [x',y']] [.agg (G9 (z / z')),.oi 0]:=by
 have cd:=Qbq hi hi' hs hs' hz;obtain⟨b,l,rfl,rfl,_⟩:=hi;obtain⟨b',l',rfl,rfl,_⟩:=hi';exact Ug func216 rfl [.k cd,.f rfl,.f (by rw[hd];simp[U8,Hd])] rfl
end Orr
namespace Orr
open Go
abbrev Q1e(l:Uo):LV:=.row (lm l)
def Ta(l:Um):Nat:=l.foldl (λg z=>Nat.gcd g z.natAbs) 0
theorem Qcl{l:Um}{i:Nat}{z:Int}(h:l[i]? = some z):Ta (l.take (i+1))=Nat.gcd (Ta (l.take i)) z.natAbs:=by
 unfold Ta;rw[Y7,h];simp[Vr]
theorem Qo7(g x:Nat):Nat.gcd x (g % x)=Nat.gcd g x:=by
 rw[Nat.gcd_comm g x,Nat.gcd_rec x g,Nat.gcd_comm]
theorem IZ(l:Um):l.foldl (λg z=>Nat.gcd g z.natAbs) 1=1:=by
 induction l with
 |nil=>rfl
 |cons z l ih=>simp[ih]
theorem Qh1{l:Um}{i:Nat}(h:Ta (l.take i)=1):Ta l=1:=by
 have e:l=l.take i++l.drop i:=(Zh i l).symm;unfold Ta at h ⊢;rw[e,Vr,h,IZ]
def trim:Um->Um
 | []=>[]
 |
  x::l=>match trim l with
  | []=>if x=0 then []else [x]
  |y::k=>x::y::k
theorem WA:∀{l:Um},(∀x∈l,x=0)->trim l=[]
 | [],_=>rfl
 |
  x::l,h=>by
  have ih:=WA (l:=l) (λy hy=>h y (Qg _ hy));simp[trim,ih,h x (Qy ..)]
theorem xK:∀{l:Um} {m:Nat} {y:Int},(∀j x,m<j->l[j]? = some x->x=0)->l[m]? = some y->y≠0->trim l=l.take (m+1)
 | [],m,y,_,h,_=>by simp at h
 |
  x::l,0,y,h1,h2,h3=>by
  have h0:trim l=[]:=WA λz hz=>by
   obtain⟨j,hj⟩:=Zk.1 hz;exact h1 (j+1) z (by omega) (by simpa using hj)
  simp at h2;subst h2;simp[trim,h0,h3]
 |
  x::l,m+1,y,h1,h2,h3=>by
  have ih:=xK (l:=l) (m:=m) (y:=y) (λj z hj hz=>h1 (j+1) z (by omega) (by simpa using hz)) (by simpa using h2) h3;cases hl:l with
  |nil=>subst hl;simp at h2
  |
   cons u k =>
   subst hl;rw[Vf]at ih;simp only[trim]at ih ⊢;rw[ih];simp
def Fg(l:Um):Prop:=trim l=l
theorem Rt:∀(l:Um),Fg (trim l)
 | []=>rfl
 |
  x::l=>by
  have ih:=Rt l;unfold Fg at ih ⊢;cases h:trim l with
  |nil=>by_cases hx:x=0 <;> simp[trim,h,hx]
  |
   cons y k =>
   rw[h]at ih;simp only[trim,h]at ih ⊢;rw[ih]
theorem AG{l:Um}{m:Nat}(hm:m<=l.length)(h1:∀j x,m<=j->l[j]? = some x->x=0)(h2:0<m->∃y,l[m-1]? = some y/\y≠0):trim l=l.take m:=by
 rcases Q3 m with h0|h0
 ·subst h0;rw[WA λz hz=>?_];rfl;obtain⟨j,hj⟩:=Zk.1 hz;exact h1 j z (by omega) hj
 ·obtain⟨y,hy,hy0⟩:=h2 h0;have:=xK (l:=l) (m:=m-1) (y:=y) (λj x hj hx=>h1 j x (by omega) hx) hy hy0;rwa[show m-1+1=m from by omega]at this
def IsInts:Us->Um->Prop
 | [],[]=>True
 |x::l,z::p=>(∃a b,x=[a,b]/\Gg a b z)/\IsInts l p
 |_,_=>False
theorem IsInts.len:∀{l:Us} {p:Um},IsInts l p->l.length=p.length
 | [],[],_=>rfl
 |x::l,z::p,h=>by simp[h.2.len]
 | [],_::_,h=>h.elim
 |_::_,[],h=>h.elim
theorem IsInts.get:∀{l:Us} {p:Um},IsInts l p->∀{i:Nat} {z:Int},p[i]? = some z->∃a b,l[i]? = some [a,b]/\Gg a b z
 | [],[],_,i,z,h=>by simp at h
 |
  x::l,y::p,h,0,z,hz=>by
  simp at hz;subst hz;obtain⟨a,b,rfl,hi⟩:=h.1;exact⟨a,b,rfl,hi⟩
 |x::l,y::p,h,i+1,z,hz=>by simpa using h.2.get (i:=i) (by simpa using hz)
 | [],_::_,h,_,_,_=>h.elim
 |_::_,[],h,_,_,_=>h.elim
theorem Gf:∀(p:Um),IsInts (p.map G9) p
 | []=>trivial
 |z::p=>⟨⟨_,_,rfl,U5 z⟩,Gf p⟩
theorem IsInts.append:∀{l l':Us} {p p':Um},IsInts l p->IsInts l' p'->IsInts (l++l') (p++p')
 | [],_,[],_,_,h=>h
 |x::l,_,z::p,_,h,h'=>⟨h.1,h.2.append h'⟩
 | [],_,_::_,_,h,_=>h.elim
 |_::_,_,[],_,h,_=>h.elim
def pl(p:Um):LV:=.row (p.map G9)
def ids(l:Um):LV:=.row (l.map λ(x:Int)=>[.int .i64 x])
theorem QL:Gg (.bool false) (.row []) 0:=⟨false,[],rfl,rfl,(λx hx=>by cases hx),rfl⟩
theorem Qqw:sg 0=.bool false:=rfl
theorem Qcv{z:Int}:(Gd z.natAbs).length=0↔z=0:=by
 constructor
 ·intro h;have h0:=Qj h;have:=(FA (Dt z.natAbs)).2 h0;rw[Ha]at this;omega
 ·rintro rfl;rw[show(0:Int).natAbs=0 from rfl,Hd];rfl
theorem G6{α β:Type}{f:α->β}{l:List α}{i:Nat}{x:α}(h:l[i]? = some x):(l.map f)[i]? = some (f x):=by rw[Q7,h];rfl
theorem Qsr{α:Type}{f:α->Ur}{sz:Nat}(l:List α)(h:∀x,(f x).length=sz):∀c∈l.map f,c.length=sz:=λc hc=>by
 obtain⟨x,_,rfl⟩:=Za.1 hc;exact h x
theorem Qpk:mg 0=.row []:=by simp[mg,Hd,lm]
theorem Lo:G9 0=[LV.bool false,LV.row []]:=by simp[G9,Qqw,Qpk]
end Orr
namespace Orr
open Go Go.Proofs Tryz
set_option maxRecDepth 10000
theorem ME{p:Um}(hs:∀z∈p,Ff z≤4294967295):sz (Ta p)≤4294967295:=by
 have key:∀(p:Um) (g:Nat),sz g≤4294967295->(∀z∈p,Ff z≤4294967295)->sz (p.foldl (λg z=>Nat.gcd g z.natAbs) g)≤4294967295:=by
  intro p
  induction p with
  |nil=>exact λg h _=>h
  |
   cons z p ih =>
   intro g h hs;refine ih _ ?_ λy hy=>hs y (.tail _ hy)
   rcases Q3 g with h0|h0
   ·subst h0;show sz (Nat.gcd 0 z.natAbs)<=_;rw[Nat.gcd_zero_left];exact hs z (.head _)
   ·exact Qa (Ri (Nat.gcd_le_left _ h0)) h
 exact key p 0 (by decide) hs
theorem Qew{l:Us}{p:Um}(hi:IsInts l p)(hs:∀z∈p,Ff z≤4294967295):Uj 215 [.one (.row l)] [.agg (G9 ((Ta p:Nat):Int))]:=by
 refine Fx func215 rfl (ln 0 rfl rfl λhl=>?_);have hlp:=hi.len;refine Ud [.z 3,.r 3 (v:=lr (Gd (Ta (p.take 0)))) (by simp[Ta,Hd,lm])] rfl ?_;refine ct 2 (S:=Unit) (λ_=>[(2,.v (.one (.ow 0 0))),(3,.v (lr (Gd (Ta p))))]) (λ_=>[.blk 36 [.bool false,.nils],.gone]) (λ_=>True) rfl ?_ ?_
 ·refine Ui (S:=Nat) 1 (λL1 i=>(12,.v (.oi i))::(3,.v (lr (Gd (Ta (p.take i)))))::L1) (λ_=>[.blk 36 [.bool false,.nils]]) (λi=>p.length-i) (λi=>i<=p.length) 0 (Qh _) rfl rfl λi hip=>?_
  by_cases h:i<p.length
  ·have hlt:i<l.length:=by omega
   obtain⟨c,hc⟩:=gxE (l:=l) (i:=i) hlt;obtain⟨z,hz⟩:=gxE (l:=p) (i:=i) h;obtain⟨x,y,hc',b,r,rfl,rfl,hr,hzz⟩:=hi.get hz;rw[hc]at hc';injection hc' with hc';subst hc'
   have hsz:=hs z (Qc hz);have hg0:sz (Ta (p.take i))<=4294967295:=ME λy hy=>hs y (Qo hy)
   have ezr:z.natAbs=val r:=by rw[hzz,Rw]
   have cn:=KP hr (by rw[<-ezr];exact Qa hsz (by decide));rw[<-ezr]at cn;refine Ud [.t (by simp;omega),.x hc,.k cn] rfl ?_;refine Ui (S:=Nat×Nat) 2 (λL1 s=>(3,.v (lr (Gd s.1)))::(6,.v (lr (Gd s.2)))::L1) (λ_=>[.blk 36 [.bool false,.nils],.blk 36 [.bool b,.row (lm r)]]) (λs=>s.2) (λs=>Nat.gcd s.1 s.2=Nat.gcd (Ta (p.take i)) z.natAbs/\sz s.1<=4294967295/\sz s.2<=4294967295) (Ta (p.take i),z.natAbs) ⟨rfl,hg0,hsz⟩ rfl rfl λ⟨g,u⟩ ⟨j1,j2,j3⟩=>?_
   dsimp only at j1 j2 j3 ⊢;have hul:=D5 (m:=u);by_cases hu:0<u
   ·have cd:=mJ (m:=g) (n:=u) (by omega) (by omega) hu;refine Ud [.t (by simp[U8];omega),.k cd] rfl ?_;exact rd (u,g % u) (Z4 _ hu) ⟨(Qo7 g u).trans j1,j3,Qa (Ri (Yk (Z4 _ hu))) j3⟩ rfl
   ·obtain rfl:u=0:=by omega
    rw[Nat.gcd_zero_right,<-Qcl hz]at j1;subst j1;by_cases h1:Ta (p.take (i+1))=1
    ·have e1:Gd (Ta (p.take (i+1)))=[1]:=by rw[h1,E8 (by decide)];simp[Hd]
     refine Ud [.f (by simp[Hd,lm]),.t (by rw[e1];rfl),.x (G5 (i:=0) (x:=1) (by rw[e1];rfl)),.t rfl] rfl ?_;exact rc () trivial (by rw[h1,Qh1 h1];rfl)
    ·obtain⟨g,hg⟩:=nmE (Ta (p.take (i+1)));rw[<-hg]at h1 j2 ⊢;by_cases h2:(Gd g).length=1
     ·obtain⟨v,hv⟩:∃v,Gd g=[v]:=by
       match hm:Gd g,h2 with
       | [v],_=>exact⟨v,rfl⟩
      have hv1:v≠1:=λe=>h1 (by rw[<-Ha g,hv,e];rfl)
      refine go tt [.f (by simp[Hd,lm]),.t (by simp[U8,h2]),.x (G5 (i:=0) (x:=v) (by rw[hv];rfl)),.f (by simp;omega)] rfl (by simp[U4] <;> omega) ?_;exact rd (i+1) (by omega) h (by rw[<-hg];rfl)
     ·refine go tt [.f (by simp[Hd,lm]),.f (by simp[U8];omega),.f rfl] rfl (by simp[U4] <;> omega) ?_;exact rd (i+1) (by omega) h (by rw[<-hg];rfl)
  ·obtain rfl:i=p.length:=by omega
   refine Ud [.f (by simp;omega)] rfl ?_;rw[Q6];exact rc () trivial rfl
 ·intro _ _;have cn:=KP (Lv (Ta p)) (by rw[Ha];exact Qa (ME hs) (by decide));rw[Ha]at cn;exact Uf [.k cn,.k (P8 false _)] rfl (by simp[Fc]) trivial
end Orr
namespace Orr
def Bd(s:Nat)(p:Um):Prop:=∀z∈p,Ff z≤s
theorem Nk:Ff 0=0:=rfl
theorem Qel{s:Nat}{p:Um}(h:Bd s p){i:Nat}{z:Int}(hz:p[i]? = some z):Ff z<=s:=h z (Qc hz)
theorem Fv{s:Nat}{p:Um}(h:Bd s p)(k:Nat):Ff (p.getD k 0)<=s:=by
 rw[Qi];cases hk:p[k]? with
 |none=>rw[Kx,Nk];exact Qh _
 |some z=>exact Qel h hk
theorem U6{s t:Nat}{p:Um}(h:Bd s p)(ht:s<=t):Bd t p:=λz hz=>Qa (h z hz) ht
theorem KH{s:Nat}:Bd s []:=λz hz=>by cases hz
theorem Qth{s:Nat}{n:Nat}{g:Nat->Int}(h:∀k,k<n->Ff (g k)<=s):Bd s ((List.range n).map g):=λz hz=>by
 obtain⟨k,hk,rfl⟩:=Za.1 hz;exact h k (Kj.1 hk)
theorem sR:∀(l:Um),∀z∈trim l,z∈l
 | [],z,h=>by cases h
 |
  x::l,z,h=>by
  have ih:=sR l;cases hl:trim l with
  |
   nil =>
   simp only[trim,hl]at h
   split at h
   ·cases h
   ·rw[Qk]at h;rw[h];exact Qy ..
  |
   cons y k =>
   simp only[trim,hl]at h;rcases Qn.1 h with rfl|h
   ·exact Qy ..
   ·exact Qg _ (ih z (by rw[hl];exact h))
theorem H9(l:Um):(trim l).length<=l.length:=by
 induction l with
 |nil=>exact Ql _
 |
  cons x l ih =>
  cases hl:trim l with
  |nil=>simp only[trim,hl];split <;> simp
  |cons y k=>simp only[trim,hl];rw[hl]at ih;simp at ih ⊢;exact ih
theorem Tz{s:Nat}{p:Um}(h:Bd s p):Bd s (trim p):=λz hz=>h z (sR p z hz)
theorem VG:∀(l:Um) (k:Nat),(trim l).getD k 0=l.getD k 0
 | [],k=>rfl
 |
  x::l,k=>by
  have ih:=VG l;cases hl:trim l with
  |
   nil =>
   rw[hl]at ih;simp only[trim,hl]
   split
   ·rename_i hx;cases k with
    |zero=>simp[hx]
    |succ k=>have:=ih k;simp at this ⊢;exact this
   ·cases k with
    |zero=>simp
    |succ k=>have:=ih k;simp at this ⊢;exact this
  |
   cons y m =>
   rw[hl]at ih;simp only[trim,hl];cases k with
   |zero=>simp
   |succ k=>have:=ih k;simp at this ⊢;exact this
def A7(n:Nat)(g:Nat->Int):Um:=trim ((List.range n).map g)
theorem Fz(n:Nat)(g:Nat->Int):Fg (A7 n g):=Rt _
theorem Oc(n:Nat)(g:Nat->Int):(A7 n g).length<=n:=Qa (H9 _) (by simp)
theorem Pf(n:Nat)(g:Nat->Int)(k:Nat):(A7 n g).getD k 0=if k<n then g k else 0:=by
 unfold A7;rw[VG,Qi,Q7]
 split
 ·rename_i h;rw[List.getElem?_range h];rfl
 ·rename_i h;rw[List.getElem?_eq_none (by simpa using h)];rfl
theorem YJ{s n:Nat}{g:Nat->Int}(h:∀k,k<n->Ff (g k)<=s):Bd s (A7 n g):=Tz (Qth h)
def A8(p q:Um):Um:=A7 (max p.length q.length) λk=>p.getD k 0+q.getD k 0
def Nf(p q:Um):Um:=A7 (max p.length q.length) λk=>p.getD k 0-q.getD k 0
def My(p:Um):Um:=A7 p.length λk=>-(p.getD k 0)
def Fq(p:Um)(c:Int):Um:=A7 p.length λk=>p.getD k 0*c
def Gx(p:Um):Um:=A7 (p.length-1) λk=>p.getD (k+1) 0*((k+1:Nat):Int)
theorem YY{s t:Nat}{p q:Um}(h:Bd s p)(h':Bd t q):Bd (max s t+1) (A8 p q):=YJ λk _=>Qa (QA _ _) (by have:=Fv h k;have:=Fv h' k;omega)
theorem Dx{s t:Nat}{p q:Um}(h:Bd s p)(h':Bd t q):Bd (max s t+1) (Nf p q):=YJ λk _=>Qa (yV _ _) (by have:=Fv h k;have:=Fv h' k;omega)
theorem MK{s:Nat}{p:Um}(h:Bd s p):Bd s (My p):=YJ λk _=>by rw[Hn];exact Fv h k
theorem Ge{s t:Nat}{p:Um}{c:Int}(h:Bd s p)(hc:Ff c<=t):Bd (s+t) (Fq p c):=YJ λk _=>Qa (Ga _ _) (by have:=Fv h k;omega)
theorem Oi(p q:Um):(A8 p q).length<=max p.length q.length:=Oc _ _
theorem Nm(p q:Um):(Nf p q).length<=max p.length q.length:=Oc _ _
theorem XI(p:Um):(My p).length<=p.length:=Oc _ _
theorem Fy(p:Um)(c:Int):(Fq p c).length<=p.length:=Oc _ _
theorem Nl(p:Um):(Gx p).length<=p.length-1:=Oc _ _
theorem yY{k t:Nat}(h:k<2^t):Ff (k:Int)<=t:=by rw[Sj];simpa using h
theorem Qcr{k:Nat}(h:k<274877906944):Ff (k:Int)<=4294967295:=Qa (yY (t:=38) (Kh h (by decide))) (by omega)
theorem xB{s t:Nat}{p:Um}(h:Bd s p)(hl:p.length<=2^t):Bd (s+t) (Gx p):=YJ λk hk=>Qa (Ga _ _) (by
 have:=Fv h (k+1);have:=yY (k:=k+1) (t:=t) (by omega);omega)
def Oo(x:Int)(b:Um)(i:Nat)(o:Um):Nat->Um
 | 0=>o
 |k+1=>(Oo x b i o k).set (i+k) ((Oo x b i o k).getD (i+k) 0+x*b.getD k 0)
def Aw(a b o:Um):Nat->Um
 | 0=>o
 |i+1=>Oo (a.getD i 0) b i (Aw a b o i) b.length
def Gm(a b:Um):Um:=if a.length=0\/b.length=0 then []else trim (Aw a b (List.replicate (a.length+b.length-1) 0) a.length)
theorem Oq(x:Int)(b:Um)(i:Nat)(o:Um)(k:Nat):(Oo x b i o k).length=o.length:=by
 induction k with
 |zero=>rfl
 |succ k ih=>simp[Oo,ih]
theorem Ll(a b o:Um)(i:Nat):(Aw a b o i).length=o.length:=by
 induction i with
 |zero=>rfl
 |succ i ih=>simp[Aw,Oq,ih]
theorem Qh8(l:Um)(i m:Nat)(v:Int)(h:i<l.length):(l.set i v).getD m 0=if m=i then v else l.getD m 0:=by
 rw[Qi,Yn,Qi];by_cases e:i=m
 ·subst e;simp[h]
 ·rw[if_neg e,if_neg (λh=>e h.symm)]
theorem Qcz(x:Int)(b:Um)(i:Nat)(o:Um)(k m:Nat)(h:i+k<=o.length):(Oo x b i o k).getD m 0=if i<=m/\m<i+k then o.getD m 0+x*b.getD (m-i) 0 else o.getD m 0:=by
 induction k with
 |zero=>simp only[Oo];rw[if_neg (by omega)]
 |
  succ k ih =>
  have ih:=ih (by omega);simp only[Oo];rw[Qh8 _ _ _ _ (by rw[Oq];omega)];by_cases e:m=i+k
  ·subst e;rw[if_pos rfl,if_pos (by omega),show i+k-i=k from by omega];rw[ih,if_neg (by omega)]
  ·rw[if_neg e,ih];by_cases h1:i<=m/\m<i+k
   ·rw[if_pos h1,if_pos (by omega)]
   ·rw[if_neg h1,if_neg (by omega)]
theorem Nn{x y:Int}{s t:Nat}(hx:Ff x<=s)(hy:Ff y<=t):(x*y).natAbs<=2^(s+t):=by
 have h:=Qa (Ga x y) (show _<=s+t by omega);rw[Sj]at h;omega
theorem yM{x:Int}{b:Um}{i:Nat}{o:Um}{k M:Nat}(h:i+k<=o.length)(ho:∀m,(o.getD m 0).natAbs<=i*M)(hx:∀j,(x*b.getD j 0).natAbs<=M)(m:Nat):((Oo x b i o k).getD m 0).natAbs<=(i+1)*M:=by
 rw[Qcz x b i o k m h,Xa];have h1:=ho m
 split
 ·have h2:=hx (m-i);generalize i*M=q at *;omega
 ·omega
theorem yP{a b o:Um}{i M:Nat}(h:∀j,j<i->j+b.length<=o.length)(ho:∀m,o.getD m 0=0)(hx:∀i j,(a.getD i 0*b.getD j 0).natAbs<=M)(m:Nat):((Aw a b o i).getD m 0).natAbs<=i*M:=by
 induction i generalizing m with
 |zero=>simp only[Aw];rw[ho];simp
 |
  succ i ih =>
  simp only[Aw];exact yM (by rw[Ll];exact h i (by omega)) (ih λj hj=>h j (by omega)) (hx i) m
theorem Iy{z:Int}{i s t:Nat}(h:z.natAbs<=i*2^s)(hi:i<2^t):Ff z<=s+t:=by
 rw[Sj];have h1:i*2^s<2^t*2^s:=Xo hi (Z2 (by decide));rw[<-Xf,Ju t s]at h1;omega
theorem Cq(n m:Nat):(List.replicate n (0:Int)).getD m 0=0:=by
 rw[Qi,Jz];split <;> rfl
theorem BY{s:Nat}{p:Um}(h:∀m,Ff (p.getD m 0)<=s):Bd s p:=λz hz=>by
 obtain⟨i,hi⟩:=Zk.1 hz;have:=h i;rw[Qi,hi]at this;exact this
theorem Tx(a b:Um):(Gm a b).length<=a.length+b.length-1:=by
 unfold Gm
 split
 ·simp
 ·refine Qa (H9 _) ?_;rw[Ll];simp
theorem Po{s t u:Nat}{a b:Um}(ha:Bd s a)(hb:Bd t b)(hl:a.length<2^u):Bd (s+t+u) (Gm a b):=by
 unfold Gm
 split
 ·exact KH
 ·refine Tz (BY λm=>?_);exact Iy (yP (M:=2^(s+t)) (λj hj=>by simp;omega) (Cq _) (λi j=>Nn (Fv ha i) (Fv hb j)) m) hl
theorem H5(a b:Um):Fg (Gm a b):=by
 unfold Gm
 split
 ·rfl
 ·exact Rt _
def Ef(a:Um)(n d:Int):Nat->Int×Int
 | 0=>(0,1)
 |k+1=>((Ef a n d k).1*n+a.getD (a.length-1-k) 0*(Ef a n d k).2,(Ef a n d k).2*d)
def Qv9(a:Um)(n d:Int):Int:=(Ef a n d a.length).1
theorem Qav{a:Um}{n d:Int}{s t k:Nat}(ha:Bd s a)(hn:Ff n<=t)(hd:Ff d<=t):Ff (Ef a n d k).1<=s+2+k*(t+1)/\Ff (Ef a n d k).2<=1+k*t:=by
 induction k with
 |zero=>exact⟨by simp[Ef,Nk],by simp[Ef];decide⟩
 |
  succ k ih =>
  obtain⟨h1,h2⟩:=ih;have h3:=Fv ha (a.length-1-k);have e1:k*(t+1)=k*t+k:=by rw[Xj,Yw]
  rw[Xa,Xa];refine⟨?_,?_⟩
  ·simp only[Ef];refine Qa (QA _ _) ?_;have h4:=Ga (Ef a n d k).1 n;have h5:=Ga (a.getD (a.length-1-k) 0) (Ef a n d k).2;generalize k*t=q at *;rw[e1]at h1 ⊢;omega
  ·simp only[Ef];have h4:=Ga (Ef a n d k).2 d;generalize k*t=q at *;omega
end Orr
namespace Orr
theorem Qcm{l:Um}{i:Nat}(h:i<l.length):l[i]? = some (l.getD i 0):=by
 rw[Qi,Qe h];rfl
theorem jG{x y:Int}:Ld x y=0↔x=y:=by
 unfold Ld;constructor
 ·intro h
  split at h
  ·omega
  ·split at h <;> omega
 ·rintro rfl;simp
theorem H6{p:Um}(h:Fg p)(h0:0<p.length):p.getD (p.length-1) 0≠0:=by
 induction p with
 |nil=>simp at h0
 |
  cons x l ih =>
  unfold Fg at h;cases hl:trim l with
  |
   nil =>
   simp only[trim,hl]at h
   split at h
   ·cases h
   ·rename_i hx;injection h with h1 h2;subst h2;simpa using hx
  |
   cons y k =>
   simp only[trim,hl]at h;injection h with h1 h2;rw[<-hl]at h2;have ih:=ih h2 (by rw[<-h2,hl];simp);have h3:0<l.length:=by rw[<-h2,hl];simp
   simp only[Q5,Yb];obtain⟨m,hm⟩:∃m,l.length=m+1:=⟨l.length-1,by omega⟩;rw[hm]at ih ⊢;simpa using ih
end Orr
namespace Orr
theorem gG(p:Um):(List.range p.length).map (λk=>p.getD k 0)=p:=by
 apply Xm;intro i;rw[Q7];rcases Zb i p.length with h|h
 ·rw[X3 h];simp[Qe h]
 ·rw[Qw (by simpa using h),Qw h];rfl
theorem DK{p q:Um}(hl:p.length=q.length)(h:∀j,j<p.length->p.getD j 0=q.getD j 0):p=q:=by
 rw[<-gG p,<-gG q,<-hl];exact Xk λj hj=>h j (Kj.1 hj)
end Orr
namespace Orr
abbrev rl(q:Rat):Ur:=[sg q.num,mg q.num,sg (q.den:Int),mg (q.den:Int)]
theorem Lh(n d:Int):Ta [n,d]=Int.gcd d n:=by
 unfold Ta;simp only[Z9,List.foldl_nil,Nat.gcd_zero_left];exact Nat.gcd_comm _ _
theorem fH{n d:Int}(hd:d≠0):(0:Int)<((Ta [n,d]:Nat):Int):=by
 rw[Lh];have:=Int.gcd_pos_of_ne_zero_left n hd;omega
theorem DO(n d:Int):n % ((Ta [n,d]:Nat):Int)=0:=by
 rw[Lh];exact Jx (Wv ..)
theorem LQ(n d:Int):d % ((Ta [n,d]:Nat):Int)=0:=by
 rw[Lh];exact Jx (Int.gcd_dvd_left ..)
theorem iC{n g:Int}(h:n % g=0):-n % g=0:=by
 exact Jx (Int.dvd_neg.2 (Vg h))
theorem aA{n d:Int}{s:Nat}(hd:d≠0)(h:Ff d<=s):Ff ((Ta [n,d]:Nat):Int)<=s:=by
 rw[Lh];refine Qa (Ri ?_) h;have:=Kv (by omega:0<d.natAbs) (show Int.gcd d n∣d.natAbs from W0 _ _);simpa using this
theorem iG{n d:Int}(hd:0<d):n / ((Ta [n,d]:Nat):Int)=(Rat.divInt n d).num/\d / ((Ta [n,d]:Nat):Int)=((Rat.divInt n d).den:Int):=by
 rw[Lh,Rat.num_divInt,Wm,if_neg (by omega),Yu hd,Kq];refine⟨rfl,?_⟩;rw[Int.natCast_ediv,Int.natAbs_of_nonneg (by omega)]
theorem Qpi{n d:Int}(hd:d<0):-n / ((Ta [n,d]:Nat):Int)=(Rat.divInt n d).num/\-d / ((Ta [n,d]:Nat):Int)=((Rat.divInt n d).den:Int):=by
 rw[Lh,Rat.num_divInt,Wm,if_neg (by omega),J7 hd,Ko,Kq];refine⟨rfl,?_⟩;rw[Int.natCast_ediv,Int.ofNat_natAbs_of_nonpos (by omega)]
theorem XD(u g:Int):Ff (u / g)<=Ff u:=by
 unfold Ff;exact Ri (Int.natAbs_ediv_le_natAbs u g)
theorem Ph{n d:Int}{s:Nat}(h:Ff n<=s):Ff (Rat.divInt n d).num<=s:=by
 rw[Rat.num_divInt];refine Qa (XD _ _) ?_;unfold Ff;rw[J9];refine Qa (Ri ?_) h;have:d.sign.natAbs<=1:=by rcases A2 d with⟨_,e⟩|⟨_,e⟩|⟨_,e⟩ <;> rw[e] <;> decide
 calc d.sign.natAbs*n.natAbs<=1*n.natAbs:=Q0 _ this
  _=n.natAbs:=Wn _
theorem Pg{n d:Int}{s:Nat}(h:Ff d<=s)(h1:1<=s):Ff ((Rat.divInt n d).den:Int)<=s:=by
 rw[Wm]
 split
 ·exact h1
 ·refine Qa (Ri ?_) h;exact Jq _ _
def Qs(s:Nat)(q:Rat):Prop:=Ff q.num<=s/\Ff (q.den:Int)<=s
theorem Qs.mono{s t:Nat}{q:Rat}(h:Qs s q)(ht:s<=t):Qs t q:=⟨Qa h.1 ht,Qa h.2 ht⟩
theorem Qs.divInt{s:Nat}{n d:Int}(h:Ff n<=s)(h':Ff d<=s)(h1:1<=s):Qs s (Rat.divInt n d):=⟨Ph h,Pg h' h1⟩
theorem Dq(q:Rat):(q.den:Int)≠0:=by have:=q.den_nz;omega
theorem den_pos(q:Rat):(0:Int)<(q.den:Int):=by have:=q.den_nz;omega
def Gj(n d:Int):Rat:=Rat.divInt n (if d=0 then 1 else d)
theorem Se(q:Rat):Gj q.num q.den=q:=by
 unfold Gj;rw[if_neg (Dq q)];exact Z5 q
def Hf(a b:Rat):Int:=Ld (a.num*(b.den:Int)) (b.num*(a.den:Int))
theorem Ba{a b:Rat}:Hf a b<0↔a<b:=by
 rw[Rat.lt_iff];unfold Hf Ld;constructor
 ·intro h;split at h
  ·assumption
  ·split at h <;> omega
 ·intro h;rw[if_pos h];decide
theorem Eo{a b:Rat}:0<Hf a b↔b<a:=by
 rw[Rat.lt_iff];unfold Hf Ld;constructor
 ·intro h;split at h
  ·omega
  ·split at h
   ·assumption
   ·omega
 ·intro h;rw[if_neg (by omega),if_pos h];decide
theorem E5(a:Rat):Hf a a=0:=by unfold Hf Ld;simp
structure Crv where
 x:List Int
 y:List Int
 d:Int
abbrev cl(k:Crv):Ur:=[pl k.x,pl k.y,sg k.d,mg k.d]
def Crv.d'(k:Crv):Int:=if k.d=0 then 1 else k.d
def Crv.g(k:Crv):Int:=if k.d'<0 then -((Ta (k.d'::(trim k.x++trim k.y)):Nat):Int)else(Ta (k.d'::(trim k.x++trim k.y)):Nat)
def Crv.norm(k:Crv):Crv:=⟨trim ((trim k.x).map (· / k.g)),trim ((trim k.y).map (· / k.g)),k.d' / k.g⟩
theorem XT{l:Um}:∀z∈l,((Ta l:Nat):Int)∣z:=by
 have key:∀(l:Um) (g:Nat),(l.foldl (λg z=>Nat.gcd g z.natAbs) g∣g)/\∀z∈l,l.foldl (λg z=>Nat.gcd g z.natAbs) g∣z.natAbs:=by
  intro l
  induction l with
  |nil=>intro g;exact⟨Nat.dvd_refl _,by simp⟩
  |
   cons u l ih =>
   intro g;obtain⟨h1,h2⟩:=ih (Nat.gcd g u.natAbs);refine⟨Nat.dvd_trans h1 (W0 _ _),λz hz=>?_⟩;rcases Qn.1 hz with rfl|hz
   ·exact Nat.dvd_trans h1 (Nat.gcd_dvd_right _ _)
   ·exact h2 z hz
 intro z hz;have:=(key l 0).2 z hz;exact Wp.2 this
theorem Crv.d'_ne(k:Crv):k.d'≠0:=by unfold Crv.d';split <;> omega
theorem Crv.gcd_ne(k:Crv):Ta (k.d'::(trim k.x++trim k.y))≠0:=by
 intro e;have h:=XT (l:=k.d'::(trim k.x++trim k.y)) k.d' (Qy ..);rw[e]at h;exact k.d'_ne (by simpa using h)
theorem Crv.g_ne(k:Crv):k.g≠0:=by
 have h0:=k.gcd_ne;unfold Crv.g
 split <;> omega
theorem Crv.g_dvd(k:Crv):∀z∈k.d'::(trim k.x++trim k.y),z % k.g=0:=by
 intro z hz;have h:=XT z hz;refine Jx ?_;unfold Crv.g
 split
 ·exact Uc.2 h
 ·exact h
theorem Crv.isz_g(k:Crv){s:Nat}(h:Ff k.d'<=s):Ff k.g<=s:=by
 have hd:=XT (l:=k.d'::(trim k.x++trim k.y)) k.d' (Qy ..);have hle:Ta (k.d'::(trim k.x++trim k.y))<=k.d'.natAbs:=Kv (by have:=k.d'_ne;omega) (Wp.1 hd);refine Qa (Ri ?_) h;unfold Crv.g
 split <;> simp <;> exact hle
structure Cs(s n:Nat)(k:Crv):Prop where
 x:Bd s k.x
 y:Bd s k.y
 d:Ff k.d<=s
 lx:k.x.length<=n
 ly:k.y.length<=n
theorem Qil{k:Crv}{s:Nat}(h:Ff k.d<=s)(h1:1<=s):Ff k.d'<=s:=by unfold Crv.d';split <;> first|exact h1|exact h
theorem HM{s:Nat}{p:Um}(h:Bd s p)(g:Int):Bd s (p.map (· / g)):=λz hz=>by
 obtain⟨u,hu,rfl⟩:=Za.1 hz;exact Qa (XD u g) (h u hu)
theorem Cs.norm{s n:Nat}{k:Crv}(h:Cs s n k)(h1:1<=s):Cs s n k.norm:=by
 refine⟨Tz (HM (Tz h.x) _),Tz (HM (Tz h.y) _),Qa (XD _ _) (Qil h.d h1),?_,?_⟩
 ·refine Qa (H9 _) ?_;rw[Q9];exact Qa (H9 _) h.lx
 ·refine Qa (H9 _) ?_;rw[Q9];exact Qa (H9 _) h.ly
theorem Cs.mono{s n t m:Nat}{k:Crv}(h:Cs s n k)(hs:s<=t)(hn:n<=m):Cs t m k:=⟨U6 h.x hs,U6 h.y hs,Qa h.d hs,Qa h.lx hn,Qa h.ly hn⟩
def ZI(k:Crv):Prop:=Fg k.x/\Fg k.y/\0<k.d/\Ta (k.d::(k.x++k.y))=1
theorem Crv.norm_of{k:Crv}(h:ZI k):k.norm=k:=by
 obtain⟨h1,h2,h3,h4⟩:=h;have hd:k.d'=k.d:=by unfold Crv.d';rw[if_neg (by omega)]
 have hx:trim k.x=k.x:=h1;have hy:trim k.y=k.y:=h2;have hg:k.g=1:=by unfold Crv.g;rw[hd,hx,hy,h4,if_neg (by omega)];rfl
 unfold Crv.norm;rw[hg,hd,hx,hy];simp[hx,hy]
theorem jI{l:Um}{g:Int}(hg:g≠0)(hga:g.natAbs=Ta l):Ta (l.map (· / g))=1:=by
 have key:∀(l:Um) (a:Nat),(∀z∈l,g∣z)->l.foldl (λa z=>Nat.gcd a z.natAbs) (a*g.natAbs)=((l.map (· / g)).foldl (λa z=>Nat.gcd a z.natAbs) a)*g.natAbs:=by
  intro l
  induction l with
  |nil=>intro a _;rfl
  |
   cons z l ih =>
   intro a h;simp only[Z0,Z9];have hz:z.natAbs=(z / g).natAbs*g.natAbs:=by
    obtain⟨q,rfl⟩:=h z (Qy ..);rw[Jf _ hg,J9,Zq]
   rw[hz,Nat.gcd_mul_right];exact ih _ λu hu=>h u (Qg _ hu)
 have h:=key l 0 λz hz=>X4.1 (by rw[hga];exact X4.2 (XT z hz))
 rw[Yl]at h;have h':Ta l=Ta (l.map (· / g))*g.natAbs:=h;rw[<-hga]at h';have hp:0<g.natAbs:=by omega
 exact Nat.eq_of_mul_eq_mul_right hp (by rw[Wn];exact h'.symm)
theorem JA{l:Um}{g:Int}(ht:Fg l)(hg:g≠0)(hd:∀z∈l,g∣z):Fg (l.map (· / g)):=by
 induction l with
 |nil=>rfl
 |
  cons x l ih =>
  have hne:∀z∈x::l,z≠0->z / g≠0:=λz hz h0 h1=>by
   obtain⟨q,rfl⟩:=hd z hz;rw[Jf _ hg]at h1;rw[h1]at h0;simp at h0
  unfold Fg at ht ih ⊢;cases hl:trim l with
  |
   nil =>
   simp only[trim,hl]at ht
   split at ht
   ·cases ht
   ·rename_i hx;injection ht with _ h2;subst h2;simp[trim,hne x (Qy ..) hx]
  |
   cons y k =>
   simp only[trim,hl]at ht;injection ht with _ h2;have hll:trim l=l:=by rw[hl];exact h2
   have ih:=ih hll λz hz=>hd z (Qg _ hz)
   rw[Z0];have hne2:l.map (· / g)≠[]:=by rw[<-hll,hl];simp
   cases hm:l.map (· / g)with
   |nil=>exact absurd hm hne2
   |
    cons u w =>
    rw[hm]at ih;have e:trim (x / g::u::w)=match trim (u::w)with| []=>if x / g=0 then []else [x / g]|y::k=>x / g::y::k:=rfl
    rw[e,ih]
theorem Crv.nml(k:Crv):ZI k.norm:=by
 have hg:=k.g_ne;have hdv:∀z∈k.d'::(trim k.x++trim k.y),k.g∣z:=λz hz=>Vg (k.g_dvd z hz)
 have hx:=JA (g:=k.g) (Rt k.x) hg λz hz=>hdv z (by simp[hz])
 have hy:=JA (g:=k.g) (Rt k.y) hg λz hz=>hdv z (by simp[hz])
 refine⟨Rt _,Rt _,?_,?_⟩
 ·show 0<k.d' / k.g;obtain⟨q,hq⟩:=hdv k.d' (Qy ..);have h0:=k.d'_ne;have hgc:=k.gcd_ne;have e:k.d' / k.g=q:=by rw[hq,Jf _ hg]
  rw[e];unfold Crv.g at hq hg;have hq0:q≠0:=λe=>by rw[e,Wa]at hq;exact h0 hq
  split at hq
  ·rename_i hneg;rcases Wo hq0 with h|h
   ·have:=V9 (a:=-((Ta (k.d'::(trim k.x++trim k.y)):Nat):Int)) (b:=q) (by omega) h;omega
   ·exact h
  ·rename_i hneg;rcases Wo hq0 with h|h
   ·have:=Y8 (a:=((Ta (k.d'::(trim k.x++trim k.y)):Nat):Int)) (b:=q) (by omega) h;omega
   ·exact h
 ·show Ta (k.d' / k.g::(trim ((trim k.x).map (· / k.g))++trim ((trim k.y).map (· / k.g))))=1;rw[show trim ((trim k.x).map (· / k.g))=(trim k.x).map (· / k.g) from hx,show trim ((trim k.y).map (· / k.g))=(trim k.y).map (· / k.g) from hy,<-Yh,<-Z0 (f:=(· / k.g))];refine jI hg ?_;unfold Crv.g
  split <;> omega
structure Pt where
 c:Crv
 id:Int
def Fe(p:Pt):Ur:=[pl p.c.x,pl p.c.y,sg p.c.d,mg p.c.d,.int .i64 p.id]
def pts(l:List Pt):LV:=.row (l.map Fe)
def Rk:List Pt->Int->Nat
 | [],_=>0
 |p::l,id=>if p.id<id then Rk l id+1 else 0
def has(l:List Pt)(id:Int):Bool:=match l[Rk l id]? with
 |some p=>decide (p.id=id)
 |none=>false
theorem vK(l:List Pt)(id:Int):Rk l id<=l.length:=by
 induction l with
 |nil=>exact Ql _
 |cons p l ih=>simp only[Rk];split <;> simp <;> omega
theorem TR:∀{l:List Pt} {id:Int} {k:Nat},(∀j p,j<k->l[j]? = some p->p.id<id)->(k=l.length\/∃p,l[k]? = some p/\¬p.id<id)->Rk l id=k
 |
  [],id,k,_,h=>by
  rcases h with h|⟨p,h,_⟩
  ·subst h;rfl
  ·simp at h
 |
  q::l,id,0,_,h=>by
  rcases h with h|⟨p,h,h2⟩
  ·simp at h
  ·simp at h;subst h;simp[Rk,h2]
 |
  q::l,id,k+1,h1,h=>by
  have hq:=h1 0 q (by omega) rfl;simp only[Rk,hq,if_true];rw[TR (k:=k) (λj p hj hp=>h1 (j+1) p (by omega) (by simpa using hp))];rcases h with h|⟨p,h,h2⟩
  ·left;simpa using h
  ·right;exact⟨p,by simpa using h,h2⟩
def put(l:List Pt)(q:Pt):List Pt:=l.take (Rk l q.id)++q::l.drop (Rk l q.id)
def WT(l:List Pt)(q:Pt):Int:=if has l q.id=true then 6 else if 6<=l.length then 9 else 0
def Qd8(s n:Nat)(p:Pt):Prop:=ZI p.c/\Cs s n p.c
theorem oI(l:List Pt)(q:Pt):(put l q).length=l.length+1:=by
 have:=vK l q.id;simp[put];omega
theorem NW{l:List Pt}{q p:Pt}(h:p∈put l q):p=q\/p∈l:=by
 unfold put at h;rcases Qq.1 h with h|h
 ·exact .inr (Qo h)
 ·rcases Qn.1 h with h|h
  ·exact .inl h
  ·exact .inr (Qz h)
def Eh(a b:Crv):Bool:=decide (a.x=b.x/\a.y=b.y/\a.d=b.d)
def Cc(out:List Pt)(p:Pt):List Pt:=if out.any (λq=>Eh p.c q.c)=true then out else out++[p]
def Tq(l:List Pt):List Pt:=l.foldl Cc []
theorem Qdx{out:List Pt}{p q:Pt}(h:q∈Cc out p):q∈out\/q=p:=by
 unfold Cc at h
 split at h
 ·exact .inl h
 ·rcases Qq.1 h with h|h
  ·exact .inl h
  ·exact .inr (by simpa using h)
theorem Qdw(out:List Pt)(p:Pt):(Cc out p).length<=out.length+1:=by
 unfold Cc;split <;> simp
theorem Sl{α β:Type}(f:β->α->β)(b:β)(l:List α){i:Nat}{x:α}(h:l[i]? = some x):(l.take (i+1)).foldl f b=f ((l.take i).foldl f b) x:=by
 rw[Y7,h];simp[Vr]
theorem KG(l:List Pt)(i:Nat):∀q∈(l.take i).foldl Cc [],q∈l:=by
 induction i with
 |zero=>simp
 |
  succ i ih =>
  intro q hq;cases hi:l[i]? with
  |
   none =>
   rw[Qm (by have:=Jo.1 hi;omega)]at hq;rw[Qm (Jo.1 hi)]at ih;exact ih q hq
  |
   some x =>
   rw[Sl _ _ _ hi]at hq;rcases Qdx hq with h|h
   ·exact ih q h
   ·subst h;exact Qc hi
theorem KF(l:List Pt)(i:Nat):((l.take i).foldl Cc []).length<=i:=by
 induction i with
 |zero=>simp
 |
  succ i ih =>
  cases hi:l[i]? with
  |
   none =>
   rw[Qm (by have:=Jo.1 hi;omega)];rw[Qm (Jo.1 hi)]at ih;omega
  |
   some x =>
   rw[Sl _ _ _ hi];have:=Qdw ((l.take i).foldl Cc []) x;omega
theorem Nx{l:List Pt}{q:Pt}(h:q∈Tq l):q∈l:=by
 have:=KG l l.length q;rw[Q6]at this;exact this h
theorem QJ(l:List Pt):(Tq l).length<=l.length:=by
 have:=KF l l.length;rwa[Q6]at this
def Re(p:Um)(q:Rat):Int:=Ld (Qv9 p q.num q.den) 0
abbrev qa(q:Rat):Ur:=pl [-q.num,(q.den:Int)]::(rl q++rl q)
def Tw(sgn:Um->Int):Nat->Um->Int
 | 0,_=>0
 |k+1,p=>if p.length=0 then 0 else if sgn p=0 then Tw sgn k (Gx p)else sgn p
theorem XM(sgn:Um->Int):∀(k:Nat) (p:Um),p.length<=k->Tw sgn k p=Tw sgn p.length p
 |
  0,p,h=>by
  have:p.length=0:=by omega
  rw[this]
 |
  k+1,p,h=>by
  cases hp:p.length with
  |zero=>simp[Tw,hp]
  |
   succ m =>
   simp only[Tw];have h1:=Nl p;rw[XM sgn k (Gx p) (by omega),XM sgn m (Gx p) (by omega)]
theorem fN(sgn:Um->Int){p:Um}(h:p.length=0):Tw sgn p.length p=0:=by rw[h];rfl
theorem fS(sgn:Um->Int){p:Um}(h:0<p.length)(hs:sgn p≠0):Tw sgn p.length p=sgn p:=by
 obtain⟨m,hm⟩:∃m,p.length=m+1:=⟨p.length-1,by omega⟩;rw[hm];simp only[Tw];rw[if_neg (by omega),if_neg hs]
theorem fP(sgn:Um->Int){p:Um}(h:0<p.length)(hs:sgn p=0):Tw sgn p.length p=Tw sgn (Gx p).length (Gx p):=by
 obtain⟨m,hm⟩:∃m,p.length=m+1:=⟨p.length-1,by omega⟩;rw[hm];simp only[Tw];rw[if_neg (by omega),if_pos hs];exact XM sgn m _ (by have:=Nl p;omega)
structure Tm where
 p:List Int
 lo:Rat
 hi:Rat
abbrev ta(t:Tm):Ur:=pl t.p::(rl t.lo++rl t.hi)
abbrev tq(q:Rat):Tm:=⟨[-q.num,(q.den:Int)],q,q⟩
def Hk(sg:Um->Int)(p:Um):Int:=Tw sg p.length p
structure Pb(p:List Int):Prop where
 t:Fg p
 l:p.length<=64
 b:Bd 16777216 p
abbrev Qb(q:Rat):Prop:=Qs 16777216 q
abbrev Cb(k:Crv):Prop:=Cs 1048576 16 k
def Gp(a b:Crv):Um:=Nf (Fq b.x a.d) (Fq a.x b.d)
def Gn(a b:Crv):Um:=Nf (Fq b.y a.d) (Fq a.y b.d)
theorem rS{a b:Crv}(ha:Cb a)(hb:Cb b):Pb (Gp a b)/\(Gp a b).length<=16/\Bd 2097153 (Gp a b):=by
 have h1:Bd 2097153 (Gp a b):=U6 (Dx (Ge hb.x ha.d) (Ge ha.x hb.d)) (by omega);have h2:(Gp a b).length<=16:=by
  refine Qa (Nm _ _) ?_;have:=Fy b.x a.d;have:=Fy a.x b.d;have:=ha.lx;have:=hb.lx;omega
 exact⟨⟨Fz _ _,by omega,U6 h1 (by omega)⟩,h2,h1⟩
theorem rR{a b:Crv}(ha:Cb a)(hb:Cb b):Pb (Gn a b)/\(Gn a b).length<=16/\Bd 2097153 (Gn a b):=by
 have h1:Bd 2097153 (Gn a b):=U6 (Dx (Ge hb.y ha.d) (Ge ha.y hb.d)) (by omega);have h2:(Gn a b).length<=16:=by
  refine Qa (Nm _ _) ?_;have:=Fy b.y a.d;have:=Fy a.y b.d;have:=ha.ly;have:=hb.ly;omega
 exact⟨⟨Fz _ _,by omega,U6 h1 (by omega)⟩,h2,h1⟩
def Ea(sg:Um->Int)(a b:Pt):Un->Bool
 | []=>decide (a.id<b.id)
 |p::l=>if 0<p.length then decide (0<Hk sg p)else Ea sg a b l
def Ch(sg:Um->Int)(a b:Pt):Bool:=Ea sg a b [Gn b.c a.c,Gp b.c a.c]
def Tu(sg:Um->Int)(a b:Pt):Bool:=Ea sg a b [Gp a.c b.c,Gn a.c b.c]
end Orr
namespace Orr
open Go
structure Ct where
 kind:Int
 i0:Int
 i1:Int
 i2:Int
 i3:Int
 p:List Int
 want:Int
abbrev Du(c:Ct):Ur:=[.int .i64 c.kind,.int .i64 c.i0,.int .i64 c.i1,.int .i64 c.i2,.int .i64 c.i3,pl c.p,.int .i64 c.want]
def Lz(p q:Um):Um:=if 0<p.length then p else q
def Dh:Um->Um->Bool
 |x::l,y::m=>if x=y then Dh l m else decide (x<y)
 |_,_=>false
def gJ(a b:Ct):Bool:=Dh [a.kind,a.i0,a.i1,a.i2,a.i3] [b.kind,b.i0,b.i1,b.i2,b.i3]
def JR(out:List Ct)(c:Ct):Nat->Nat
 | 0=>0
 |
  k+1=>match out[k]? with
  |some x=>if gJ c x=true then JR out c k else k+1
  |none=>k+1
theorem oG(out:List Ct)(c:Ct):∀k,JR out c k<=k
 | 0=>Ql _
 |
  k+1=>by
  simp only[JR]
  split
  ·split
   ·exact Nat.le_succ_of_le (oG out c k)
   ·exact Ql _
  ·exact Ql _
theorem Qp5{out:List Ct}{c x:Ct}{k:Nat}(hx:out[k]? = some x)(h:gJ c x=true):JR out c (k+1)=JR out c k:=by
 simp only[JR,hx,h,if_true]
theorem Qjx{out:List Ct}{c x:Ct}{k:Nat}(hx:out[k]? = some x)(h:gJ c x=false):JR out c (k+1)=k+1:=by
 simp[JR,hx,h]
def WZ(out:List Ct)(c:Ct):List Ct:=out.take (JR out c out.length)++c::out.drop (JR out c out.length)
theorem Qie(out:List Ct)(c:Ct):(WZ out c).length=out.length+1:=by
 have:=oG out c out.length;simp[WZ];omega
theorem Qif{out:List Ct}{c x:Ct}(h:x∈WZ out c):x=c\/x∈out:=by
 simp only[WZ,Qq,Qn]at h;rcases h with h|h|h
 ·exact .inr (Qo h)
 ·exact .inl h
 ·exact .inr (Qz h)
def Fp(l:List Ct):List Ct:=l.foldl WZ []
theorem dV(l:List Ct)(c:Ct):Fp (l++[c])=WZ (Fp l) c:=by simp[Fp,Vr]
theorem dK{l:List Ct}{i:Nat}{c:Ct}(h:l[i]? = some c):Fp (l.take (i+1))=WZ (Fp (l.take i)) c:=by
 rw[Zv,h];exact dV _ _
theorem OA:∀(l acc:List Ct),(l.foldl WZ acc).length=acc.length+l.length
 | [],acc=>by simp
 |c::l,acc=>by simp only[Z9];rw[OA l (WZ acc c),Qie];simp;omega
theorem M4(l:List Ct):(Fp l).length=l.length:=by unfold Fp;rw[OA];simp
theorem OI:∀(l acc:List Ct) {x:Ct},x∈l.foldl WZ acc->x∈l\/x∈acc
 | [],acc,x,h=>.inr h
 |
  c::l,acc,x,h=>by
  simp only[Z9]at h;rcases OI l _ h with h|h
  ·exact .inl (Qg _ h)
  ·rcases Qif h with rfl|h
   ·exact .inl (Qy ..)
   ·exact .inr h
theorem Td{l:List Ct}{x:Ct}(h:x∈Fp l):x∈l:=by
 rcases OI l [] h with h|h
 ·exact h
 ·cases h
theorem fL{α:Type}(l:List α)(z x:α){k m':Nat}(hk:k<=l.length)(hm:m'=l.length-k) :
 ((l++[z]).take (k+1)++((l++[z]).drop k).take m'++(l++[z]).drop (k+1+m')).set k x=l.take k++x::l.drop k:=by
 subst hm;have e1:((l++[z]).drop k).take (l.length-k)=l.drop k:=by
  rw[Wg hk,Vq (by simp),Qm (by simp)]
 have e2:(l++[z]).drop (k+1+(l.length-k))=[]:=Yv (by simp;omega);rw[e1,e2,Zw];have e3:(l++[z]).take (k+1)=(l++[z]).take k++[(l++[z])[k]'(by simp;omega)]:=by rw[List.take_succ_eq_append_getElem]
 rw[e3,Vq hk,Zd,List.set_append,if_neg (by simp;omega)];simp[Zy hk]
def Ax(a b:Pt):Um:=Lz (Gp a.c b.c) (Gn a.c b.c)
def Au(a b:Pt):Um:=Lz (Gn b.c a.c) (Gp b.c a.c)
def ZX(sg:Um->Int)(a b:Pt):Ct:={ kind:=1,i0:=a.id,i1:=b.id,i2:=0,i3:=0,p:=Ax a b,want:=Hk sg (Ax a b) }
def D6(sg:Um->Int)(a b:Pt):Ct:={ kind:=2,i0:=a.id,i1:=b.id,i2:=0,i3:=0,p:=Au a b,want:=Hk sg (Au a b) }
end Orr
namespace Orr
open Go Go.Proofs Tryz
set_option maxRecDepth 10000
abbrev pr(p:Um):TV:=.one (pl p)
theorem Pi{p:Um}{i:Nat}{z:Int}(h:p[i]? = some z):(p.map G9)[i]? = some (G9 z):=G6 h
theorem BI(p:Um):Uj 181 [pr p] [pr (trim p)]:=by
 refine Fx func181 rfl (ln 0 rfl rfl λhl=>?_);rw[Q9]at hl;refine Ud [] rfl ?_;refine lp (S:=Nat) 0 (λL1 n=>(3,.v (.oi n))::L1) (λ_=>[]) id (λn=>n<=p.length/\∀j x,n<=j->p[j]? = some x->x=0) (p.map G9).length ⟨by simp,λj x h1 h2=>by
  have:=(Qf.1 h2).1;simp at h1;omega⟩ rfl (λ_ _=>rfl) rfl λn ⟨h1,h2⟩=>?_
 cases n with
 |zero=>exact Uf [.f (by simp),.f rfl,.i 0] rfl (by rw[AG h1 h2 (λh=>by omega)];simp[pl]) (by simp[U4])
 |
  succ n =>
  obtain⟨x,hx⟩:=gxE (l:=p) (i:=n) (by omega);by_cases h0:x=0
  ·refine Ue [.t (by simp),.r 11 (v:=.oi n) (by simp),.x (Pi hx),.k Do,.t (by simp[h0]),.r 17 (v:=.oi n) (by simp)] rfl ?_;exact rd n (by simp) ⟨by omega,λj y h3 h4=>by
    rcases Vl h3 with rfl|h3
    ·rw[hx]at h4;injection h4 with h4;rw[<-h4,h0]
    ·exact h2 j y h3 h4⟩ rfl
  ·exact Uf [.t (by simp),.r 11 (v:=.oi n) (by simp),.x (Pi hx),.k Do,.f (by simp[h0]),.i (n+1)] rfl (by rw[AG h1 h2 (λ_=>⟨x,hx,h0⟩)];simp[pl,Jv]) (by simp[U4] <;> omega)
theorem eZ(p:Um)(k:Nat):Uj 285 [pr p,.oi k] [.agg (G9 (p.getD k 0))]:=by
 by_cases h:k<p.length
 ·have hx:=Qe h;have e:p.getD k 0=p[k]:=by simp[List.getD,hx]
  rw[e];exact Ug func285 rfl [.t (by simp;omega),.x (Pi hx)] rfl
 ·have e:p.getD k 0=0:=by simp[List.getD,Qw (J8 h)]
  rw[e,Lo];exact Ug func285 rfl [.f (by simp;omega)] rfl
def AM(f:Nat->Ur)(z:Ur)(n k:Nat):Us:=(List.range n).map λi=>if i<k then f i else z
theorem Im(f:Nat->Ur)(z:Ur)(n k:Nat):(AM f z n k).length=n:=by simp[AM]
theorem Am(f:Nat->Ur)(z:Ur)(n:Nat):List.replicate n z=AM f z n 0:=by
 refine Xm λi=>?_
 simp only[AM,Jz,Q7];by_cases h:i<n
 ·simp[h]
 ·simp[h]
theorem QC(f:Nat->Ur)(z:Ur)(n:Nat):AM f z n n=(List.range n).map f:=by
 refine Xk λi hi=>?_
 rw[if_pos (Kj.1 hi)]
theorem QD(f:Nat->Ur)(z:Ur){n k:Nat}(h:k<n):(AM f z n k).set k (f k)=AM f z n (k+1):=by
 refine Xm λi=>?_
 rw[Yn];simp only[AM,Q7,Q9,List.length_range,h,if_true];by_cases e:k=i
 ·subst e;simp[h]
 ·simp only[e,if_false];by_cases hi:i<n
  ·simp only[X3 hi,Ym];congr 1;by_cases h2:i<k
   ·rw[if_pos h2,if_pos (by omega)]
   ·rw[if_neg h2,if_neg (by omega)]
  ·simp[Qw,hi]
theorem jK{n fid:Nat}{l1 l2:Ur}{g:Nat->Int}(hn:n<274877906944)(h:∀k,k<n->AB prog fid [.oi k,.one (.sh l1),.one (.sh l2)] [.agg (G9 (g k))]):Uj 110 [.oi n,.one (.fn fid [] [.sh l1,.sh l2])] [pr (A7 n g)]:=by
 refine Fx func110 rfl ?_;refine Ue [.i n,.i n,.r 10 (eI (b:=(n:Int)) (by simp))] rfl ?_;rw[Am λk=>G9 (g k)];refine Ui (S:=Nat) 1 (λL1 k=>(11,.v (.oi k))::L1) (λk=>[.row false 36 2 (AM (λk=>G9 (g k)) [.bool false,.nils] n k)]) (λk=>n-k) (λk=>k<=n) 0 (Qh _) rfl rfl λk hk=>?_
 by_cases hlt:k<n
 ·refine go tt [.t (by simp;omega),.k (h k hlt),.i k] rfl (by simp[U4,Im];omega) ?_;have e:=QD (λk=>G9 (g k)) [.bool false,.nils] hlt;rw[e];exact rd (k+1) (by omega) hlt rfl
 ·obtain rfl:k=n:=by omega
  have e:AM (λk=>G9 (g k)) [.bool false,.nils] k k=((List.range k).map g).map G9:=by rw[QC];simp
  rw[e];exact Uf [.f (by simp),.k (BI _)] rfl
theorem lO{n fid:Nat}{l1:Ur}{g:Nat->Int}(hn:n<274877906944)(h:∀k,k<n->AB prog fid [.oi k,.one (.sh l1)] [.agg (G9 (g k))]):Uj 110 [.oi n,.one (.fn fid [] [.sh l1])] [pr (A7 n g)]:=by
 refine Fx func110 rfl ?_;refine Ue [.i n,.i n,.r 10 (eI (b:=(n:Int)) (by simp))] rfl ?_;rw[Am λk=>G9 (g k)];refine Ui (S:=Nat) 1 (λL1 k=>(11,.v (.oi k))::L1) (λk=>[.row false 36 2 (AM (λk=>G9 (g k)) [.bool false,.nils] n k)]) (λk=>n-k) (λk=>k<=n) 0 (Qh _) rfl rfl λk hk=>?_
 by_cases hlt:k<n
 ·refine go tt [.t (by simp;omega),.k (h k hlt),.i k] rfl (by simp[U4,Im];omega) ?_;have e:=QD (λk=>G9 (g k)) [.bool false,.nils] hlt;rw[e];exact rd (k+1) (by omega) hlt rfl
 ·obtain rfl:k=n:=by omega
  have e:AM (λk=>G9 (g k)) [.bool false,.nils] k k=((List.range k).map g).map G9:=by rw[QC];simp
  rw[e];exact Uf [.f (by simp),.k (BI _)] rfl
theorem Qtn{p q:Um}(k:Nat)(hp:Bd 4294967295 p)(hq:Bd 4294967295 q):Uj 299 [.oi k,.one (.sh [pl p]),.one (.sh [pl q])] [.agg (G9 (p.getD k 0+q.getD k 0))] :=
 Ug func299 rfl [.k (eZ p k),.k (eZ q k),.k (KB (U5 _) (U5 _) (Fv hp k) (Fv hq k))] rfl
theorem Qt7{p q:Um}(k:Nat)(hp:Bd 4294967295 p)(hq:Bd 4294967295 q):Uj 283 [.oi k,.one (.sh [pl p]),.one (.sh [pl q])] [.agg (G9 (p.getD k 0-q.getD k 0))] :=
 Ug func283 rfl [.k (eZ p k),.k (eZ q k),.k (Qfx (U5 _) (U5 _) (Fv hp k) (Fv hq k))] rfl
theorem Rj{p:Um}{k:Nat}(h:k<p.length):p[k]? = some (p.getD k 0):=by simp[List.getD,Qe h]
theorem Qfo{p:Um}{c:Int}{k:Nat}(hk:k<p.length)(hp:Bd 4294967295 p)(hc:Ff c<=4294967295):Uj 111 [.oi k,.one (.sh [pl p]),.one (.sh (G9 c))] [.agg (G9 (p.getD k 0*c))] :=
 Ug func111 rfl [.x (Pi (Rj hk)),.k (Pp (U5 _) (U5 _) (Fv hp k) hc)] rfl
theorem Qt0{p:Um}{k:Nat}(hk:k<p.length)(hp:Bd 4294967295 p):Uj 339 [.oi k,.one (.sh [pl p])] [.agg (G9 (-(p.getD k 0)))] :=
 Ug func339 rfl [.x (Pi (Rj hk)),.k (BS (U5 _) (Fv hp k))] rfl
theorem Qbc{p:Um}{k:Nat}(hk:k+1<p.length)(hl:p.length<274877906944)(hp:Bd 4294967295 p):Uj 317 [.oi k,.one (.sh [pl p])] [.agg (G9 (p.getD (k+1) 0*((k+1:Nat):Int)))] :=
 Ug func317 rfl [.x (Pi (Rj hk)),.r 10 (eI (b:=((k+1:Nat):Int)) (by omega)),.k (BP (by omega)),.k (Pp (U5 _) (U5 _) (Fv hp _) (Qcr (show k+1<274877906944 by omega)))] rfl rfl (by simp[U4] <;> omega)
theorem BM{p q:Um}(hlp:p.length<274877906944)(hlq:q.length<274877906944)(hp:Bd 4294967295 p)(hq:Bd 4294967295 q):Uj 265 [pr p,pr q] [pr (A8 p q)] :=
 Ug func265 rfl [.r 9 (eI (b:=((max p.length q.length:Nat):Int)) (by simp;omega)),.k (jK (by omega) λk _=>Qtn k hp hq)] rfl
theorem HC{p q:Um}(hlp:p.length<274877906944)(hlq:q.length<274877906944)(hp:Bd 4294967295 p)(hq:Bd 4294967295 q):Uj 243 [pr p,pr q] [pr (Nf p q)] :=
 Ug func243 rfl [.r 9 (eI (b:=((max p.length q.length:Nat):Int)) (by simp;omega)),.k (jK (by omega) λk _=>Qt7 k hp hq)] rfl
theorem Qfa{p:Um}(hlp:p.length<274877906944)(hp:Bd 4294967295 p):Uj 320 [pr p] [pr (My p)] :=
 Ug func320 rfl [.r 4 (eI (b:=(p.length:Int)) (by simp)),.k (lO hlp λk hk=>Qt0 hk hp)] rfl
theorem Sr{p:Um}{c:Int}(hlp:p.length<274877906944)(hp:Bd 4294967295 p)(hc:Ff c<=4294967295):Uj 47 [pr p,.agg (G9 c)] [pr (Fq p c)] :=
 Ug func47 rfl [.r 6 (eI (b:=(p.length:Int)) (by simp)),.k (jK hlp λk hk=>Qfo hk hp hc)] rfl
theorem I6{p:Um}(hlp:p.length<274877906944)(hp:Bd 4294967295 p):Uj 280 [pr p] [pr (Gx p)] :=
 Ug func280 rfl [.r 6 (eI (b:=((p.length-1:Nat):Int)) (by simp;omega)),.k (lO (by omega) λk hk=>Qbc (by omega) hlp hp)] rfl rfl (by simp[U4];omega)
theorem Ci{ls:Us}{p:Um}(hi:IsInts ls p)(hl:p.length<274877906944)(hs:Bd 4294967295 p):Uj 205 [.one (.row ls)] [pr (trim p)]:=by
 refine Fx func205 rfl ?_;have hlen:=hi.len;refine Ue [.i ls.length,.i ls.length] rfl ?_;rw[Am λk=>G9 (p.getD k 0)];refine Ui (S:=Nat) 1 (λL1 k=>(11,.v (.oi k))::L1) (λk=>[.row false 36 2 (AM (λk=>G9 (p.getD k 0)) [.bool false,.nils] ls.length k)]) (λk=>ls.length-k) (λk=>k<=ls.length) 0 (Qh _) rfl rfl λk hk=>?_
 by_cases hlt:k<ls.length
 ·obtain⟨x,y,hx,hxy⟩:=hi.get (Rj (p:=p) (k:=k) (by omega));have cn:=Mr hxy (Fv hs k);obtain⟨b,l,rfl,rfl,_⟩:=hxy;refine go tt [.t (by simp;omega),.x hx,.k cn,.i k] rfl (by simp[U4,Im];omega) ?_;have e:=QD (λk=>G9 (p.getD k 0)) [.bool false,.nils] hlt;rw[e];exact rd (k+1) (by omega) hlt rfl
 ·obtain rfl:k=ls.length:=by omega
  have e:AM (λk=>G9 (p.getD k 0)) [.bool false,.nils] ls.length ls.length=p.map G9:=by
   rw[QC,hlen];refine Xm λi=>?_
   by_cases hi:i<p.length
   ·simp[X3 hi,List.getD,Qe hi]
   ·simp[Qw,hi]
  rw[e];exact Uf [.f (by simp),.k (BI _)] rfl
theorem Hu{p:Um}(ht:Fg p)(hl:p.length<274877906944)(hs:Bd 4294967295 p):Uj 205 [pr p] [pr p]:=by
 have:=Ci (Gf p) hl hs;rw[ht]at this;exact this
theorem Qo8{p:Um}{i:Nat}{z:Int}(h:p[i]? = some z):(p.map λ(x:Int)=>[LV.int .i64 x])[i]? = some [.int .i64 z]:=G6 h
theorem lT{p:Um}(hl:p.length<274877906944)(hr:∀z∈p,-9223372036854775808≤z/\z≤9223372036854775807):Uj 150 [.one (ids p)] [pr (trim p)]:=by
 refine Fx func150 rfl ?_;refine Ue [.r 7 (eI (b:=(p.length:Int)) (by simp)),.i p.length,.i p.length,.r 10 (eI (b:=(p.length:Int)) (by simp))] rfl ?_;rw[Am λk=>G9 (p.getD k 0)];refine Ui (S:=Nat) 1 (λL1 k=>(11,.v (.oi k))::L1) (λk=>[.row false 36 2 (AM (λk=>G9 (p.getD k 0)) [.bool false,.nils] p.length k)]) (λk=>p.length-k) (λk=>k<=p.length) 0 (Qh _) rfl rfl λk hk=>?_
 by_cases hlt:k<p.length
 ·have hg:=Rj hlt;refine go tt [.t (by simp;omega),.x (Qo8 hg),.k (BP (hr _ (Qc hg))),.i k] rfl (by simp[U4,Im];omega) ?_;have e:=QD (λk=>G9 (p.getD k 0)) [.bool false,.nils] hlt;rw[e];exact rd (k+1) (by omega) hlt rfl
 ·obtain rfl:k=p.length:=by omega
  have e:AM (λk=>G9 (p.getD k 0)) [.bool false,.nils] p.length p.length=p.map G9:=by
   rw[QC];refine Xm λi=>?_
   by_cases hi:i<p.length
   ·simp[X3 hi,List.getD,Qe hi]
   ·simp[Qw,hi]
  rw[e];exact Uf [.f (by simp),.k (BI _)] rfl
theorem cZ(l:Um)(i:Nat)(z:Int):(l.map G9).set i (G9 z)=(l.set i z).map G9:=by rw[Vu]
theorem NG(m:Nat):((List.replicate m [LV.bool false,LV.nils]).map λc=>c.map FB)=(List.replicate m (0:Int)).map G9:=by
 simp[Lo,FB]
theorem jQ{p0 q:Um}{s t:Nat}(tq:Fg q)(hlp:p0.length<137438953472)(hlq:q.length<137438953472)(hp:Bd s p0)(hq:Bd t q)(hst:s+t<=4294967000):Uj 266 [pr p0,pr q] [pr (Gm (trim p0) q)]:=by
 have cp:=Ci (Gf p0) (by omega) (U6 hp (show s<=4294967295 by omega));have hp:=Tz hp;have hlp:=Z3 (H9 p0) hlp;obtain⟨p,ep⟩:=nmE (trim p0);rw[<-ep]at cp hp hlp ⊢;have cq:=Hu tq (by omega) (U6 hq (show t<=4294967295 by omega));by_cases h0:p.length=0
 ·have e:Gm p q=[]:=by unfold Gm;rw[if_pos (.inl h0)]
  rw[e];exact Ug func266 rfl [.k cp,.k cq,.t (by simp;exact Qj h0),.t rfl] rfl
 by_cases h1:q.length=0
 ·have e:Gm p q=[]:=by unfold Gm;rw[if_pos (.inr h1)]
  rw[e];exact Ug func266 rfl [.k cp,.k cq,.f (by simp;intro h;subst h;simp at h0),.t (by simp;exact Qj h1)] rfl
 refine Fx func266 rfl ?_;have e:Gm p q=trim (Aw p q (List.replicate (p.length+q.length-1) 0) p.length):=by unfold Gm;rw[if_neg (by omega)]
 rw[e];obtain⟨N,hN⟩:=nmE (p.length+q.length-1);rw[<-hN];obtain⟨o,ho⟩:=nmE (List.replicate N (0:Int));rw[<-ho];have hol:o.length=N:=by rw[ho];simp
 have ho0:∀m,o.getD m 0=0:=λm=>by rw[ho];exact Cq N m
 refine Ue [.k cp,.k cq,.f (by simp;intro h;subst h;simp at h0),.f (by simp;intro h;subst h;simp at h1),.r 27 (eI (b:=(N:Int)) (by simp;omega)),.i N,.i N] rfl ?_;refine nl 0 rfl rfl rfl ?_;rw[NG,<-ho];refine Ui (S:=Nat) 1 (λL1 i=>(31,.v (.oi i))::L1) (λi=>[.row false 36 2 ((Aw p q o i).map G9)]) (λi=>p.length-i) (λi=>i<=p.length) 0 (Qh _) rfl rfl λi hi=>?_
 by_cases hlt:i<p.length
 ·refine Ud [.t (by simp;omega),.x (Pi (Rj hlt))] rfl ?_;refine Ui (S:=Nat) 2 (λL1 k=>(38,.v (.oi k))::L1) (λk=>[.row false 36 2 ((Oo (p.getD i 0) q i (Aw p q o i) k).map G9),.blk 36 (G9 (p.getD i 0))]) (λk=>q.length-k) (λk=>k<=q.length) 0 (Qh _) rfl rfl λk hk=>?_
  by_cases hk2:k<q.length
  ·have hm1:Ff ((Oo (p.getD i 0) q i (Aw p q o i) k).getD (i+k) 0)<=4294967295:=Qa (Iy (t:=39) (yM (by rw[Ll];omega) (yP (λj hj=>by omega) ho0 (λi j=>Nn (Fv hp i) (Fv hq j))) (λj=>Nn (Fv hp i) (Fv hq j)) (i+k)) (Kh (show i+1<549755813888 by omega) (by decide))) (by omega);have hm2:Ff (p.getD i 0*q.getD k 0)<=4294967295:=Qa (Ga _ _) (by have:=Fv hp i;have:=Fv hq k;omega);have hg:(Oo (p.getD i 0) q i (Aw p q o i) k)[i+k]? = some ((Oo (p.getD i 0) q i (Aw p q o i) k).getD (i+k) 0):=Rj (by rw[Oq,Ll];omega);refine go tt [.t (by simp;omega),.x (Pi (Rj hk2)),.i (i+k),.x (Pi hg),.k (Pp (U5 _) (U5 _) (Qa (Fv hp i) (by omega)) (Qa (Fv hq k) (by omega))),.k (KB (U5 _) (U5 _) hm1 hm2),.i (i+k)] rfl (by simp[U4,Oq,Ll] <;> omega) ?_;rw[cZ];exact rd (k+1) (by omega) hk2 rfl
  ·obtain rfl:k=q.length:=by omega
   exact go tt [.f (by simp)] rfl (by simp[U4];omega) (rd (i+1) (by omega) hlt rfl)
 ·obtain rfl:i=p.length:=by omega
  exact Uf [.f (by simp),.k (BI _)] rfl
theorem KN{p q:Um}{s t:Nat}(tp:Fg p)(tq:Fg q)(hlp:p.length<137438953472)(hlq:q.length<137438953472)(hp:Bd s p)(hq:Bd t q)(hst:s+t<=4294967000):Uj 266 [pr p,pr q] [pr (Gm p q)]:=by
 have h:=jQ tq hlp hlq hp hq hst;rw[show trim p=p from tp]at h;exact h
theorem MU{p q:Um}(hlp:p.length<274877906944)(hlq:q.length<274877906944)(hp:Bd 4294967295 p)(hq:Bd 4294967295 q):Uj 148 [pr p,pr q] [.one (.bool (decide (trim p=trim q)))]:=by
 refine Fx func148 rfl ?_;have cp:=Ci (Gf p) hlp hp;have cq:=Ci (Gf q) hlq hq;have bp:=Tz hp;have bq:=Tz hq;have l1:=H9 p;have l2:=H9 q;obtain⟨a,ha⟩:=nmE (trim p);obtain⟨b,hb⟩:=nmE (trim q);rw[<-ha]at cp bp l1 ⊢;rw[<-hb]at cq bq l2 ⊢;by_cases hl:a.length=b.length
 ·refine Ud [.k cp,.k cq,.f (by simp;omega)] rfl ?_;refine Ui (S:=Nat) 0 (λL1 i=>(18,.v (.oi i))::L1) (λ_=>[]) (λi=>a.length-i) (λi=>i<=a.length/\a.take i=b.take i) 0 ⟨Qh _,rfl⟩ rfl rfl λi ⟨hi,he⟩=>?_
  by_cases hlt:i<a.length
  ·have ga:=Rj hlt;have gb:=Rj (p:=b) (k:=i) (by omega);have cc:=HE (U5 (a.getD i 0)) (U5 (b.getD i 0)) (Fv bp i) (Fv bq i);by_cases hz:a.getD i 0=b.getD i 0
   ·refine Ue [.t (by simp;omega),.x (Pi ga),.x (Pi gb),.k cc,.f (by simpa using jG.2 hz)] rfl ?_;exact rd (i+1) (by omega) ⟨hlt,by rw[Y7,Y7,he,ga,gb,hz]⟩ rfl
   ·exact Uf [.t (by simp;omega),.x (Pi ga),.x (Pi gb),.k cc,.t (by have:=mt jG.1 hz;simpa using this)] rfl (by rw[decide_eq_false];intro h;exact hz (by rw[h])) trivial
  ·obtain rfl:i=a.length:=by omega
   rw[Q6,hl,Q6]at he;exact Uf [.f (by simp)] rfl (by rw[decide_eq_true he]) trivial
 ·exact Uf [.k cp,.k cq,.t (by simp;omega)] rfl (by rw[decide_eq_false];intro h;exact hl (by rw[h])) trivial
theorem Qff{p:Um}{n d:Int}{s t:Nat}(hl:p.length<274877906944)(hp:Bd s p)(hn:Ff n<=t)(hd:Ff d<=t)(hst:s+p.length*(t+1)+2*t+10<=4294967295):Uj 310 [pr p,.agg (G9 n),.agg (G9 d)] [.agg (G9 (Qv9 p n d))]:=by
 refine Fx func310 rfl ?_;refine Ue [.k (BP (z:=1) (by decide)),.r 13 (eI (b:=(p.length:Int)-1-((0:Nat):Int)) (by simp))] rfl ?_;refine nlb 3 rfl rfl rfl ?_;have e0:[LV.bool false,LV.nils].map FB=G9 (Ef p n d 0).1:=by simp[FB,Ef,Lo]
 rw[e0];refine Ui (S:=Nat) 5 (λL1 j=>(9,.v (.oi ((p.length:Int)-1-(j:Int))))::L1) (λj=>[.blk 36 (G9 n),.blk 36 (G9 d),.blk 36 [.bool false,.nils],.blk 36 (G9 (Ef p n d j).1),.blk 36 (G9 (Ef p n d j).2)]) (λj=>p.length-j) (λj=>j<=p.length) 0 (Qh _) rfl rfl λj hj=>?_
 have hv:=Qav (k:=j) hp hn hd;have hjl:j*(t+1)<=p.length*(t+1):=Q0 _ (by omega);have hjl2:j*t<=j*(t+1):=Zu _ (by omega);by_cases hlt:j<p.length
 ·have hc:=Fv hp (p.length-1-j);have hm1:Ff ((Ef p n d j).1*n)<=4294967295:=Qa (Ga _ _) (by omega);have hm2:Ff (p.getD (p.length-1-j) 0*(Ef p n d j).2)<=4294967295:=Qa (Ga _ _) (by omega);refine go tt [.t (by simp;omega),.k (Pp (U5 _) (U5 _) (by omega) (by omega)),.r 22 (eI (b:=((p.length-1-j:Nat):Int)) (by omega)),.x (Pi (Rj (p:=p) (k:=p.length-1-j) (by omega))),.k (Pp (U5 _) (U5 _) (by omega) (by omega)),.k (KB (U5 _) (U5 _) hm1 hm2),.k (Pp (U5 _) (U5 _) (by omega) (by omega)),.r 17 (eI (b:=(p.length:Int)-1-((j+1:Nat):Int)) (by omega))] rfl (by simp[U4] <;> omega) ?_;exact rd (j+1) (by omega) hlt rfl
 ·obtain rfl:j=p.length:=by omega
  exact Uf [.f (by simp;omega)] rfl
theorem Dy{p:Um}(tp:Fg p)(hl:p.length<274877906944)(hp:Bd 4294967295 p):Uj 334 [pr p] [.agg (G9 (p.getD (p.length-1) 0))]:=by
 have cn:=Hu tp hl hp;by_cases h0:p=[]
 ·subst h0;exact Ug func334 rfl [.k cn,.t (by simp)] rfl (by simp[Lo]) trivial
 ·have hpl:0<p.length:=J3.2 h0;exact Ug func334 rfl [.k cn,.f (by simpa using h0),.r 12 (eI (b:=((p.length-1:Nat):Int)) (by simp;omega)),.x (Pi (Rj (by omega)))] rfl rfl (by simp[U4];omega)
theorem Qsw{a b:Int}{q:Rat}(h1:a=q.num)(h2:b=(q.den:Int)):[sg a,mg a,sg b,mg b]=rl q:=by rw[h1,h2]
theorem XX{n d:Int}(h0:d≠0)(hn:Ff n<=4294967295)(hd:Ff d<=4294967295):Uj 211 [.agg (G9 n),.agg (G9 d)] [.agg (rl (Rat.divInt n d))]:=by
 have cg:=Qew (Gf [n,d]) (λz hz=>by simp at hz;rcases hz with rfl|rfl <;> assumption);have gp:=fH (n:=n) h0;have gs:=aA (n:=n) h0 hd;have m1:=DO n d;have m2:=LQ n d;obtain⟨g,hg⟩:=nmE (((Ta [n,d]:Nat):Int));rw[<-hg]at cg gp gs m1 m2;by_cases hneg:d<0
 ·obtain⟨e1,e2⟩:=Qpi (n:=n) hneg;rw[<-hg]at e1 e2;rw[<-Qsw e1 e2];exact Ug func211 rfl [.k cg,.t (by simpa using hneg),.k (BS (U5 n) hn),.k (BS (U5 d) hd),.k (Ic (U5 _) (U5 _) (by rw[Hn];exact hn) gs (by omega) (iC m1)),.k (Ic (U5 _) (U5 _) (by rw[Hn];exact hd) gs (by omega) (iC m2))] rfl
 ·obtain⟨e1,e2⟩:=iG (n:=n) (d:=d) (by omega);rw[<-hg]at e1 e2;rw[<-Qsw e1 e2];exact Ug func211 rfl [.k cg,.f (by simpa using hneg),.k (Ic (U5 _) (U5 _) hn gs (by omega) m1),.k (Ic (U5 _) (U5 _) hd gs (by omega) m2)] rfl
theorem MH{x y x' y':LV}{n d:Int}(h1:Gg x y n)(h2:Gg x' y' d)(hn:Ff n<=4294967295)(hd:Ff d<=4294967295):Uj 140 [.agg [x,y,x',y']] [.agg (rl (Gj n d))]:=by
 have c1:=Mr h1 hn;have c2:=Mr h2 hd;obtain⟨b,l,rfl,rfl,_⟩:=h1;obtain⟨b',l',rfl,rfl,_⟩:=h2;by_cases h0:d=0
 ·have e:Gj n d=Rat.divInt n 1:=by unfold Gj;rw[if_pos h0]
  rw[e];exact Ug func140 rfl [.k c2,.k Do,.t (by simpa using h0),.k (BP (z:=1) (by decide)),.k c1,.k (XX (by decide) hn (by decide))] rfl
 ·have e:Gj n d=Rat.divInt n d:=by unfold Gj;rw[if_neg h0]
  rw[e];exact Ug func140 rfl [.k c2,.k Do,.f (by simpa using h0),.k c1,.k (XX h0 hn hd)] rfl
theorem CX{q:Rat}(hq:Qs 4294967295 q):Uj 140 [.agg (rl q)] [.agg (rl q)]:=by
 have:=MH (U5 q.num) (U5 (q.den:Int)) hq.1 hq.2;rwa[Se]at this
theorem Quh{n:Int}(hn:Ff n<=4294967295):Uj 122 [.agg (G9 n)] [.agg (rl (n:Rat))] :=
 Ug func122 rfl [.k (Mr (U5 n) hn),.k (BP (z:=1) (by decide))] rfl (by simp[rl]) trivial
theorem jY{a b:Rat}(ha:Qs 2147483647 a)(hb:Qs 2147483647 b):Uj 141 [.agg (rl a),.agg (rl b)] [.agg (G9 (a.num*(b.den:Int))),.agg (G9 (b.num*(a.den:Int))),.agg (G9 ((a.den:Int)*(b.den:Int)))] :=
 Ug func141 rfl [.k (CX (ha.mono (by decide))),.k (CX (hb.mono (by decide))),.k (Pp (U5 _) (U5 _) (Qa ha.1 (by decide)) (Qa hb.2 (by decide))),.k (Pp (U5 _) (U5 _) (Qa hb.1 (by decide)) (Qa ha.2 (by decide))),.k (Pp (U5 _) (U5 _) (Qa ha.2 (by decide)) (Qa hb.2 (by decide)))] rfl
theorem Ck{a b:Rat}(ha:Qs 2147483647 a)(hb:Qs 2147483647 b):Uj 70 [.agg (rl a),.agg (rl b)] [.oi (Hf a b)] :=
 Ug func70 rfl [.k (jY ha hb),.k (HE (U5 _) (U5 _) (Qa (Ga _ _) (by have:=ha.1;have:=hb.2;omega)) (Qa (Ga _ _) (by have:=hb.1;have:=ha.2;omega)))] rfl
theorem CZ{x y x' y':LV}{n d:Int}(h1:Gg x y n)(h2:Gg x' y' d)(hn:Ff n<=4294967295)(hd:Ff d<=4294967295):Uj 69 [.agg [x,y,x',y'],.one (.row [])] [.agg (rl (Gj n d))]:=by
 have c1:=MH h1 h2 hn hd;obtain⟨b,l,rfl,rfl,_⟩:=h1;obtain⟨b',l',rfl,rfl,_⟩:=h2;refine Fx func69 rfl ?_;refine Ud [.k c1] rfl ?_;refine Ui (S:=Unit) 3 (λL1 _=>(12,.v (.oi 0))::L1) (λ_=>[.blk 42 [.bool b,.row (lm l),.bool b',.row (lm l')],.blk 42 [.bool false,.nils,.bool false,.nils],.blk 42 (rl (Gj n d))]) (λ_=>0) (λ_=>True) () trivial rfl rfl λ_ _=>?_
 exact Uf [.f (by simp)] rfl
theorem Nz{q:Rat}(hq:Qs 4294967295 q):Uj 69 [.agg (rl q),.one (.row [])] [.agg (rl q)]:=by
 have:=CZ (U5 q.num) (U5 (q.den:Int)) hq.1 hq.2;rwa[Se]at this
theorem Qn8{q:Rat}(hq:Qs 4294967295 q):Uj 309 [.agg (rl q)] [.agg (rl q)]:=Ug func309 rfl [.k (Nz hq)] rfl
theorem lS{p:Um}{q:Rat}{s t:Nat}(tp:Fg p)(hl:p.length<274877906944)(hp:Bd s p)(hq:Qs t q)(hst:s+p.length*(t+1)+2*t+10<=4294967295):Uj 270 [pr p,.agg (rl q)] [.oi (Re p q)]:=by
 have cc:=HE (U5 (Qv9 p q.num q.den)) QL (Qa (Qav hp hq.1 hq.2).1 (by omega)) (by decide);exact Ug func270 rfl [.k (Qn8 (hq.mono (by omega))),.k (Hu tp hl (U6 hp (by omega))),.k (Qff hl hp hq.1 hq.2 hst),.k cc] rfl
theorem Qf8{p:Um}{g:Int}(hl:p.length<274877906944)(hp:Bd 4294967295 p)(hg:Ff g≤4294967295)(h0:g≠0)(hd:∀z∈p,z % g=0):Uj 217 [pr p,.agg (G9 g)] [pr (trim (p.map (· / g)))]:=by
 refine Fx func217 rfl ?_;refine Ue [.r 9 (eI (b:=(p.length:Int)) (by simp)),.i p.length,.i p.length,.r 12 (eI (b:=(p.length:Int)) (by simp))] rfl ?_;rw[Am λk=>G9 (p.getD k 0 / g)];refine Ui (S:=Nat) 2 (λL1 k=>(13,.v (.oi k))::L1) (λk=>[.blk 36 (G9 g),.row false 36 2 (AM (λk=>G9 (p.getD k 0 / g)) [.bool false,.nils] p.length k)]) (λk=>p.length-k) (λk=>k<=p.length) 0 (Qh _) rfl rfl λk hk=>?_
 by_cases hlt:k<p.length
 ·have hg2:=Rj hlt;refine go tt [.t (by simp;omega),.x (Pi hg2),.k (Ic (U5 _) (U5 _) (Fv hp k) hg h0 (hd _ (Qc hg2))),.i k] rfl (by simp[U4,Im];omega) ?_;have e:=QD (λk=>G9 (p.getD k 0 / g)) [.bool false,.nils] hlt;rw[e];exact rd (k+1) (by omega) hlt rfl
 ·obtain rfl:k=p.length:=by omega
  have e:AM (λk=>G9 (p.getD k 0 / g)) [.bool false,.nils] p.length p.length=(p.map (· / g)).map G9:=by
   rw[QC];refine Xm λi=>?_
   by_cases hi:i<p.length
   ·simp[X3 hi,List.getD,Qe hi]
   ·simp[Qw,hi]
  rw[e];exact Uf [.f (by simp),.k (Ci (Gf (p.map (· / g))) (by simp;exact hl) (HM hp g))] rfl
theorem EY(p:Um):∀c∈p.map G9,c.length=2:=Qsr p λ_=>rfl
theorem MF{lx ly:Us}{px py:Um}{x y:LV}{d:Int}(hx:IsInts lx px)(hy:IsInts ly py)(hd:Gg x y d)(hk:Cs 4294967294 1073741824 (Crv.mk px py d)):Uj 147 [.agg [.row lx,.row ly,x,y]] [.agg (cl (Crv.norm (Crv.mk px py d)))]:=by
 have hlx:=hk.lx;have hly:=hk.ly;simp only at hlx hly;have htx:=H9 px;have hty:=H9 py;have hd1:Ff (Crv.mk px py d).d'<=4294967295:=Qa (Qil hk.d (by omega)) (by omega);have hg1:=Crv.isz_g (Crv.mk px py d) hd1;have hg0:=Crv.g_ne (Crv.mk px py d);have hgd:=Crv.g_dvd (Crv.mk px py d);have cx:=Ci hx (by omega) (U6 hk.x (by omega));have cy:=Ci hy (by omega) (U6 hk.y (by omega));have cd:=Mr hd (Qa hk.d (by omega));have bx:Bd 4294967295 (trim px):=U6 (Tz hk.x) (by omega);have by_:Bd 4294967295 (trim py):=U6 (Tz hk.y) (by omega);obtain⟨b,l,rfl,rfl,_⟩:=hd;obtain⟨e,he⟩:=nmE ((Crv.mk px py d).d');obtain⟨g,hgg⟩:=nmE ((Crv.mk px py d).g);obtain⟨X,hX⟩:=nmE (trim px);obtain⟨Y,hY⟩:=nmE (trim py);have hnorm:(Crv.mk px py d).norm=⟨trim (X.map (· / g)),trim (Y.map (· / g)),e / g⟩:=by rw[he,hgg,hX,hY];rfl
 rw[hnorm];have hgdef:g=if e<0 then -((Ta (e::(X++Y)):Nat):Int)else(Ta (e::(X++Y)):Nat):=by rw[hgg,he,hX,hY];rfl
 have hde:e=if d=0 then 1 else d:=by rw[he];rfl
 simp only[<-he,<-hgg,<-hX,<-hY]at hd1 hg1 hg0 hgd htx hty cx cy bx by_;clear hnorm hgg he hX hY;refine Fx func147 rfl ?_;refine Ud [.k cx,.k cy,.k cd,.k Do] rfl ?_;refine ct 1 (S:=Unit) (λ_=>[(2,.v (.one (.ow 1 0))),(3,.v (pr X)),(4,.v (pr Y)),(5,.v (.one (.ow 2 0)))]) (λ_=>[.blk 38 [.row lx,.row ly,.bool b,.row (lm l)],.blk 38 [.nils,.nils,.bool false,.nils],.blk 36 (G9 e)]) (λ_=>True) rfl ?_ ?_
 ·by_cases h0:d=0
  ·rw[hde,if_pos h0];exact go tt [.t (by simpa using h0),.k (BP (z:=1) (by decide))] rfl trivial (rc () trivial rfl)
  ·rw[hde,if_neg h0];exact go tt [.f (by simpa using h0)] rfl trivial (rc () trivial rfl)
 ·intro _ _;have hgi:IsInts ([G9 e]++X.map G9++Y.map G9) (e::(X++Y)):=by
   have:=Gf (e::(X++Y));simpa using this
  have hgs:∀z∈e::(X++Y),Ff z≤4294967295:=λz hz=>by
   rcases Qn.1 hz with rfl|hz
   ·exact hd1
   ·rcases Qq.1 hz with hz|hz
    ·exact bx z hz
    ·exact by_ z hz
  have cg:=Qew hgi hgs;have co1:=Qf8 (p:=X) (by omega) bx hg1 hg0 λz hz=>hgd z (Qg _ (Ja _ hz))
  have co2:=Qf8 (p:=Y) (by omega) by_ hg1 hg0 λz hz=>hgd z (Qg _ (Jh _ hz))
  have ce:=Ic (U5 e) (U5 g) hd1 hg1 hg0 (hgd e (Qy ..));have hszg:=ME hgs;by_cases hneg:e<0
  ·rw[if_pos hneg]at hgdef;have cn:=BS (U5 ((Ta (e::(X++Y)):Nat):Int)) hszg;rw[<-hgdef]at cn;exact Uf [.lo,.s (EY X),.s (EY Y),.k cg,.t (by simpa using hneg),.k cn,.k ce,.k co1,.k co2] rfl rfl (by simp[U4];omega)
  ·rw[if_neg hneg]at hgdef;rw[<-hgdef]at cg;exact Uf [.lo,.s (EY X),.s (EY Y),.k cg,.f (by simpa using hneg),.k ce,.k co1,.k co2] rfl rfl (by simp[U4];omega)
theorem BE{k:Crv}(hn:ZI k)(hk:Cs 4294967294 1073741824 k):Uj 147 [.agg (cl k)] [.agg (cl k)]:=by
 have h:=MF (Gf k.x) (Gf k.y) (U5 k.d) hk;rw[Crv.norm_of hn]at h;exact h
theorem UH{lx ly:Us}{px py:Um}{x y:LV}{d:Int}(hx:IsInts lx px)(hy:IsInts ly py)(hd:Gg x y d)(hk:Cs 4294967294 1073741824 (Crv.mk px py d))(h0:d≠0):Uj 154 [.one (.row lx),.one (.row ly),.agg [x,y]] [.agg (cl (Crv.norm (Crv.mk px py d))),.oi 0]:=by
 have cd:=Mr hd (Qa hk.d (by omega));have cn:=MF hx hy hd hk;obtain⟨b,l,rfl,rfl,_⟩:=hd;exact Ug func154 rfl [.k cd,.k Do,.f (by simpa using h0),.k cn] rfl
theorem Qr6{lx ly:Us}{px py:Um}(hx:IsInts lx px)(hy:IsInts ly py)(hk:Cs 4294967294 1073741824 (Crv.mk px py 0)):Uj 80 [.one (.row lx),.one (.row ly)] [.agg (cl (Crv.norm (Crv.mk px py 0)))] :=
 Ug func80 rfl [.k (MF hx hy QL hk)] rfl
def Te(x y:Int):Crv:=Crv.norm ⟨trim [x],trim [y],0⟩
theorem uG{x y:Int}(hx:-9223372036854775808<=x/\x<=9223372036854775807)(hy:-9223372036854775808<=y/\y<=9223372036854775807):Cs 64 1 ⟨trim [x],trim [y],0⟩:=by
 have key:∀z:Int,-9223372036854775808<=z/\z<=9223372036854775807->Ff z<=64:=λz hz=>by
  rw[Sj];have:(2:Nat)^64=18446744073709551616:=by decide
  omega
 refine⟨Tz λz hz=>?_,Tz λz hz=>?_,Qh _,H9 [x],H9 [y]⟩
 ·rw[Qk]at hz;rw[hz];exact key x hx
 ·rw[Qk]at hz;rw[hz];exact key y hy
theorem lN{x y:Int}(hx:-9223372036854775808<=x/\x<=9223372036854775807)(hy:-9223372036854775808<=y/\y<=9223372036854775807):Uj 79 [.oi x,.oi y] [.agg (cl (Te x y))] :=
 Ug func79 rfl [.k (lT (p:=[x]) (show 1<274877906944 by decide) (by intro z hz;rw[Qk]at hz;rw[hz];exact hx)),.k (lT (p:=[y]) (show 1<274877906944 by decide) (by intro z hz;rw[Qk]at hz;rw[hz];exact hy)),.k (Qr6 (Gf _) (Gf _) ((uG hx hy).mono (by omega) (by omega)))] rfl
theorem lL{a b:Crv}(ha:ZI a)(hb:ZI b)(ca:Cs 4294967294 1073741824 a)(cb:Cs 4294967294 1073741824 b):Uj 75 [.agg (cl a),.agg (cl b)] [.one (.bool (Eh a b))]:=by
 have na:=BE ha ca;have nb:=BE hb cb;have alx:=ca.lx;have aly:=ca.ly;have blx:=cb.lx;have bly:=cb.ly;have sx:=MU (p:=a.x) (q:=b.x) (by omega) (by omega) (U6 ca.x (by omega)) (U6 cb.x (by omega));have sy:=MU (p:=a.y) (q:=b.y) (by omega) (by omega) (U6 ca.y (by omega)) (U6 cb.y (by omega));have sd:=HE (U5 a.d) (U5 b.d) (Qa ca.d (by omega)) (Qa cb.d (by omega));rw[ha.1,hb.1]at sx;rw[ha.2.1,hb.2.1]at sy;by_cases h1:a.x=b.x
 ·by_cases h2:a.y=b.y
  ·exact Ug func75 rfl [.k na,.k nb,.k sx,.t (by simpa using h1),.k sy,.t (by simpa using h2),.k sd] rfl (by simp[Eh,h1,h2,jG]) trivial
  ·exact Ug func75 rfl [.k na,.k nb,.k sx,.t (by simpa using h1),.k sy,.f (by simpa using h2)] rfl (by simp[Eh,h1,h2]) trivial
 ·exact Ug func75 rfl [.k na,.k nb,.k sx,.f (by simpa using h1),.f rfl] rfl (by simp[Eh,h1]) trivial
end Orr
