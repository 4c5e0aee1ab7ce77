/- Ntt L1 L2 L3 L4 L5 M1 P2 M2 PolyL RatL CrvL CrowdL PredL CertL Y1 Y2 Q1 C1 -/
import Derived.Test.YtoohlnnpalgnaaaGreatPart03
import Derived.Laws.StructEq
import Derived.Test.YtoohlnnpalgnaaaGreatProg
import Derived.Test.YtoohlnnpalgnaaaGreatPart00
set_option linter.all false
namespace Orr
open Go Go.Proofs Tryz
theorem aY(d:Nat)(x y:Int)(w:World):(Op.equalIn (d+1) 3 (.int .i64 x) (.int .i64 y)).run prog w=.ok (decide (x=y)) w:=by
 simp[Op.equalIn,runUnderlying3];rfl
noncomputable def ti3:TI prog:=O3 3 isAgg3 sizeOf3 underlying3 zeroValue3 typeInfo3 8 rfl
noncomputable def ti4:TI prog:=O3 4 isAgg4 sizeOf4 underlying4 zeroValue4 typeInfo4 1 rfl
noncomputable def ti5:TI prog:=O3 5 isAgg5 sizeOf5 underlying5 zeroValue5 typeInfo5 1 rfl
noncomputable def ti9:TI prog:=O3 9 isAgg9 sizeOf9 underlying9 zeroValue9 typeInfo9 16 rfl
noncomputable def ti22:TI prog:=O3 22 isAgg22 sizeOf22 underlying22 zeroValue22 typeInfo22 24 rfl
noncomputable def ti23:TI prog:=O3 23 isAgg23 sizeOf23 underlying23 zeroValue23 typeInfo23 24 rfl
noncomputable def ti24:TI prog:=O3 24 isAgg24 sizeOf24 underlying24 zeroValue24 typeInfo24 8 rfl
noncomputable def ti27:TI prog:=GN (ks:=[1,1,1]) (ag:=[false,false,false]) 27 isAgg27 sizeOf27 underlying27 zeroValue27 typeInfo27 24 rfl ⟨sizeOf24,sizeOf25,sizeOf3,trivial⟩ ⟨isAgg24,isAgg25,isAgg3,trivial⟩ rfl
noncomputable def ti30:TI prog:=O3 30 isAgg30 sizeOf30 underlying30 zeroValue30 typeInfo30 8 rfl
noncomputable def ti32:TI prog:=O3 32 isAgg32 sizeOf32 underlying32 zeroValue32 typeInfo32 24 rfl
noncomputable def ti33:TI prog:=O3 33 isAgg33 sizeOf33 underlying33 zeroValue33 typeInfo33 24 rfl
noncomputable def ti34:TI prog:=O3 34 isAgg34 sizeOf34 underlying34 zeroValue34 typeInfo34 24 rfl
noncomputable def ti36:TI prog:=GN (ks:=[1,1]) (ag:=[false,false]) 36 isAgg36 sizeOf36 underlying36 zeroValue36 typeInfo36 32 rfl ⟨sizeOf4,sizeOf34,trivial⟩ ⟨isAgg4,isAgg34,trivial⟩ rfl
noncomputable def ti38:TI prog:=GN (ks:=[1,1,2]) (ag:=[false,false,true]) 38 isAgg38 sizeOf38 underlying38 zeroValue38 typeInfo38 80 rfl ⟨sizeOf33,sizeOf33,sizeOf36,trivial⟩ ⟨isAgg33,isAgg33,isAgg36,trivial⟩ rfl
noncomputable def ti40:TI prog:=GN (ks:=[4,1]) (ag:=[true,false]) 40 isAgg40 sizeOf40 underlying40 zeroValue40 typeInfo40 88 rfl ⟨sizeOf38,sizeOf3,trivial⟩ ⟨isAgg38,isAgg3,trivial⟩ rfl
noncomputable def ti42:TI prog:=GN (ks:=[2,2]) (ag:=[true,true]) 42 isAgg42 sizeOf42 underlying42 zeroValue42 typeInfo42 64 rfl ⟨sizeOf36,sizeOf36,trivial⟩ ⟨isAgg36,isAgg36,trivial⟩ rfl
noncomputable def ti44:TI prog:=GN (ks:=[1,1,1,5,4]) (ag:=[false,false,false,true,true]) 44 isAgg44 sizeOf44 underlying44 zeroValue44 typeInfo44 176 rfl ⟨sizeOf3,sizeOf3,sizeOf3,sizeOf40,sizeOf42,trivial⟩ ⟨isAgg3,isAgg3,isAgg3,isAgg40,isAgg42,trivial⟩ rfl
noncomputable def ti47:TI prog:=O3 47 isAgg47 sizeOf47 underlying47 zeroValue47 typeInfo47 24 rfl
noncomputable def ti49:TI prog:=GN (ks:=[1,1]) (ag:=[false,false]) 49 isAgg49 sizeOf49 underlying49 zeroValue49 typeInfo49 32 rfl ⟨sizeOf47,sizeOf4,trivial⟩ ⟨isAgg47,isAgg4,trivial⟩ rfl
noncomputable def ti51:TI prog:=GN (ks:=[2,2]) (ag:=[true,true]) 51 isAgg51 sizeOf51 underlying51 zeroValue51 typeInfo51 64 rfl ⟨sizeOf49,sizeOf49,trivial⟩ ⟨isAgg49,isAgg49,trivial⟩ rfl
noncomputable def ti57:TI prog:=O3 57 isAgg57 sizeOf57 underlying57 zeroValue57 typeInfo57 24 rfl
noncomputable def ti59:TI prog:=GN (ks:=[1,1,1,1,1]) (ag:=[false,false,false,false,false]) 59 isAgg59 sizeOf59 underlying59 zeroValue59 typeInfo59 120 rfl ⟨sizeOf23,sizeOf23,sizeOf23,sizeOf23,sizeOf57,trivial⟩ ⟨isAgg23,isAgg23,isAgg23,isAgg23,isAgg57,trivial⟩ rfl
set_option maxRecDepth 20000 in
theorem Qoj(d:Nat)(x0 x1 x2 x3 x4 y0 y1 y2 y3 y4:Int)(w:World):(Op.equalIn (d+1+1) 63 (.agg #[.int .i64 x0,.int .i64 x1,.int .i64 x2,.int .i64 x3,.int .i64 x4]) (.agg #[.int .i64 y0,.int .i64 y1,.int .i64 y2,.int .i64 y3,.int .i64 y4])).run prog w=.ok (decide ([x0,x1,x2,x3,x4]=[y0,y1,y2,y3,y4])) w:=by
 rw[run_equalIn_array w (d+1) _ _ (n:=5) (e:=3) rfl rfl];rw[show List.range 5=[0,1,2,3,4] from rfl,show prog.cellsOf 3=1 from rfl];simp[Op.eqItems,Go.part,isAgg3,aY];by_cases h0:x0=y0 <;> by_cases h1:x1=y1 <;> by_cases h2:x2=y2 <;> by_cases h3:x3=y3 <;> by_cases h4:x4=y4 <;> simp[h0,h1,h2,h3,h4]
theorem Qur(a b:Un)(ha:a.length=5)(hb:b.length=5)(w:World):(Op.equal 63 (.agg (a.map (Value.int .i64)).toArray) (.agg (b.map (Value.int .i64)).toArray)).run prog w=.ok (decide (a=b)) w:=by
 match a,ha,b,hb with
 | [x0,x1,x2,x3,x4],_,[y0,y1,y2,y3,y4],_=>exact Qoj 9998 x0 x1 x2 x3 x4 y0 y1 y2 y3 y4 w
noncomputable def ti63:TI prog:={ tiA 63 isAgg63 sizeOf63 underlying63 zeroValue63 typeInfo63 40 rfl sizeOf3 with eqn:=some 5,heq:=λk h=>by injection h with h;subst h;exact⟨eqGuardType63,Qur⟩ }
noncomputable def ti66:TI prog:=O3 66 isAgg66 sizeOf66 underlying66 zeroValue66 typeInfo66 24 rfl
noncomputable def ti70:TI prog:=O3 70 isAgg70 sizeOf70 underlying70 zeroValue70 typeInfo70 24 rfl
noncomputable def ti73:TI prog:=O3 73 isAgg73 sizeOf73 underlying73 zeroValue73 typeInfo73 8 rfl
abbrev bY:List (Nat×Nat×String):=[(388,0,"Advance"),(194,0,"Begin"),(389,0,"Certs"),(63,0,"Clone"),(390,0,"Drop"),(391,0,"Events"),(396,0,"Go"),(81,0,"Ids"),(392,0,"Next"),(400,0,"Now"),(393,0,"Put"),(394,0,"Turn")]
theorem Qvi:∀x∈bY,∀b o w,(method (prog.types.size+Made.depth) 74 (.pointer (some ⟨b,o,none⟩)) x.2.2).run prog w=.ok (x.1,.pointer (some ⟨b,o+x.2.1,none⟩)) w:=λx hx=>by
 simp only[bY,Qm,Jm,or_false]at hx;rcases hx with rfl|rfl|rfl|rfl|rfl|rfl|rfl|rfl|rfl|rfl|rfl|rfl <;> first|exact Ao (E:=220) typeInfo74 rfl underlying74|exact La (S:=220) (i:=0) typeInfo74 rfl underlying220 rfl underlying216 (λ_ h=>by cases h) sizeOf216 (by decide)
noncomputable def ti74:TI prog:={ O3 74 isAgg74 sizeOf74 underlying74 zeroValue74 typeInfo74 8 rfl with ms:=bY,hms:=Qvi }
abbrev bV:List (Nat×Nat×String):=[(417,0,"Advance"),(194,0,"Begin"),(389,0,"Certs"),(64,0,"Clone"),(418,0,"Drop"),(391,0,"Events"),(396,0,"Go"),(392,0,"Next"),(400,0,"Now"),(419,0,"Put"),(420,0,"Turn"),(84,0,"Winner")]
theorem Qvj:∀x∈bV,∀b o w,(method (prog.types.size+Made.depth) 75 (.pointer (some ⟨b,o,none⟩)) x.2.2).run prog w=.ok (x.1,.pointer (some ⟨b,o+x.2.1,none⟩)) w:=λx hx=>by
 simp only[bV,Qm,Jm,or_false]at hx;rcases hx with rfl|rfl|rfl|rfl|rfl|rfl|rfl|rfl|rfl|rfl|rfl|rfl <;> first|exact Ao (E:=223) typeInfo75 rfl underlying75|exact La (S:=223) (i:=0) typeInfo75 rfl underlying223 rfl underlying216 (λ_ h=>by cases h) sizeOf216 (by decide)
noncomputable def ti75:TI prog:={ O3 75 isAgg75 sizeOf75 underlying75 zeroValue75 typeInfo75 8 rfl with ms:=bV,hms:=Qvj }
abbrev bK:List (Nat×Nat×String):=[(422,0,"Advance"),(194,0,"Begin"),(389,0,"Certs"),(65,0,"Clone"),(423,0,"Drop"),(391,0,"Events"),(396,0,"Go"),(82,0,"Ids"),(392,0,"Next"),(400,0,"Now"),(424,0,"Put"),(425,0,"Turn")]
theorem Qvk:∀x∈bK,∀b o w,(method (prog.types.size+Made.depth) 76 (.pointer (some ⟨b,o,none⟩)) x.2.2).run prog w=.ok (x.1,.pointer (some ⟨b,o+x.2.1,none⟩)) w:=λx hx=>by
 simp only[bK,Qm,Jm,or_false]at hx;rcases hx with rfl|rfl|rfl|rfl|rfl|rfl|rfl|rfl|rfl|rfl|rfl|rfl <;> first|exact Ao (E:=225) typeInfo76 rfl underlying76|exact La (S:=225) (i:=0) typeInfo76 rfl underlying225 rfl underlying216 (λ_ h=>by cases h) sizeOf216 (by decide)
noncomputable def ti76:TI prog:={ O3 76 isAgg76 sizeOf76 underlying76 zeroValue76 typeInfo76 8 rfl with ms:=bK,hms:=Qvk }
abbrev bW:List (Nat×Nat×String):=[(427,0,"Advance"),(194,0,"Begin"),(389,0,"Certs"),(66,0,"Clone"),(428,0,"Drop"),(391,0,"Events"),(396,0,"Go"),(85,0,"Ids"),(392,0,"Next"),(400,0,"Now"),(429,0,"Put"),(430,0,"Turn")]
theorem Qvl:∀x∈bW,∀b o w,(method (prog.types.size+Made.depth) 77 (.pointer (some ⟨b,o,none⟩)) x.2.2).run prog w=.ok (x.1,.pointer (some ⟨b,o+x.2.1,none⟩)) w:=λx hx=>by
 simp only[bW,Qm,Jm,or_false]at hx;rcases hx with rfl|rfl|rfl|rfl|rfl|rfl|rfl|rfl|rfl|rfl|rfl|rfl <;> first|exact Ao (E:=227) typeInfo77 rfl underlying77|exact La (S:=227) (i:=0) typeInfo77 rfl underlying227 rfl underlying216 (λ_ h=>by cases h) sizeOf216 (by decide)
noncomputable def ti77:TI prog:={ O3 77 isAgg77 sizeOf77 underlying77 zeroValue77 typeInfo77 8 rfl with ms:=bW,hms:=Qvl }
abbrev bU:List (Nat×Nat×String):=[(432,0,"Advance"),(194,0,"Begin"),(389,0,"Certs"),(67,0,"Clone"),(433,0,"Drop"),(391,0,"Events"),(396,0,"Go"),(392,0,"Next"),(400,0,"Now"),(434,0,"Put"),(83,0,"Triples"),(435,0,"Turn")]
theorem Qvm:∀x∈bU,∀b o w,(method (prog.types.size+Made.depth) 78 (.pointer (some ⟨b,o,none⟩)) x.2.2).run prog w=.ok (x.1,.pointer (some ⟨b,o+x.2.1,none⟩)) w:=λx hx=>by
 simp only[bU,Qm,Jm,or_false]at hx;rcases hx with rfl|rfl|rfl|rfl|rfl|rfl|rfl|rfl|rfl|rfl|rfl|rfl <;> first|exact Ao (E:=229) typeInfo78 rfl underlying78|exact La (S:=229) (i:=0) typeInfo78 rfl underlying229 rfl underlying216 (λ_ h=>by cases h) sizeOf216 (by decide)
noncomputable def ti78:TI prog:={ O3 78 isAgg78 sizeOf78 underlying78 zeroValue78 typeInfo78 8 rfl with ms:=bU,hms:=Qvm }
noncomputable def ti80:TI prog:=GN (ks:=[1,4,1,1,1,1,1]) (ag:=[false,true,false,false,false,false,false]) 80 isAgg80 sizeOf80 underlying80 zeroValue80 typeInfo80 112 rfl ⟨sizeOf73,sizeOf42,sizeOf74,sizeOf75,sizeOf76,sizeOf77,sizeOf78,trivial⟩ ⟨isAgg73,isAgg42,isAgg74,isAgg75,isAgg76,isAgg77,isAgg78,trivial⟩ rfl
set_option maxRecDepth 20000 in
theorem Qok(d:Nat)(x0 x1 x2 y0 y1 y2:Int)(w:World):(Op.equalIn (d+1+1) 84 (.agg #[.int .i64 x0,.int .i64 x1,.int .i64 x2]) (.agg #[.int .i64 y0,.int .i64 y1,.int .i64 y2])).run prog w=.ok (decide ([x0,x1,x2]=[y0,y1,y2])) w:=by
 rw[run_equalIn_array w (d+1) _ _ (n:=3) (e:=3) rfl rfl];rw[show List.range 3=[0,1,2] from rfl,show prog.cellsOf 3=1 from rfl];simp[Op.eqItems,Go.part,isAgg3,aY];by_cases h0:x0=y0 <;> by_cases h1:x1=y1 <;> by_cases h2:x2=y2 <;> simp[h0,h1,h2]
theorem nQ(a b:Un)(ha:a.length=3)(hb:b.length=3)(w:World):(Op.equal 84 (.agg (a.map (Value.int .i64)).toArray) (.agg (b.map (Value.int .i64)).toArray)).run prog w=.ok (decide (a=b)) w:=by
 match a,ha,b,hb with
 | [x0,x1,x2],_,[y0,y1,y2],_=>exact Qok 9998 x0 x1 x2 y0 y1 y2 w
noncomputable def ti84:TI prog:={ tiA 84 isAgg84 sizeOf84 underlying84 zeroValue84 typeInfo84 24 rfl sizeOf3 with eqn:=some 3,heq:=λk h=>by injection h with h;subst h;exact⟨eqGuardType84,nQ⟩ }
noncomputable def ti87:TI prog:=O3 87 isAgg87 sizeOf87 underlying87 zeroValue87 typeInfo87 24 rfl
noncomputable def ti88:TI prog:=O3 88 isAgg88 sizeOf88 underlying88 zeroValue88 typeInfo88 24 rfl
noncomputable def ti90:TI prog:=GN (ks:=[1,1,4,4]) (ag:=[false,false,true,true]) 90 isAgg90 sizeOf90 underlying90 zeroValue90 typeInfo90 176 rfl ⟨sizeOf87,sizeOf88,sizeOf51,sizeOf51,trivial⟩ ⟨isAgg87,isAgg88,isAgg51,isAgg51,trivial⟩ rfl
noncomputable def ti93:TI prog:=O3 93 isAgg93 sizeOf93 underlying93 zeroValue93 typeInfo93 24 rfl
set_option maxRecDepth 20000 in
theorem Qol(d:Nat)(x0 x1 x2 x3 y0 y1 y2 y3:Int)(w:World):(Op.equalIn (d+1+1) 95 (.agg #[.int .i64 x0,.int .i64 x1,.int .i64 x2,.int .i64 x3]) (.agg #[.int .i64 y0,.int .i64 y1,.int .i64 y2,.int .i64 y3])).run prog w=.ok (decide ([x0,x1,x2,x3]=[y0,y1,y2,y3])) w:=by
 rw[run_equalIn_array w (d+1) _ _ (n:=4) (e:=3) rfl rfl];rw[show List.range 4=[0,1,2,3] from rfl,show prog.cellsOf 3=1 from rfl];simp[Op.eqItems,Go.part,isAgg3,aY];by_cases h0:x0=y0 <;> by_cases h1:x1=y1 <;> by_cases h2:x2=y2 <;> by_cases h3:x3=y3 <;> simp[h0,h1,h2,h3]
noncomputable def ti95:TI prog:=tiA 95 isAgg95 sizeOf95 underlying95 zeroValue95 typeInfo95 32 rfl sizeOf3
set_option maxRecDepth 20000 in
theorem Qom(d:Nat)(x x0 x1 x2 x3 y y0 y1 y2 y3:Int)(w:World):(Op.equalIn (d+1+1+1) 97 (.agg #[.int .i64 x,.int .i64 x0,.int .i64 x1,.int .i64 x2,.int .i64 x3]) (.agg #[.int .i64 y,.int .i64 y0,.int .i64 y1,.int .i64 y2,.int .i64 y3])).run prog w=.ok (decide ([x,x0,x1,x2,x3]=[y,y0,y1,y2,y3])) w:=by
 rw[run_equalIn_struct w (d+1+1) 97 _ _ rfl Tryz.stoodInHeld97];have hf:(prog.fieldsOf 97).toList=[{ name := "Kind",type:=3,offset:=0,embedded:=false,tag := "",pkgPath := "",byteOffset:=0 },{ name := "Ids",type:=95,offset:=1,embedded:=false,tag := "",pkgPath := "",byteOffset:=8 }]:=by simp[Program.fieldsOf,underlying97]
 rw[hf];simp[Op.eqFields,Go.part,isAgg3,isAgg95,sizeOf95,sizeOf3,aY,Qol];by_cases h:x=y <;> by_cases h0:x0=y0 <;> by_cases h1:x1=y1 <;> by_cases h2:x2=y2 <;> by_cases h3:x3=y3 <;> simp[h,h0,h1,h2,h3]
theorem Qus(a b:Un)(ha:a.length=5)(hb:b.length=5)(w:World):(Op.equal 97 (.agg (a.map (Value.int .i64)).toArray) (.agg (b.map (Value.int .i64)).toArray)).run prog w=.ok (decide (a=b)) w:=by
 match a,ha,b,hb with
 | [x,x0,x1,x2,x3],_,[y,y0,y1,y2,y3],_=>exact Qom 9997 x x0 x1 x2 x3 y y0 y1 y2 y3 w
noncomputable def ti97:TI prog:={ GN (ks:=[1,4]) (ag:=[false,true]) 97 isAgg97 sizeOf97 underlying97 zeroValue97 typeInfo97 40 rfl ⟨sizeOf3,sizeOf95,trivial⟩ ⟨isAgg3,isAgg95,trivial⟩ rfl with eqn:=some 5,heq:=λk h=>by injection h with h;subst h;exact⟨eqGuardType97,Qus⟩ }
noncomputable def ti99:TI prog:=GN (ks:=[5,1,1]) (ag:=[true,false,false]) 99 isAgg99 sizeOf99 underlying99 zeroValue99 typeInfo99 72 rfl ⟨sizeOf97,sizeOf33,sizeOf3,trivial⟩ ⟨isAgg97,isAgg33,isAgg3,trivial⟩ rfl
noncomputable def ti105:TI prog:=GN (ks:=[1,4,4]) (ag:=[false,true,true]) 105 isAgg105 sizeOf105 underlying105 zeroValue105 typeInfo105 152 rfl ⟨sizeOf33,sizeOf42,sizeOf42,trivial⟩ ⟨isAgg33,isAgg42,isAgg42,trivial⟩ rfl
noncomputable def ti109:TI prog:=O3 109 isAgg109 sizeOf109 underlying109 zeroValue109 typeInfo109 24 rfl
noncomputable def ti139:TI prog:=O3 139 isAgg139 sizeOf139 underlying139 zeroValue139 typeInfo139 16 rfl
noncomputable def ti140:TI prog:=tiA 140 isAgg140 sizeOf140 underlying140 zeroValue140 typeInfo140 80 rfl sizeOf139
noncomputable def ti151:TI prog:=O3 151 isAgg151 sizeOf151 underlying151 zeroValue151 typeInfo151 4 rfl
noncomputable def ti159:TI prog:=GN (ks:=[1,1,1]) (ag:=[false,false,false]) 159 isAgg159 sizeOf159 underlying159 zeroValue159 typeInfo159 40 rfl ⟨sizeOf3,sizeOf3,sizeOf22,trivial⟩ ⟨isAgg3,isAgg3,isAgg22,trivial⟩ rfl
noncomputable def ti201:TI prog:=O3 201 isAgg201 sizeOf201 underlying201 zeroValue201 typeInfo201 24 rfl
noncomputable def ti202:TI prog:=O3 202 isAgg202 sizeOf202 underlying202 zeroValue202 typeInfo202 24 rfl
noncomputable def ti204:TI prog:=GN (ks:=[10,1,1,1]) (ag:=[true,false,false,false]) 204 isAgg204 sizeOf204 underlying204 zeroValue204 typeInfo204 232 rfl ⟨sizeOf90,sizeOf202,sizeOf3,sizeOf93,trivial⟩ ⟨isAgg90,isAgg202,isAgg3,isAgg93,trivial⟩ rfl
noncomputable def ti205:TI prog:=tiA 205 isAgg205 sizeOf205 underlying205 zeroValue205 typeInfo205 1160 rfl sizeOf204
noncomputable def ti207:TI prog:=GN (ks:=[1,1,1,4,65]) (ag:=[false,false,false,true,true]) 207 isAgg207 sizeOf207 underlying207 zeroValue207 typeInfo207 1264 rfl ⟨sizeOf3,sizeOf3,sizeOf201,sizeOf51,sizeOf205,trivial⟩ ⟨isAgg3,isAgg3,isAgg201,isAgg51,isAgg205,trivial⟩ rfl
noncomputable def ti214:TI prog:=O3 214 isAgg214 sizeOf214 underlying214 zeroValue214 typeInfo214 24 rfl
noncomputable def ti216:TI prog:=GN (ks:=[1,9,1,1]) (ag:=[false,true,false,false]) 216 isAgg216 sizeOf216 underlying216 zeroValue216 typeInfo216 192 rfl ⟨sizeOf4,sizeOf105,sizeOf214,sizeOf3,trivial⟩ ⟨isAgg4,isAgg105,isAgg214,isAgg3,trivial⟩ rfl
noncomputable def ti218:TI prog:=GN (ks:=[1]) (ag:=[false]) 218 isAgg218 sizeOf218 underlying218 zeroValue218 typeInfo218 24 rfl ⟨sizeOf22,trivial⟩ ⟨isAgg22,trivial⟩ rfl
noncomputable def ti220:TI prog:=GN (ks:=[12,1,1]) (ag:=[true,true,false]) 220 isAgg220 sizeOf220 underlying220 zeroValue220 typeInfo220 240 rfl ⟨sizeOf216,sizeOf218,sizeOf22,trivial⟩ ⟨isAgg216,isAgg218,isAgg22,trivial⟩ rfl
noncomputable def ti221:TI prog:=O3 221 isAgg221 sizeOf221 underlying221 zeroValue221 typeInfo221 24 rfl
noncomputable def ti223:TI prog:=GN (ks:=[12,1,1,1]) (ag:=[true,true,false,false]) 223 isAgg223 sizeOf223 underlying223 zeroValue223 typeInfo223 264 rfl ⟨sizeOf216,sizeOf218,sizeOf22,sizeOf221,trivial⟩ ⟨isAgg216,isAgg218,isAgg22,isAgg221,trivial⟩ rfl
noncomputable def ti225:TI prog:=GN (ks:=[12,1,1]) (ag:=[true,true,false]) 225 isAgg225 sizeOf225 underlying225 zeroValue225 typeInfo225 240 rfl ⟨sizeOf216,sizeOf218,sizeOf22,trivial⟩ ⟨isAgg216,isAgg218,isAgg22,trivial⟩ rfl
noncomputable def ti227:TI prog:=GN (ks:=[12,1,1]) (ag:=[true,true,false]) 227 isAgg227 sizeOf227 underlying227 zeroValue227 typeInfo227 240 rfl ⟨sizeOf216,sizeOf218,sizeOf22,trivial⟩ ⟨isAgg216,isAgg218,isAgg22,trivial⟩ rfl
noncomputable def ti229:TI prog:=GN (ks:=[12,1,1]) (ag:=[true,true,false]) 229 isAgg229 sizeOf229 underlying229 zeroValue229 typeInfo229 240 rfl ⟨sizeOf216,sizeOf218,sizeOf57,trivial⟩ ⟨isAgg216,isAgg218,isAgg57,trivial⟩ rfl
noncomputable def ti232:TI prog:=O3 232 isAgg232 sizeOf232 underlying232 zeroValue232 typeInfo232 24 rfl
noncomputable def ti265:TI prog:=O3 265 isAgg265 sizeOf265 underlying265 zeroValue265 typeInfo265 8 rfl
noncomputable def ti266:TI prog:=O3 266 isAgg266 sizeOf266 underlying266 zeroValue266 typeInfo266 8 rfl
noncomputable def ti323:TI prog:=tiA 323 isAgg323 sizeOf323 underlying323 zeroValue323 typeInfo323 176 rfl sizeOf40
theorem Qbx(em:Bool)(n:Nat)(v:Int)(w:World):(Instr.checkKey em (n+1) 3 (.int .i64 v)).run prog w=.ok () w:=by
 rw[Instr.checkKey];simp[runUnderlying3]
theorem wO(em:Bool)(n:Nat)(a b c:Int)(w:World):(Instr.checkKey em (n+1+1) 84 (.agg #[.int .i64 a,.int .i64 b,.int .i64 c])).run prog w=.ok () w:=by
 rw[Instr.checkKey];simp[runUnderlying84];rw[show List.range' 0 3=[0,1,2] from rfl];simp[Go.part,isAgg3,sizeOf3,Qbx]
theorem SH(em:Bool)(ks:Un)(hk:ks.length=3)(w:World):(Instr.checkKey em 10000 84 (Aj ks)).run prog w=.ok () w:=by
 match ks,hk with
 | [a,b,c],_=>exact wO em 9998 a b c w
theorem Qiq:MapT prog 328 84 3 (.int .i64 0):=⟨runUnderlying328,⟨_,runUnderlying84,λ_ _=>rfl⟩,SH,λx y hx hy w=>nQ x y hx hy w,zeroValue3,rfl⟩
noncomputable def ti328:TI prog:={ O3 328 isAgg328 sizeOf328 underlying328 zeroValue328 typeInfo328 8 rfl with md:=some (.int .i64 0),hmd:=λd h=>by injection h with h;subst h;exact⟨84,3,Qiq⟩ }
theorem Qir:MapT prog 329 84 4 (.bool false):=⟨runUnderlying329,⟨_,runUnderlying84,λ_ _=>rfl⟩,SH,λx y hx hy w=>nQ x y hx hy w,zeroValue4,rfl⟩
noncomputable def ti329:TI prog:={ O3 329 isAgg329 sizeOf329 underlying329 zeroValue329 typeInfo329 8 rfl with md:=some (.bool false),hmd:=λd h=>by injection h with h;subst h;exact⟨84,4,Qir⟩ }
noncomputable def ti332:TI prog:=GN (ks:=[5,1,1,1,1]) (ag:=[true,false,false,false,false]) 332 isAgg332 sizeOf332 underlying332 zeroValue332 typeInfo332 104 rfl ⟨sizeOf97,sizeOf87,sizeOf3,sizeOf93,sizeOf4,trivial⟩ ⟨isAgg97,isAgg87,isAgg3,isAgg93,isAgg4,trivial⟩ rfl
noncomputable def ti340:TI prog:=O3 340 isAgg340 sizeOf340 underlying340 zeroValue340 typeInfo340 24 rfl
noncomputable def ti349:TI prog:=tiA 349 isAgg349 sizeOf349 underlying349 zeroValue349 typeInfo349 72 rfl sizeOf32
noncomputable def ti352:TI prog:=GN (ks:=[7,1,1,9]) (ag:=[true,false,false,true]) 352 isAgg352 sizeOf352 underlying352 zeroValue352 typeInfo352 232 rfl ⟨sizeOf99,sizeOf4,sizeOf4,sizeOf105,trivial⟩ ⟨isAgg99,isAgg4,isAgg4,isAgg105,trivial⟩ rfl
noncomputable def ti365:TI prog:=O3 365 isAgg365 sizeOf365 underlying365 zeroValue365 typeInfo365 24 rfl
noncomputable def ti369:TI prog:=GN (ks:=[1]) (ag:=[false]) 369 isAgg369 sizeOf369 underlying369 zeroValue369 typeInfo369 24 rfl ⟨sizeOf340,trivial⟩ ⟨isAgg340,trivial⟩ rfl
noncomputable def ti378:TI prog:=GN (ks:=[1,1,4]) (ag:=[false,false,true]) 378 isAgg378 sizeOf378 underlying378 zeroValue378 typeInfo378 128 rfl ⟨sizeOf87,sizeOf87,sizeOf38,trivial⟩ ⟨isAgg87,isAgg87,isAgg38,trivial⟩ rfl
noncomputable def ti380:TI prog:=GN (ks:=[6,1]) (ag:=[true,false]) 380 isAgg380 sizeOf380 underlying380 zeroValue380 typeInfo380 136 rfl ⟨sizeOf378,sizeOf3,trivial⟩ ⟨isAgg378,isAgg3,trivial⟩ rfl
noncomputable def ti382:TI prog:=O3 382 isAgg382 sizeOf382 underlying382 zeroValue382 typeInfo382 24 rfl
noncomputable def ti386:TI prog:=tiA 386 isAgg386 sizeOf386 underlying386 zeroValue386 typeInfo386 272 rfl sizeOf380
noncomputable def ti405:TI prog:=O3 405 isAgg405 sizeOf405 underlying405 zeroValue405 typeInfo405 24 rfl
noncomputable def ti406:TI prog:=O3 406 isAgg406 sizeOf406 underlying406 zeroValue406 typeInfo406 24 rfl
noncomputable def tt:TT prog:=(.nd (.nd (.nd (.nd (.nd (.nd (.nd .nil ti3 .nil) ti4 .nil) ti5 (.nd .nil ti9 .nil)) ti22 (.nd (.nd (.nd .nil ti23 .nil) ti24 .nil) ti27 (.nd .nil ti30 .nil))) ti32 (.nd (.nd (.nd (.nd .nil ti33 .nil) ti34 .nil) ti36 (.nd .nil ti38 .nil)) ti40 (.nd (.nd (.nd .nil ti42 .nil) ti44 .nil) ti47 (.nd .nil ti49 .nil)))) ti51 (.nd (.nd (.nd (.nd (.nd .nil ti57 .nil) ti59 .nil) ti63 (.nd .nil ti66 .nil)) ti70 (.nd (.nd (.nd .nil ti73 .nil) ti74 .nil) ti75 (.nd .nil ti76 .nil))) ti77 (.nd (.nd (.nd (.nd .nil ti78 .nil) ti80 .nil) ti84 (.nd .nil ti87 .nil)) ti88 (.nd (.nd (.nd .nil ti90 .nil) ti93 .nil) ti95 (.nd .nil ti97 .nil))))) ti99 (.nd (.nd (.nd (.nd (.nd (.nd .nil ti105 .nil) ti109 .nil) ti139 (.nd .nil ti140 .nil)) ti151 (.nd (.nd (.nd .nil ti159 .nil) ti201 .nil) ti202 (.nd .nil ti204 .nil))) ti205 (.nd (.nd (.nd (.nd .nil ti207 .nil) ti214 .nil) ti216 (.nd .nil ti218 .nil)) ti220 (.nd (.nd (.nd .nil ti221 .nil) ti223 .nil) ti225 (.nd .nil ti227 .nil)))) ti229 (.nd (.nd (.nd (.nd (.nd .nil ti232 .nil) ti265 .nil) ti266 (.nd .nil ti323 .nil)) ti328 (.nd (.nd (.nd .nil ti329 .nil) ti332 .nil) ti340 (.nd .nil ti349 .nil))) ti352 (.nd (.nd (.nd (.nd .nil ti365 .nil) ti369 .nil) ti378 (.nd .nil ti380 .nil)) ti382 (.nd (.nd .nil ti386 .nil) ti405 (.nd .nil ti406 .nil))))))
instance:Mo prog:=⟨rfl⟩
theorem Ue{n : Nat}{Q : Exit -> Sg -> List OB -> Prop}{L L' : Sg}{B B' : List OB}{it it' : List It}{as0 : List Qv}{ob : List Prop}(hs : List (H Tryz.prog))(h : (match run tt n 100000 it L B hs [] []with
 |some (it, L, B, q, ob) => (match AO ob with
  |some ob => some (it, L, B, q.map (·.1), q.map (·.2), ob)
  |none => none)
 |none => none) = some (it', L', B', as0, as0, ob)) (k : AK Tryz.prog n Q it' L' B') (ho : U0 ob := by exact trivial) : AK Tryz.prog n Q it L B := go tt hs h ho k
theorem Uf{n : Nat}{Q : Exit -> Sg -> List OB -> Prop}{L L' : Sg}{B B' : List OB}{it it' : List It}{as0 : List Qv}{ob : List Prop}(hs : List (H Tryz.prog))(h : (match run tt n 100000 it L B hs [] []with
 |some (it, L, B, q, ob) => (match AO ob with
  |some ob => some (it, L, B, q.map (·.1), q.map (·.2), ob)
  |none => none)
 |none => none) = some (it', L', B', as0, as0, ob)) (k : AK Tryz.prog n Q it' L' B') (ho : U0 ob := by simp[U0];omega) : AK Tryz.prog n Q it L B := go tt hs h ho k
theorem Uh {n : Nat} {f : FuncId} {fn : Func} {c : Code} {args res us : List TV} {as0 : List Qv} {ob : List Prop} (hf : Tryz.prog.funcs[f]? = some fn) (hh : (fn.body, fn.ntmps, (fn.name == "runtime.NumGoroutine"), Nat.ble args.length n) = (some c, n, false, true)) (hs : List (H Tryz.prog))
 (h : wE tt n c fn.results.toList args hs = some (us, as0, as0, ob)) (he : us = res := by exact rfl) (ho : U0 ob := by exact trivial) : AS Tryz.prog f args res := w tt hf hh hs h he ho
theorem Ug{n : Nat}{L : Sg}{B : List OB}{fn : Func}{res us : List TV}{it : List It}{as0 : List Qv}{ob : List Prop}(hs : List (H Tryz.prog))(h : enE tt n fn.results.toList it L B hs = some (us, as0, as0, ob))(he : us = res := by exact rfl)(ho : U0 ob := by exact trivial) : AK Tryz.prog n (RQ Tryz.prog fn n 0 λu B => u = res /\ B = []) it L B := en tt hs h he ho
theorem Ui{n : Nat}{L : Sg}{B : List OB}{fn : Func}{k : Nat}{res : List TV}{Bout : List OB}{it : List It}{as0 : List Qv}{ob : List Prop}(ps is : List Nat)(hs : List (H Tryz.prog))(h : edE tt n k fn.results.toList it L B hs res Bout ps is = some (as0, as0, ob))(ho : U0 ob := by exact trivial) : AK Tryz.prog n (RQ Tryz.prog fn n k λu B => u = res /\ B = Bout) it L B := ed tt ps is hs h ho
theorem Uj{n : Nat}{Q : Exit -> Sg -> List OB -> Prop}{L : Sg}{B : List OB}{S : Type}{c : Code}{r : List It}{L1 : Sg}(k : Nat)(st : Sg -> S -> Sg)(bs : S -> List OB)(μ : S -> Nat)(I : S -> Prop)(s0 : S)(h0 : I s0)(hL : prn (kJ c []) L = some L1){as0 : List Qv}(hs : two (dF none L B (st L1 s0) (bs s0)) = some (as0, as0))
 (round : ∀s, I s -> AK Tryz.prog n Q (.code c :: .rnd (some k) (λL B => ∃s', μ s' < μ s /\ I s' /\ L = st L1 s' /\ B = bs s') :: r) (st L1 s) (bs s)) (hk : ∀s, I s -> (bs s).length = k := by exact λ_ _ => rfl) : AK Tryz.prog n Q (.code (.loop c) :: r) L B := lp k st bs μ I s0 h0 hL hk hs round
abbrev Uk(f : Nat)(a r : List TV) : Prop := AS Tryz.prog f a r
end Orr
namespace Orr
open Go Go.Proofs Tryz
set_option maxRecDepth 10000
def lm(l:Up):Ut:=l.map λ(x:Nat)=>[.int .u32 (x:Int)]
abbrev lr(l:Up):TV:=.one (.row (lm l))
theorem U6(l:Up):(lm l).length=l.length:=by simp[lm]
theorem Gz{l:Up}{i x:Nat}(h:l[i]? = some x):(lm l)[i]? = some [.int .u32 (x:Int)]:=by simp[lm,h]
def vB:Up->Up
 | []=>[]
 |
  x::l=>match vB l with
  | []=>if x=0 then []else [x]
  |r=>x::r
theorem Qq0{l:Up}:vB l=[]↔∀x∈l,x=0:=by
 induction l with
 |nil=>simp[vB]
 |
  cons x l ih =>
  simp only[vB]
  split
  ·rename_i e;have h1:=ih.1 e;by_cases h:x=0
   ·simp[h];exact h1
   ·simp[h]
  ·rename_i r hne;simp only[reduceCtorEq,Qm,forall_eq_or_imp,false_iff,not_and];exact λ_ h=>hne (ih.2 h)
theorem GB:∀{l:Up} {n:Nat},n<=l.length->(∀j,n<=j->j<l.length->l[j]? = some 0)->(n=0\/∃x,l[n-1]? = some x/\x≠0)->l.take n=vB l
 | [],n,h,_,_=>by simp at h;subst h;rfl
 |
  x::l,0,h,hz,_=>by
  rw[Vu];refine(Qq0.2 λy hy=>?_).symm;obtain⟨j,hj⟩:=Zk.1 hy;have:=hz j (Qh _) (Qf.1 hj).1;rw[hj]at this;injection this
 |
  x::l,n+1,h,hz,ht=>by
  simp only[Q5,Nat.add_le_add_iff_right]at h;have hz':∀j,n<=j->j<l.length->l[j]? = some 0:=λj h1 h2=>by simpa using hz (j+1) (by omega) (by simpa using h2)
  cases n with
  |
   zero =>
   have e:vB l=[]:=(GB (n:=0) h hz' (.inl rfl)).symm;rcases ht with h|⟨y,h1,h2⟩
   ·omega
   ·simp at h1;subst h1;simp[vB,e,h2]
  |
   succ n =>
   have ih:=GB (n:=n+1) h hz' (.inr (by rcases ht with h|⟨y,h1,h2⟩;(· omega);exact⟨y,by simpa using h1,h2⟩));simp only[Ve,vB];rw[<-ih];cases hl:l with
   |nil=>rw[hl]at h;simp at h
   |cons y l'=>simp[Ve]
theorem Qy9(l:Up):Uk 182 [lr l] [lr (vB l)]:=by
 refine Fu func182 rfl (ln 0 rfl rfl λhl=>?_);rw[U6]at hl;refine Ue [] rfl ?_;refine Uj (S:=Nat) 0 (λL1 n=>(3,.v (.oi n))::L1) (λ_=>[]) id (λn=>n<=l.length/\∀j,n<=j->j<l.length->l[j]? = some 0) (lm l).length ⟨by rw[U6];exact Ql _,λj h1 h2=>by rw[U6]at h1;omega⟩ rfl rfl λn ⟨h1,h2⟩=>?_
 cases n with
 |zero=>exact Ug [.f (by simp),.f rfl,.i 0] rfl (by rw[<-GB h1 h2 (.inl rfl)];simp[lm]) (by simp[U0,Hr])
 |
  succ n =>
  obtain⟨x,hx⟩:=gxE (l:=l) (i:=n) (by omega);by_cases h0:x=0
  ·refine go tt [.t (by simp),.r 11 (v:=.oi n) (by simp),.x (Gz hx),.t (by simp[h0]),.r 17 (v:=.oi n) (by simp)] rfl (by simp[U0,Hr];omega) ?_;exact rd n (by simp) ⟨by omega,λj h3 h4=>by
    rcases Vk h3 with rfl|h3
    ·rw[hx,h0]
    ·exact h2 j h3 h4⟩ rfl
  ·exact Ug [.t (by simp),.r 11 (v:=.oi n) (by simp),.x (Gz hx),.f (by simp[h0]),.i (n+1)] rfl (by rw[<-GB h1 h2 (.inr ⟨x,hx,h0⟩)];simp[lm]) (by simp[U0,Hr,U6] <;> omega)
def Sm(l:Up):Prop:=∀x∈l,x<4294967296
theorem vC:∀l:Up,Cut l (vB l).length/\l.take (vB l).length=vB l
 | []=>⟨⟨Ql _,λj _ h=>by simp at h,λh=>by simp[vB]at h⟩,rfl⟩
 |
  x::l=>by
  obtain⟨⟨h1,h2,h3⟩,h4⟩:=vC l;simp only[vB]
  split
  ·rename_i e;rw[e]at h2 h3;by_cases h:x=0
   ·rw[if_pos h];refine⟨⟨Qh _,λj _ hj=>?_,λh=>by simp at h⟩,rfl⟩;cases j with
    |zero=>simp[h]
    |succ j=>simpa using h2 j (Qh _) (by simpa using hj)
   ·rw[if_neg h];refine⟨⟨by simp,λj h5 hj=>?_,λ_=>⟨x,rfl,h⟩⟩,rfl⟩;cases j with
    |zero=>simp at h5
    |succ j=>simpa using h2 j (Qh _) (by simpa using hj)
  ·rename_i r hne;refine⟨⟨by simp[h1],λj h5 hj=>?_,λ_=>?_⟩,by simp[h4]⟩
   ·cases j with
    |zero=>simp at h5
    |succ j=>simpa using h2 j (by simpa using h5) (by simpa using hj)
   ·have hp:0<(vB l).length:=by
     cases e:vB l with
     |nil=>exact absurd e hne
     |cons=>simp
    obtain⟨y,h5,h6⟩:=h3 hp;refine⟨y,?_,h6⟩;rw[Q5,show(vB l).length+1-1=((vB l).length-1)+1 from by omega];simpa using h5
theorem zI{l:Up}(h:Sm l):vB l=Ga (val l):=by
 obtain⟨h1,h2⟩:=vC l;refine Qij ?_ ?_
 ·rw[<-h2];exact Qn9 h1 h
 ·rw[<-h2];exact Qoa h1
theorem Ln(x:Nat):Sm (Ga x):=(Dk x).1
theorem Ta{x k:Nat}(h:sz x<=k):32*(Ga x).length<=k+31:=by
 have:=Qpc (Dk x);rw[G7]at this;omega
theorem VE{l:Up}(h:Sm l):Uk 182 [lr l] [lr (Ga (val l))]:=zI h ▸ Qy9 l
theorem Qil(l:Up):∀c∈lm l,c.length=1:=λc hc=>by
 obtain⟨x,_,rfl⟩:=Za.1 hc;rfl
theorem KU{l:Up}(h:Sm l)(hs:sz (val l)<=4294967296):Uk 219 [lr l] [lr (Ga (val l))] :=
 Uh func219 rfl [.k (VE h),.s (Qil (Ga (val l)))] rfl rfl (by have:=Ta hs;simp[U0,Hr,U6];omega)
theorem HC{a:Up}(ha:Sm a):∃p,Uk 182 [lr a] [lr p]/\kB p/\val p=val a/\p.length<=a.length/\p=Ga (val a) :=
 ⟨_,VE ha,Dk _,G7 _,by rw[<-zI ha];exact(vC a).1.1,rfl⟩
theorem Qee{a b:Up}(ha:Sm a)(hb:Sm b):Uk 213 [lr a,lr b] [.oi (ZF (val a) (val b))]:=by
 refine Fu func213 rfl (ln 0 rfl rfl λhl=>ln 1 rfl rfl λhl'=>?_);rw[U6]at hl hl';obtain⟨p,ca,np,vp,lp',_⟩:=HC ha;obtain⟨q,cb,nq,vq,lq,_⟩:=HC hb;rw[<-vp,<-vq];by_cases h:p.length=q.length
 ·refine go tt [.k ca,.k cb,.f (by simp[U6,h])] rfl (by simp[U0,Hr,U6] <;> omega) ?_;refine Uj (S:=Int) 0 (λL1 i=>(5,.v (.oi i))::L1) (λ_=>[]) (λi=>(i+1).toNat) (λi=>-1<=i/\i<p.length/\p.drop (i+1).toNat=q.drop (i+1).toNat) (((lm p).length:Int)-1) ⟨by omega,by simp[U6];omega,by simp[U6,h]⟩ rfl rfl λi ⟨h1,h2,h3⟩=>?_
  rcases Kd i 0 with hi|hi
  ·obtain rfl:i=-1:=by omega
   exact Ug [.f (by decide)] rfl (by rw[eH];exact congrArg val (by simpa using h3)) trivial
  ·obtain⟨k,rfl⟩:=Kk hi;have e:((k:Int)+1).toNat=k+1:=by omega
   rw[e]at h3;obtain⟨x,hx⟩:=gxE (l:=p) (i:=k) (by omega);obtain⟨y,hy⟩:=gxE (l:=q) (i:=k) (by omega);rcases Kn x y with hxy|rfl|hxy
   ·exact Ug [.t (by simp),.x (Gz hx),.x (Gz hy),.t (by simp;omega)] rfl (by rw[MF (Qao np.1 h3 hx hy hxy)]) (by simp[U0,Hr,U6] <;> omega)
   ·refine go tt [.t (by simp),.x (Gz hx),.x (Gz hy),.f (by simp),.x (Gz hx),.x (Gz hy),.f (by simp)] rfl (by simp[U0,Hr,U6] <;> omega) ?_;exact rd ((k:Int)-1) (by omega) ⟨by omega,by omega,by rw[show((k:Int)-1+1).toNat=k from by omega];exact Qb6 h3 hx hy⟩ rfl
   ·exact Ug [.t (by simp),.x (Gz hx),.x (Gz hy),.f (by simp;omega),.x (Gz hx),.x (Gz hy),.t (by simp;omega)] rfl (by rw[MU (Qao nq.1 h3.symm hy hx hxy)]) (by simp[U0,Hr,U6] <;> omega)
 ·by_cases h2:p.length<q.length
  ·exact Ug [.k ca,.k cb,.t (by simp[U6];omega),.t (by simp[U6];omega)] rfl (by rw[MF (Dz np nq h2)]) (by simp[U0,Hr])
  ·exact Ug [.k ca,.k cb,.t (by simp[U6];omega),.f (by simp[U6];omega)] rfl (by rw[MU (Dz nq np (by omega))]) (by simp[U0,Hr])
theorem WT(m:Nat):List.replicate m [LV.int .u32 0]=lm (List.replicate m 0):=by simp[lm]
theorem Cj(l:Up)(i x:Nat):(lm l).set i [.int .u32 (x:Int)]=lm (l.set i x):=by simp[lm,Vs]
theorem Du{a b:Int}(h:a=b):TV.one (LV.int .u64 a)=.one (.int .u64 b):=h ▸ rfl
theorem Ei{a b:Int}(h:a=b):TV.one (LV.int .u32 a)=.one (.int .u32 b):=h ▸ rfl
theorem eI{a b:Int}(h:a=b):TV.one (LV.int .i64 a)=.oi b:=h ▸ rfl
theorem xQ(z:Int):IntKind.u32.wrap z=z % 4294967296:=by simp[IntKind.wrap,IntKind.bits,IntKind.signed]
theorem w64(z:Int):IntKind.u64.wrap z=z % 18446744073709551616:=by simp[IntKind.wrap,IntKind.bits,IntKind.signed]
theorem Qrn{a b:Up}(ha:Sm a)(hb:Sm b)(h1:sz (val a)<=4294967296)(h2:sz (val b)<=4294967296):Uk 307 [lr a,lr b] [lr (Ga (val a+val b))]:=by
 refine Fu func307 rfl ?_;obtain⟨p,ca,np,vp,_,ep⟩:=HC ha;obtain⟨q,cb,nq,vq,_,eq⟩:=HC hb;have lp':=Ta h1;have lq:=Ta h2;rw[<-ep]at lp';rw[<-eq]at lq;rw[<-vp,<-vq];refine Ue [.k ca,.k cb] rfl ?_;refine ct 1 (S:=Up×Up) (λs=>[(0,.v (lr s.1)),(1,.v (lr s.2))]) (λ_=>[]) (λs=>kB s.1/\kB s.2/\32*s.1.length<=4294967327/\s.2.length<=s.1.length/\val s.1+val s.2=val p+val q) rfl ?_ ?_
 ·by_cases h:p.length<q.length
  ·exact go tt [.t (by simp[U6];omega)] rfl trivial (rc (q,p) ⟨nq,np,lq,Yk h,Jv _ _⟩ rfl)
  ·exact go tt [.f (by simp[U6];omega)] rfl trivial (rc (p,q) ⟨np,nq,lp',J8 h,rfl⟩ rfl)
 ·intro⟨p',q'⟩ ⟨np,nq,hp,hq,e⟩;dsimp only at np nq hp hq e;rw[<-e];clear ca cb e vp vq ep eq;refine go tt [.i ((lm p').length+1),.i ((lm p').length+1)] rfl (by simp[U0,Hr,U6] <;> omega) ?_;rw[WT];refine lp (S:=Nat×Up×Nat) 1 (λL1 s=>(27,.v (.oi (s.1:Int)))::(6,.v (.one (.int .u64 (s.2.2:Int))))::L1) (λs=>[.row false 151 1 (lm s.2.1)]) (λs=>p'.length-s.1)
   (λs=>s.1<=p'.length/\s.2.1.length=p'.length+1/\Sm s.2.1/\s.2.2<=1/\val (s.2.1.take s.1)+s.2.2*4294967296^s.1=val (p'.take s.1)+val (q'.take s.1)) (0,List.replicate ((lm p').length+1) 0,0)
   ⟨Qh _,by simp[U6],λx hx=>by rw[Zw hx];decide,Qh _,by simp[val]⟩ rfl (λ_ _=>rfl) rfl λ⟨i,o,c⟩ ⟨j1,j2,j3,j4,j5⟩=>?_
  dsimp only at j1 j2 j3 j4 j5 ⊢;by_cases hi:i<p'.length
  ·obtain⟨x,hx⟩:=gxE (l:=p') (i:=i) hi;have xb:=np.1 x (Qc hx);have fin:∀y s,(q'[i]? = some y\/q'.length<=i/\y=0)->y<4294967296->s=x+c+y->p'.length-(i+1)<p'.length-i/\i+1<=p'.length/\(o.set i (s % 4294967296)).length=p'.length+1/\Sm (o.set i (s % 4294967296))/\s / 4294967296<=1 /\
    val ((o.set i (s % 4294967296)).take (i+1))+s / 4294967296*4294967296^(i+1)=val (p'.take (i+1))+val (q'.take (i+1)):=λy s hy hyb hs =>
    ⟨by omega,hi,by simp[j2],Bm j3 i _ (by omega),by omega,kC (by omega) hx hy j5 hs⟩
   by_cases hi2:i<q'.length
   ·obtain⟨y,hy⟩:=gxE (l:=q') (i:=i) hi2;have yb:=nq.1 y (Qc hy);refine go tt [.t (by simp[U6];omega),.x (Gz hx),.t (by simp[U6];omega),.x (Gz hy),.w 2,.r 50 (v:=.one (.int .u32 (((x+c+y) % 4294967296:Nat):Int))) (by simp[IntKind.wrap,IntKind.bits,IntKind.signed]),.i 32,.r 52 (v:=.one (.int .u64 (((x+c+y) / 4294967296:Nat):Int))) (by simp),.i i] rfl (by simp[U0,Hr,U6,IntKind.bits] <;> omega) ?_;rw[Cj];exact rd (i+1,o.set i ((x+c+y) % 4294967296),(x+c+y) / 4294967296) (fin y _ (.inl hy) yb rfl).1 (fin y _ (.inl hy) yb rfl).2 rfl
   ·refine go tt [.t (by simp[U6];omega),.x (Gz hx),.f (by simp[U6];omega),.w 0,.r 50 (v:=.one (.int .u32 (((x+c+0) % 4294967296:Nat):Int))) (by simp[IntKind.wrap,IntKind.bits,IntKind.signed]),.i 32,.r 52 (v:=.one (.int .u64 (((x+c+0) / 4294967296:Nat):Int))) (by simp),.i i] rfl (by simp[U0,Hr,U6,IntKind.bits] <;> omega) ?_;rw[Cj];exact rd (i+1,o.set i ((x+c+0) % 4294967296),(x+c+0) / 4294967296) (fin 0 _ (.inr ⟨by omega,rfl⟩) (by decide) rfl).1 (fin 0 _ (.inr ⟨by omega,rfl⟩) (by decide) rfl).2 rfl
  ·obtain rfl:i=p'.length:=by omega
   refine go tt [.f (by simp[U6]),.w 0,.r 59 (v:=.one (.int .u32 (c:Int))) (by simp[IntKind.wrap,IntKind.bits,IntKind.signed];omega),.i (lm p').length] rfl (by simp[U0,Hr,U6,j2]) ?_;rw[U6,Cj];have e:val (o.set p'.length c)=val p'+val q':=by
    have h1:=ZJ o p'.length c (by omega);rw[Qo (by simp;omega)]at h1;rw[Qo (Ql _),Qo hq]at j5;rw[h1,<-j5,Zq]
   rw[<-e];exact Ug [.k (VE (Bm j3 _ c (by omega)))] rfl
theorem uQ{x y:Nat}:ZF x y<0↔x<y:=by unfold ZF;split <;> (try split) <;> omega
theorem Qrs{a b:Up}(ha:Sm a)(hb:Sm b)(h1:sz (val a)<=4294967296):Uk 308 [lr a,lr b] (if val b<=val a then [lr (Ga (val a-val b)),.one (.bool true)]else [lr [],.one (.bool false)]):=by
 refine Fu func308 rfl ?_;obtain⟨p,ca,np,vp,_,ep⟩:=HC ha;obtain⟨q,cb,nq,vq,_,_⟩:=HC hb;have hp:=Ta h1;rw[<-ep]at hp;rw[<-vp,<-vq];have cc:=Qee np.1 nq.1;by_cases hlt:val p<val q
 ·rw[if_neg (by omega)];exact Ug [.k ca,.k cb,.k cc,.t (by simpa using uQ.2 hlt)] rfl
 rw[if_pos (by omega)];have hq:q.length<=p.length:=J8 λh=>hlt (Dz np nq h)
 refine go tt [.k ca,.k cb,.k cc,.f (by have:=mt uQ.1 hlt;simpa using this),.i (lm p).length,.i (lm p).length] rfl (by simp[U0,Hr,U6] <;> omega) ?_;rw[WT];refine lp (S:=Nat×Up×Nat) 1 (λL1 s=>(24,.v (.oi (s.1:Int)))::(7,.v (.one (.int .u64 (s.2.2:Int))))::L1) (λs=>[.row false 151 1 (lm s.2.1)]) (λs=>p.length-s.1)
  (λs=>s.1<=p.length/\s.2.1.length=p.length/\Sm s.2.1/\s.2.2<=1/\val (s.2.1.take s.1)+val (q.take s.1)=val (p.take s.1)+s.2.2*4294967296^s.1) (0,List.replicate (lm p).length 0,0)
  ⟨Qh _,by simp[U6],λx hx=>by rw[Zw hx];decide,Qh _,by simp[val]⟩ rfl (λ_ _=>rfl) rfl λ⟨i,o,c⟩ ⟨j1,j2,j3,j4,j5⟩=>?_
 dsimp only at j1 j2 j3 j4 j5 ⊢;by_cases hi:i<p.length
 ·obtain⟨x,hx⟩:=gxE (l:=p) (i:=i) hi;have xb:=np.1 x (Qc hx);have fin:∀y s,(q[i]? = some y\/q.length<=i/\y=0)->y<4294967296->s=(x+18446744073709551616-c-y) % 18446744073709551616->p.length-(i+1)<p.length-i/\i+1<=p.length/\(o.set i (s % 4294967296)).length=p.length/\Sm (o.set i (s % 4294967296))/\s / 9223372036854775808<=1 /\
   val ((o.set i (s % 4294967296)).take (i+1))+val (q.take (i+1))=val (p.take (i+1))+s / 9223372036854775808*4294967296^(i+1):=λy s hy hyb hs=>by
   obtain⟨h1,h2⟩:=Qk4 (o:=o) (by omega) hx hy xb hyb j4 j5 hs;exact⟨by omega,hi,by simp[j2],Bm j3 i _ (by omega),h2,h1⟩
  by_cases hi2:i<q.length
  ·obtain⟨y,hy⟩:=gxE (l:=q) (i:=i) hi2;have yb:=nq.1 y (Qc hy);obtain⟨s,hs⟩:=nmE ((x+18446744073709551616-c-y) % 18446744073709551616);refine go tt [.t (by simp[U6];omega),.x (Gz hx),.w 1,.r 32 (Du (b:=(((x+18446744073709551616-c) % 18446744073709551616:Nat):Int)) (by rw[w64];omega)),.t (by simp[U6];omega),.x (Gz hy),.w 1,.r 43 (Du (b:=(s:Int)) (by rw[w64];omega)),.w 0,.r 47 (Ei (b:=((s % 4294967296:Nat):Int)) (by rw[xQ];omega)),.i 63,.r 49 (Du (b:=((s / 9223372036854775808:Nat):Int)) (by simp)),.i i] rfl (by simp[U0,Hr,U6,IntKind.bits] <;> omega) ?_;rw[Cj];exact rd (i+1,o.set i (s % 4294967296),s / 9223372036854775808) (fin y _ (.inl hy) yb hs).1 (fin y _ (.inl hy) yb hs).2 rfl
  ·obtain⟨s,hs⟩:=nmE ((x+18446744073709551616-c-0) % 18446744073709551616);have hf:=fin 0 _ (.inr ⟨by omega,rfl⟩) (by decide) hs;refine go tt [.t (by simp[U6];omega),.x (Gz hx),.w 1,.r 32 (Du (b:=(s:Int)) (by rw[w64];omega)),.f (by simp[U6];omega),.w 0,.r 47 (Ei (b:=((s % 4294967296:Nat):Int)) (by rw[xQ];omega)),.i 63,.r 49 (Du (b:=((s / 9223372036854775808:Nat):Int)) (by simp)),.i i] rfl (by simp[U0,Hr,U6,IntKind.bits] <;> omega) ?_;rw[Cj];exact rd (i+1,o.set i (s % 4294967296),s / 9223372036854775808) hf.1 hf.2 rfl
 ·obtain rfl:i=p.length:=by omega
  have e:val o=val p-val q:=by
   rw[Qo (Nat.le_of_eq j2),Qo hq,Qo (Ql _)]at j5;have h1:=Bq o j3;rw[j2]at h1;rcases Nat.le_one_iff_eq_zero_or_eq_one.1 j4 with rfl|rfl <;> omega
  rw[<-e];exact Ug [.f (by simp[U6]),.k (VE j3)] rfl
theorem Qxr{a b:Up}(ha:Sm a)(hb:Sm b)(h1:sz (val a)<=4294967296)(h2:sz (val b)<=4294967296):Uk 113 [lr a,lr b] [lr (Ga (val a*val b))]:=by
 refine Fu func113 rfl ?_;obtain⟨p,ca,np,vp,_,ep⟩:=HC ha;obtain⟨q,cb,nq,vq,_,eq⟩:=HC hb;have hp:=Ta h1;have hq:=Ta h2;rw[<-ep]at hp;rw[<-eq]at hq;rw[<-vp,<-vq];refine go tt [.k ca,.k cb,.i ((lm p).length+(lm q).length),.i ((lm p).length+(lm q).length)] rfl (by simp[U0,Hr,U6] <;> omega) ?_;rw[WT];refine lp (S:=Nat×Up) 1 (λL1 s=>(24,.v (.oi (s.1:Int)))::L1) (λs=>[.row false 151 1 (lm s.2)]) (λs=>p.length-s.1)
  (λs=>s.1<=p.length/\s.2.length=p.length+q.length/\Sm s.2/\(∀j,s.1+q.length<=j->j<s.2.length->s.2[j]? = some 0)/\val s.2=val (p.take s.1)*val q) (0,List.replicate ((lm p).length+(lm q).length) 0)
  ⟨Qh _,by simp[U6],λx hx=>by rw[Zw hx];decide,λj _ hj=>by rw[J0,if_pos (by simpa using hj)],by simp[val,TB]⟩ rfl (λ_ _=>rfl) rfl λ⟨i,o⟩ ⟨j1,j2,j3,j4,j5⟩=>?_
 dsimp only at j1 j2 j3 j4 j5 ⊢;by_cases hi:i<p.length
 ·obtain⟨x,hx⟩:=gxE (l:=p) (i:=i) hi;have xb:=np.1 x (Qc hx);refine Ue [.t (by simp[U6];omega),.x (Gz hx)] rfl ?_;refine lp (S:=Nat×Up×Nat) 1 (λL1 s=>(31,.v (.oi (s.1:Int)))::(8,.v (.one (.int .u64 (s.2.2:Int))))::L1) (λs=>[.row false 151 1 (lm s.2.1)]) (λs=>q.length-s.1)
   (λs=>s.1<=q.length/\s.2.1.length=p.length+q.length/\Sm s.2.1/\(∀j,i+q.length<=j->j<s.2.1.length->s.2.1[j]? = some 0)/\s.2.2<4294967296/\val s.2.1+s.2.2*4294967296^(i+s.1)=val (p.take i)*val q+4294967296^i*x*val (q.take s.1)) (0,o,0)
   ⟨Qh _,j2,j3,j4,by simp,by simp[val,j5]⟩ rfl (λ_ _=>rfl) rfl λ⟨k,o',c⟩ ⟨k1,k2,k3,k4,k5,k6⟩=>?_
  dsimp only at k1 k2 k3 k4 k5 k6 ⊢;by_cases hk:k<q.length
  ·obtain⟨y,hy⟩:=gxE (l:=q) (i:=k) hk;have yb:=nq.1 y (Qc hy);obtain⟨z,hz⟩:=gxE (l:=o') (i:=i+k) (by omega);have zb:=k3 z (Qc hz);have hm:=XO xb yb;have hm2:(x:Int)*(y:Int)=((x*y:Nat):Int):=by push_cast;rfl
   obtain⟨s,hs⟩:=nmE (x*y+z+c);refine go tt [.t (by simp[U6];omega),.x (Gz hy),.r 40 (Du (b:=((x*y:Nat):Int)) (by push_cast;rfl)),.i (i+k),.x (Gz hz),.r 50 (Du (b:=(s:Int)) (by omega)),.w 1,.r 56 (Ei (b:=((s % 4294967296:Nat):Int)) (by rw[xQ];omega)),.i 32,.r 58 (Du (b:=((s / 4294967296:Nat):Int)) (by simp)),.i (i+k)] rfl ?_ ?_
   ·simp[U0,Hr,U6,IntKind.bits] <;> omega
   ·rw[Cj];exact rd (k+1,o'.set (i+k) (s % 4294967296),s / 4294967296) (show q.length-(k+1)<q.length-k by omega) ⟨hk,by simp[k2],Bm k3 _ _ (by omega),λj h3 h4=>by
     rw[Yg (by omega)];exact k4 j h3 (by simpa using h4),(show s / 4294967296<4294967296 from by omega),Qiz hz hy k6 hs⟩ rfl
  ·obtain rfl:k=q.length:=by omega
   by_cases hq0:0<q.length
   ·refine go tt [.f (by simp[U6]),.t (by simp[U6];omega),.w 1,.r 70 (Ei (b:=((c % 4294967296:Nat):Int)) (by rw[xQ];omega)),.i (i+(lm q).length)] rfl (by simp[U0,Hr,U6,IntKind.bits] <;> omega) ?_;rw[Cj];refine rd (i+1,o'.set (i+(lm q).length) (c % 4294967296)) (show p.length-(i+1)<p.length-i by omega) ⟨hi,by simp[k2],Bm k3 _ _ (by omega),λj h3 h4=>?_,?_⟩ rfl
    ·rw[U6,List.getElem?_set_ne (by dsimp only at h3;omega)];exact k4 j (by dsimp only at h3;omega) (by simpa using h4)
    ·rw[U6];exact Qiy (k4 _ (Ql _) (by omega)) hx k5 rfl k6
   ·have q0:q=[]:=Qj (by omega);refine go tt [.f (by simp[U6]),.f (by simp[U6,q0])] rfl (by simp[U0,Hr,U6,IntKind.bits] <;> omega) ?_;refine rd (i+1,o') (show p.length-(i+1)<p.length-i by omega) ⟨hi,k2,k3,λj h3 h4=>k4 j (by dsimp only at h3;omega) h4,?_⟩ rfl;have c0:c*4294967296^(i+q.length)=0/\val o'=0:=by
     subst q0;simp only[val,List.take_nil,Yz]at k6;omega
    rw[c0.2,q0];rfl
 ·obtain rfl:i=p.length:=by omega
  rw[Qo (Ql _)]at j5;rw[<-j5];exact Ug [.f (by simp[U6]),.k (VE j3)] rfl
theorem o64{k q:Nat}(hq:q<4294967296)(hb:4294967296*k+q<18446744073709551616):orI .u64 ((4294967296*k:Nat):Int) (q:Int)=((4294967296*k+q:Nat):Int):=by
 have e1:(BitVec.ofInt 64 ((4294967296*k:Nat):Int)).toNat=4294967296*k:=by rw[BitVec.toNat_ofInt];omega
 have e2:(BitVec.ofInt 64 (q:Int)).toNat=q:=by rw[BitVec.toNat_ofInt];omega
 show IntKind.u64.wrap ((BitVec.ofInt 64 ((4294967296*k:Nat):Int) ||| BitVec.ofInt 64 (q:Int)).toNat:Int)=_;rw[BitVec.toNat_or,e1,e2,Qvs hq,w64];omega
theorem oM{k p:Nat}(hp:p<4294967296)(hb:4294967296*k+p<18446744073709551616):orI .u64 (p:Int) ((4294967296*k:Nat):Int)=((4294967296*k+p:Nat):Int):=by
 have:=o64 hp hb;unfold orI at this ⊢;rw[BitVec.or_comm];exact this
theorem o32{s k p:Nat}(hp:p<2^s)(h1:p<4294967296)(h2:2^s*k<4294967296)(hb:p+2^s*k<4294967296):orI .u32 (p:Int) ((2^s*k:Nat):Int)=((p+2^s*k:Nat):Int):=by
 have e1:(BitVec.ofInt 32 ((2^s*k:Nat):Int)).toNat=2^s*k:=by rw[BitVec.toNat_ofInt];omega
 have e2:(BitVec.ofInt 32 (p:Int)).toNat=p:=by rw[BitVec.toNat_ofInt];omega
 have e3:p ||| 2^s*k=p+2^s*k:=by
  have:=Ws (i:=s) (b:=p) hp k;rw[Nat.or_comm,<-this,Jv]
 show IntKind.u32.wrap ((BitVec.ofInt 32 (p:Int) ||| BitVec.ofInt 32 ((2^s*k:Nat):Int)).toNat:Int)=_;rw[BitVec.toNat_or,e1,e2,e3,xQ];omega
theorem Qx0{l:Up}{v:Nat}(hl:Sm l)(hn:l.length<274877906944)(h0:0<v)(hv:v<4294967296):Uk 302 [lr l,.one (.int .u32 (v:Int))] [lr (Ga (val l / v)),.one (.int .u32 ((val l % v:Nat):Int))]:=by
 refine Fu func302 rfl ?_;refine go tt [.i (lm l).length,.i (lm l).length] rfl (by simp[U0,Hr,U6] <;> omega) ?_;rw[WT];refine lp (S:=Int×Up×Nat) 1 (λL1 s=>(8,.v (.oi s.1))::(7,.v (.one (.int .u64 (s.2.2:Int))))::L1) (λs=>[.row false 151 1 (lm s.2.1)]) (λs=>(s.1+1).toNat)
  (λs=>-1<=s.1/\s.1<l.length/\s.2.1.length=l.length/\Sm s.2.1/\s.2.2<v/\val (l.drop (s.1+1).toNat)=v*val (s.2.1.drop (s.1+1).toNat)+s.2.2) (((lm l).length:Int)-1,List.replicate (lm l).length 0,0)
  ⟨by simp[U6];omega,by simp[U6];omega,by simp[U6],λx hx=>by rw[Zw hx];decide,h0,by simp[U6,val]⟩ rfl (λ_ _=>rfl) rfl λ⟨i,o,r⟩ ⟨j1,j2,j3,j4,j5,j6⟩=>?_
 dsimp only at j1 j2 j3 j4 j5 j6 ⊢;rcases Kd i 0 with hi|hi
 ·obtain rfl:i=-1:=by omega
  simp only[show((-1:Int)+1).toNat=0 from rfl,Xx]at j6;have e1:val l / v=val o:=by rw[j6,Ua h0,V2 j5,Xm]
  have e2:val l % v=r:=by rw[j6,Ub,Xt j5]
  rw[e1,e2];exact Ug [.f (by decide),.k (VE j4)] rfl rfl (by simp[U0,Hr,U6,IntKind.bits] <;> omega)
 ·obtain⟨k,rfl⟩:=Kk hi;have e:((k:Int)+1).toNat=k+1:=by omega
  rw[e]at j6;obtain⟨x,hx⟩:=gxE (l:=l) (i:=k) (by omega);have xb:=hl x (Qc hx);obtain⟨s,hs⟩:=nmE (r*4294967296+x);obtain⟨k1,k2,k3⟩:=Qja hx xb (show k<o.length by omega) h0 j5 j6 hs;obtain⟨q,hq⟩:=nmE (s / v);obtain⟨u,hu⟩:=nmE (s % v);have hqi:(s:Int).tdiv v=(q:Int):=by rw[V6 (by omega),hq];rfl
  have hui:(s:Int).tmod v=(u:Int):=by rw[Y5 (by omega),hu];rfl
  rw[<-hq,<-hu]at k3;rw[<-hq]at k1;rw[<-hu]at k2;refine go tt [.t (by simp),.i 32,.r 21 (Du (b:=((4294967296*r:Nat):Int)) (by omega)),.x (Gz hx),.r 27 (Du (b:=(s:Int)) (by rw[o64 xb (by omega)];omega)),
   .r 33 (Du (b:=(q:Int)) hqi),.w 0,.r 34 (Ei (b:=((q % 4294967296:Nat):Int)) (by rw[xQ];omega)),.r 38 (Du (b:=(u:Int)) hui),.i k] rfl (by simp[U0,Hr,U6,IntKind.bits,hqi] <;> omega) ?_
  rw[Cj];exact rd ((k:Int)-1,o.set k (q % 4294967296),u) (by dsimp only;omega) ⟨by dsimp only;omega,by dsimp only;omega,by simp[j3],Bm j4 _ _ (by omega),k2,by dsimp only;rw[show((k:Int)-1+1).toNat=k from by omega];exact k3⟩ rfl
theorem UX{i:Nat}{s:ByteArray}(h:∀i,i<256->(s[i]?).map (·.toNat)=some (sz i))(hi:i<256):(s[i]?).map (·.toNat)=some (sz i):=h i hi
set_option maxRecDepth 100000 in
theorem lK{x:Nat}(hx:x<4294967296):Uk 301 [.one (.int .u32 (x:Int))] [.oi (sz x:Int)]:=by
 refine Fu func301 rfl ?_;have h31:sz x<=32:=Nl.2 (by omega);by_cases h1:65536<=x
 ·have e1:sz x=16+sz (x / 2^16):=GT (by omega);obtain⟨y,hy⟩:=nmE (x / 2^16);rw[<-hy]at e1;by_cases h2:256<=y
  ·have e2:sz y=8+sz (y / 2^8):=GT (by omega);obtain⟨z,hz⟩:=nmE (y / 2^8);rw[<-hz]at e2;exact Ug [.t (by simp;omega),.i 16,.r 6 (Ei (b:=(y:Int)) (by simp[hy])),.t (by simp;omega),.i 8,.r 10 (Ei (b:=(z:Int)) (by simp[hz])),.y (UX (i:=z) (by decide) (by omega))] rfl (by rw[e1,e2];simp;omega) (by simp[U0,Hr,IntKind.bits] <;> omega)
  ·exact Ug [.t (by simp;omega),.i 16,.r 6 (Ei (b:=(y:Int)) (by simp[hy])),.f (by simp;omega),.y (UX (i:=y) (by decide) (by omega))] rfl (by rw[e1];simp) (by simp[U0,Hr,IntKind.bits] <;> omega)
 ·by_cases h2:256<=x
  ·have e2:sz x=8+sz (x / 2^8):=GT (by omega);obtain⟨z,hz⟩:=nmE (x / 2^8);rw[<-hz]at e2;exact Ug [.f (by simp;omega),.t (by simp;omega),.i 8,.r 10 (Ei (b:=(z:Int)) (by simp[hz])),.y (UX (i:=z) (by decide) (by omega))] rfl (by rw[e2];simp) (by simp[U0,Hr,IntKind.bits] <;> omega)
  ·exact Ug [.f (by simp;omega),.f (by simp;omega),.y (UX (i:=x) (by decide) (by omega))] rfl (by simp) (by simp[U0,Hr,IntKind.bits] <;> omega)
theorem Qtk{x:Nat}(hx:x<4294967296):Uk 303 [.one (.int .u32 (x:Int))] [.oi ((32-sz x:Nat):Int)]:=by
 have h31:sz x<=32:=Nl.2 (by omega);exact Uh func303 rfl [.k (lK hx)] rfl (by simp;omega) (by simp[U0,Hr] <;> omega)
theorem pC{l:Up}(hl:Sm l)(hs:sz (val l)<=4294967296):Uk 267 [lr l] [.oi (sz (val l):Int)]:=by
 refine Fu func267 rfl ?_;obtain⟨p,ca,np,vp,_,ep⟩:=HC hl;have hp:=Ta hs;rw[<-ep]at hp;rw[<-vp]at hs ⊢;by_cases h0:p=[]
 ·subst h0;exact Ug [.k ca,.t (by simp[lm])] rfl rfl (by simp[U0,Hr])
 ·have hpl:0<p.length:=J4.2 h0;obtain⟨x,hx,hx0⟩:=np.2 h0;have xb:=np.1 x (Qc hx);have e:=dG np hx;have h31:sz x<=32:=Nl.2 (by omega);have hn:(lm p).length≠0:=by rw[U6];omega
  refine Ug [.k ca,.f (by simp[U6];omega),.r 15 (eI (b:=((p.length-1:Nat):Int)) (by rw[U6];omega)),.x (Gz hx),.k (lK xb)] rfl (by rw[e,U6];simp;omega) (by simp[U0,Hr,U6] <;> omega)
theorem tZ{s:Nat}(h:s<=31):((s:Nat):Int).tdiv 32=((0:Nat):Int):=by
 rw[V6 (by omega)];omega
theorem Qj5{s:Nat}(h:s<=31):((s:Nat):Int).tmod 32=(s:Int):=Int.tmod_eq_of_lt (by omega) (by omega)
theorem Qvh{s:Nat}(h:s<=31):max 0 (min (s:Int) 65536)=(s:Int):=by omega
theorem Qxv{a:Up}{s:Nat}(ha:Sm a)(h1:sz (val a)<=4294967400)(hs:s<=31):Uk 332 [lr a,.oi s] [lr (Ga (val a*2^s))]:=by
 refine Fu func332 rfl ?_;obtain⟨p,ca,np,vp,_,ep⟩:=HC ha;have hp:=Ta h1;rw[<-ep]at hp;rw[<-vp];have hq:((s:Nat):Int).tdiv 32=0:=tZ hs;by_cases h0:p=[]
 ·subst h0;exact Ug [.k ca,.t (by simp[lm])] rfl (by simp[val,G9,lm]) (by simp[U0,Hr])
 have hpl:0<p.length:=J4.2 h0;refine go tt [.k ca,.r 15 (eI (b:=(s:Int)) (Qvh hs)),.f (by simp[U6];omega),.r 20 (eI (b:=((0:Nat):Int)) (tZ hs)),.r 22 (eI (b:=(s:Int)) (Qj5 hs)),.r 28 (eI (b:=(((lm p).length+1:Nat):Int)) (by omega)),.i ((lm p).length+1),.i ((lm p).length+1)] rfl (by have e:=U6 p;simp only[U0,Hr];omega) ?_;rw[WT];refine lp (S:=Nat×Up) 1 (λL1 s=>(32,.v (.oi (s.1:Int)))::L1) (λs=>[.row false 151 1 (lm s.2)]) (λs=>p.length-s.1)
  (λr=>r.1<=p.length/\r.2.length=p.length+1/\Sm r.2/\(∃z,r.2[r.1]? = some z/\z<2^s)/\val (r.2.take (r.1+1))=val (p.take r.1)*2^s) (0,List.replicate ((lm p).length+1) 0)
  ⟨Qh _,by simp[U6],λx hx=>by rw[Zw hx];decide,⟨0,by simp,Z3 (by decide)⟩,by simp[val,J5]⟩ rfl (λ_ _=>rfl) rfl λ⟨i,o⟩ ⟨j1,j2,j3,⟨z,hz,hzs⟩,j5⟩=>?_
 dsimp only at j1 j2 j3 hz hzs j5 ⊢;by_cases hi:i<p.length
 ·obtain⟨x,hx⟩:=gxE (l:=p) (i:=i) hi;have xb:=np.1 x (Qc hx);have zb:=j3 z (Qc hz);obtain⟨k1,k2,k3,k4⟩:=Qkr hs hx xb hz hzs (by omega) j5;have hxs:=Qv8 hs xb;have h31:2^s<=2^31:=Zs (by decide) hs;have ec:(x:Int)*2^s=((x*2^s:Nat):Int):=by push_cast;rfl
  obtain⟨m,hm⟩:=nmE (x*2^s);rw[<-hm]at k1 k2 k3 k4 hxs ec;refine go tt [.t (by simp[U6];omega),.x (Gz hx),.i s,.r 40 (Du (b:=(m:Int)) ec),.i i,.x (Gz hz),.w 0,.r 52 (Ei (b:=((m % 4294967296:Nat):Int)) (by rw[xQ];omega)),.r 53 (Ei (b:=((z+m % 4294967296:Nat):Int)) (by rw[k4,o32 hzs zb (by omega) (by omega)])),.i i,
   .i 32,.r 61 (Du (b:=((m / 2^32:Nat):Int)) (by simp)),.w 0,.r 62 (Ei (b:=((m / 2^32 % 4294967296:Nat):Int)) (by rw[xQ];omega)),.i (i+1)] rfl (by simp[U0,Hr,U6,IntKind.bits,ec] <;> omega) ?_
  rw[Cj,Cj];exact rd (i+1,(o.set i (z+m % 4294967296)).set (i+1) (m / 2^32 % 4294967296)) (show p.length-(i+1)<p.length-i by omega) ⟨hi,by simp[j2],Bm (Bm j3 _ _ (by omega)) _ _ (by omega),⟨_,by rw[X9 (by simp;omega)],by omega⟩,k3⟩ rfl
 ·obtain rfl:i=p.length:=by omega
  rw[Qo (by omega),Qo (Ql _)]at j5;rw[<-j5];exact Ug [.f (by simp[U6]),.k (VE j3)] rfl
theorem Qxw{a:Up}{s:Nat}(ha:Sm a)(h1:sz (val a)<=4294967400)(hs:s<=31):Uk 306 [lr a,.oi s] [lr (Ga (val a / 2^s))]:=by
 refine Fu func306 rfl ?_;obtain⟨p,ca,np,vp,_,ep⟩:=HC ha;have hp:=Ta h1;rw[<-ep]at hp;rw[<-vp];have hq:((s:Nat):Int).tdiv 32=0:=tZ hs;by_cases h0:p=[]
 ·subst h0;exact Ug [.k ca,.r 14 (eI (b:=(s:Int)) (Qvh hs)),.r 16 (eI (b:=((0:Nat):Int)) (tZ hs)),.r 18 (eI (b:=(s:Int)) (Qj5 hs)),.t (by simp[lm])] rfl (by simp[val,G9,lm]) (by simp only[U0,Hr];omega)
 have hpl:0<p.length:=J4.2 h0;refine go tt [.k ca,.r 14 (eI (b:=(s:Int)) (Qvh hs)),.r 16 (eI (b:=((0:Nat):Int)) (tZ hs)),.r 18 (eI (b:=(s:Int)) (Qj5 hs)),.f (by simp[U6];omega),.r 27 (eI (b:=((lm p).length:Int)) (by omega)),.i (lm p).length,.i (lm p).length] rfl (by have e:=U6 p;simp only[U0,Hr];omega) ?_;rw[WT];refine lp (S:=Nat×Up) 1 (λL1 s=>(31,.v (.oi (s.1:Int)))::L1) (λs=>[.row false 151 1 (lm s.2)]) (λs=>p.length-s.1)
  (λr=>r.1<=p.length/\r.2.length=p.length/\Sm r.2/\val (r.2.take r.1)=val p / 2^s % 4294967296^r.1) (0,List.replicate (lm p).length 0)
  ⟨Qh _,by simp[U6],λx hx=>by rw[Zw hx];decide,by simp[val];omega⟩ rfl (λ_ _=>rfl) rfl λ⟨i,o⟩ ⟨j1,j2,j3,j5⟩=>?_
 dsimp only at j1 j2 j3 j5 ⊢;by_cases hi:i<p.length
 ·obtain⟨x,hx⟩:=gxE (l:=p) (i:=i) hi;have xb:=np.1 x (Qc hx);have fin:∀y m,(p[i+1]? = some y\/p.length<=i+1/\y=0)->m=(x+y*2^32) / 2^s->p.length-(i+1)<p.length-i/\i+1<=p.length/\(o.set i (m % 4294967296)).length=p.length/\Sm (o.set i (m % 4294967296))/\val ((o.set i (m % 4294967296)).take (i+1))=val p / 2^s % 4294967296^(i+1):=λy m hy hm =>
   ⟨by omega,hi,by simp[j2],Bm j3 _ _ (by omega),by subst hm;exact Qks hs hx hy (by omega) np.1 j5⟩
  have hsp:0<2^s:=Z3 (by decide);by_cases hy0:i+1<p.length
  ·obtain⟨y,hy⟩:=gxE (l:=p) (i:=i+1) hy0;have yb:=np.1 y (Qc hy);obtain⟨v,hv⟩:=nmE (4294967296*y+x);obtain⟨m,hm⟩:=nmE (v / 2^s);have hml:m<=v:=hm ▸ Jr _ _;have hf:=fin y m (.inl hy) (by rw[hm,hv];congr 1;omega);refine go tt [.t (by simp[U6];omega),.x (Gz hx),.t (by simp[U6];omega),.x (Gz hy),.i 32,.r 57 (Du (b:=((4294967296*y:Nat):Int)) (by omega)),.r 58 (Du (b:=(v:Int)) (by rw[oM xb (by omega)];omega)),
    .i s,.r 63 (Du (b:=(m:Int)) (by rw[hm];push_cast;rfl)),.w 0,.r 64 (Ei (b:=((m % 4294967296:Nat):Int)) (by rw[xQ];omega)),.i i] rfl (by simp[U0,Hr,U6,IntKind.bits] <;> omega) ?_
   rw[Cj];exact rd (i+1,o.set i (m % 4294967296)) hf.1 hf.2 rfl
  ·obtain⟨m,hm⟩:=nmE (x / 2^s);have hml:m<=x:=hm ▸ Jr _ _;have hf:=fin 0 m (.inr ⟨by omega,rfl⟩) (by rw[hm];simp);refine go tt [.t (by simp[U6];omega),.x (Gz hx),.f (by simp[U6];omega),
    .i s,.r 63 (Du (b:=(m:Int)) (by rw[hm];push_cast;rfl)),.w 0,.r 64 (Ei (b:=((m % 4294967296:Nat):Int)) (by rw[xQ];omega)),.i i] rfl (by simp[U0,Hr,U6,IntKind.bits] <;> omega) ?_
   rw[Cj];exact rd (i+1,o.set i (m % 4294967296)) hf.1 hf.2 rfl
 ·obtain rfl:i=p.length:=by omega
  have hvl:=Bq p np.1;rw[Qo (by omega),Xt (Z4 (Jr _ _) hvl)]at j5;rw[<-j5];exact Ug [.f (by simp[U6,j2]),.k (VE j3)] rfl
def uR:Nat->Nat->Up
 | 0,_=>[]
 |k+1,v=>v % 4294967296::uR k (v / 4294967296)
theorem Qgx:∀{l:Up},Sm l->l=uR l.length (val l)
 | [],_=>rfl
 |
  x::l,h=>by
  have hx:=h x (.head _);have ih:=Qgx (l:=l) λy hy=>h y (.tail _ hy)
  simp only[Q5,uR,val];rw[show(x+4294967296*val l) % 4294967296=x by omega,show(x+4294967296*val l) / 4294967296=val l by omega,<-ih]
theorem mB{l:Up}{k v:Nat}(h:Sm l)(hk:l.length=k)(hv:val l=v):uR k v=l:=by
 rw[<-hk,<-hv];exact(Qgx h).symm
theorem jY:∀{k v:Nat},(uR k v).length=k/\Sm (uR k v)/\(v<4294967296^k->val (uR k v)=v)
 | 0,v=>⟨rfl,λx hx=>by(cases hx),λh=>by simp at h;subst h;rfl⟩
 |
  k+1,v=>by
  obtain⟨h1,h2,h3⟩:=jY (k:=k) (v:=v / 4294967296);refine⟨by simp[uR,h1],λx hx=>?_,λh=>?_⟩
  ·rcases Qm.1 hx with rfl|hx
   ·exact Z5 _ (by decide)
   ·exact h2 x hx
  ·simp only[uR,val];rw[h3 (by rw[Zr]at h;exact X8 (by rw[Zq];exact h))];omega
theorem Qgg{a:Up}{s n:Nat}(ha:Sm a)(h1:sz (val a)<=4294967400)(hs:s<=31)(hn:n<274877906944)(h0:0<n)(hv:val a*2^s<4294967296^n) :
 U5 prog 304 [lr a,.oi s,.oi n] [] [.one (.orow 0 1 none)] [.row false 151 1 (lm (uR n (val a*2^s)))]:=by
 refine Fu func304 rfl ?_;obtain⟨v,hvv⟩:=nmE (val a*2^s);have cs:=Qxv ha h1 hs;rw[<-hvv]at cs hv ⊢;have hl:(Ga v).length<=n:=by
  apply Classical.byContradiction;intro hh;have h2:=FP (Dk v) (λe=>by rw[e]at hh;simp at hh);rw[G7]at h2;have h3:4294967296^n<=4294967296^((Ga v).length-1):=Zs (by decide) (by omega);omega
 refine go tt [.i n,.i n,.k cs,.s (Qil (Ga v)),.i (Ga v).length] rfl (by simp[U0,Hr,U6] <;> omega) ?_;have e:List.take 0 (List.replicate n [LV.int .u32 0])++(List.take (Ga v).length (lm (Ga v))++List.drop (0+(Ga v).length) (List.replicate n [LV.int .u32 0]))=lm (uR n v):=by
  rw[mB (l:=Ga v++List.replicate (n-(Ga v).length) 0) (λx hx=>?_) (by simp;omega) (by rw[Bp,TB,G7];simp)]
  ·rw[Vu,Yj,Qo (by rw[U6];exact Ql _)];simp[lm]
  ·rcases Qr.1 hx with hx|hx
   ·exact Ln v x hx
   ·rw[Zw hx];decide
 rw[e];exact Ui [] [0] [] rfl
theorem IY{pre x post:Up}{i u:Nat}(h:x[i]? = some u):(lm (pre++x++post))[pre.length+i]? = some [.int .u32 (u:Int)]:=Gz (by
 have hi:=(Qf.1 h).1;rw[Zd,Z8 (by omega),Jk,Zi hi];exact h)
theorem Qli{pre x post:Up}{i v:Nat}(h:i<x.length):(lm (pre++x++post)).set (pre.length+i) [.int .u32 (v:Int)]=lm (pre++x.set i v++post):=by
 rw[Cj,Zd,List.set_append_right _ _ (by omega),Jk,List.set_append_left _ _ h,<-Zd]
theorem Qnj{pre x post ly:Up}{top nx xn x1 x2:Nat}(D:Dig x ly ly.length top nx xn x1 x2)(hn:ly.length<274877906944) :
 U5 prog 305 [.one (.orow 0 1 (some (pre.length,x.length))),lr ly] [.row true 151 1 (lm (pre++x++post))] [.one (.int .u32 ((val x / val ly:Nat):Int))] [.row true 151 1 (lm (pre++uR x.length (val x % val ly)++post))]:=by
 refine Fu func305 rfl ?_;have hxl:=D.hx;have hn2:=D.hn;have hb:=D.bnd;obtain⟨head,hh⟩:=nmE (xn*2^32+x1);obtain⟨g0,hg0⟩:=nmE (head / top);obtain⟨r0,hr0⟩:=nmE (head % top);have hst:=D.start;rw[<-hh,<-hg0]at hst;have ht0:=D.top0;have hg0l:g0<=head:=hg0 ▸ Jr _ _;have hr0l:r0<top:=hr0 ▸ Z5 _ ht0;have htd:(head:Int).tdiv top=(g0:Int):=by rw[V6 (by omega),hg0];rfl
 have htm:(head:Int).tmod top=(r0:Int):=by rw[Y5 (by omega),hr0];rfl
 refine go tt [.r 23 (eI (b:=(ly.length:Int)) (by rw[U6])),.r 26 (eI (b:=((ly.length-1:Nat):Int)) (by omega)),.x (Gz D.ltop),.r 32 (eI (b:=((ly.length-2:Nat):Int)) (by omega)),.x (Gz D.lnx),
  .i ly.length,.x (IY D.xn),.i 32,.r 41 (Du (b:=((4294967296*xn:Nat):Int)) (by omega)),.r 44 (eI (b:=((ly.length-1:Nat):Int)) (by omega)),.i (ly.length-1),.x (IY D.x1),.r 48 (Du (b:=(head:Int)) (by rw[o64 hb.2.2.2.1 (by omega)];omega)),
  .r 51 (Du (b:=(g0:Int)) htd),.r 54 (Du (b:=(r0:Int)) htm)] rfl ?_ ?_
 ·simp only[U0,Hr,htd,IntKind.bits];omega
 refine ct 2 (S:=Nat) (λg=>[(0,.v (.one (.orow 0 1 (some (pre.length,x.length))))),(1,.v (lr ly)),(5,.v (.oi (ly.length:Int))),(9,.v (.one (.int .u64 (g:Int))))]) (λ_=>[.row true 151 1 (lm (pre++x++post))]) (λg=>val x / val ly<=g/\(g-1)*val ly<=val x/\g<=4294967296) rfl ?_ ?_
 ·refine lp (S:=Nat×Nat) 1 (λL1 s=>(9,.v (.one (.int .u64 (s.1:Int))))::(10,.v (.one (.int .u64 (s.2:Int))))::L1) (λ_=>[.row true 151 1 (lm (pre++x++post))]) (λs=>4294967296-s.2)
   (λs=>s.1*top+s.2=xn*2^32+x1/\val x / val ly<=s.1/\s.2<4294967296/\s.1<18446744073709551616) (g0,r0)
   ⟨by rw[<-hh,hg0,hr0,Nat.mul_comm];exact Nat.div_add_mod _ _,hst,by dsimp only;omega,by dsimp only;omega⟩ rfl (λ_ _=>rfl) rfl λ⟨g,r⟩ ⟨j1,j2,j3,j4⟩=>?_
  dsimp only at j1 j2 j3 j4 ⊢;by_cases hge:4294967296<=g
  ·have hrd:=D.round j1 j2 (.inl hge);by_cases h2:4294967296<=r+top
   ·exact go tt [.t (by simp;omega),.t rfl,.r 73 (Du (b:=((g-1:Nat):Int)) (by omega)),.t (by simp;omega)] rfl (by simp[U0,Hr] <;> omega) (rc (g-1) ⟨hrd.2.1,(hrd.2.2.2 h2).1,(hrd.2.2.2 h2).2⟩ rfl)
   ·exact go tt [.t (by simp;omega),.t rfl,.r 73 (Du (b:=((g-1:Nat):Int)) (by omega)),.f (by simp;omega)] rfl (by simp[U0,Hr] <;> omega) (rd (g-1,r+top) (by dsimp only;omega) ⟨hrd.2.2.1,hrd.2.1,by dsimp only;omega,by dsimp only;omega⟩ rfl)
  ·have hgn:=XO (x:=g) (y:=nx) (by omega) hb.2.1;by_cases hc:r*2^32+x2<g*nx
   ·have hrd:=D.round j1 j2 (.inr hc);have e1:(g:Int)*(nx:Int)=((g*nx:Nat):Int):=by push_cast;rfl
    obtain⟨m,hm⟩:=nmE (g*nx);rw[<-hm]at e1 hgn hc;by_cases h2:4294967296<=r+top
    ·exact go tt [.f (by simp;omega),.r 60 (Du (b:=(m:Int)) e1),.i 32,.r 62 (Du (b:=((4294967296*r:Nat):Int)) (by omega)),.r 65 (eI (b:=((ly.length-2:Nat):Int)) (by omega)),.i (ly.length-2),.x (IY D.x2),.r 69 (Du (b:=((4294967296*r+x2:Nat):Int)) (o64 hb.2.2.2.2 (by omega))),.t (by simp;omega),.r 73 (Du (b:=((g-1:Nat):Int)) (by omega)),.t (by simp;omega)] rfl (by simp only[U0,Hr,e1,IntKind.bits];omega) (rc (g-1) ⟨hrd.2.1,(hrd.2.2.2 h2).1,(hrd.2.2.2 h2).2⟩ rfl)
    ·exact go tt [.f (by simp;omega),.r 60 (Du (b:=(m:Int)) e1),.i 32,.r 62 (Du (b:=((4294967296*r:Nat):Int)) (by omega)),.r 65 (eI (b:=((ly.length-2:Nat):Int)) (by omega)),.i (ly.length-2),.x (IY D.x2),.r 69 (Du (b:=((4294967296*r+x2:Nat):Int)) (o64 hb.2.2.2.2 (by omega))),.t (by simp;omega),.r 73 (Du (b:=((g-1:Nat):Int)) (by omega)),.f (by simp;omega)] rfl (by simp only[U0,Hr,e1,IntKind.bits];omega) (rd (g-1,r+top) (by dsimp only;omega) ⟨hrd.2.2.1,hrd.2.1,by dsimp only;omega,by dsimp only;omega⟩ rfl)
   ·have hf:=D.fin j1 (by omega) (by omega);have e1:(g:Int)*(nx:Int)=((g*nx:Nat):Int):=by push_cast;rfl
    obtain⟨m,hm⟩:=nmE (g*nx);rw[<-hm]at e1 hgn hc;exact go tt [.f (by simp;omega),.r 60 (Du (b:=(m:Int)) e1),.i 32,.r 62 (Du (b:=((4294967296*r:Nat):Int)) (by omega)),.r 65 (eI (b:=((ly.length-2:Nat):Int)) (by omega)),.i (ly.length-2),.x (IY D.x2),.r 69 (Du (b:=((4294967296*r+x2:Nat):Int)) (o64 hb.2.2.2.2 (by omega))),.f (by simp;omega)] rfl (by simp only[U0,Hr,e1,IntKind.bits];omega) (rc g ⟨j2,hf,by omega⟩ rfl)
 ·intro g ⟨q1,q2,q3⟩;refine Ue [.r 80 (eI (b:=(ly.length:Int)) (by rw[U6]))] rfl ?_;refine lp (S:=Nat×Up×Nat×Nat) 1 (λL1 s=>(81,.v (.oi (s.1:Int)))::(11,.v (.one (.int .u64 (s.2.2.1:Int))))::(12,.v (.one (.int .u64 (s.2.2.2:Int))))::L1) (λs=>[.row true 151 1 (lm (pre++s.2.1++post))]) (λs=>ly.length-s.1)
   (λs=>s.1<=ly.length/\s.2.1.length=ly.length+1/\Sm s.2.1/\s.2.2.2<=1/\s.2.2.1<4294967296/\val (s.2.1.take s.1)+g*val (ly.take s.1)=val (x.take s.1)+(s.2.2.1+s.2.2.2)*4294967296^s.1/\s.2.1.drop s.1=x.drop s.1) (0,x,0,0)
   ⟨Qh _,hxl,D.xb,Qh _,by simp,by simp[val],rfl⟩ rfl (λ_ _=>rfl) rfl λ⟨i,o,cy,bw⟩ ⟨j1,j2,j3,j4,j5,j6,j7⟩=>?_
  dsimp only at j1 j2 j3 j4 j5 j6 j7 ⊢;by_cases hi:i<ly.length
  ·obtain⟨w1,hw1⟩:=gxE (l:=ly) (i:=i) hi;obtain⟨u,hu⟩:=gxE (l:=x) (i:=i) (by omega);have wb:=D.lb w1 (Qc hw1);have ub:=D.xb u (Qc hu);have hou:=(UB j7).trans hu;have hgw:g*w1<=18446744069414584320:=by
    have:=Zc q3 (show w1<=4294967295 by omega);omega
   obtain⟨s,hs⟩:=nmE (((u+18446744073709551616-(g*w1+cy) % 4294967296) % 18446744073709551616+18446744073709551616-bw) % 18446744073709551616);have hstep:=yF (o:=o) (by omega) hu hw1 ub j4 j6 rfl hs;have e1:(g:Int)*(w1:Int)=((g*w1:Nat):Int):=by push_cast;rfl
   obtain⟨m,hm⟩:=nmE (g*w1);rw[<-hm]at e1 hgw hs hstep;obtain⟨p,hp⟩:=nmE (m+cy);rw[<-hp]at hs hstep;refine go tt [.t (by simp;omega),.x (Gz hw1),.r 89 (Du (b:=(m:Int)) e1),.r 91 (Du (b:=(p:Int)) (by omega)),.i 32,.r 93 (Du (b:=((p / 2^32:Nat):Int)) (by simp)),.i i,.x (IY hou),.w 1,.r 100 (Ei (b:=((p % 4294967296:Nat):Int)) (by rw[xQ];omega)),.w 1,.r 102 (Du (b:=(((u+18446744073709551616-p % 4294967296) % 18446744073709551616:Nat):Int)) (by rw[w64];omega)),.w 0,.r 104 (Du (b:=(s:Int)) (by rw[w64];omega)),
    .w 0,.r 108 (Ei (b:=((s % 4294967296:Nat):Int)) (by rw[xQ];omega)),.i 63,.r 110 (Du (b:=((s / 2^63:Nat):Int)) (by simp)),.i i] rfl (by simp only[U0,Hr,e1,IntKind.bits,U6,Qy];omega) ?_
   rw[Qli (by omega)];exact rd (i+1,o.set i (s % 4294967296),p / 2^32,s / 2^63) (by dsimp only;omega) ⟨hi,by simp[j2],Bm j3 _ _ (by omega),hstep.2,by dsimp only;omega,hstep.1,OZ j7⟩ rfl
  ·obtain rfl:i=ly.length:=by omega
   have hon:=(UB j7).trans D.xn;rw[Qo (l:=ly) (Ql _)]at j6;obtain⟨s,hs⟩:=nmE (((xn+18446744073709551616-cy) % 18446744073709551616+18446744073709551616-bw) % 18446744073709551616);obtain⟨oa,hoa⟩:=nmE (o.set ly.length (s % 4294967296));have oal:oa.length=ly.length+1:=by rw[hoa,Xd];exact j2
   have oab:Sm oa:=hoa ▸ Bm j3 _ _ (by omega);by_cases AH:s / 2^63=0
   ·have hf:=D.fin0 j2 j5 j4 q1 j6 hs AH;refine go tt [.f (by simp),.i ly.length,.x (IY hon),.w 1,.r 119 (Du (b:=(((xn+18446744073709551616-cy) % 18446744073709551616:Nat):Int)) (by rw[w64];omega)),.w 0,.r 121 (Du (b:=(s:Int)) (by rw[w64];omega)),.w 0,.r 125 (Ei (b:=((s % 4294967296:Nat):Int)) (by rw[xQ];omega)),.i ly.length,.i 63,.r 128 (Du (b:=((s / 2^63:Nat):Int)) (by simp)),.t (by simp;omega),.w 0,.r 131 (Ei (b:=((val x / val ly:Nat):Int)) (by rw[xQ];omega))] rfl (by simp only[U0,Hr,IntKind.bits,U6,Qy];omega) ?_;rw[Qli (by omega),<-mB (l:=o.set ly.length (s % 4294967296)) (k:=x.length) (hoa ▸ oab) (by rw[<-hoa,oal,hxl]) hf.2];exact Ui [] [0] [] rfl
   ·have hf:=D.fin1 j2 j3 j5 j4 q2 j6 hs AH;rw[<-hoa]at hf;obtain⟨v1,hv1⟩:=gxE (l:=oa) (i:=ly.length) (by omega);refine go tt [.f (by simp),.i ly.length,.x (IY hon),.w 1,.r 119 (Du (b:=(((xn+18446744073709551616-cy) % 18446744073709551616:Nat):Int)) (by rw[w64];omega)),.w 0,.r 121 (Du (b:=(s:Int)) (by rw[w64];omega)),.w 0,.r 125 (Ei (b:=((s % 4294967296:Nat):Int)) (by rw[xQ];omega)),.i ly.length,.i 63,.r 128 (Du (b:=((s / 2^63:Nat):Int)) (by simp)),.f (by simp;omega),.r 133 (eI (b:=(ly.length:Int)) (by rw[U6]))] rfl (by simp only[U0,Hr,IntKind.bits,U6,Qy];omega) ?_;rw[Qli (by omega),<-hoa];refine lp (S:=Nat×Up×Nat) 1 (λL1 s=>(134,.v (.oi (s.1:Int)))::(18,.v (.one (.int .u64 (s.2.2:Int))))::L1) (λs=>[.row true 151 1 (lm (pre++s.2.1++post))]) (λs=>ly.length-s.1)
     (λs=>s.1<=ly.length/\s.2.1.length=ly.length+1/\Sm s.2.1/\s.2.2<=1/\val (s.2.1.take s.1)+s.2.2*4294967296^s.1=val (oa.take s.1)+val (ly.take s.1)/\s.2.1.drop s.1=oa.drop s.1) (0,oa,0)
     ⟨Qh _,oal,oab,Qh _,by simp[val],rfl⟩ rfl (λ_ _=>rfl) rfl λ⟨j,o2,bk⟩ ⟨r1,r2,r3,r4,r5,r6⟩=>?_
    dsimp only at r1 r2 r3 r4 r5 r6 ⊢;by_cases hj:j<ly.length
    ·obtain⟨w1,hw1⟩:=gxE (l:=ly) (i:=j) hj;obtain⟨u,hu⟩:=gxE (l:=oa) (i:=j) (by omega);have wb:=D.lb w1 (Qc hw1);have ub:=oab u (Qc hu);have hou:=(UB r6).trans hu;obtain⟨m,hm⟩:=nmE (u+bk+w1);have hstep:=kC (o:=o2) (by omega) hu (.inl hw1) r5 hm;refine go tt [.t (by simp;omega),.x (Gz hw1),.i j,.x (IY hou),.r 148 (Du (b:=(m:Int)) (by omega)),.w 0,.r 152 (Ei (b:=((m % 4294967296:Nat):Int)) (by rw[xQ];omega)),.i 32,.r 154 (Du (b:=((m / 4294967296:Nat):Int)) (by simp)),.i j] rfl (by simp only[U0,Hr,IntKind.bits,U6,Qy];omega) ?_;rw[Qli (by omega)];exact rd (j+1,o2.set j (m % 4294967296),m / 4294967296) (by dsimp only;omega) ⟨hj,by simp[r2],Bm r3 _ _ (by omega),by dsimp only;omega,hstep,OZ r6⟩ rfl
    ·obtain rfl:j=ly.length:=by omega
     have hon2:=(UB r6).trans hv1;have vb:=oab v1 (Qc hv1);rw[Qo (l:=ly) (Ql _)]at r5;have hf2:=D.fin2 oal oab r2 r3 hv1 r4 hf.2 r5;refine go tt [.f (by simp),.i ly.length,.x (IY hon2),.w 1,.r 165 (Ei (b:=(((v1+bk) % 4294967296:Nat):Int)) (by rw[xQ];omega)),.i ly.length,.w 0,.r 168 (Ei (b:=((g % 4294967296:Nat):Int)) (by rw[xQ];omega)),.w 0,.r 169 (Ei (b:=((val x / val ly:Nat):Int)) (Qy7 hf.1 D.qlt))] rfl (by simp only[U0,Hr,IntKind.bits,U6,Qy];omega) ?_;rw[Qli (by omega),<-mB (l:=o2.set ly.length ((v1+bk) % 4294967296)) (k:=x.length) (Bm r3 _ _ (by omega)) (by rw[Xd,r2,hxl]) hf2];exact Ui [] [0] [] rfl
theorem Qfp{o ly:Up}{lo top nx xn x1 x2:Nat}(hlo:lo+(ly.length+1)<=o.length)(D:Dig (WO o lo ly.length) ly ly.length top nx xn x1 x2)(hn:ly.length<274877906944) :
 U5 prog 305 [.one (.orow 0 1 (some (lo,ly.length+1))),lr ly] [.row true 151 1 (lm o)] [.one (.int .u32 ((val (WO o lo ly.length) / val ly:Nat):Int))] [.row true 151 1 (lm (o.take lo++uR (ly.length+1) (val (WO o lo ly.length) % val ly)++o.drop (lo+ly.length+1)))]:=by
 have:=Qnj (pre:=o.take lo) (post:=o.drop (lo+ly.length+1)) D hn;have e1:(o.take lo).length=lo:=by rw[Qq];omega
 have e2:=GA (o:=o) (i:=lo) (n:=ly.length) (by omega);rw[e1,e2,VF]at this;exact this
theorem wK{a b:Up}(ha:Sm a)(hb:Sm b)(h1:sz (val a)<=4294967296)(h2:sz (val b)<=4294967296)(hy:0<val b):Uk 268 [lr a,lr b] [lr (Ga (val a / val b)),lr (Ga (val a % val b)),.oi 0]:=by
 refine Fu func268 rfl ?_;obtain⟨p,ca,np,vp,_,ep⟩:=HC ha;obtain⟨q,cb,nq,vq,_,eq⟩:=HC hb;have hp:=Ta h1;have hq:=Ta h2;rw[<-ep]at hp;rw[<-eq]at hq;rw[<-vp,<-vq];rw[<-vp]at h1;rw[<-vq]at h2 hy;have q0:q≠[]:=λe=>by rw[e]at hy;simp[val]at hy
 have qp:0<q.length:=J4.2 q0;have c1:¬((lm q).length:Int)=0:=by rw[U6];omega
 by_cases hlt:p.length<q.length
 ·have hv:=Dz np nq hlt;rw[V2 hv,Xt hv,G9];exact Ug [.k ca,.k cb,.f (by simpa using c1),.t (by simp[U6];omega),.k (KU np.1 h1)] rfl rfl (by simp[U0,Hr])
 by_cases hone:q.length=1
 ·obtain⟨y,rfl⟩:∃y,q=[y]:=by
   match q,hone with
   | [y],_=>exact⟨y,rfl⟩
  have yb:=nq.1 y (.head _);have vy:val [y]=y:=by simp[val]
  rw[vy]at hy ⊢;have co:=Qx0 np.1 (by omega) hy yb;have sm:Sm [val p % y]:=λz hz=>by
   simp at hz;subst hz;exact Nat.lt_trans (Z5 _ hy) yb
  have cc:=VE sm;rw[show val [val p % y]=val p % y from by simp[val]]at cc;exact Ug [.k ca,.k cb,.f (by simp[lm]),.f (by simp[U6];omega),.t (by simp[lm]),.x (Gz (l:=[y]) (i:=0) rfl),.k co,.k cc] rfl rfl (by simp[U0,Hr])
 ·have hle:q.length<=p.length:=J8 hlt;obtain⟨y1,hy1,hy10⟩:=nq.2 q0;have y1b:=nq.1 y1 (Qc hy1);have hszy:=dG nq hy1;have hsz1:sz y1<=32:=Nl.2 (by omega);have hsz0:0<sz y1:=Qwi (by omega);obtain⟨s,hs⟩:=nmE (32-sz y1);have hs31:s<=31:=by omega
  have Ei:(2:Nat)^32=4294967296:=by decide
  obtain⟨x,hx⟩:=nmE (val p);obtain⟨y,hyv⟩:=nmE (val q);have cl:=Qtk y1b;rw[<-hs]at cl;have hvx:val p*2^s<4294967296^(p.length+1):=by
   have h1:=Bq p np.1;rw[Zr];exact Z6 (Xn h1 (show 0<2^s from Z3 (by decide))) (Zu _ (by rw[<-Ei];exact Zs (by decide) (by omega)))
  have hvy:val q*2^s<4294967296^q.length:=by
   have h1:=FG (val q);rw[<-Ei,<-Ks];have h2:val q*2^s<2^sz (val q)*2^s:=Xn h1 (Z3 (by decide));rw[<-Xf]at h2;rw[show 32*q.length=sz (val q)+s from by omega];exact h2
  have cx:=Qgg np.1 (show sz (val p)<=4294967400 by omega) hs31 (show p.length+1<274877906944 by omega) (by omega) hvx;have cy:=Qgg nq.1 (show sz (val q)<=4294967400 by omega) hs31 (show q.length<274877906944 by omega) qp hvy;obtain⟨hXl,hXb,hXv⟩:=jY (k:=p.length+1) (v:=val p*2^s);obtain⟨hYl,hYb,hYv⟩:=jY (k:=q.length) (v:=val q*2^s);have hXv:=hXv hvx;have hYv:=hYv hvy;obtain⟨X,hX⟩:=nmE (uR (p.length+1) (val p*2^s));obtain⟨Y,hY⟩:=nmE (uR q.length (val q*2^s));rw[<-hX]at hXl hXb hXv cx;rw[<-hY]at hYl hYb hYv cy;have hyB:4294967296^(q.length-1)<=val q:=FP nq q0;have hR:=cG hXv hYv hXl hXb hYl hYb (show 2<=q.length by omega) (Bq p np.1) hyB hle;refine go tt [.k ca,.k cb,.f (by simpa using c1),.f (by simp[U6];omega),.f (by simp[U6];omega),.r 49 (eI (b:=((q.length-1:Nat):Int)) (by rw[U6];omega)),.x (Gz hy1),.k cl,.r 57 (eI (b:=((p.length+1:Nat):Int)) (by rw[U6];omega)),.c [0] cx,.r 62 (eI (b:=(q.length:Int)) (by rw[U6])),.c [1] cy,.r 65 (eI (b:=(q.length:Int)) (by rw[U6,hYl])),.r 70 (eI (b:=((p.length-q.length+1:Nat):Int)) (by rw[U6];omega)),.i (p.length-q.length+1),.i (p.length-q.length+1),.r 73 (eI (b:=((p.length-q.length+1:Nat):Int)) (by simp))] rfl ?_ ?_
  ·simp only[U0,Hr,IntKind.bits,U6];omega
  ·rw[WT];refine pb 1 rfl rfl ?_;refine lp (S:=Int×Up×Up) 3 (λL1 s=>(13,.v (.oi s.1))::L1) (λs=>[.row false 151 1 (lm s.2.2),.gone,.row false 151 1 (lm s.2.1)]) (λs=>(s.1+1).toNat)
    (λs=>-1<=s.1/\s.1<p.length-q.length+1/\s.2.1.length=p.length-q.length+1/\Sm s.2.1/\Rest s.2.2 Y p.length q.length (s.1+1).toNat/\val (s.2.1.drop (s.1+1).toNat)*4294967296^(s.1+1).toNat*val Y+val s.2.2=val X) (((p.length-q.length+1:Nat):Int)-1,List.replicate (p.length-q.length+1) 0,X)
    ⟨by dsimp only;omega,by dsimp only;omega,by simp,λx hx=>by rw[List.eq_of_mem_replicate hx];decide,by simpa using hR,by simp[val]⟩ rfl (λ_ _=>rfl) rfl λ⟨i,oq,ox⟩ ⟨j1,j2,j3,j4,j5,j6⟩=>?_
   dsimp only at j1 j2 j3 j4 j5 j6 ⊢;rcases Kd i 0 with hi|hi
   ·obtain rfl:i=-1:=by omega
    simp only[show((-1:Int)+1).toNat=0 from rfl,Xx,Vd,Yw]at j5 j6;have hlt':val ox<val q*2^s:=by have:=j5.lt;rw[hYv]at this;simpa using this
    have hfin:=Qj6 (x:=val p) (y:=val q) (s:=s) (r:=val ox) (q:=oq) hy (by rw[<-hXv,<-hYv];exact j6) hlt';have hoxl:=j5.ol;have hox:=dR (o:=ox) (n:=q.length) (by omega) (Nat.lt_trans hlt' hvy);have hszm:sz (val (ox.take q.length))<=4294967400:=by
     rw[hox,hfin.2];have h1:=Qk5 (val p % val q) (2^s);have h2':=Rf (Yk (Z5 (val p) hy));have h3:sz (2^s)<=s+1:=Nl.2 (Nat.pow_lt_pow_right (by decide) (by omega));omega
    have cs:=Qxw (a:=ox.take q.length) (λu hu=>j5.ob u (Qn hu)) hszm hs31;rw[hox,hfin.2,Nat.mul_div_cancel _ (Z3 (by decide))]at cs;have cq:=VE j4;rw[hfin.1]at cq;exact Ug [.f (by decide),.p 2,.p 0,.k cq,.i q.length,.r 95 (v:=lr (ox.take q.length)) (by simp[lm]),.k cs] rfl rfl (by simp[U0,Hr,U6];omega)
   ·obtain⟨k,rfl⟩:=Kk hi;have e:((k:Int)+1).toNat=k+1:=by omega
    rw[e]at j5 j6;obtain⟨top,nx,xn,x1,x2,D⟩:=j5.dig;have hoxl:=j5.ol;have hm:=j5.hm;have cd:=Qfp (o:=ox) (lo:=k) (by omega) (hYl.symm ▸ D) (by omega);rw[hYl]at cd;have hwl:=GA (o:=ox) (i:=k) (n:=q.length) (by omega);have hwlt:val (WO ox k q.length) % val Y<4294967296^(q.length+1):=by
     have h3:=Bq (WO ox k q.length) D.xb;rw[hwl]at h3;exact Z4 (Nat.mod_le _ _) h3
    obtain⟨d1,d2,d3⟩:=jY (k:=q.length+1) (v:=val (WO ox k q.length) % val Y);have hnx:=j5.next (w':=uR (q.length+1) (val (WO ox k q.length) % val Y)) (d1.trans hwl.symm) d2 (d3 hwlt) (q:=oq) (by omega) j6;have hdg:=D.qlt;refine go tt [.t (by simp),.i k,.i (k+q.length+1),.r 87 (v:=.one (.orow 0 1 (some (k,q.length+1)))) (by rw[show k+q.length+1-k=q.length+1 by omega]),.c [0] cd,.i k] rfl ?_ ?_
    ·simp only[U0,U6];omega
    ·rw[Cj];refine rd ((k:Int)-1,oq.set k (val (WO ox k q.length) / val Y),ox.take k++uR (q.length+1) (val (WO ox k q.length) % val Y)++ox.drop (k+q.length+1)) (by dsimp only;omega) ⟨by dsimp only;omega,by dsimp only;omega,by simp[j3],Bm j4 _ _ hdg,?_,?_⟩ rfl
     ·dsimp only;rw[show((k:Int)-1+1).toNat=k from by omega];exact hnx.1
     ·dsimp only;rw[show((k:Int)-1+1).toNat=k from by omega];exact hnx.2
def sg(z:Int):LV:=.bool (decide (z<0))
def mg(z:Int):LV:=.row (lm (Ga z.natAbs))
abbrev He(z:Int):Us:=[sg z,mg z]
def Gb(x y:LV)(z:Int):Prop:=∃b l,x=.bool b/\y=.row (lm l)/\Sm l/\z=U9 b (val l)
theorem U3(z:Int):Gb (sg z) (mg z) z:=by
 refine⟨_,_,rfl,rfl,Ln _,?_⟩;rw[G7];unfold U9;by_cases h:z<0 <;> simp[h] <;> omega
theorem Qvq(b:Bool)(m:Nat):[LV.bool (b && decide (0<m)),LV.row (lm (Ga m))]=He (U9 b m):=by
 simp only[He,sg,mg,LM,Rq]
theorem Dw{m:Nat}:0<(Ga m).length↔0<m:=by
 rcases Q3 m with h|h
 ·subst h;rw[G9];simp
 ·rw[Ez (by omega)];simp[h]
theorem Py(b:Bool)(m:Nat):Uk 112 [lr (Ga m),.one (.bool b)] [.agg (He (U9 b m))]:=by
 rw[<-Qvq];have e:=Dw (m:=m);cases b with
 |false=>exact Uh func112 rfl [.f rfl] rfl
 |true=>exact Uh func112 rfl [.t rfl] rfl (by simp[U6,e]) trivial
theorem Pv{b:Bool}{m:Nat}{k:Nat}(h:Fb (U9 b m)<=k):sz m<=k:=by
 unfold Fb at h;rwa[Rq]at h
theorem Ml{x y:LV}{z:Int}(hi:Gb x y z)(hs:Fb z<=4294967295):Uk 151 [.agg [x,y]] [.agg (He z)]:=by
 obtain⟨b,l,rfl,rfl,hl,rfl⟩:=hi;exact Uh func151 rfl [.k (KU hl (Qa (Pv hs) (by decide))),.k (Py _ _)] rfl
theorem UO(b:Bool)(m:Nat):U9 (!b) m=-(U9 b m):=by unfold U9;cases b <;> simp
theorem BW{x y:LV}{z:Int}(hi:Gb x y z)(hs:Fb z<=4294967295):Uk 165 [.agg [x,y]] [.agg (He (-z))]:=by
 obtain⟨b,l,rfl,rfl,hl,rfl⟩:=hi;rw[<-UO];exact Uh func165 rfl [.k (KU hl (Qa (Pv hs) (by decide))),.k (Py _ _)] rfl
theorem Px{x y x' y':LV}{z z':Int}(hi:Gb x y z)(hi':Gb x' y' z')(hs:Fb z<=4294967295)(hs':Fb z'<=4294967295):Uk 48 [.agg [x,y],.agg [x',y']] [.agg (He (z*z'))]:=by
 obtain⟨b,l,rfl,rfl,hl,rfl⟩:=hi;obtain⟨b',l',rfl,rfl,hl',rfl⟩:=hi';have e:U9 b (val l)*U9 b' (val l')=U9 (b != b') (val l*val l'):=by
  unfold U9;cases b <;> cases b' <;> simp[Int.neg_mul,Int.mul_neg]
 rw[e];exact Uh func48 rfl [.k (Qxr hl hl' (Qa (Pv hs) (by decide)) (Qa (Pv hs') (by decide))),.k (Py _ _)] rfl
theorem BS{a b:Up}(ha:Sm a)(hb:Sm b)(h1:sz (val a)<=4294967296)(h:val b<=val a):Uk 308 [lr a,lr b] [lr (Ga (val a-val b)),.one (.bool true)]:=by
 have:=Qrs ha hb h1;rwa[if_pos h]at this
theorem Qff{a b:Up}(ha:Sm a)(hb:Sm b)(h1:sz (val a)<=4294967296)(h:val a<val b):Uk 308 [lr a,lr b] [lr [],.one (.bool false)]:=by
 have:=Qrs ha hb h1;rwa[if_neg (by omega)]at this
theorem KH{x y x' y':LV}{z z':Int}(hi:Gb x y z)(hi':Gb x' y' z')(hs:Fb z<=4294967295)(hs':Fb z'<=4294967295):Uk 300 [.agg [x,y],.agg [x',y']] [.agg (He (z+z'))]:=by
 obtain⟨b,l,rfl,rfl,hl,rfl⟩:=hi;obtain⟨b',l',rfl,rfl,hl',rfl⟩:=hi';have s1:=Qa (Pv hs) (show 4294967295<=4294967296 by decide);have s2:=Qa (Pv hs') (show 4294967295<=4294967296 by decide);by_cases hb:b=b'
 ·subst hb;have e:U9 b (val l)+U9 b (val l')=U9 b (val l+val l'):=by unfold U9;cases b <;> simp <;> omega
  rw[e];exact Uh func300 rfl [.t (by simp),.k (Qrn hl hl' s1 s2),.k (Py _ _)] rfl
 ·by_cases hle:val l'<=val l
  ·have e:U9 b (val l)+U9 b' (val l')=U9 b (val l-val l'):=by unfold U9;cases b <;> cases b' <;> simp at hb ⊢ <;> omega
   rw[e];exact Uh func300 rfl [.f (by simpa using hb),.k (BS hl hl' s1 hle),.t rfl,.k (Py _ _)] rfl
  ·have e:U9 b (val l)+U9 b' (val l')=U9 b' (val l'-val l):=by unfold U9;cases b <;> cases b' <;> simp at hb ⊢ <;> omega
   rw[e];exact Uh func300 rfl [.f (by simpa using hb),.k (Qff hl hl' s1 (by omega)),.f rfl,.k (BS hl' hl s2 (by omega)),.k (Py _ _)] rfl
theorem Qfm{x y x' y':LV}{z z':Int}(hi:Gb x y z)(hi':Gb x' y' z')(hs:Fb z<=4294967295)(hs':Fb z'<=4294967295):Uk 284 [.agg [x,y],.agg [x',y']] [.agg (He (z-z'))]:=by
 obtain⟨b',l',rfl,rfl,hl',rfl⟩:=hi';have hn:Gb (.bool (!b')) (.row (lm l')) (-(U9 b' (val l'))):=⟨_,_,rfl,rfl,hl',(UO _ _).symm⟩;rw[Int.sub_eq_add_neg];have hi2:=hi;obtain⟨b,l,rfl,rfl,hl,_⟩:=hi;exact Uh func284 rfl [.k (KH hi2 hn hs (by rw[Hj];exact hs'))] rfl
theorem Qf8{x y:LV}{z:Int}(hi:Gb x y z)(hs:Fb z<=4294967295):Uk 212 [.agg [x,y]] [.oi (Int.sign z)]:=by
 obtain⟨b,l,rfl,rfl,hl,rfl⟩:=hi;have s1:=Qa (Pv hs) (show 4294967295<=4294967296 by decide);have cb:=pC hl s1;by_cases h0:val l=0
 ·have e:U9 b (val l)=0:=by unfold U9;rw[h0];cases b <;> simp
  rw[e];exact Uh func212 rfl [.k cb,.t (by simp[EE,h0])] rfl
 ·have AH:sz (val l)≠0:=λh=>h0 (EE.1 h)
  cases b
  ·have e:(U9 false (val l)).sign=1:=Int.sign_eq_one_of_pos (by unfold U9;simp;omega);rw[e];exact Uh func212 rfl [.k cb,.f (by simp;omega),.f rfl] rfl
  ·have e:(U9 true (val l)).sign=-1:=Int.sign_eq_neg_one_of_neg (by unfold U9;simp;omega);rw[e];exact Uh func212 rfl [.k cb,.f (by simp;omega),.t rfl] rfl
theorem HH{x y x' y':LV}{z z':Int}(hi:Gb x y z)(hi':Gb x' y' z')(hs:Fb z<=4294967295)(hs':Fb z'<=4294967295):Uk 142 [.agg [x,y],.agg [x',y']] [.oi (D6 z z')]:=by
 have c1:=Qf8 hi hs;have c2:=Qf8 hi' hs';obtain⟨b,l,rfl,rfl,hl,hz⟩:=hi;obtain⟨b',l',rfl,rfl,hl',hz'⟩:=hi';have k1:=Av z;have k2:=Av z';have zl:z.natAbs=val l:=by rw[hz,Rq]
 have zl':z'.natAbs=val l':=by rw[hz',Rq]
 by_cases h1:z.sign<z'.sign
 ·have e:D6 z z'=-1:=by unfold D6;rw[if_pos (by omega)]
  rw[e];exact Uh func142 rfl [.k c1,.k c2,.t (by simpa using h1)] rfl
 ·by_cases h2:z'.sign<z.sign
  ·have e:D6 z z'=1:=by unfold D6;rw[if_neg (by omega),if_pos (by omega)]
   rw[e];exact Uh func142 rfl [.k c1,.k c2,.f (by simpa using h1),.t (by simpa using h2)] rfl
  ·by_cases h3:z.sign<0
   ·have e:ZF (val l') (val l)=D6 z z':=by unfold D6 ZF;rw[<-zl,<-zl'];split <;> split <;> (try split) <;> (try split) <;> omega
    have cc:=Qee hl' hl;rw[e]at cc;exact Uh func142 rfl [.k c1,.k c2,.f (by simpa using h1),.f (by simpa using h2),.t (by simpa using h3),.k cc] rfl
   ·have e:ZF (val l) (val l')=D6 z z':=by unfold D6 ZF;rw[<-zl,<-zl'];split <;> split <;> (try split) <;> (try split) <;> omega
    have cc:=Qee hl hl';rw[e]at cc;exact Uh func142 rfl [.k c1,.k c2,.f (by simpa using h1),.f (by simpa using h2),.f (by simpa using h3),.k cc] rfl
theorem Df{z:Int}:Uk 152 [.agg (He z)] [.one (.bool (decide (z=0)))] :=
 Uh func152 rfl [] rfl (by simp only[U6];congr 3;have:=Dw (m:=z.natAbs);rw[decide_eq_decide];omega) trivial
theorem BU{z:Int}(h1:-9223372036854775808<=z/\z<=9223372036854775807):Uk 153 [.oi z] [.agg (He z)]:=by
 obtain⟨m,hm⟩:=nmE (z.natAbs);have sm:Sm [m % 4294967296,m / 4294967296]:=λx hx=>by
  simp at hx;rcases hx with rfl|rfl <;> omega
 have hv:val [m % 4294967296,m / 4294967296]=m:=by simp only[val];omega
 have cn:=KU sm (by rw[hv];exact Qa (Nl.2 (show m<2^64 by omega)) (show 64<=4294967296 by decide));rw[hv]at cn;by_cases hz:z<0
 ·have e:U9 true m=z:=by unfold U9;simp;omega
  have cm:=Py true m;rw[e]at cm;exact Uh func153 rfl [.w 0,.r 5 (Du (b:=((18446744073709551616-m:Nat):Int)) (by rw[w64];omega)),.t (by simpa using hz),.w 0,.r 9 (Du (b:=(m:Int)) (by rw[w64];omega)),.w 0,.r 11 (Ei (b:=((m % 4294967296:Nat):Int)) (by rw[xQ];omega)),.i 32,.r 13 (Du (b:=((m / 4294967296:Nat):Int)) (by simp)),.k cn,.r 18 (v:=.one (.bool true)) (by simp[hz]),.k cm] rfl rfl (by simp[U0,IntKind.bits] <;> omega)
 ·have e:U9 false m=z:=by unfold U9;simp;omega
  have cm:=Py false m;rw[e]at cm;exact Uh func153 rfl [.w 0,.r 5 (Du (b:=(m:Int)) (by rw[w64];omega)),.f (by simpa using hz),.w 0,.r 11 (Ei (b:=((m % 4294967296:Nat):Int)) (by rw[xQ];omega)),.i 32,.r 13 (Du (b:=((m / 4294967296:Nat):Int)) (by simp)),.k cn,.r 18 (v:=.one (.bool false)) (by simp;omega),.k cm] rfl rfl (by simp[U0,IntKind.bits] <;> omega)
theorem pE{m n:Nat}(h1:sz m<=4294967296)(h2:sz n<=4294967296)(hn:0<n):Uk 268 [lr (Ga m),lr (Ga n)] [lr (Ga (m / n)),lr (Ga (m % n)),.oi 0]:=by
 have:=wK (Ln m) (Ln n) (by rw[G7];exact h1) (by rw[G7];exact h2) (by rw[G7];exact hn);rwa[G7,G7]at this
theorem Qbm{x y x' y':LV}{z z':Int}(hi:Gb x y z)(hi':Gb x' y' z')(hs:Fb z<=4294967295)(hs':Fb z'<=4294967295)(hz:z'≠0):Uk 269 [.agg [x,y],.agg [x',y']] [.agg (He (z / z')),.agg (He (z % z')),.oi 0]:=by
 obtain⟨b,l,rfl,rfl,hl,hz1⟩:=hi;obtain⟨b',l',rfl,rfl,hl',hz2⟩:=hi';have zl:z.natAbs=val l:=by rw[hz1,Rq]
 have zl':z'.natAbs=val l':=by rw[hz2,Rq]
 have s1:sz (val l)<=4294967296:=Qa (Pv (hz1 ▸ hs)) (by decide);have s2:sz (val l')<=4294967296:=Qa (Pv (hz2 ▸ hs')) (by decide);have hp:0<z'.natAbs:=by omega
 have e1:z=if b=true then -(z.natAbs:Int)else(z.natAbs:Int):=by rw[zl];exact hz1
 have e2:z'=if b'=true then -(z'.natAbs:Int)else(z'.natAbs:Int):=by rw[zl'];exact hz2
 have cd:=wK hl hl' s1 s2 (by omega);rw[<-zl,<-zl']at cd;have s0:sz (z.natAbs % z'.natAbs)<=4294967296:=Qa (Rf (Yk (Z5 _ hp))) (by rw[zl'];exact s2);cases b with
 |
  false =>
  obtain⟨d1,d2⟩:=CP e2 hp e1;rw[d1,d2];exact Uh func269 rfl [.k cd,.f rfl,.k (Py _ _),.k (Py _ _),.f rfl,.f rfl] rfl
 |
  true =>
  by_cases h0:z.natAbs % z'.natAbs=0
  ·obtain⟨d1,d2⟩:=PS e2 hp e1 h0;rw[d1,d2];exact Uh func269 rfl [.k cd,.f rfl,.k (Py _ _),.k (Py _ _),.t rfl,.f (by rw[h0,G9];rfl)] rfl
  ·obtain⟨d1,d2⟩:=CS e2 hp e1 (by omega);rw[d1,d2];have ca:=Qrn (a:=Ga (z.natAbs / z'.natAbs)) (b:=[1]) (Ln _) (λx hx=>by simp at hx;subst hx;decide) (by rw[G7];exact Qa (Rf (Jr _ _)) (by rw[zl];exact s1)) (by decide);have cs:=BS (a:=l') (b:=Ga (z.natAbs % z'.natAbs)) hl' (Ln _) s2 (by rw[G7,<-zl'];exact Yk (Z5 _ hp));rw[G7]at ca cs;rw[<-zl']at cs;have hl0:=Dw (m:=z.natAbs % z'.natAbs);exact Uh func269 rfl [.k cd,.f rfl,.k (Py _ _),.k (Py _ _),.t rfl,.t (by simp[U6];omega),.k ca,.k cs,.k (Py _ _),.k (Py _ _)] rfl
theorem A5{x y x' y':LV}{z z':Int}(hi:Gb x y z)(hi':Gb x' y' z')(hs:Fb z<=4294967295)(hs':Fb z'<=4294967295)(hz:z'≠0)(hd:z % z'=0):Uk 216 [.agg [x,y],.agg [x',y']] [.agg (He (z / z')),.oi 0]:=by
 have cd:=Qbm hi hi' hs hs' hz;obtain⟨b,l,rfl,rfl,_⟩:=hi;obtain⟨b',l',rfl,rfl,_⟩:=hi';exact Uh func216 rfl [.k cd,.f rfl,.f (by rw[hd];simp[U6,G9])] rfl
end Orr
namespace Orr
open Go
abbrev Q00(l:Up):LV:=.row (lm l)
def Rz(l:Un):Nat:=l.foldl (λg z=>Nat.gcd g z.natAbs) 0
theorem Qcg{l:Un}{i:Nat}{z:Int}(h:l[i]? = some z):Rz (l.take (i+1))=Nat.gcd (Rz (l.take i)) z.natAbs:=by
 unfold Rz;rw[Y7,h];simp[Vq]
theorem Qot(g x:Nat):Nat.gcd x (g % x)=Nat.gcd g x:=by
 rw[Nat.gcd_comm g x,Nat.gcd_rec x g,Nat.gcd_comm]
theorem AL(l:Un):l.foldl (λg z=>Nat.gcd g z.natAbs) 1=1:=by
 induction l with
 |nil=>rfl
 |cons z l ih=>simp[ih]
theorem Qhr{l:Un}{i:Nat}(h:Rz (l.take i)=1):Rz l=1:=by
 have e:l=l.take i++l.drop i:=(Zh i l).symm;unfold Rz at h ⊢;rw[e,Vq,h,AL]
def trim:Un->Un
 | []=>[]
 |
  x::l=>match trim l with
  | []=>if x=0 then []else [x]
  |y::k=>x::y::k
theorem WB:∀{l:Un},(∀x∈l,x=0)->trim l=[]
 | [],_=>rfl
 |
  x::l,h=>by
  have ih:=WB (l:=l) (λy hy=>h y (Qg _ hy));simp[trim,ih,h x (Qx ..)]
theorem zA:∀{l:Un} {m:Nat} {y:Int},(∀j x,m<j->l[j]? = some x->x=0)->l[m]? = some y->y≠0->trim l=l.take (m+1)
 | [],m,y,_,h,_=>by simp at h
 |
  x::l,0,y,h1,h2,h3=>by
  have h0:trim l=[]:=WB λz hz=>by
   obtain⟨j,hj⟩:=Zk.1 hz;exact h1 (j+1) z (by omega) (by simpa using hj)
  simp at h2;subst h2;simp[trim,h0,h3]
 |
  x::l,m+1,y,h1,h2,h3=>by
  have ih:=zA (l:=l) (m:=m) (y:=y) (λj z hj hz=>h1 (j+1) z (by omega) (by simpa using hz)) (by simpa using h2) h3;cases hl:l with
  |nil=>subst hl;simp at h2
  |
   cons u k =>
   subst hl;rw[Ve]at ih;simp only[trim]at ih ⊢;rw[ih];simp
def Fc(l:Un):Prop:=trim l=l
theorem Rm:∀(l:Un),Fc (trim l)
 | []=>rfl
 |
  x::l=>by
  have ih:=Rm l;unfold Fc at ih ⊢;cases h:trim l with
  |nil=>by_cases hx:x=0 <;> simp[trim,h,hx]
  |
   cons y k =>
   rw[h]at ih;simp only[trim,h]at ih ⊢;rw[ih]
theorem sY{l:Un}{m:Nat}(hm:m<=l.length)(h1:∀j x,m<=j->l[j]? = some x->x=0)(h2:0<m->∃y,l[m-1]? = some y/\y≠0):trim l=l.take m:=by
 rcases Q3 m with h0|h0
 ·subst h0;rw[WB λz hz=>?_];rfl;obtain⟨j,hj⟩:=Zk.1 hz;exact h1 j z (by omega) hj
 ·obtain⟨y,hy,hy0⟩:=h2 h0;have:=zA (l:=l) (m:=m-1) (y:=y) (λj x hj hx=>h1 j x (by omega) hx) hy hy0;rwa[show m-1+1=m from by omega]at this
def IsInts:Ut->Un->Prop
 | [],[]=>True
 |x::l,z::p=>(∃a b,x=[a,b]/\Gb a b z)/\IsInts l p
 |_,_=>False
theorem IsInts.len:∀{l:Ut} {p:Un},IsInts l p->l.length=p.length
 | [],[],_=>rfl
 |x::l,z::p,h=>by simp[h.2.len]
 | [],_::_,h=>h.elim
 |_::_,[],h=>h.elim
theorem IsInts.get:∀{l:Ut} {p:Un},IsInts l p->∀{i:Nat} {z:Int},p[i]? = some z->∃a b,l[i]? = some [a,b]/\Gb a b z
 | [],[],_,i,z,h=>by simp at h
 |
  x::l,y::p,h,0,z,hz=>by
  simp at hz;subst hz;obtain⟨a,b,rfl,hi⟩:=h.1;exact⟨a,b,rfl,hi⟩
 |x::l,y::p,h,i+1,z,hz=>by simpa using h.2.get (i:=i) (by simpa using hz)
 | [],_::_,h,_,_,_=>h.elim
 |_::_,[],h,_,_,_=>h.elim
theorem Gm:∀(p:Un),IsInts (p.map He) p
 | []=>trivial
 |z::p=>⟨⟨_,_,rfl,U3 z⟩,Gm p⟩
theorem IsInts.append:∀{l l':Ut} {p p':Un},IsInts l p->IsInts l' p'->IsInts (l++l') (p++p')
 | [],_,[],_,_,h=>h
 |x::l,_,z::p,_,h,h'=>⟨h.1,h.2.append h'⟩
 | [],_,_::_,_,h,_=>h.elim
 |_::_,_,[],_,h,_=>h.elim
def pl(p:Un):LV:=.row (p.map He)
def ids(l:Un):LV:=.row (l.map λ(x:Int)=>[.int .i64 x])
theorem QR:Gb (.bool false) (.row []) 0:=⟨false,[],rfl,rfl,(λx hx=>by cases hx),rfl⟩
theorem Qqk:sg 0=.bool false:=rfl
theorem Qco{z:Int}:(Ga z.natAbs).length=0↔z=0:=by
 constructor
 ·intro h;have h0:=Qj h;have:=(FM (Dk z.natAbs)).2 h0;rw[G7]at this;omega
 ·rintro rfl;rw[show(0:Int).natAbs=0 from rfl,G9];rfl
theorem G6{α β:Type}{f:α->β}{l:List α}{i:Nat}{x:α}(h:l[i]? = some x):(l.map f)[i]? = some (f x):=by rw[Q9,h];rfl
theorem Qse{α:Type}{f:α->Us}{sz:Nat}(l:List α)(h:∀x,(f x).length=sz):∀c∈l.map f,c.length=sz:=λc hc=>by
 obtain⟨x,_,rfl⟩:=Za.1 hc;exact h x
theorem Qo5:mg 0=.row []:=by simp[mg,G9,lm]
theorem Lf:He 0=[LV.bool false,LV.row []]:=by simp[He,Qqk,Qo5]
end Orr
namespace Orr
open Go Go.Proofs Tryz
set_option maxRecDepth 10000
theorem MN{p:Un}(hs:∀z∈p,Fb z≤4294967295):sz (Rz p)≤4294967295:=by
 have key:∀(p:Un) (g:Nat),sz g≤4294967295->(∀z∈p,Fb z≤4294967295)->sz (p.foldl (λg z=>Nat.gcd g z.natAbs) g)≤4294967295:=by
  intro p
  induction p with
  |nil=>exact λg h _=>h
  |
   cons z p ih =>
   intro g h hs;refine ih _ ?_ λy hy=>hs y (.tail _ hy)
   rcases Q3 g with h0|h0
   ·subst h0;show sz (Nat.gcd 0 z.natAbs)<=_;rw[Nat.gcd_zero_left];exact hs z (.head _)
   ·exact Qa (Rf (Nat.gcd_le_left _ h0)) h
 exact key p 0 (by decide) hs
theorem Qel{l:Ut}{p:Un}(hi:IsInts l p)(hs:∀z∈p,Fb z≤4294967295):Uk 215 [.one (.row l)] [.agg (He ((Rz p:Nat):Int))]:=by
 refine Fu func215 rfl (ln 0 rfl rfl λhl=>?_);have hlp:=hi.len;refine Ue [.z 3,.r 3 (v:=lr (Ga (Rz (p.take 0)))) (by simp[Rz,G9,lm])] rfl ?_;refine ct 2 (S:=Unit) (λ_=>[(2,.v (.one (.ow 0 0))),(3,.v (lr (Ga (Rz p))))]) (λ_=>[.blk 36 [.bool false,.nils],.gone]) (λ_=>True) rfl ?_ ?_
 ·refine Uj (S:=Nat) 1 (λL1 i=>(12,.v (.oi i))::(3,.v (lr (Ga (Rz (p.take i)))))::L1) (λ_=>[.blk 36 [.bool false,.nils]]) (λi=>p.length-i) (λi=>i<=p.length) 0 (Qh _) rfl rfl λi hip=>?_
  by_cases h:i<p.length
  ·have hlt:i<l.length:=by omega
   obtain⟨c,hc⟩:=gxE (l:=l) (i:=i) hlt;obtain⟨z,hz⟩:=gxE (l:=p) (i:=i) h;obtain⟨x,y,hc',b,r,rfl,rfl,hr,hzz⟩:=hi.get hz;rw[hc]at hc';injection hc' with hc';subst hc'
   have hsz:=hs z (Qc hz);have hg0:sz (Rz (p.take i))<=4294967295:=MN λy hy=>hs y (Qn hy)
   have ezr:z.natAbs=val r:=by rw[hzz,Rq]
   have cn:=KU hr (by rw[<-ezr];exact Qa hsz (by decide));rw[<-ezr]at cn;refine Ue [.t (by simp;omega),.x hc,.k cn] rfl ?_;refine Uj (S:=Nat×Nat) 2 (λL1 s=>(3,.v (lr (Ga s.1)))::(6,.v (lr (Ga s.2)))::L1) (λ_=>[.blk 36 [.bool false,.nils],.blk 36 [.bool b,.row (lm r)]]) (λs=>s.2) (λs=>Nat.gcd s.1 s.2=Nat.gcd (Rz (p.take i)) z.natAbs/\sz s.1<=4294967295/\sz s.2<=4294967295) (Rz (p.take i),z.natAbs) ⟨rfl,hg0,hsz⟩ rfl rfl λ⟨g,u⟩ ⟨j1,j2,j3⟩=>?_
   dsimp only at j1 j2 j3 ⊢;have hul:=Dw (m:=u);by_cases hu:0<u
   ·have cd:=pE (m:=g) (n:=u) (by omega) (by omega) hu;refine Ue [.t (by simp[U6];omega),.k cd] rfl ?_;exact rd (u,g % u) (Z5 _ hu) ⟨(Qot g u).trans j1,j3,Qa (Rf (Yk (Z5 _ hu))) j3⟩ rfl
   ·obtain rfl:u=0:=by omega
    rw[Nat.gcd_zero_right,<-Qcg hz]at j1;subst j1;by_cases h1:Rz (p.take (i+1))=1
    ·have e1:Ga (Rz (p.take (i+1)))=[1]:=by rw[h1,Ez (by decide)];simp[G9]
     refine Ue [.f (by simp[G9,lm]),.t (by rw[e1];rfl),.x (Gz (i:=0) (x:=1) (by rw[e1];rfl)),.t rfl] rfl ?_;exact rc () trivial (by rw[h1,Qhr h1];rfl)
    ·obtain⟨g,hg⟩:=nmE (Rz (p.take (i+1)));rw[<-hg]at h1 j2 ⊢;by_cases h2:(Ga g).length=1
     ·obtain⟨v,hv⟩:∃v,Ga g=[v]:=by
       match hm:Ga g,h2 with
       | [v],_=>exact⟨v,rfl⟩
      have hv1:v≠1:=λe=>h1 (by rw[<-G7 g,hv,e];rfl)
      refine go tt [.f (by simp[G9,lm]),.t (by simp[U6,h2]),.x (Gz (i:=0) (x:=v) (by rw[hv];rfl)),.f (by simp;omega)] rfl (by simp[U0] <;> omega) ?_;exact rd (i+1) (by omega) h (by rw[<-hg];rfl)
     ·refine go tt [.f (by simp[G9,lm]),.f (by simp[U6];omega),.f rfl] rfl (by simp[U0] <;> omega) ?_;exact rd (i+1) (by omega) h (by rw[<-hg];rfl)
  ·obtain rfl:i=p.length:=by omega
   refine Ue [.f (by simp;omega)] rfl ?_;rw[Q6];exact rc () trivial rfl
 ·intro _ _;have cn:=KU (Ln (Rz p)) (by rw[G7];exact Qa (MN hs) (by decide));rw[G7]at cn;exact Ug [.k cn,.k (Py false _)] rfl (by simp[U9]) trivial
end Orr
namespace Orr
def Bd(s:Nat)(p:Un):Prop:=∀z∈p,Fb z≤s
theorem M9:Fb 0=0:=rfl
theorem Qeb{s:Nat}{p:Un}(h:Bd s p){i:Nat}{z:Int}(hz:p[i]? = some z):Fb z<=s:=h z (Qc hz)
theorem Fq{s:Nat}{p:Un}(h:Bd s p)(k:Nat):Fb (p.getD k 0)<=s:=by
 rw[Qi];cases hk:p[k]? with
 |none=>rw[Kx,M9];exact Qh _
 |some z=>exact Qeb h hk
theorem U4{s t:Nat}{p:Un}(h:Bd s p)(ht:s<=t):Bd t p:=λz hz=>Qa (h z hz) ht
theorem ZC{s:Nat}:Bd s []:=λz hz=>by cases hz
theorem Qs5{s:Nat}{n:Nat}{g:Nat->Int}(h:∀k,k<n->Fb (g k)<=s):Bd s ((List.range n).map g):=λz hz=>by
 obtain⟨k,hk,rfl⟩:=Za.1 hz;exact h k (Kj.1 hk)
theorem sK:∀(l:Un),∀z∈trim l,z∈l
 | [],z,h=>by cases h
 |
  x::l,z,h=>by
  have ih:=sK l;cases hl:trim l with
  |
   nil =>
   simp only[trim,hl]at h
   split at h
   ·cases h
   ·rw[Qk]at h;rw[h];exact Qx ..
  |
   cons y k =>
   simp only[trim,hl]at h;rcases Qm.1 h with rfl|h
   ·exact Qx ..
   ·exact Qg _ (ih z (by rw[hl];exact h))
theorem H6(l:Un):(trim l).length<=l.length:=by
 induction l with
 |nil=>exact Ql _
 |
  cons x l ih =>
  cases hl:trim l with
  |nil=>simp only[trim,hl];split <;> simp
  |cons y k=>simp only[trim,hl];rw[hl]at ih;simp at ih ⊢;exact ih
theorem Tw{s:Nat}{p:Un}(h:Bd s p):Bd s (trim p):=λz hz=>h z (sK p z hz)
theorem VW:∀(l:Un) (k:Nat),(trim l).getD k 0=l.getD k 0
 | [],k=>rfl
 |
  x::l,k=>by
  have ih:=VW l;cases hl:trim l with
  |
   nil =>
   rw[hl]at ih;simp only[trim,hl]
   split
   ·rename_i hx;cases k with
    |zero=>simp[hx]
    |succ k=>have:=ih k;simp at this ⊢;exact this
   ·cases k with
    |zero=>simp
    |succ k=>have:=ih k;simp at this ⊢;exact this
  |
   cons y m =>
   rw[hl]at ih;simp only[trim,hl];cases k with
   |zero=>simp
   |succ k=>have:=ih k;simp at this ⊢;exact this
def Az(n:Nat)(g:Nat->Int):Un:=trim ((List.range n).map g)
theorem Fx(n:Nat)(g:Nat->Int):Fc (Az n g):=Rm _
theorem I4(n:Nat)(g:Nat->Int):(Az n g).length<=n:=Qa (H6 _) (by simp)
theorem S8(n:Nat)(g:Nat->Int)(k:Nat):(Az n g).getD k 0=if k<n then g k else 0:=by
 unfold Az;rw[VW,Qi,Q9]
 split
 ·rename_i h;rw[List.getElem?_range h];rfl
 ·rename_i h;rw[List.getElem?_eq_none (by simpa using h)];rfl
theorem JO{s n:Nat}{g:Nat->Int}(h:∀k,k<n->Fb (g k)<=s):Bd s (Az n g):=Tw (Qs5 h)
def A0(p q:Un):Un:=Az (max p.length q.length) λk=>p.getD k 0+q.getD k 0
def M4(p q:Un):Un:=Az (max p.length q.length) λk=>p.getD k 0-q.getD k 0
def Mr(p:Un):Un:=Az p.length λk=>-(p.getD k 0)
def Ft(p:Un)(c:Int):Un:=Az p.length λk=>p.getD k 0*c
def Gv(p:Un):Un:=Az (p.length-1) λk=>p.getD (k+1) 0*((k+1:Nat):Int)
theorem YQ{s t:Nat}{p q:Un}(h:Bd s p)(h':Bd t q):Bd (max s t+1) (A0 p q):=JO λk _=>Qa (QS _ _) (by have:=Fq h k;have:=Fq h' k;omega)
theorem Do{s t:Nat}{p q:Un}(h:Bd s p)(h':Bd t q):Bd (max s t+1) (M4 p q):=JO λk _=>Qa (jA _ _) (by have:=Fq h k;have:=Fq h' k;omega)
theorem MZ{s:Nat}{p:Un}(h:Bd s p):Bd s (Mr p):=JO λk _=>by rw[Hj];exact Fq h k
theorem Ge{s t:Nat}{p:Un}{c:Int}(h:Bd s p)(hc:Fb c<=t):Bd (s+t) (Ft p c):=JO λk _=>Qa (Fz _ _) (by have:=Fq h k;omega)
theorem Oa(p q:Un):(A0 p q).length<=max p.length q.length:=I4 _ _
theorem Nb(p q:Un):(M4 p q).length<=max p.length q.length:=I4 _ _
theorem XB(p:Un):(Mr p).length<=p.length:=I4 _ _
theorem Fw(p:Un)(c:Int):(Ft p c).length<=p.length:=I4 _ _
theorem Na(p:Un):(Gv p).length<=p.length-1:=I4 _ _
theorem jE{k t:Nat}(h:k<2^t):Fb (k:Int)<=t:=by rw[T0];simpa using h
theorem Qcl{k:Nat}(h:k<274877906944):Fb (k:Int)<=4294967295:=Qa (jE (t:=38) (Kh h (by decide))) (by omega)
theorem xU{s t:Nat}{p:Un}(h:Bd s p)(hl:p.length<=2^t):Bd (s+t) (Gv p):=JO λk hk=>Qa (Fz _ _) (by
 have:=Fq h (k+1);have:=jE (k:=k+1) (t:=t) (by omega);omega)
def Oe(x:Int)(b:Un)(i:Nat)(o:Un):Nat->Un
 | 0=>o
 |k+1=>(Oe x b i o k).set (i+k) ((Oe x b i o k).getD (i+k) 0+x*b.getD k 0)
def Ap(a b o:Un):Nat->Un
 | 0=>o
 |i+1=>Oe (a.getD i 0) b i (Ap a b o i) b.length
def Gj(a b:Un):Un:=if a.length=0\/b.length=0 then []else trim (Ap a b (List.replicate (a.length+b.length-1) 0) a.length)
theorem Of(x:Int)(b:Un)(i:Nat)(o:Un)(k:Nat):(Oe x b i o k).length=o.length:=by
 induction k with
 |zero=>rfl
 |succ k ih=>simp[Oe,ih]
theorem Lc(a b o:Un)(i:Nat):(Ap a b o i).length=o.length:=by
 induction i with
 |zero=>rfl
 |succ i ih=>simp[Ap,Of,ih]
theorem Qhy(l:Un)(i m:Nat)(v:Int)(h:i<l.length):(l.set i v).getD m 0=if m=i then v else l.getD m 0:=by
 rw[Qi,Yn,Qi];by_cases e:i=m
 ·subst e;simp[h]
 ·rw[if_neg e,if_neg (λh=>e h.symm)]
theorem Qcs(x:Int)(b:Un)(i:Nat)(o:Un)(k m:Nat)(h:i+k<=o.length):(Oe x b i o k).getD m 0=if i<=m/\m<i+k then o.getD m 0+x*b.getD (m-i) 0 else o.getD m 0:=by
 induction k with
 |zero=>simp only[Oe];rw[if_neg (by omega)]
 |
  succ k ih =>
  have ih:=ih (by omega);simp only[Oe];rw[Qhy _ _ _ _ (by rw[Of];omega)];by_cases e:m=i+k
  ·subst e;rw[if_pos rfl,if_pos (by omega),show i+k-i=k from by omega];rw[ih,if_neg (by omega)]
  ·rw[if_neg e,ih];by_cases h1:i<=m/\m<i+k
   ·rw[if_pos h1,if_pos (by omega)]
   ·rw[if_neg h1,if_neg (by omega)]
theorem Nc{x y:Int}{s t:Nat}(hx:Fb x<=s)(hy:Fb y<=t):(x*y).natAbs<=2^(s+t):=by
 have h:=Qa (Fz x y) (show _<=s+t by omega);rw[T0]at h;omega
theorem yU{x:Int}{b:Un}{i:Nat}{o:Un}{k M:Nat}(h:i+k<=o.length)(ho:∀m,(o.getD m 0).natAbs<=i*M)(hx:∀j,(x*b.getD j 0).natAbs<=M)(m:Nat):((Oe x b i o k).getD m 0).natAbs<=(i+1)*M:=by
 rw[Qcs x b i o k m h,Xa];have h1:=ho m
 split
 ·have h2:=hx (m-i);generalize i*M=q at *;omega
 ·omega
theorem yW{a b o:Un}{i M:Nat}(h:∀j,j<i->j+b.length<=o.length)(ho:∀m,o.getD m 0=0)(hx:∀i j,(a.getD i 0*b.getD j 0).natAbs<=M)(m:Nat):((Ap a b o i).getD m 0).natAbs<=i*M:=by
 induction i generalizing m with
 |zero=>simp only[Ap];rw[ho];simp
 |
  succ i ih =>
  simp only[Ap];exact yU (by rw[Lc];exact h i (by omega)) (ih λj hj=>h j (by omega)) (hx i) m
theorem Ip{z:Int}{i s t:Nat}(h:z.natAbs<=i*2^s)(hi:i<2^t):Fb z<=s+t:=by
 rw[T0];have h1:i*2^s<2^t*2^s:=Xn hi (Z3 (by decide));rw[<-Xf,Jv t s]at h1;omega
theorem Ch(n m:Nat):(List.replicate n (0:Int)).getD m 0=0:=by
 rw[Qi,J0];split <;> rfl
theorem NE{s:Nat}{p:Un}(h:∀m,Fb (p.getD m 0)<=s):Bd s p:=λz hz=>by
 obtain⟨i,hi⟩:=Zk.1 hz;have:=h i;rw[Qi,hi]at this;exact this
theorem Tv(a b:Un):(Gj a b).length<=a.length+b.length-1:=by
 unfold Gj
 split
 ·simp
 ·refine Qa (H6 _) ?_;rw[Lc];simp
theorem Pg{s t u:Nat}{a b:Un}(ha:Bd s a)(hb:Bd t b)(hl:a.length<2^u):Bd (s+t+u) (Gj a b):=by
 unfold Gj
 split
 ·exact ZC
 ·refine Tw (NE λm=>?_);exact Ip (yW (M:=2^(s+t)) (λj hj=>by simp;omega) (Ch _) (λi j=>Nc (Fq ha i) (Fq hb j)) m) hl
theorem Hx(a b:Un):Fc (Gj a b):=by
 unfold Gj
 split
 ·rfl
 ·exact Rm _
def L8(a:Un)(n d:Int):Nat->Int×Int
 | 0=>(0,1)
 |k+1=>((L8 a n d k).1*n+a.getD (a.length-1-k) 0*(L8 a n d k).2,(L8 a n d k).2*d)
def Qvv(a:Un)(n d:Int):Int:=(L8 a n d a.length).1
theorem Qap{a:Un}{n d:Int}{s t k:Nat}(ha:Bd s a)(hn:Fb n<=t)(hd:Fb d<=t):Fb (L8 a n d k).1<=s+2+k*(t+1)/\Fb (L8 a n d k).2<=1+k*t:=by
 induction k with
 |zero=>exact⟨by simp[L8,M9],by simp[L8];decide⟩
 |
  succ k ih =>
  obtain⟨h1,h2⟩:=ih;have h3:=Fq ha (a.length-1-k);have e1:k*(t+1)=k*t+k:=by rw[Xj,Yw]
  rw[Xa,Xa];refine⟨?_,?_⟩
  ·simp only[L8];refine Qa (QS _ _) ?_;have h4:=Fz (L8 a n d k).1 n;have h5:=Fz (a.getD (a.length-1-k) 0) (L8 a n d k).2;generalize k*t=q at *;rw[e1]at h1 ⊢;omega
  ·simp only[L8];have h4:=Fz (L8 a n d k).2 d;generalize k*t=q at *;omega
end Orr
namespace Orr
theorem jZ{x y:Int}:D6 x y=0↔x=y:=by
 unfold D6;constructor
 ·intro h
  split at h
  ·omega
  ·split at h <;> omega
 ·rintro rfl;simp
theorem H7{p:Un}(h:Fc p)(h0:0<p.length):p.getD (p.length-1) 0≠0:=by
 induction p with
 |nil=>simp at h0
 |
  cons x l ih =>
  unfold Fc at h;cases hl:trim l with
  |
   nil =>
   simp only[trim,hl]at h
   split at h
   ·cases h
   ·rename_i hx;injection h with h1 h2;subst h2;simpa using hx
  |
   cons y k =>
   simp only[trim,hl]at h;injection h with h1 h2;rw[<-hl]at h2;have ih:=ih h2 (by rw[<-h2,hl];simp);have h3:0<l.length:=by rw[<-h2,hl];simp
   simp only[Q5,Yb];obtain⟨m,hm⟩:∃m,l.length=m+1:=⟨l.length-1,by omega⟩;rw[hm]at ih ⊢;simpa using ih
end Orr
namespace Orr
theorem gJ(p:Un):(List.range p.length).map (λk=>p.getD k 0)=p:=by
 apply Xk;intro i;rw[Q9];rcases Zb i p.length with h|h
 ·rw[X1 h];simp[Qe h]
 ·rw[Qu (by simpa using h),Qu h];rfl
theorem DZ{p q:Un}(hl:p.length=q.length)(h:∀j,j<p.length->p.getD j 0=q.getD j 0):p=q:=by
 rw[<-gJ p,<-gJ q,<-hl];exact Xq λj hj=>h j (Kj.1 hj)
end Orr
namespace Orr
abbrev rl(q:Rat):Us:=[sg q.num,mg q.num,sg (q.den:Int),mg (q.den:Int)]
theorem D8(n d:Int):Rz [n,d]=Int.gcd d n:=by
 unfold Rz;simp only[Z9,List.foldl_nil,Nat.gcd_zero_left];exact Nat.gcd_comm _ _
theorem fK{n d:Int}(hd:d≠0):(0:Int)<((Rz [n,d]:Nat):Int):=by
 rw[D8];have:=Int.gcd_pos_of_ne_zero_left n hd;omega
theorem DN(n d:Int):n % ((Rz [n,d]:Nat):Int)=0:=by
 rw[D8];exact Jy (Ww ..)
theorem DC(n d:Int):d % ((Rz [n,d]:Nat):Int)=0:=by
 rw[D8];exact Jy (Int.gcd_dvd_left ..)
theorem iT{n g:Int}(h:n % g=0):-n % g=0:=by
 exact Jy (Int.dvd_neg.2 (Vf h))
theorem aB{n d:Int}{s:Nat}(hd:d≠0)(h:Fb d<=s):Fb ((Rz [n,d]:Nat):Int)<=s:=by
 rw[D8];refine Qa (Rf ?_) h;have:=Kv (by omega:0<d.natAbs) (show Int.gcd d n∣d.natAbs from W3 _ _);simpa using this
theorem iV{n d:Int}(hd:0<d):n / ((Rz [n,d]:Nat):Int)=(Rat.divInt n d).num/\d / ((Rz [n,d]:Nat):Int)=((Rat.divInt n d).den:Int):=by
 rw[D8,Rat.num_divInt,Wn,if_neg (by omega),Yu hd,Kq];refine⟨rfl,?_⟩;rw[Int.natCast_ediv,Int.natAbs_of_nonneg (by omega)]
theorem Qo4{n d:Int}(hd:d<0):-n / ((Rz [n,d]:Nat):Int)=(Rat.divInt n d).num/\-d / ((Rz [n,d]:Nat):Int)=((Rat.divInt n d).den:Int):=by
 rw[D8,Rat.num_divInt,Wn,if_neg (by omega),J7 hd,Ko,Kq];refine⟨rfl,?_⟩;rw[Int.natCast_ediv,Int.ofNat_natAbs_of_nonpos (by omega)]
theorem XS(u g:Int):Fb (u / g)<=Fb u:=by
 unfold Fb;exact Rf (Int.natAbs_ediv_le_natAbs u g)
theorem Rw{n d:Int}{s:Nat}(h:Fb n<=s):Fb (Rat.divInt n d).num<=s:=by
 rw[Rat.num_divInt];refine Qa (XS _ _) ?_;unfold Fb;rw[J9];refine Qa (Rf ?_) h;have:d.sign.natAbs<=1:=by rcases Av d with⟨_,e⟩|⟨_,e⟩|⟨_,e⟩ <;> rw[e] <;> decide
 calc d.sign.natAbs*n.natAbs<=1*n.natAbs:=Q0 _ this
  _=n.natAbs:=Wo _
theorem Rv{n d:Int}{s:Nat}(h:Fb d<=s)(h1:1<=s):Fb ((Rat.divInt n d).den:Int)<=s:=by
 rw[Wn]
 split
 ·exact h1
 ·refine Qa (Rf ?_) h;exact Jr _ _
def Qs(s:Nat)(q:Rat):Prop:=Fb q.num<=s/\Fb (q.den:Int)<=s
theorem Qs.mono{s t:Nat}{q:Rat}(h:Qs s q)(ht:s<=t):Qs t q:=⟨Qa h.1 ht,Qa h.2 ht⟩
theorem Qs.divInt{s:Nat}{n d:Int}(h:Fb n<=s)(h':Fb d<=s)(h1:1<=s):Qs s (Rat.divInt n d):=⟨Rw h,Rv h' h1⟩
theorem Dh(q:Rat):(q.den:Int)≠0:=by have:=q.den_nz;omega
theorem den_pos(q:Rat):(0:Int)<(q.den:Int):=by have:=q.den_nz;omega
def Gd(n d:Int):Rat:=Rat.divInt n (if d=0 then 1 else d)
theorem Tq(q:Rat):Gd q.num q.den=q:=by
 unfold Gd;rw[if_neg (Dh q)];exact Z1 q
def Hb(a b:Rat):Int:=D6 (a.num*(b.den:Int)) (b.num*(a.den:Int))
theorem Nt{a b:Rat}:Hb a b<0↔a<b:=by
 rw[Rat.lt_iff];unfold Hb D6;constructor
 ·intro h;split at h
  ·assumption
  ·split at h <;> omega
 ·intro h;rw[if_pos h];decide
theorem Eh{a b:Rat}:0<Hb a b↔b<a:=by
 rw[Rat.lt_iff];unfold Hb D6;constructor
 ·intro h;split at h
  ·omega
  ·split at h
   ·assumption
   ·omega
 ·intro h;rw[if_neg (by omega),if_pos h];decide
theorem Ew(a:Rat):Hb a a=0:=by unfold Hb D6;simp
structure Crv where
 x:List Int
 y:List Int
 d:Int
abbrev cl(k:Crv):Us:=[pl k.x,pl k.y,sg k.d,mg k.d]
def Crv.d'(k:Crv):Int:=if k.d=0 then 1 else k.d
def Crv.g(k:Crv):Int:=if k.d'<0 then -((Rz (k.d'::(trim k.x++trim k.y)):Nat):Int)else(Rz (k.d'::(trim k.x++trim k.y)):Nat)
def Crv.norm(k:Crv):Crv:=⟨trim ((trim k.x).map (· / k.g)),trim ((trim k.y).map (· / k.g)),k.d' / k.g⟩
theorem XW{l:Un}:∀z∈l,((Rz l:Nat):Int)∣z:=by
 have key:∀(l:Un) (g:Nat),(l.foldl (λg z=>Nat.gcd g z.natAbs) g∣g)/\∀z∈l,l.foldl (λg z=>Nat.gcd g z.natAbs) g∣z.natAbs:=by
  intro l
  induction l with
  |nil=>intro g;exact⟨Nat.dvd_refl _,by simp⟩
  |
   cons u l ih =>
   intro g;obtain⟨h1,h2⟩:=ih (Nat.gcd g u.natAbs);refine⟨Nat.dvd_trans h1 (W3 _ _),λz hz=>?_⟩;rcases Qm.1 hz with rfl|hz
   ·exact Nat.dvd_trans h1 (Nat.gcd_dvd_right _ _)
   ·exact h2 z hz
 intro z hz;have:=(key l 0).2 z hz;exact Wq.2 this
theorem Crv.d'_ne(k:Crv):k.d'≠0:=by unfold Crv.d';split <;> omega
theorem Crv.gcd_ne(k:Crv):Rz (k.d'::(trim k.x++trim k.y))≠0:=by
 intro e;have h:=XW (l:=k.d'::(trim k.x++trim k.y)) k.d' (Qx ..);rw[e]at h;exact k.d'_ne (by simpa using h)
theorem Crv.g_ne(k:Crv):k.g≠0:=by
 have h0:=k.gcd_ne;unfold Crv.g
 split <;> omega
theorem Crv.g_dvd(k:Crv):∀z∈k.d'::(trim k.x++trim k.y),z % k.g=0:=by
 intro z hz;have h:=XW z hz;refine Jy ?_;unfold Crv.g
 split
 ·exact Ud.2 h
 ·exact h
theorem Crv.isz_g(k:Crv){s:Nat}(h:Fb k.d'<=s):Fb k.g<=s:=by
 have hd:=XW (l:=k.d'::(trim k.x++trim k.y)) k.d' (Qx ..);have hle:Rz (k.d'::(trim k.x++trim k.y))<=k.d'.natAbs:=Kv (by have:=k.d'_ne;omega) (Wq.1 hd);refine Qa (Rf ?_) h;unfold Crv.g
 split <;> simp <;> exact hle
structure Cs(s n:Nat)(k:Crv):Prop where
 x:Bd s k.x
 y:Bd s k.y
 d:Fb k.d<=s
 lx:k.x.length<=n
 ly:k.y.length<=n
theorem Qic{k:Crv}{s:Nat}(h:Fb k.d<=s)(h1:1<=s):Fb k.d'<=s:=by unfold Crv.d';split <;> first|exact h1|exact h
theorem HW{s:Nat}{p:Un}(h:Bd s p)(g:Int):Bd s (p.map (· / g)):=λz hz=>by
 obtain⟨u,hu,rfl⟩:=Za.1 hz;exact Qa (XS u g) (h u hu)
theorem Cs.norm{s n:Nat}{k:Crv}(h:Cs s n k)(h1:1<=s):Cs s n k.norm:=by
 refine⟨Tw (HW (Tw h.x) _),Tw (HW (Tw h.y) _),Qa (XS _ _) (Qic h.d h1),?_,?_⟩
 ·refine Qa (H6 _) ?_;rw[Q8];exact Qa (H6 _) h.lx
 ·refine Qa (H6 _) ?_;rw[Q8];exact Qa (H6 _) h.ly
theorem Cs.mono{s n t m:Nat}{k:Crv}(h:Cs s n k)(hs:s<=t)(hn:n<=m):Cs t m k:=⟨U4 h.x hs,U4 h.y hs,Qa h.d hs,Qa h.lx hn,Qa h.ly hn⟩
def ZM(k:Crv):Prop:=Fc k.x/\Fc k.y/\0<k.d/\Rz (k.d::(k.x++k.y))=1
theorem Crv.norm_of{k:Crv}(h:ZM k):k.norm=k:=by
 obtain⟨h1,h2,h3,h4⟩:=h;have hd:k.d'=k.d:=by unfold Crv.d';rw[if_neg (by omega)]
 have hx:trim k.x=k.x:=h1;have hy:trim k.y=k.y:=h2;have hg:k.g=1:=by unfold Crv.g;rw[hd,hx,hy,h4,if_neg (by omega)];rfl
 unfold Crv.norm;rw[hg,hd,hx,hy];simp[hx,hy]
theorem jM{l:Un}{g:Int}(hg:g≠0)(hga:g.natAbs=Rz l):Rz (l.map (· / g))=1:=by
 have key:∀(l:Un) (a:Nat),(∀z∈l,g∣z)->l.foldl (λa z=>Nat.gcd a z.natAbs) (a*g.natAbs)=((l.map (· / g)).foldl (λa z=>Nat.gcd a z.natAbs) a)*g.natAbs:=by
  intro l
  induction l with
  |nil=>intro a _;rfl
  |
   cons z l ih =>
   intro a h;simp only[Zz,Z9];have hz:z.natAbs=(z / g).natAbs*g.natAbs:=by
    obtain⟨q,rfl⟩:=h z (Qx ..);rw[Jc _ hg,J9,Zq]
   rw[hz,Nat.gcd_mul_right];exact ih _ λu hu=>h u (Qg _ hu)
 have h:=key l 0 λz hz=>X2.1 (by rw[hga];exact X2.2 (XW z hz))
 rw[Yl]at h;have h':Rz l=Rz (l.map (· / g))*g.natAbs:=h;rw[<-hga]at h';have hp:0<g.natAbs:=by omega
 exact Nat.eq_of_mul_eq_mul_right hp (by rw[Wo];exact h'.symm)
theorem JC{l:Un}{g:Int}(ht:Fc l)(hg:g≠0)(hd:∀z∈l,g∣z):Fc (l.map (· / g)):=by
 induction l with
 |nil=>rfl
 |
  cons x l ih =>
  have hne:∀z∈x::l,z≠0->z / g≠0:=λz hz h0 h1=>by
   obtain⟨q,rfl⟩:=hd z hz;rw[Jc _ hg]at h1;rw[h1]at h0;simp at h0
  unfold Fc at ht ih ⊢;cases hl:trim l with
  |
   nil =>
   simp only[trim,hl]at ht
   split at ht
   ·cases ht
   ·rename_i hx;injection ht with _ h2;subst h2;simp[trim,hne x (Qx ..) hx]
  |
   cons y k =>
   simp only[trim,hl]at ht;injection ht with _ h2;have hll:trim l=l:=by rw[hl];exact h2
   have ih:=ih hll λz hz=>hd z (Qg _ hz)
   rw[Zz];have hne2:l.map (· / g)≠[]:=by rw[<-hll,hl];simp
   cases hm:l.map (· / g)with
   |nil=>exact absurd hm hne2
   |
    cons u w =>
    rw[hm]at ih;have e:trim (x / g::u::w)=match trim (u::w)with| []=>if x / g=0 then []else [x / g]|y::k=>x / g::y::k:=rfl
    rw[e,ih]
theorem Crv.nml(k:Crv):ZM k.norm:=by
 have hg:=k.g_ne;have hdv:∀z∈k.d'::(trim k.x++trim k.y),k.g∣z:=λz hz=>Vf (k.g_dvd z hz)
 have hx:=JC (g:=k.g) (Rm k.x) hg λz hz=>hdv z (by simp[hz])
 have hy:=JC (g:=k.g) (Rm k.y) hg λz hz=>hdv z (by simp[hz])
 refine⟨Rm _,Rm _,?_,?_⟩
 ·show 0<k.d' / k.g;obtain⟨q,hq⟩:=hdv k.d' (Qx ..);have h0:=k.d'_ne;have hgc:=k.gcd_ne;have e:k.d' / k.g=q:=by rw[hq,Jc _ hg]
  rw[e];unfold Crv.g at hq hg;have hq0:q≠0:=λe=>by rw[e,Wb]at hq;exact h0 hq
  split at hq
  ·rename_i hneg;rcases Wp hq0 with h|h
   ·have:=V9 (a:=-((Rz (k.d'::(trim k.x++trim k.y)):Nat):Int)) (b:=q) (by omega) h;omega
   ·exact h
  ·rename_i hneg;rcases Wp hq0 with h|h
   ·have:=V8 (a:=((Rz (k.d'::(trim k.x++trim k.y)):Nat):Int)) (b:=q) (by omega) h;omega
   ·exact h
 ·show Rz (k.d' / k.g::(trim ((trim k.x).map (· / k.g))++trim ((trim k.y).map (· / k.g))))=1;rw[show trim ((trim k.x).map (· / k.g))=(trim k.x).map (· / k.g) from hx,show trim ((trim k.y).map (· / k.g))=(trim k.y).map (· / k.g) from hy,<-Yh,<-Zz (f:=(· / k.g))];refine jM hg ?_;unfold Crv.g
  split <;> omega
structure Pt where
 c:Crv
 id:Int
def Fa(p:Pt):Us:=[pl p.c.x,pl p.c.y,sg p.c.d,mg p.c.d,.int .i64 p.id]
def pts(l:List Pt):LV:=.row (l.map Fa)
def Rt:List Pt->Int->Nat
 | [],_=>0
 |p::l,id=>if p.id<id then Rt l id+1 else 0
def has(l:List Pt)(id:Int):Bool:=match l[Rt l id]? with
 |some p=>decide (p.id=id)
 |none=>false
theorem yO(l:List Pt)(id:Int):Rt l id<=l.length:=by
 induction l with
 |nil=>exact Ql _
 |cons p l ih=>simp only[Rt];split <;> simp <;> omega
theorem EV:∀{l:List Pt} {id:Int} {k:Nat},(∀j p,j<k->l[j]? = some p->p.id<id)->(k=l.length\/∃p,l[k]? = some p/\¬p.id<id)->Rt l id=k
 |
  [],id,k,_,h=>by
  rcases h with h|⟨p,h,_⟩
  ·subst h;rfl
  ·simp at h
 |
  q::l,id,0,_,h=>by
  rcases h with h|⟨p,h,h2⟩
  ·simp at h
  ·simp at h;subst h;simp[Rt,h2]
 |
  q::l,id,k+1,h1,h=>by
  have hq:=h1 0 q (by omega) rfl;simp only[Rt,hq,if_true];rw[EV (k:=k) (λj p hj hp=>h1 (j+1) p (by omega) (by simpa using hp))];rcases h with h|⟨p,h,h2⟩
  ·left;simpa using h
  ·right;exact⟨p,by simpa using h,h2⟩
def put(l:List Pt)(q:Pt):List Pt:=l.take (Rt l q.id)++q::l.drop (Rt l q.id)
def WG(l:List Pt)(q:Pt):Int:=if has l q.id=true then 6 else if 6<=l.length then 9 else 0
def Qaw(s n:Nat)(p:Pt):Prop:=ZM p.c/\Cs s n p.c
theorem oP(l:List Pt)(q:Pt):(put l q).length=l.length+1:=by
 have:=yO l q.id;simp[put];omega
theorem NX{l:List Pt}{q p:Pt}(h:p∈put l q):p=q\/p∈l:=by
 unfold put at h;rcases Qr.1 h with h|h
 ·exact .inr (Qn h)
 ·rcases Qm.1 h with h|h
  ·exact .inl h
  ·exact .inr (Qz h)
def Ea(a b:Crv):Bool:=decide (a.x=b.x/\a.y=b.y/\a.d=b.d)
def B5(out:List Pt)(p:Pt):List Pt:=if out.any (λq=>Ea p.c q.c)=true then out else out++[p]
def Tn(l:List Pt):List Pt:=l.foldl B5 []
theorem Qdp{out:List Pt}{p q:Pt}(h:q∈B5 out p):q∈out\/q=p:=by
 unfold B5 at h
 split at h
 ·exact .inl h
 ·rcases Qr.1 h with h|h
  ·exact .inl h
  ·exact .inr (by simpa using h)
theorem Qdo(out:List Pt)(p:Pt):(B5 out p).length<=out.length+1:=by
 unfold B5;split <;> simp
theorem Sf{α β:Type}(f:β->α->β)(b:β)(l:List α){i:Nat}{x:α}(h:l[i]? = some x):(l.take (i+1)).foldl f b=f ((l.take i).foldl f b) x:=by
 rw[Y7,h];simp[Vq]
theorem KV(l:List Pt)(i:Nat):∀q∈(l.take i).foldl B5 [],q∈l:=by
 induction i with
 |zero=>simp
 |
  succ i ih =>
  intro q hq;cases hi:l[i]? with
  |
   none =>
   rw[Qo (by have:=Jp.1 hi;omega)]at hq;rw[Qo (Jp.1 hi)]at ih;exact ih q hq
  |
   some x =>
   rw[Sf _ _ _ hi]at hq;rcases Qdp hq with h|h
   ·exact ih q h
   ·subst h;exact Qc hi
theorem KY(l:List Pt)(i:Nat):((l.take i).foldl B5 []).length<=i:=by
 induction i with
 |zero=>simp
 |
  succ i ih =>
  cases hi:l[i]? with
  |
   none =>
   rw[Qo (by have:=Jp.1 hi;omega)];rw[Qo (Jp.1 hi)]at ih;omega
  |
   some x =>
   rw[Sf _ _ _ hi];have:=Qdo ((l.take i).foldl B5 []) x;omega
theorem No{l:List Pt}{q:Pt}(h:q∈Tn l):q∈l:=by
 have:=KV l l.length q;rw[Q6]at this;exact this h
theorem O5(l:List Pt):(Tn l).length<=l.length:=by
 have:=KY l l.length;rwa[Q6]at this
def H9(p:Un)(q:Rat):Int:=D6 (Qvv p q.num q.den) 0
abbrev qa(q:Rat):Us:=pl [-q.num,(q.den:Int)]::(rl q++rl q)
def Tu(sgn:Un->Int):Nat->Un->Int
 | 0,_=>0
 |k+1,p=>if p.length=0 then 0 else if sgn p=0 then Tu sgn k (Gv p)else sgn p
theorem XG(sgn:Un->Int):∀(k:Nat) (p:Un),p.length<=k->Tu sgn k p=Tu sgn p.length p
 |
  0,p,h=>by
  have:p.length=0:=by omega
  rw[this]
 |
  k+1,p,h=>by
  cases hp:p.length with
  |zero=>simp[Tu,hp]
  |
   succ m =>
   simp only[Tu];have h1:=Na p;rw[XG sgn k (Gv p) (by omega),XG sgn m (Gv p) (by omega)]
theorem fG(sgn:Un->Int){p:Un}(h:p.length=0):Tu sgn p.length p=0:=by rw[h];rfl
theorem fU(sgn:Un->Int){p:Un}(h:0<p.length)(hs:sgn p≠0):Tu sgn p.length p=sgn p:=by
 obtain⟨m,hm⟩:∃m,p.length=m+1:=⟨p.length-1,by omega⟩;rw[hm];simp only[Tu];rw[if_neg (by omega),if_neg hs]
theorem fF(sgn:Un->Int){p:Un}(h:0<p.length)(hs:sgn p=0):Tu sgn p.length p=Tu sgn (Gv p).length (Gv p):=by
 obtain⟨m,hm⟩:∃m,p.length=m+1:=⟨p.length-1,by omega⟩;rw[hm];simp only[Tu];rw[if_neg (by omega),if_pos hs];exact XG sgn m _ (by have:=Na p;omega)
structure Tm where
 p:List Int
 lo:Rat
 hi:Rat
abbrev ta(t:Tm):Us:=pl t.p::(rl t.lo++rl t.hi)
abbrev tq(q:Rat):Tm:=⟨[-q.num,(q.den:Int)],q,q⟩
def Hi(sg:Un->Int)(p:Un):Int:=Tu sg p.length p
structure Pb(p:List Int):Prop where
 t:Fc p
 l:p.length<=64
 b:Bd 16777216 p
abbrev Qb(q:Rat):Prop:=Qs 16777216 q
abbrev Cb(k:Crv):Prop:=Cs 1048576 16 k
def Gl(a b:Crv):Un:=M4 (Ft b.x a.d) (Ft a.x b.d)
def Gk(a b:Crv):Un:=M4 (Ft b.y a.d) (Ft a.y b.d)
theorem rW{a b:Crv}(ha:Cb a)(hb:Cb b):Pb (Gl a b)/\(Gl a b).length<=16/\Bd 2097153 (Gl a b):=by
 have h1:Bd 2097153 (Gl a b):=U4 (Do (Ge hb.x ha.d) (Ge ha.x hb.d)) (by omega);have h2:(Gl a b).length<=16:=by
  refine Qa (Nb _ _) ?_;have:=Fw b.x a.d;have:=Fw a.x b.d;have:=ha.lx;have:=hb.lx;omega
 exact⟨⟨Fx _ _,by omega,U4 h1 (by omega)⟩,h2,h1⟩
theorem rV{a b:Crv}(ha:Cb a)(hb:Cb b):Pb (Gk a b)/\(Gk a b).length<=16/\Bd 2097153 (Gk a b):=by
 have h1:Bd 2097153 (Gk a b):=U4 (Do (Ge hb.y ha.d) (Ge ha.y hb.d)) (by omega);have h2:(Gk a b).length<=16:=by
  refine Qa (Nb _ _) ?_;have:=Fw b.y a.d;have:=Fw a.y b.d;have:=ha.ly;have:=hb.ly;omega
 exact⟨⟨Fx _ _,by omega,U4 h1 (by omega)⟩,h2,h1⟩
def Lv(sg:Un->Int)(a b:Pt):Uo->Bool
 | []=>decide (a.id<b.id)
 |p::l=>if 0<p.length then decide (0<Hi sg p)else Lv sg a b l
def B9(sg:Un->Int)(a b:Pt):Bool:=Lv sg a b [Gk b.c a.c,Gl b.c a.c]
def Ts(sg:Un->Int)(a b:Pt):Bool:=Lv sg a b [Gl a.c b.c,Gk a.c b.c]
end Orr
namespace Orr
open Go
structure Ct where
 kind:Int
 i0:Int
 i1:Int
 i2:Int
 i3:Int
 p:List Int
 want:Int
abbrev Lu(c:Ct):Us:=[.int .i64 c.kind,.int .i64 c.i0,.int .i64 c.i1,.int .i64 c.i2,.int .i64 c.i3,pl c.p,.int .i64 c.want]
def Lq(p q:Un):Un:=if 0<p.length then p else q
def C9:Un->Un->Bool
 |x::l,y::m=>if x=y then C9 l m else decide (x<y)
 |_,_=>false
def fL(a b:Ct):Bool:=C9 [a.kind,a.i0,a.i1,a.i2,a.i3] [b.kind,b.i0,b.i1,b.i2,b.i3]
def JW(out:List Ct)(c:Ct):Nat->Nat
 | 0=>0
 |
  k+1=>match out[k]? with
  |some x=>if fL c x=true then JW out c k else k+1
  |none=>k+1
theorem oY(out:List Ct)(c:Ct):∀k,JW out c k<=k
 | 0=>Ql _
 |
  k+1=>by
  simp only[JW]
  split
  ·split
   ·exact Nat.le_succ_of_le (oY out c k)
   ·exact Ql _
  ·exact Ql _
theorem Qpq{out:List Ct}{c x:Ct}{k:Nat}(hx:out[k]? = some x)(h:fL c x=true):JW out c (k+1)=JW out c k:=by
 simp only[JW,hx,h,if_true]
theorem Qjp{out:List Ct}{c x:Ct}{k:Nat}(hx:out[k]? = some x)(h:fL c x=false):JW out c (k+1)=k+1:=by
 simp[JW,hx,h]
def KI(out:List Ct)(c:Ct):List Ct:=out.take (JW out c out.length)++c::out.drop (JW out c out.length)
theorem Qh5(out:List Ct)(c:Ct):(KI out c).length=out.length+1:=by
 have:=oY out c out.length;simp[KI];omega
theorem Qh6{out:List Ct}{c x:Ct}(h:x∈KI out c):x=c\/x∈out:=by
 simp only[KI,Qr,Qm]at h;rcases h with h|h|h
 ·exact .inr (Qn h)
 ·exact .inl h
 ·exact .inr (Qz h)
def Fv(l:List Ct):List Ct:=l.foldl KI []
theorem dQ(l:List Ct)(c:Ct):Fv (l++[c])=KI (Fv l) c:=by simp[Fv,Vq]
theorem dZ{l:List Ct}{i:Nat}{c:Ct}(h:l[i]? = some c):Fv (l.take (i+1))=KI (Fv (l.take i)) c:=by
 rw[Z2,h];exact dQ _ _
theorem OM:∀(l acc:List Ct),(l.foldl KI acc).length=acc.length+l.length
 | [],acc=>by simp
 |c::l,acc=>by simp only[Z9];rw[OM l (KI acc c),Qh5];simp;omega
theorem Dn(l:List Ct):(Fv l).length=l.length:=by unfold Fv;rw[OM];simp
theorem ON:∀(l acc:List Ct) {x:Ct},x∈l.foldl KI acc->x∈l\/x∈acc
 | [],acc,x,h=>.inr h
 |
  c::l,acc,x,h=>by
  simp only[Z9]at h;rcases ON l _ h with h|h
  ·exact .inl (Qg _ h)
  ·rcases Qh6 h with rfl|h
   ·exact .inl (Qx ..)
   ·exact .inr h
theorem VJ{l:List Ct}{x:Ct}(h:x∈Fv l):x∈l:=by
 rcases ON l [] h with h|h
 ·exact h
 ·cases h
theorem fP{α:Type}(l:List α)(z x:α){k m':Nat}(hk:k<=l.length)(hm:m'=l.length-k) :
 ((l++[z]).take (k+1)++((l++[z]).drop k).take m'++(l++[z]).drop (k+1+m')).set k x=l.take k++x::l.drop k:=by
 subst hm;have e1:((l++[z]).drop k).take (l.length-k)=l.drop k:=by
  rw[Wh hk,Vp (by simp),Qo (by simp)]
 have e2:(l++[z]).drop (k+1+(l.length-k))=[]:=Yv (by simp;omega);rw[e1,e2,Zv];have e3:(l++[z]).take (k+1)=(l++[z]).take k++[(l++[z])[k]'(by simp;omega)]:=by rw[List.take_succ_eq_append_getElem]
 rw[e3,Vp hk,Zd,List.set_append,if_neg (by simp;omega)];simp[Zx hk]
def Aq(a b:Pt):Un:=Lq (Gl a.c b.c) (Gk a.c b.c)
def An(a b:Pt):Un:=Lq (Gk b.c a.c) (Gl b.c a.c)
def QC(sg:Un->Int)(a b:Pt):Ct:={ kind:=1,i0:=a.id,i1:=b.id,i2:=0,i3:=0,p:=Aq a b,want:=Hi sg (Aq a b) }
def Dx(sg:Un->Int)(a b:Pt):Ct:={ kind:=2,i0:=a.id,i1:=b.id,i2:=0,i3:=0,p:=An a b,want:=Hi sg (An a b) }
end Orr
namespace Orr
open Go Go.Proofs Tryz
set_option maxRecDepth 10000
abbrev pr(p:Un):TV:=.one (pl p)
theorem Pj{p:Un}{i:Nat}{z:Int}(h:p[i]? = some z):(p.map He)[i]? = some (He z):=G6 h
theorem BD(p:Un):Uk 181 [pr p] [pr (trim p)]:=by
 refine Fu func181 rfl (ln 0 rfl rfl λhl=>?_);rw[Q8]at hl;refine Ue [] rfl ?_;refine lp (S:=Nat) 0 (λL1 n=>(3,.v (.oi n))::L1) (λ_=>[]) id (λn=>n<=p.length/\∀j x,n<=j->p[j]? = some x->x=0) (p.map He).length ⟨by simp,λj x h1 h2=>by
  have:=(Qf.1 h2).1;simp at h1;omega⟩ rfl (λ_ _=>rfl) rfl λn ⟨h1,h2⟩=>?_
 cases n with
 |zero=>exact Ug [.f (by simp),.f rfl,.i 0] rfl (by rw[sY h1 h2 (λh=>by omega)];simp[pl]) (by simp[U0])
 |
  succ n =>
  obtain⟨x,hx⟩:=gxE (l:=p) (i:=n) (by omega);by_cases h0:x=0
  ·refine Uf [.t (by simp),.r 11 (v:=.oi n) (by simp),.x (Pj hx),.k Df,.t (by simp[h0]),.r 17 (v:=.oi n) (by simp)] rfl ?_;exact rd n (by simp) ⟨by omega,λj y h3 h4=>by
    rcases Vk h3 with rfl|h3
    ·rw[hx]at h4;injection h4 with h4;rw[<-h4,h0]
    ·exact h2 j y h3 h4⟩ rfl
  ·exact Ug [.t (by simp),.r 11 (v:=.oi n) (by simp),.x (Pj hx),.k Df,.f (by simp[h0]),.i (n+1)] rfl (by rw[sY h1 h2 (λ_=>⟨x,hx,h0⟩)];simp[pl,Jw]) (by simp[U0] <;> omega)
theorem lL(p:Un)(k:Nat):Uk 285 [pr p,.oi k] [.agg (He (p.getD k 0))]:=by
 by_cases h:k<p.length
 ·have hx:=Qe h;have e:p.getD k 0=p[k]:=by simp[List.getD,hx]
  rw[e];exact Uh func285 rfl [.t (by simp;omega),.x (Pj hx)] rfl
 ·have e:p.getD k 0=0:=by simp[List.getD,Qu (J8 h)]
  rw[e,Lf];exact Uh func285 rfl [.f (by simp;omega)] rfl
def AG(f:Nat->Us)(z:Us)(n k:Nat):Ut:=(List.range n).map λi=>if i<k then f i else z
theorem If(f:Nat->Us)(z:Us)(n k:Nat):(AG f z n k).length=n:=by simp[AG]
theorem Ag(f:Nat->Us)(z:Us)(n:Nat):List.replicate n z=AG f z n 0:=by
 refine Xk λi=>?_
 simp only[AG,J0,Q9];by_cases h:i<n
 ·simp[h]
 ·simp[h]
theorem QG(f:Nat->Us)(z:Us)(n:Nat):AG f z n n=(List.range n).map f:=by
 refine Xq λi hi=>?_
 rw[if_pos (Kj.1 hi)]
theorem QH(f:Nat->Us)(z:Us){n k:Nat}(h:k<n):(AG f z n k).set k (f k)=AG f z n (k+1):=by
 refine Xk λi=>?_
 rw[Yn];simp only[AG,Q9,Q8,List.length_range,h,if_true];by_cases e:k=i
 ·subst e;simp[h]
 ·simp only[e,if_false];by_cases hi:i<n
  ·simp only[X1 hi,Ym];congr 1;by_cases h2:i<k
   ·rw[if_pos h2,if_pos (by omega)]
   ·rw[if_neg h2,if_neg (by omega)]
  ·simp[Qu,hi]
theorem xA{n fid:Nat}{l1 l2:Us}{g:Nat->Int}(hn:n<274877906944)(h:∀k,k<n->AS prog fid [.oi k,.one (.sh l1),.one (.sh l2)] [.agg (He (g k))]):Uk 110 [.oi n,.one (.fn fid [] [.sh l1,.sh l2])] [pr (Az n g)]:=by
 refine Fu func110 rfl ?_;refine Uf [.i n,.i n,.r 10 (eI (b:=(n:Int)) (by simp))] rfl ?_;rw[Ag λk=>He (g k)];refine Uj (S:=Nat) 1 (λL1 k=>(11,.v (.oi k))::L1) (λk=>[.row false 36 2 (AG (λk=>He (g k)) [.bool false,.nils] n k)]) (λk=>n-k) (λk=>k<=n) 0 (Qh _) rfl rfl λk hk=>?_
 by_cases hlt:k<n
 ·refine go tt [.t (by simp;omega),.k (h k hlt),.i k] rfl (by simp[U0,If];omega) ?_;have e:=QH (λk=>He (g k)) [.bool false,.nils] hlt;rw[e];exact rd (k+1) (by omega) hlt rfl
 ·obtain rfl:k=n:=by omega
  have e:AG (λk=>He (g k)) [.bool false,.nils] k k=((List.range k).map g).map He:=by rw[QG];simp
  rw[e];exact Ug [.f (by simp),.k (BD _)] rfl
theorem lC{n fid:Nat}{l1:Us}{g:Nat->Int}(hn:n<274877906944)(h:∀k,k<n->AS prog fid [.oi k,.one (.sh l1)] [.agg (He (g k))]):Uk 110 [.oi n,.one (.fn fid [] [.sh l1])] [pr (Az n g)]:=by
 refine Fu func110 rfl ?_;refine Uf [.i n,.i n,.r 10 (eI (b:=(n:Int)) (by simp))] rfl ?_;rw[Ag λk=>He (g k)];refine Uj (S:=Nat) 1 (λL1 k=>(11,.v (.oi k))::L1) (λk=>[.row false 36 2 (AG (λk=>He (g k)) [.bool false,.nils] n k)]) (λk=>n-k) (λk=>k<=n) 0 (Qh _) rfl rfl λk hk=>?_
 by_cases hlt:k<n
 ·refine go tt [.t (by simp;omega),.k (h k hlt),.i k] rfl (by simp[U0,If];omega) ?_;have e:=QH (λk=>He (g k)) [.bool false,.nils] hlt;rw[e];exact rd (k+1) (by omega) hlt rfl
 ·obtain rfl:k=n:=by omega
  have e:AG (λk=>He (g k)) [.bool false,.nils] k k=((List.range k).map g).map He:=by rw[QG];simp
  rw[e];exact Ug [.f (by simp),.k (BD _)] rfl
theorem Qta{p q:Un}(k:Nat)(hp:Bd 4294967295 p)(hq:Bd 4294967295 q):Uk 299 [.oi k,.one (.sh [pl p]),.one (.sh [pl q])] [.agg (He (p.getD k 0+q.getD k 0))] :=
 Uh func299 rfl [.k (lL p k),.k (lL q k),.k (KH (U3 _) (U3 _) (Fq hp k) (Fq hq k))] rfl
theorem Qtt{p q:Un}(k:Nat)(hp:Bd 4294967295 p)(hq:Bd 4294967295 q):Uk 283 [.oi k,.one (.sh [pl p]),.one (.sh [pl q])] [.agg (He (p.getD k 0-q.getD k 0))] :=
 Uh func283 rfl [.k (lL p k),.k (lL q k),.k (Qfm (U3 _) (U3 _) (Fq hp k) (Fq hq k))] rfl
theorem Ru{p:Un}{k:Nat}(h:k<p.length):p[k]? = some (p.getD k 0):=by simp[List.getD,Qe h]
theorem Qfe{p:Un}{c:Int}{k:Nat}(hk:k<p.length)(hp:Bd 4294967295 p)(hc:Fb c<=4294967295):Uk 111 [.oi k,.one (.sh [pl p]),.one (.sh (He c))] [.agg (He (p.getD k 0*c))] :=
 Uh func111 rfl [.x (Pj (Ru hk)),.k (Px (U3 _) (U3 _) (Fq hp k) hc)] rfl
theorem Qtn{p:Un}{k:Nat}(hk:k<p.length)(hp:Bd 4294967295 p):Uk 339 [.oi k,.one (.sh [pl p])] [.agg (He (-(p.getD k 0)))] :=
 Uh func339 rfl [.x (Pj (Ru hk)),.k (BW (U3 _) (Fq hp k))] rfl
theorem Qa8{p:Un}{k:Nat}(hk:k+1<p.length)(hl:p.length<274877906944)(hp:Bd 4294967295 p):Uk 317 [.oi k,.one (.sh [pl p])] [.agg (He (p.getD (k+1) 0*((k+1:Nat):Int)))] :=
 Uh func317 rfl [.x (Pj (Ru hk)),.r 10 (eI (b:=((k+1:Nat):Int)) (by omega)),.k (BU (by omega)),.k (Px (U3 _) (U3 _) (Fq hp _) (Qcl (show k+1<274877906944 by omega)))] rfl rfl (by simp[U0] <;> omega)
theorem BF{p q:Un}(hlp:p.length<274877906944)(hlq:q.length<274877906944)(hp:Bd 4294967295 p)(hq:Bd 4294967295 q):Uk 265 [pr p,pr q] [pr (A0 p q)] :=
 Uh func265 rfl [.r 9 (eI (b:=((max p.length q.length:Nat):Int)) (by simp;omega)),.k (xA (by omega) λk _=>Qta k hp hq)] rfl
theorem HG{p q:Un}(hlp:p.length<274877906944)(hlq:q.length<274877906944)(hp:Bd 4294967295 p)(hq:Bd 4294967295 q):Uk 243 [pr p,pr q] [pr (M4 p q)] :=
 Uh func243 rfl [.r 9 (eI (b:=((max p.length q.length:Nat):Int)) (by simp;omega)),.k (xA (by omega) λk _=>Qtt k hp hq)] rfl
theorem Qe0{p:Un}(hlp:p.length<274877906944)(hp:Bd 4294967295 p):Uk 320 [pr p] [pr (Mr p)] :=
 Uh func320 rfl [.r 4 (eI (b:=(p.length:Int)) (by simp)),.k (lC hlp λk hk=>Qtn hk hp)] rfl
theorem Pn{p:Un}{c:Int}(hlp:p.length<274877906944)(hp:Bd 4294967295 p)(hc:Fb c<=4294967295):Uk 47 [pr p,.agg (He c)] [pr (Ft p c)] :=
 Uh func47 rfl [.r 6 (eI (b:=(p.length:Int)) (by simp)),.k (xA hlp λk hk=>Qfe hk hp hc)] rfl
theorem Iy{p:Un}(hlp:p.length<274877906944)(hp:Bd 4294967295 p):Uk 280 [pr p] [pr (Gv p)] :=
 Uh func280 rfl [.r 6 (eI (b:=((p.length-1:Nat):Int)) (by simp;omega)),.k (lC (by omega) λk hk=>Qa8 (by omega) hlp hp)] rfl rfl (by simp[U0];omega)
theorem Ca{ls:Ut}{p:Un}(hi:IsInts ls p)(hl:p.length<274877906944)(hs:Bd 4294967295 p):Uk 205 [.one (.row ls)] [pr (trim p)]:=by
 refine Fu func205 rfl ?_;have hlen:=hi.len;refine Uf [.i ls.length,.i ls.length] rfl ?_;rw[Ag λk=>He (p.getD k 0)];refine Uj (S:=Nat) 1 (λL1 k=>(11,.v (.oi k))::L1) (λk=>[.row false 36 2 (AG (λk=>He (p.getD k 0)) [.bool false,.nils] ls.length k)]) (λk=>ls.length-k) (λk=>k<=ls.length) 0 (Qh _) rfl rfl λk hk=>?_
 by_cases hlt:k<ls.length
 ·obtain⟨x,y,hx,hxy⟩:=hi.get (Ru (p:=p) (k:=k) (by omega));have cn:=Ml hxy (Fq hs k);obtain⟨b,l,rfl,rfl,_⟩:=hxy;refine go tt [.t (by simp;omega),.x hx,.k cn,.i k] rfl (by simp[U0,If];omega) ?_;have e:=QH (λk=>He (p.getD k 0)) [.bool false,.nils] hlt;rw[e];exact rd (k+1) (by omega) hlt rfl
 ·obtain rfl:k=ls.length:=by omega
  have e:AG (λk=>He (p.getD k 0)) [.bool false,.nils] ls.length ls.length=p.map He:=by
   rw[QG,hlen];refine Xk λi=>?_
   by_cases hi:i<p.length
   ·simp[X1 hi,List.getD,Qe hi]
   ·simp[Qu,hi]
  rw[e];exact Ug [.f (by simp),.k (BD _)] rfl
theorem Hq{p:Un}(ht:Fc p)(hl:p.length<274877906944)(hs:Bd 4294967295 p):Uk 205 [pr p] [pr p]:=by
 have:=Ca (Gm p) hl hs;rw[ht]at this;exact this
theorem Qou{p:Un}{i:Nat}{z:Int}(h:p[i]? = some z):(p.map λ(x:Int)=>[LV.int .i64 x])[i]? = some [.int .i64 z]:=G6 h
theorem lF{p:Un}(hl:p.length<274877906944)(hr:∀z∈p,-9223372036854775808≤z/\z≤9223372036854775807):Uk 150 [.one (ids p)] [pr (trim p)]:=by
 refine Fu func150 rfl ?_;refine Uf [.r 7 (eI (b:=(p.length:Int)) (by simp)),.i p.length,.i p.length,.r 10 (eI (b:=(p.length:Int)) (by simp))] rfl ?_;rw[Ag λk=>He (p.getD k 0)];refine Uj (S:=Nat) 1 (λL1 k=>(11,.v (.oi k))::L1) (λk=>[.row false 36 2 (AG (λk=>He (p.getD k 0)) [.bool false,.nils] p.length k)]) (λk=>p.length-k) (λk=>k<=p.length) 0 (Qh _) rfl rfl λk hk=>?_
 by_cases hlt:k<p.length
 ·have hg:=Ru hlt;refine go tt [.t (by simp;omega),.x (Qou hg),.k (BU (hr _ (Qc hg))),.i k] rfl (by simp[U0,If];omega) ?_;have e:=QH (λk=>He (p.getD k 0)) [.bool false,.nils] hlt;rw[e];exact rd (k+1) (by omega) hlt rfl
 ·obtain rfl:k=p.length:=by omega
  have e:AG (λk=>He (p.getD k 0)) [.bool false,.nils] p.length p.length=p.map He:=by
   rw[QG];refine Xk λi=>?_
   by_cases hi:i<p.length
   ·simp[X1 hi,List.getD,Qe hi]
   ·simp[Qu,hi]
  rw[e];exact Ug [.f (by simp),.k (BD _)] rfl
theorem bL(l:Un)(i:Nat)(z:Int):(l.map He).set i (He z)=(l.set i z).map He:=by rw[Vs]
theorem NV(m:Nat):((List.replicate m [LV.bool false,LV.nils]).map λc=>c.map FT)=(List.replicate m (0:Int)).map He:=by
 simp[Lf,FT]
theorem xP{p0 q:Un}{s t:Nat}(tq:Fc q)(hlp:p0.length<137438953472)(hlq:q.length<137438953472)(hp:Bd s p0)(hq:Bd t q)(hst:s+t<=4294967000):Uk 266 [pr p0,pr q] [pr (Gj (trim p0) q)]:=by
 have cp:=Ca (Gm p0) (by omega) (U4 hp (show s<=4294967295 by omega));have hp:=Tw hp;have hlp:=Z4 (H6 p0) hlp;obtain⟨p,ep⟩:=nmE (trim p0);rw[<-ep]at cp hp hlp ⊢;have cq:=Hq tq (by omega) (U4 hq (show t<=4294967295 by omega));by_cases h0:p.length=0
 ·have e:Gj p q=[]:=by unfold Gj;rw[if_pos (.inl h0)]
  rw[e];exact Uh func266 rfl [.k cp,.k cq,.t (by simp;exact Qj h0),.t rfl] rfl
 by_cases h1:q.length=0
 ·have e:Gj p q=[]:=by unfold Gj;rw[if_pos (.inr h1)]
  rw[e];exact Uh func266 rfl [.k cp,.k cq,.f (by simp;intro h;subst h;simp at h0),.t (by simp;exact Qj h1)] rfl
 refine Fu func266 rfl ?_;have e:Gj p q=trim (Ap p q (List.replicate (p.length+q.length-1) 0) p.length):=by unfold Gj;rw[if_neg (by omega)]
 rw[e];obtain⟨N,hN⟩:=nmE (p.length+q.length-1);rw[<-hN];obtain⟨o,ho⟩:=nmE (List.replicate N (0:Int));rw[<-ho];have hol:o.length=N:=by rw[ho];simp
 have ho0:∀m,o.getD m 0=0:=λm=>by rw[ho];exact Ch N m
 refine Uf [.k cp,.k cq,.f (by simp;intro h;subst h;simp at h0),.f (by simp;intro h;subst h;simp at h1),.r 27 (eI (b:=(N:Int)) (by simp;omega)),.i N,.i N] rfl ?_;refine nl 0 rfl rfl rfl ?_;rw[NV,<-ho];refine Uj (S:=Nat) 1 (λL1 i=>(31,.v (.oi i))::L1) (λi=>[.row false 36 2 ((Ap p q o i).map He)]) (λi=>p.length-i) (λi=>i<=p.length) 0 (Qh _) rfl rfl λi hi=>?_
 by_cases hlt:i<p.length
 ·refine Ue [.t (by simp;omega),.x (Pj (Ru hlt))] rfl ?_;refine Uj (S:=Nat) 2 (λL1 k=>(38,.v (.oi k))::L1) (λk=>[.row false 36 2 ((Oe (p.getD i 0) q i (Ap p q o i) k).map He),.blk 36 (He (p.getD i 0))]) (λk=>q.length-k) (λk=>k<=q.length) 0 (Qh _) rfl rfl λk hk=>?_
  by_cases hk2:k<q.length
  ·have hm1:Fb ((Oe (p.getD i 0) q i (Ap p q o i) k).getD (i+k) 0)<=4294967295:=Qa (Ip (t:=39) (yU (by rw[Lc];omega) (yW (λj hj=>by omega) ho0 (λi j=>Nc (Fq hp i) (Fq hq j))) (λj=>Nc (Fq hp i) (Fq hq j)) (i+k)) (Kh (show i+1<549755813888 by omega) (by decide))) (by omega);have hm2:Fb (p.getD i 0*q.getD k 0)<=4294967295:=Qa (Fz _ _) (by have:=Fq hp i;have:=Fq hq k;omega);have hg:(Oe (p.getD i 0) q i (Ap p q o i) k)[i+k]? = some ((Oe (p.getD i 0) q i (Ap p q o i) k).getD (i+k) 0):=Ru (by rw[Of,Lc];omega);refine go tt [.t (by simp;omega),.x (Pj (Ru hk2)),.i (i+k),.x (Pj hg),.k (Px (U3 _) (U3 _) (Qa (Fq hp i) (by omega)) (Qa (Fq hq k) (by omega))),.k (KH (U3 _) (U3 _) hm1 hm2),.i (i+k)] rfl (by simp[U0,Of,Lc] <;> omega) ?_;rw[bL];exact rd (k+1) (by omega) hk2 rfl
  ·obtain rfl:k=q.length:=by omega
   exact go tt [.f (by simp)] rfl (by simp[U0];omega) (rd (i+1) (by omega) hlt rfl)
 ·obtain rfl:i=p.length:=by omega
  exact Ug [.f (by simp),.k (BD _)] rfl
theorem KG{p q:Un}{s t:Nat}(tp:Fc p)(tq:Fc q)(hlp:p.length<137438953472)(hlq:q.length<137438953472)(hp:Bd s p)(hq:Bd t q)(hst:s+t<=4294967000):Uk 266 [pr p,pr q] [pr (Gj p q)]:=by
 have h:=xP tq hlp hlq hp hq hst;rw[show trim p=p from tp]at h;exact h
theorem MJ{p q:Un}(hlp:p.length<274877906944)(hlq:q.length<274877906944)(hp:Bd 4294967295 p)(hq:Bd 4294967295 q):Uk 148 [pr p,pr q] [.one (.bool (decide (trim p=trim q)))]:=by
 refine Fu func148 rfl ?_;have cp:=Ca (Gm p) hlp hp;have cq:=Ca (Gm q) hlq hq;have bp:=Tw hp;have bq:=Tw hq;have l1:=H6 p;have l2:=H6 q;obtain⟨a,ha⟩:=nmE (trim p);obtain⟨b,hb⟩:=nmE (trim q);rw[<-ha]at cp bp l1 ⊢;rw[<-hb]at cq bq l2 ⊢;by_cases hl:a.length=b.length
 ·refine Ue [.k cp,.k cq,.f (by simp;omega)] rfl ?_;refine Uj (S:=Nat) 0 (λL1 i=>(18,.v (.oi i))::L1) (λ_=>[]) (λi=>a.length-i) (λi=>i<=a.length/\a.take i=b.take i) 0 ⟨Qh _,rfl⟩ rfl rfl λi ⟨hi,he⟩=>?_
  by_cases hlt:i<a.length
  ·have ga:=Ru hlt;have gb:=Ru (p:=b) (k:=i) (by omega);have cc:=HH (U3 (a.getD i 0)) (U3 (b.getD i 0)) (Fq bp i) (Fq bq i);by_cases hz:a.getD i 0=b.getD i 0
   ·refine Uf [.t (by simp;omega),.x (Pj ga),.x (Pj gb),.k cc,.f (by simpa using jZ.2 hz)] rfl ?_;exact rd (i+1) (by omega) ⟨hlt,by rw[Y7,Y7,he,ga,gb,hz]⟩ rfl
   ·exact Ug [.t (by simp;omega),.x (Pj ga),.x (Pj gb),.k cc,.t (by have:=mt jZ.1 hz;simpa using this)] rfl (by rw[decide_eq_false];intro h;exact hz (by rw[h])) trivial
  ·obtain rfl:i=a.length:=by omega
   rw[Q6,hl,Q6]at he;exact Ug [.f (by simp)] rfl (by rw[decide_eq_true he]) trivial
 ·exact Ug [.k cp,.k cq,.t (by simp;omega)] rfl (by rw[decide_eq_false];intro h;exact hl (by rw[h])) trivial
theorem Qe5{p:Un}{n d:Int}{s t:Nat}(hl:p.length<274877906944)(hp:Bd s p)(hn:Fb n<=t)(hd:Fb d<=t)(hst:s+p.length*(t+1)+2*t+10<=4294967295):Uk 310 [pr p,.agg (He n),.agg (He d)] [.agg (He (Qvv p n d))]:=by
 refine Fu func310 rfl ?_;refine Uf [.k (BU (z:=1) (by decide)),.r 13 (eI (b:=(p.length:Int)-1-((0:Nat):Int)) (by simp))] rfl ?_;refine nlb 3 rfl rfl rfl ?_;have e0:[LV.bool false,LV.nils].map FT=He (L8 p n d 0).1:=by simp[FT,L8,Lf]
 rw[e0];refine Uj (S:=Nat) 5 (λL1 j=>(9,.v (.oi ((p.length:Int)-1-(j:Int))))::L1) (λj=>[.blk 36 (He n),.blk 36 (He d),.blk 36 [.bool false,.nils],.blk 36 (He (L8 p n d j).1),.blk 36 (He (L8 p n d j).2)]) (λj=>p.length-j) (λj=>j<=p.length) 0 (Qh _) rfl rfl λj hj=>?_
 have hv:=Qap (k:=j) hp hn hd;have hjl:j*(t+1)<=p.length*(t+1):=Q0 _ (by omega);have hjl2:j*t<=j*(t+1):=Zu _ (by omega);by_cases hlt:j<p.length
 ·have hc:=Fq hp (p.length-1-j);have hm1:Fb ((L8 p n d j).1*n)<=4294967295:=Qa (Fz _ _) (by omega);have hm2:Fb (p.getD (p.length-1-j) 0*(L8 p n d j).2)<=4294967295:=Qa (Fz _ _) (by omega);refine go tt [.t (by simp;omega),.k (Px (U3 _) (U3 _) (by omega) (by omega)),.r 22 (eI (b:=((p.length-1-j:Nat):Int)) (by omega)),.x (Pj (Ru (p:=p) (k:=p.length-1-j) (by omega))),.k (Px (U3 _) (U3 _) (by omega) (by omega)),.k (KH (U3 _) (U3 _) hm1 hm2),.k (Px (U3 _) (U3 _) (by omega) (by omega)),.r 17 (eI (b:=(p.length:Int)-1-((j+1:Nat):Int)) (by omega))] rfl (by simp[U0] <;> omega) ?_;exact rd (j+1) (by omega) hlt rfl
 ·obtain rfl:j=p.length:=by omega
  exact Ug [.f (by simp;omega)] rfl
theorem Dq{p:Un}(tp:Fc p)(hl:p.length<274877906944)(hp:Bd 4294967295 p):Uk 334 [pr p] [.agg (He (p.getD (p.length-1) 0))]:=by
 have cn:=Hq tp hl hp;by_cases h0:p=[]
 ·subst h0;exact Uh func334 rfl [.k cn,.t (by simp)] rfl (by simp[Lf]) trivial
 ·have hpl:0<p.length:=J4.2 h0;exact Uh func334 rfl [.k cn,.f (by simpa using h0),.r 12 (eI (b:=((p.length-1:Nat):Int)) (by simp;omega)),.x (Pj (Ru (by omega)))] rfl rfl (by simp[U0];omega)
theorem Qsk{a b:Int}{q:Rat}(h1:a=q.num)(h2:b=(q.den:Int)):[sg a,mg a,sg b,mg b]=rl q:=by rw[h1,h2]
theorem ZL{n d:Int}(h0:d≠0)(hn:Fb n<=4294967295)(hd:Fb d<=4294967295):Uk 211 [.agg (He n),.agg (He d)] [.agg (rl (Rat.divInt n d))]:=by
 have cg:=Qel (Gm [n,d]) (λz hz=>by simp at hz;rcases hz with rfl|rfl <;> assumption);have gp:=fK (n:=n) h0;have gs:=aB (n:=n) h0 hd;have m1:=DN n d;have m2:=DC n d;obtain⟨g,hg⟩:=nmE (((Rz [n,d]:Nat):Int));rw[<-hg]at cg gp gs m1 m2;by_cases hneg:d<0
 ·obtain⟨e1,e2⟩:=Qo4 (n:=n) hneg;rw[<-hg]at e1 e2;rw[<-Qsk e1 e2];exact Uh func211 rfl [.k cg,.t (by simpa using hneg),.k (BW (U3 n) hn),.k (BW (U3 d) hd),.k (A5 (U3 _) (U3 _) (by rw[Hj];exact hn) gs (by omega) (iT m1)),.k (A5 (U3 _) (U3 _) (by rw[Hj];exact hd) gs (by omega) (iT m2))] rfl
 ·obtain⟨e1,e2⟩:=iV (n:=n) (d:=d) (by omega);rw[<-hg]at e1 e2;rw[<-Qsk e1 e2];exact Uh func211 rfl [.k cg,.f (by simpa using hneg),.k (A5 (U3 _) (U3 _) hn gs (by omega) m1),.k (A5 (U3 _) (U3 _) hd gs (by omega) m2)] rfl
theorem MK{x y x' y':LV}{n d:Int}(h1:Gb x y n)(h2:Gb x' y' d)(hn:Fb n<=4294967295)(hd:Fb d<=4294967295):Uk 140 [.agg [x,y,x',y']] [.agg (rl (Gd n d))]:=by
 have c1:=Ml h1 hn;have c2:=Ml h2 hd;obtain⟨b,l,rfl,rfl,_⟩:=h1;obtain⟨b',l',rfl,rfl,_⟩:=h2;by_cases h0:d=0
 ·have e:Gd n d=Rat.divInt n 1:=by unfold Gd;rw[if_pos h0]
  rw[e];exact Uh func140 rfl [.k c2,.k Df,.t (by simpa using h0),.k (BU (z:=1) (by decide)),.k c1,.k (ZL (by decide) hn (by decide))] rfl
 ·have e:Gd n d=Rat.divInt n d:=by unfold Gd;rw[if_neg h0]
  rw[e];exact Uh func140 rfl [.k c2,.k Df,.f (by simpa using h0),.k c1,.k (ZL h0 hn hd)] rfl
theorem BI{q:Rat}(hq:Qs 4294967295 q):Uk 140 [.agg (rl q)] [.agg (rl q)]:=by
 have:=MK (U3 q.num) (U3 (q.den:Int)) hq.1 hq.2;rwa[Tq]at this
theorem Qt5{n:Int}(hn:Fb n<=4294967295):Uk 122 [.agg (He n)] [.agg (rl (n:Rat))] :=
 Uh func122 rfl [.k (Ml (U3 n) hn),.k (BU (z:=1) (by decide))] rfl (by simp[rl]) trivial
theorem xC{a b:Rat}(ha:Qs 2147483647 a)(hb:Qs 2147483647 b):Uk 141 [.agg (rl a),.agg (rl b)] [.agg (He (a.num*(b.den:Int))),.agg (He (b.num*(a.den:Int))),.agg (He ((a.den:Int)*(b.den:Int)))] :=
 Uh func141 rfl [.k (BI (ha.mono (by decide))),.k (BI (hb.mono (by decide))),.k (Px (U3 _) (U3 _) (Qa ha.1 (by decide)) (Qa hb.2 (by decide))),.k (Px (U3 _) (U3 _) (Qa hb.1 (by decide)) (Qa ha.2 (by decide))),.k (Px (U3 _) (U3 _) (Qa ha.2 (by decide)) (Qa hb.2 (by decide)))] rfl
theorem Cd{a b:Rat}(ha:Qs 2147483647 a)(hb:Qs 2147483647 b):Uk 70 [.agg (rl a),.agg (rl b)] [.oi (Hb a b)] :=
 Uh func70 rfl [.k (xC ha hb),.k (HH (U3 _) (U3 _) (Qa (Fz _ _) (by have:=ha.1;have:=hb.2;omega)) (Qa (Fz _ _) (by have:=hb.1;have:=ha.2;omega)))] rfl
theorem BA{x y x' y':LV}{n d:Int}(h1:Gb x y n)(h2:Gb x' y' d)(hn:Fb n<=4294967295)(hd:Fb d<=4294967295):Uk 69 [.agg [x,y,x',y'],.one (.row [])] [.agg (rl (Gd n d))]:=by
 have c1:=MK h1 h2 hn hd;obtain⟨b,l,rfl,rfl,_⟩:=h1;obtain⟨b',l',rfl,rfl,_⟩:=h2;refine Fu func69 rfl ?_;refine Ue [.k c1] rfl ?_;refine Uj (S:=Unit) 3 (λL1 _=>(12,.v (.oi 0))::L1) (λ_=>[.blk 42 [.bool b,.row (lm l),.bool b',.row (lm l')],.blk 42 [.bool false,.nils,.bool false,.nils],.blk 42 (rl (Gd n d))]) (λ_=>0) (λ_=>True) () trivial rfl rfl λ_ _=>?_
 exact Ug [.f (by simp)] rfl
theorem Ns{q:Rat}(hq:Qs 4294967295 q):Uk 69 [.agg (rl q),.one (.row [])] [.agg (rl q)]:=by
 have:=BA (U3 q.num) (U3 (q.den:Int)) hq.1 hq.2;rwa[Tq]at this
theorem Qns{q:Rat}(hq:Qs 4294967295 q):Uk 309 [.agg (rl q)] [.agg (rl q)]:=Uh func309 rfl [.k (Ns hq)] rfl
theorem lG{p:Un}{q:Rat}{s t:Nat}(tp:Fc p)(hl:p.length<274877906944)(hp:Bd s p)(hq:Qs t q)(hst:s+p.length*(t+1)+2*t+10<=4294967295):Uk 270 [pr p,.agg (rl q)] [.oi (H9 p q)]:=by
 have cc:=HH (U3 (Qvv p q.num q.den)) QR (Qa (Qap hp hq.1 hq.2).1 (by omega)) (by decide);exact Uh func270 rfl [.k (Qns (hq.mono (by omega))),.k (Hq tp hl (U4 hp (by omega))),.k (Qe5 hl hp hq.1 hq.2 hst),.k cc] rfl
theorem Qfx{p:Un}{g:Int}(hl:p.length<274877906944)(hp:Bd 4294967295 p)(hg:Fb g≤4294967295)(h0:g≠0)(hd:∀z∈p,z % g=0):Uk 217 [pr p,.agg (He g)] [pr (trim (p.map (· / g)))]:=by
 refine Fu func217 rfl ?_;refine Uf [.r 9 (eI (b:=(p.length:Int)) (by simp)),.i p.length,.i p.length,.r 12 (eI (b:=(p.length:Int)) (by simp))] rfl ?_;rw[Ag λk=>He (p.getD k 0 / g)];refine Uj (S:=Nat) 2 (λL1 k=>(13,.v (.oi k))::L1) (λk=>[.blk 36 (He g),.row false 36 2 (AG (λk=>He (p.getD k 0 / g)) [.bool false,.nils] p.length k)]) (λk=>p.length-k) (λk=>k<=p.length) 0 (Qh _) rfl rfl λk hk=>?_
 by_cases hlt:k<p.length
 ·have hg2:=Ru hlt;refine go tt [.t (by simp;omega),.x (Pj hg2),.k (A5 (U3 _) (U3 _) (Fq hp k) hg h0 (hd _ (Qc hg2))),.i k] rfl (by simp[U0,If];omega) ?_;have e:=QH (λk=>He (p.getD k 0 / g)) [.bool false,.nils] hlt;rw[e];exact rd (k+1) (by omega) hlt rfl
 ·obtain rfl:k=p.length:=by omega
  have e:AG (λk=>He (p.getD k 0 / g)) [.bool false,.nils] p.length p.length=(p.map (· / g)).map He:=by
   rw[QG];refine Xk λi=>?_
   by_cases hi:i<p.length
   ·simp[X1 hi,List.getD,Qe hi]
   ·simp[Qu,hi]
  rw[e];exact Ug [.f (by simp),.k (Ca (Gm (p.map (· / g))) (by simp;exact hl) (HW hp g))] rfl
theorem EQ(p:Un):∀c∈p.map He,c.length=2:=Qse p λ_=>rfl
theorem MY{lx ly:Ut}{px py:Un}{x y:LV}{d:Int}(hx:IsInts lx px)(hy:IsInts ly py)(hd:Gb x y d)(hk:Cs 4294967294 1073741824 (Crv.mk px py d)):Uk 147 [.agg [.row lx,.row ly,x,y]] [.agg (cl (Crv.norm (Crv.mk px py d)))]:=by
 have hlx:=hk.lx;have hly:=hk.ly;simp only at hlx hly;have htx:=H6 px;have hty:=H6 py;have hd1:Fb (Crv.mk px py d).d'<=4294967295:=Qa (Qic hk.d (by omega)) (by omega);have hg1:=Crv.isz_g (Crv.mk px py d) hd1;have hg0:=Crv.g_ne (Crv.mk px py d);have hgd:=Crv.g_dvd (Crv.mk px py d);have cx:=Ca hx (by omega) (U4 hk.x (by omega));have cy:=Ca hy (by omega) (U4 hk.y (by omega));have cd:=Ml hd (Qa hk.d (by omega));have bx:Bd 4294967295 (trim px):=U4 (Tw hk.x) (by omega);have by_:Bd 4294967295 (trim py):=U4 (Tw hk.y) (by omega);obtain⟨b,l,rfl,rfl,_⟩:=hd;obtain⟨e,he⟩:=nmE ((Crv.mk px py d).d');obtain⟨g,hgg⟩:=nmE ((Crv.mk px py d).g);obtain⟨X,hX⟩:=nmE (trim px);obtain⟨Y,hY⟩:=nmE (trim py);have hnorm:(Crv.mk px py d).norm=⟨trim (X.map (· / g)),trim (Y.map (· / g)),e / g⟩:=by rw[he,hgg,hX,hY];rfl
 rw[hnorm];have hgdef:g=if e<0 then -((Rz (e::(X++Y)):Nat):Int)else(Rz (e::(X++Y)):Nat):=by rw[hgg,he,hX,hY];rfl
 have hde:e=if d=0 then 1 else d:=by rw[he];rfl
 simp only[<-he,<-hgg,<-hX,<-hY]at hd1 hg1 hg0 hgd htx hty cx cy bx by_;clear hnorm hgg he hX hY;refine Fu func147 rfl ?_;refine Ue [.k cx,.k cy,.k cd,.k Df] rfl ?_;refine ct 1 (S:=Unit) (λ_=>[(2,.v (.one (.ow 1 0))),(3,.v (pr X)),(4,.v (pr Y)),(5,.v (.one (.ow 2 0)))]) (λ_=>[.blk 38 [.row lx,.row ly,.bool b,.row (lm l)],.blk 38 [.nils,.nils,.bool false,.nils],.blk 36 (He e)]) (λ_=>True) rfl ?_ ?_
 ·by_cases h0:d=0
  ·rw[hde,if_pos h0];exact go tt [.t (by simpa using h0),.k (BU (z:=1) (by decide))] rfl trivial (rc () trivial rfl)
  ·rw[hde,if_neg h0];exact go tt [.f (by simpa using h0)] rfl trivial (rc () trivial rfl)
 ·intro _ _;have hgi:IsInts ([He e]++X.map He++Y.map He) (e::(X++Y)):=by
   have:=Gm (e::(X++Y));simpa using this
  have hgs:∀z∈e::(X++Y),Fb z≤4294967295:=λz hz=>by
   rcases Qm.1 hz with rfl|hz
   ·exact hd1
   ·rcases Qr.1 hz with hz|hz
    ·exact bx z hz
    ·exact by_ z hz
  have cg:=Qel hgi hgs;have co1:=Qfx (p:=X) (by omega) bx hg1 hg0 λz hz=>hgd z (Qg _ (X7 _ hz))
  have co2:=Qfx (p:=Y) (by omega) by_ hg1 hg0 λz hz=>hgd z (Qg _ (Je _ hz))
  have ce:=A5 (U3 e) (U3 g) hd1 hg1 hg0 (hgd e (Qx ..));have hszg:=MN hgs;by_cases hneg:e<0
  ·rw[if_pos hneg]at hgdef;have cn:=BW (U3 ((Rz (e::(X++Y)):Nat):Int)) hszg;rw[<-hgdef]at cn;exact Ug [.lo,.s (EQ X),.s (EQ Y),.k cg,.t (by simpa using hneg),.k cn,.k ce,.k co1,.k co2] rfl rfl (by simp[U0];omega)
  ·rw[if_neg hneg]at hgdef;rw[<-hgdef]at cg;exact Ug [.lo,.s (EQ X),.s (EQ Y),.k cg,.f (by simpa using hneg),.k ce,.k co1,.k co2] rfl rfl (by simp[U0];omega)
theorem BB{k:Crv}(hn:ZM k)(hk:Cs 4294967294 1073741824 k):Uk 147 [.agg (cl k)] [.agg (cl k)]:=by
 have h:=MY (Gm k.x) (Gm k.y) (U3 k.d) hk;rw[Crv.norm_of hn]at h;exact h
theorem UW{lx ly:Ut}{px py:Un}{x y:LV}{d:Int}(hx:IsInts lx px)(hy:IsInts ly py)(hd:Gb x y d)(hk:Cs 4294967294 1073741824 (Crv.mk px py d))(h0:d≠0):Uk 154 [.one (.row lx),.one (.row ly),.agg [x,y]] [.agg (cl (Crv.norm (Crv.mk px py d))),.oi 0]:=by
 have cd:=Ml hd (Qa hk.d (by omega));have cn:=MY hx hy hd hk;obtain⟨b,l,rfl,rfl,_⟩:=hd;exact Uh func154 rfl [.k cd,.k Df,.f (by simpa using h0),.k cn] rfl
theorem Qrt{lx ly:Ut}{px py:Un}(hx:IsInts lx px)(hy:IsInts ly py)(hk:Cs 4294967294 1073741824 (Crv.mk px py 0)):Uk 80 [.one (.row lx),.one (.row ly)] [.agg (cl (Crv.norm (Crv.mk px py 0)))] :=
 Uh func80 rfl [.k (MY hx hy QR hk)] rfl
def O2(x y:Int):Crv:=Crv.norm ⟨trim [x],trim [y],0⟩
theorem uK{x y:Int}(hx:-9223372036854775808<=x/\x<=9223372036854775807)(hy:-9223372036854775808<=y/\y<=9223372036854775807):Cs 64 1 ⟨trim [x],trim [y],0⟩:=by
 have key:∀z:Int,-9223372036854775808<=z/\z<=9223372036854775807->Fb z<=64:=λz hz=>by
  rw[T0];have:(2:Nat)^64=18446744073709551616:=by decide
  omega
 refine⟨Tw λz hz=>?_,Tw λz hz=>?_,Qh _,H6 [x],H6 [y]⟩
 ·rw[Qk]at hz;rw[hz];exact key x hx
 ·rw[Qk]at hz;rw[hz];exact key y hy
theorem Qna{x y:Int}(hx:-9223372036854775808<=x/\x<=9223372036854775807)(hy:-9223372036854775808<=y/\y<=9223372036854775807):Uk 79 [.oi x,.oi y] [.agg (cl (O2 x y))] :=
 Uh func79 rfl [.k (lF (p:=[x]) (show 1<274877906944 by decide) (by intro z hz;rw[Qk]at hz;rw[hz];exact hx)),.k (lF (p:=[y]) (show 1<274877906944 by decide) (by intro z hz;rw[Qk]at hz;rw[hz];exact hy)),.k (Qrt (Gm _) (Gm _) ((uK hx hy).mono (by omega) (by omega)))] rfl
theorem lP{a b:Crv}(ha:ZM a)(hb:ZM b)(ca:Cs 4294967294 1073741824 a)(cb:Cs 4294967294 1073741824 b):Uk 75 [.agg (cl a),.agg (cl b)] [.one (.bool (Ea a b))]:=by
 have na:=BB ha ca;have nb:=BB hb cb;have alx:=ca.lx;have aly:=ca.ly;have blx:=cb.lx;have bly:=cb.ly;have sx:=MJ (p:=a.x) (q:=b.x) (by omega) (by omega) (U4 ca.x (by omega)) (U4 cb.x (by omega));have sy:=MJ (p:=a.y) (q:=b.y) (by omega) (by omega) (U4 ca.y (by omega)) (U4 cb.y (by omega));have sd:=HH (U3 a.d) (U3 b.d) (Qa ca.d (by omega)) (Qa cb.d (by omega));rw[ha.1,hb.1]at sx;rw[ha.2.1,hb.2.1]at sy;by_cases h1:a.x=b.x
 ·by_cases h2:a.y=b.y
  ·exact Uh func75 rfl [.k na,.k nb,.k sx,.t (by simpa using h1),.k sy,.t (by simpa using h2),.k sd] rfl (by simp[Ea,h1,h2,jZ]) trivial
  ·exact Uh func75 rfl [.k na,.k nb,.k sx,.t (by simpa using h1),.k sy,.f (by simpa using h2)] rfl (by simp[Ea,h1,h2]) trivial
 ·exact Uh func75 rfl [.k na,.k nb,.k sx,.f (by simpa using h1),.f rfl] rfl (by simp[Ea,h1]) trivial
end Orr
