/- Ntt L1 L2 L3 L4 L5 M1 P2 M2 PolyL RatL CrvL CrowdL PredL CertL Y1 Y2 Q1 C1 -/
import Derived.Test.YtoohlnnpalgnaaaGreatPart03
import Derived.Laws.StructEq
import Derived.Test.YtoohlnnpalgnaaaGreatProg
import Derived.Test.YtoohlnnpalgnaaaGreatPart00
set_option linter.all false
namespace Orr
open Go Go.Proofs Tryz
theorem aF(d:Nat)(x y:Int)(w:World):(Op.equalIn (d+1) 3 (.int .i64 x) (.int .i64 y)).run prog w=.ok (decide (x=y)) w:=by
 simp[Op.equalIn,runUnderlying3];rfl
noncomputable def ti3:TI prog:=O8 3 isAgg3 sizeOf3 underlying3 zeroValue3 typeInfo3 8 rfl
noncomputable def ti4:TI prog:=O8 4 isAgg4 sizeOf4 underlying4 zeroValue4 typeInfo4 1 rfl
noncomputable def ti5:TI prog:=O8 5 isAgg5 sizeOf5 underlying5 zeroValue5 typeInfo5 1 rfl
noncomputable def ti9:TI prog:=O8 9 isAgg9 sizeOf9 underlying9 zeroValue9 typeInfo9 16 rfl
noncomputable def ti22:TI prog:=O8 22 isAgg22 sizeOf22 underlying22 zeroValue22 typeInfo22 24 rfl
noncomputable def ti23:TI prog:=O8 23 isAgg23 sizeOf23 underlying23 zeroValue23 typeInfo23 24 rfl
noncomputable def ti24:TI prog:=O8 24 isAgg24 sizeOf24 underlying24 zeroValue24 typeInfo24 8 rfl
noncomputable def ti27:TI prog:=GR (ks:=[1,1,1]) (ag:=[false,false,false]) 27 isAgg27 sizeOf27 underlying27 zeroValue27 typeInfo27 24 rfl ⟨sizeOf24,sizeOf25,sizeOf3,trivial⟩ ⟨isAgg24,isAgg25,isAgg3,trivial⟩ rfl
noncomputable def ti30:TI prog:=O8 30 isAgg30 sizeOf30 underlying30 zeroValue30 typeInfo30 8 rfl
noncomputable def ti32:TI prog:=O8 32 isAgg32 sizeOf32 underlying32 zeroValue32 typeInfo32 24 rfl
noncomputable def ti33:TI prog:=O8 33 isAgg33 sizeOf33 underlying33 zeroValue33 typeInfo33 24 rfl
noncomputable def ti34:TI prog:=O8 34 isAgg34 sizeOf34 underlying34 zeroValue34 typeInfo34 24 rfl
noncomputable def ti36:TI prog:=GR (ks:=[1,1]) (ag:=[false,false]) 36 isAgg36 sizeOf36 underlying36 zeroValue36 typeInfo36 32 rfl ⟨sizeOf4,sizeOf34,trivial⟩ ⟨isAgg4,isAgg34,trivial⟩ rfl
noncomputable def ti38:TI prog:=GR (ks:=[1,1,2]) (ag:=[false,false,true]) 38 isAgg38 sizeOf38 underlying38 zeroValue38 typeInfo38 80 rfl ⟨sizeOf33,sizeOf33,sizeOf36,trivial⟩ ⟨isAgg33,isAgg33,isAgg36,trivial⟩ rfl
noncomputable def ti40:TI prog:=GR (ks:=[4,1]) (ag:=[true,false]) 40 isAgg40 sizeOf40 underlying40 zeroValue40 typeInfo40 88 rfl ⟨sizeOf38,sizeOf3,trivial⟩ ⟨isAgg38,isAgg3,trivial⟩ rfl
noncomputable def ti42:TI prog:=GR (ks:=[2,2]) (ag:=[true,true]) 42 isAgg42 sizeOf42 underlying42 zeroValue42 typeInfo42 64 rfl ⟨sizeOf36,sizeOf36,trivial⟩ ⟨isAgg36,isAgg36,trivial⟩ rfl
noncomputable def ti44:TI prog:=GR (ks:=[1,1,1,5,4]) (ag:=[false,false,false,true,true]) 44 isAgg44 sizeOf44 underlying44 zeroValue44 typeInfo44 176 rfl ⟨sizeOf3,sizeOf3,sizeOf3,sizeOf40,sizeOf42,trivial⟩ ⟨isAgg3,isAgg3,isAgg3,isAgg40,isAgg42,trivial⟩ rfl
noncomputable def ti47:TI prog:=O8 47 isAgg47 sizeOf47 underlying47 zeroValue47 typeInfo47 24 rfl
noncomputable def ti49:TI prog:=GR (ks:=[1,1]) (ag:=[false,false]) 49 isAgg49 sizeOf49 underlying49 zeroValue49 typeInfo49 32 rfl ⟨sizeOf47,sizeOf4,trivial⟩ ⟨isAgg47,isAgg4,trivial⟩ rfl
noncomputable def ti51:TI prog:=GR (ks:=[2,2]) (ag:=[true,true]) 51 isAgg51 sizeOf51 underlying51 zeroValue51 typeInfo51 64 rfl ⟨sizeOf49,sizeOf49,trivial⟩ ⟨isAgg49,isAgg49,trivial⟩ rfl
noncomputable def ti57:TI prog:=O8 57 isAgg57 sizeOf57 underlying57 zeroValue57 typeInfo57 24 rfl
noncomputable def ti59:TI prog:=GR (ks:=[1,1,1,1,1]) (ag:=[false,false,false,false,false]) 59 isAgg59 sizeOf59 underlying59 zeroValue59 typeInfo59 120 rfl ⟨sizeOf23,sizeOf23,sizeOf23,sizeOf23,sizeOf57,trivial⟩ ⟨isAgg23,isAgg23,isAgg23,isAgg23,isAgg57,trivial⟩ rfl
set_option maxRecDepth 20000 in
theorem Qok(d:Nat)(x0 x1 x2 x3 x4 y0 y1 y2 y3 y4:Int)(w:World):(Op.equalIn (d+1+1) 63 (.agg #[.int .i64 x0,.int .i64 x1,.int .i64 x2,.int .i64 x3,.int .i64 x4]) (.agg #[.int .i64 y0,.int .i64 y1,.int .i64 y2,.int .i64 y3,.int .i64 y4])).run prog w=.ok (decide ([x0,x1,x2,x3,x4]=[y0,y1,y2,y3,y4])) w:=by
 rw[run_equalIn_array w (d+1) _ _ (n:=5) (e:=3) rfl rfl];rw[show List.range 5=[0,1,2,3,4] from rfl,show prog.cellsOf 3=1 from rfl];simp[Op.eqItems,Go.part,isAgg3,aF];by_cases h0:x0=y0 <;> by_cases h1:x1=y1 <;> by_cases h2:x2=y2 <;> by_cases h3:x3=y3 <;> by_cases h4:x4=y4 <;> simp[h0,h1,h2,h3,h4]
theorem Qux(a b:Uo)(ha:a.length=5)(hb:b.length=5)(w:World):(Op.equal 63 (.agg (a.map (Value.int .i64)).toArray) (.agg (b.map (Value.int .i64)).toArray)).run prog w=.ok (decide (a=b)) w:=by
 match a,ha,b,hb with
 | [x0,x1,x2,x3,x4],_,[y0,y1,y2,y3,y4],_=>exact Qok 9998 x0 x1 x2 x3 x4 y0 y1 y2 y3 y4 w
noncomputable def ti63:TI prog:={ tiA 63 isAgg63 sizeOf63 underlying63 zeroValue63 typeInfo63 40 rfl sizeOf3 with eqn:=some 5,heq:=λk h=>by injection h with h;subst h;exact⟨eqGuardType63,Qux⟩ }
noncomputable def ti66:TI prog:=O8 66 isAgg66 sizeOf66 underlying66 zeroValue66 typeInfo66 24 rfl
noncomputable def ti70:TI prog:=O8 70 isAgg70 sizeOf70 underlying70 zeroValue70 typeInfo70 24 rfl
noncomputable def ti73:TI prog:=O8 73 isAgg73 sizeOf73 underlying73 zeroValue73 typeInfo73 8 rfl
abbrev bJ:List (Nat×Nat×String):=[(388,0,"Advance"),(194,0,"Begin"),(389,0,"Certs"),(63,0,"Clone"),(390,0,"Drop"),(391,0,"Events"),(396,0,"Go"),(81,0,"Ids"),(392,0,"Next"),(400,0,"Now"),(393,0,"Put"),(394,0,"Turn")]
theorem Qvo:∀x∈bJ,∀b o w,(method (prog.types.size+Made.depth) 74 (.pointer (some ⟨b,o,none⟩)) x.2.2).run prog w=.ok (x.1,.pointer (some ⟨b,o+x.2.1,none⟩)) w:=λx hx=>by
 simp only[bJ,Ql,Jn,or_false]at hx;rcases hx with rfl|rfl|rfl|rfl|rfl|rfl|rfl|rfl|rfl|rfl|rfl|rfl <;> first|exact Ap (E:=220) typeInfo74 rfl underlying74|exact Lf (S:=220) (i:=0) typeInfo74 rfl underlying220 rfl underlying216 (λ_ h=>by cases h) sizeOf216 (by decide)
noncomputable def ti74:TI prog:={ O8 74 isAgg74 sizeOf74 underlying74 zeroValue74 typeInfo74 8 rfl with ms:=bJ,hms:=Qvo }
abbrev bY:List (Nat×Nat×String):=[(417,0,"Advance"),(194,0,"Begin"),(389,0,"Certs"),(64,0,"Clone"),(418,0,"Drop"),(391,0,"Events"),(396,0,"Go"),(392,0,"Next"),(400,0,"Now"),(419,0,"Put"),(420,0,"Turn"),(84,0,"Winner")]
theorem Qvp:∀x∈bY,∀b o w,(method (prog.types.size+Made.depth) 75 (.pointer (some ⟨b,o,none⟩)) x.2.2).run prog w=.ok (x.1,.pointer (some ⟨b,o+x.2.1,none⟩)) w:=λx hx=>by
 simp only[bY,Ql,Jn,or_false]at hx;rcases hx with rfl|rfl|rfl|rfl|rfl|rfl|rfl|rfl|rfl|rfl|rfl|rfl <;> first|exact Ap (E:=223) typeInfo75 rfl underlying75|exact Lf (S:=223) (i:=0) typeInfo75 rfl underlying223 rfl underlying216 (λ_ h=>by cases h) sizeOf216 (by decide)
noncomputable def ti75:TI prog:={ O8 75 isAgg75 sizeOf75 underlying75 zeroValue75 typeInfo75 8 rfl with ms:=bY,hms:=Qvp }
abbrev bV:List (Nat×Nat×String):=[(422,0,"Advance"),(194,0,"Begin"),(389,0,"Certs"),(65,0,"Clone"),(423,0,"Drop"),(391,0,"Events"),(396,0,"Go"),(82,0,"Ids"),(392,0,"Next"),(400,0,"Now"),(424,0,"Put"),(425,0,"Turn")]
theorem Qvq:∀x∈bV,∀b o w,(method (prog.types.size+Made.depth) 76 (.pointer (some ⟨b,o,none⟩)) x.2.2).run prog w=.ok (x.1,.pointer (some ⟨b,o+x.2.1,none⟩)) w:=λx hx=>by
 simp only[bV,Ql,Jn,or_false]at hx;rcases hx with rfl|rfl|rfl|rfl|rfl|rfl|rfl|rfl|rfl|rfl|rfl|rfl <;> first|exact Ap (E:=225) typeInfo76 rfl underlying76|exact Lf (S:=225) (i:=0) typeInfo76 rfl underlying225 rfl underlying216 (λ_ h=>by cases h) sizeOf216 (by decide)
noncomputable def ti76:TI prog:={ O8 76 isAgg76 sizeOf76 underlying76 zeroValue76 typeInfo76 8 rfl with ms:=bV,hms:=Qvq }
abbrev bK:List (Nat×Nat×String):=[(427,0,"Advance"),(194,0,"Begin"),(389,0,"Certs"),(66,0,"Clone"),(428,0,"Drop"),(391,0,"Events"),(396,0,"Go"),(85,0,"Ids"),(392,0,"Next"),(400,0,"Now"),(429,0,"Put"),(430,0,"Turn")]
theorem Qvr:∀x∈bK,∀b o w,(method (prog.types.size+Made.depth) 77 (.pointer (some ⟨b,o,none⟩)) x.2.2).run prog w=.ok (x.1,.pointer (some ⟨b,o+x.2.1,none⟩)) w:=λx hx=>by
 simp only[bK,Ql,Jn,or_false]at hx;rcases hx with rfl|rfl|rfl|rfl|rfl|rfl|rfl|rfl|rfl|rfl|rfl|rfl <;> first|exact Ap (E:=227) typeInfo77 rfl underlying77|exact Lf (S:=227) (i:=0) typeInfo77 rfl underlying227 rfl underlying216 (λ_ h=>by cases h) sizeOf216 (by decide)
noncomputable def ti77:TI prog:={ O8 77 isAgg77 sizeOf77 underlying77 zeroValue77 typeInfo77 8 rfl with ms:=bK,hms:=Qvr }
abbrev bW:List (Nat×Nat×String):=[(432,0,"Advance"),(194,0,"Begin"),(389,0,"Certs"),(67,0,"Clone"),(433,0,"Drop"),(391,0,"Events"),(396,0,"Go"),(392,0,"Next"),(400,0,"Now"),(434,0,"Put"),(83,0,"Triples"),(435,0,"Turn")]
theorem Qvs:∀x∈bW,∀b o w,(method (prog.types.size+Made.depth) 78 (.pointer (some ⟨b,o,none⟩)) x.2.2).run prog w=.ok (x.1,.pointer (some ⟨b,o+x.2.1,none⟩)) w:=λx hx=>by
 simp only[bW,Ql,Jn,or_false]at hx;rcases hx with rfl|rfl|rfl|rfl|rfl|rfl|rfl|rfl|rfl|rfl|rfl|rfl <;> first|exact Ap (E:=229) typeInfo78 rfl underlying78|exact Lf (S:=229) (i:=0) typeInfo78 rfl underlying229 rfl underlying216 (λ_ h=>by cases h) sizeOf216 (by decide)
noncomputable def ti78:TI prog:={ O8 78 isAgg78 sizeOf78 underlying78 zeroValue78 typeInfo78 8 rfl with ms:=bW,hms:=Qvs }
noncomputable def ti80:TI prog:=GR (ks:=[1,4,1,1,1,1,1]) (ag:=[false,true,false,false,false,false,false]) 80 isAgg80 sizeOf80 underlying80 zeroValue80 typeInfo80 112 rfl ⟨sizeOf73,sizeOf42,sizeOf74,sizeOf75,sizeOf76,sizeOf77,sizeOf78,trivial⟩ ⟨isAgg73,isAgg42,isAgg74,isAgg75,isAgg76,isAgg77,isAgg78,trivial⟩ rfl
set_option maxRecDepth 20000 in
theorem Qol(d:Nat)(x0 x1 x2 y0 y1 y2:Int)(w:World):(Op.equalIn (d+1+1) 84 (.agg #[.int .i64 x0,.int .i64 x1,.int .i64 x2]) (.agg #[.int .i64 y0,.int .i64 y1,.int .i64 y2])).run prog w=.ok (decide ([x0,x1,x2]=[y0,y1,y2])) w:=by
 rw[run_equalIn_array w (d+1) _ _ (n:=3) (e:=3) rfl rfl];rw[show List.range 3=[0,1,2] from rfl,show prog.cellsOf 3=1 from rfl];simp[Op.eqItems,Go.part,isAgg3,aF];by_cases h0:x0=y0 <;> by_cases h1:x1=y1 <;> by_cases h2:x2=y2 <;> simp[h0,h1,h2]
theorem mO(a b:Uo)(ha:a.length=3)(hb:b.length=3)(w:World):(Op.equal 84 (.agg (a.map (Value.int .i64)).toArray) (.agg (b.map (Value.int .i64)).toArray)).run prog w=.ok (decide (a=b)) w:=by
 match a,ha,b,hb with
 | [x0,x1,x2],_,[y0,y1,y2],_=>exact Qol 9998 x0 x1 x2 y0 y1 y2 w
noncomputable def ti84:TI prog:={ tiA 84 isAgg84 sizeOf84 underlying84 zeroValue84 typeInfo84 24 rfl sizeOf3 with eqn:=some 3,heq:=λk h=>by injection h with h;subst h;exact⟨eqGuardType84,mO⟩ }
noncomputable def ti87:TI prog:=O8 87 isAgg87 sizeOf87 underlying87 zeroValue87 typeInfo87 24 rfl
noncomputable def ti88:TI prog:=O8 88 isAgg88 sizeOf88 underlying88 zeroValue88 typeInfo88 24 rfl
noncomputable def ti90:TI prog:=GR (ks:=[1,1,4,4]) (ag:=[false,false,true,true]) 90 isAgg90 sizeOf90 underlying90 zeroValue90 typeInfo90 176 rfl ⟨sizeOf87,sizeOf88,sizeOf51,sizeOf51,trivial⟩ ⟨isAgg87,isAgg88,isAgg51,isAgg51,trivial⟩ rfl
noncomputable def ti93:TI prog:=O8 93 isAgg93 sizeOf93 underlying93 zeroValue93 typeInfo93 24 rfl
set_option maxRecDepth 20000 in
theorem Qom(d:Nat)(x0 x1 x2 x3 y0 y1 y2 y3:Int)(w:World):(Op.equalIn (d+1+1) 95 (.agg #[.int .i64 x0,.int .i64 x1,.int .i64 x2,.int .i64 x3]) (.agg #[.int .i64 y0,.int .i64 y1,.int .i64 y2,.int .i64 y3])).run prog w=.ok (decide ([x0,x1,x2,x3]=[y0,y1,y2,y3])) w:=by
 rw[run_equalIn_array w (d+1) _ _ (n:=4) (e:=3) rfl rfl];rw[show List.range 4=[0,1,2,3] from rfl,show prog.cellsOf 3=1 from rfl];simp[Op.eqItems,Go.part,isAgg3,aF];by_cases h0:x0=y0 <;> by_cases h1:x1=y1 <;> by_cases h2:x2=y2 <;> by_cases h3:x3=y3 <;> simp[h0,h1,h2,h3]
noncomputable def ti95:TI prog:=tiA 95 isAgg95 sizeOf95 underlying95 zeroValue95 typeInfo95 32 rfl sizeOf3
set_option maxRecDepth 20000 in
theorem Qon(d:Nat)(x x0 x1 x2 x3 y y0 y1 y2 y3:Int)(w:World):(Op.equalIn (d+1+1+1) 97 (.agg #[.int .i64 x,.int .i64 x0,.int .i64 x1,.int .i64 x2,.int .i64 x3]) (.agg #[.int .i64 y,.int .i64 y0,.int .i64 y1,.int .i64 y2,.int .i64 y3])).run prog w=.ok (decide ([x,x0,x1,x2,x3]=[y,y0,y1,y2,y3])) w:=by
 rw[run_equalIn_struct w (d+1+1) 97 _ _ rfl Tryz.stoodInHeld97];have hf:(prog.fieldsOf 97).toList=[{ name := "Kind",type:=3,offset:=0,embedded:=false,tag := "",pkgPath := "",byteOffset:=0 },{ name := "Ids",type:=95,offset:=1,embedded:=false,tag := "",pkgPath := "",byteOffset:=8 }]:=by simp[Program.fieldsOf,underlying97]
 rw[hf];simp[Op.eqFields,Go.part,isAgg3,isAgg95,sizeOf95,sizeOf3,aF,Qom];by_cases h:x=y <;> by_cases h0:x0=y0 <;> by_cases h1:x1=y1 <;> by_cases h2:x2=y2 <;> by_cases h3:x3=y3 <;> simp[h,h0,h1,h2,h3]
theorem Quy(a b:Uo)(ha:a.length=5)(hb:b.length=5)(w:World):(Op.equal 97 (.agg (a.map (Value.int .i64)).toArray) (.agg (b.map (Value.int .i64)).toArray)).run prog w=.ok (decide (a=b)) w:=by
 match a,ha,b,hb with
 | [x,x0,x1,x2,x3],_,[y,y0,y1,y2,y3],_=>exact Qon 9997 x x0 x1 x2 x3 y y0 y1 y2 y3 w
noncomputable def ti97:TI prog:={ GR (ks:=[1,4]) (ag:=[false,true]) 97 isAgg97 sizeOf97 underlying97 zeroValue97 typeInfo97 40 rfl ⟨sizeOf3,sizeOf95,trivial⟩ ⟨isAgg3,isAgg95,trivial⟩ rfl with eqn:=some 5,heq:=λk h=>by injection h with h;subst h;exact⟨eqGuardType97,Quy⟩ }
noncomputable def ti99:TI prog:=GR (ks:=[5,1,1]) (ag:=[true,false,false]) 99 isAgg99 sizeOf99 underlying99 zeroValue99 typeInfo99 72 rfl ⟨sizeOf97,sizeOf33,sizeOf3,trivial⟩ ⟨isAgg97,isAgg33,isAgg3,trivial⟩ rfl
noncomputable def ti105:TI prog:=GR (ks:=[1,4,4]) (ag:=[false,true,true]) 105 isAgg105 sizeOf105 underlying105 zeroValue105 typeInfo105 152 rfl ⟨sizeOf33,sizeOf42,sizeOf42,trivial⟩ ⟨isAgg33,isAgg42,isAgg42,trivial⟩ rfl
noncomputable def ti109:TI prog:=O8 109 isAgg109 sizeOf109 underlying109 zeroValue109 typeInfo109 24 rfl
noncomputable def ti139:TI prog:=O8 139 isAgg139 sizeOf139 underlying139 zeroValue139 typeInfo139 16 rfl
noncomputable def ti140:TI prog:=tiA 140 isAgg140 sizeOf140 underlying140 zeroValue140 typeInfo140 80 rfl sizeOf139
noncomputable def ti151:TI prog:=O8 151 isAgg151 sizeOf151 underlying151 zeroValue151 typeInfo151 4 rfl
noncomputable def ti159:TI prog:=GR (ks:=[1,1,1]) (ag:=[false,false,false]) 159 isAgg159 sizeOf159 underlying159 zeroValue159 typeInfo159 40 rfl ⟨sizeOf3,sizeOf3,sizeOf22,trivial⟩ ⟨isAgg3,isAgg3,isAgg22,trivial⟩ rfl
noncomputable def ti201:TI prog:=O8 201 isAgg201 sizeOf201 underlying201 zeroValue201 typeInfo201 24 rfl
noncomputable def ti202:TI prog:=O8 202 isAgg202 sizeOf202 underlying202 zeroValue202 typeInfo202 24 rfl
noncomputable def ti204:TI prog:=GR (ks:=[10,1,1,1]) (ag:=[true,false,false,false]) 204 isAgg204 sizeOf204 underlying204 zeroValue204 typeInfo204 232 rfl ⟨sizeOf90,sizeOf202,sizeOf3,sizeOf93,trivial⟩ ⟨isAgg90,isAgg202,isAgg3,isAgg93,trivial⟩ rfl
noncomputable def ti205:TI prog:=tiA 205 isAgg205 sizeOf205 underlying205 zeroValue205 typeInfo205 1160 rfl sizeOf204
noncomputable def ti207:TI prog:=GR (ks:=[1,1,1,4,65]) (ag:=[false,false,false,true,true]) 207 isAgg207 sizeOf207 underlying207 zeroValue207 typeInfo207 1264 rfl ⟨sizeOf3,sizeOf3,sizeOf201,sizeOf51,sizeOf205,trivial⟩ ⟨isAgg3,isAgg3,isAgg201,isAgg51,isAgg205,trivial⟩ rfl
noncomputable def ti214:TI prog:=O8 214 isAgg214 sizeOf214 underlying214 zeroValue214 typeInfo214 24 rfl
noncomputable def ti216:TI prog:=GR (ks:=[1,9,1,1]) (ag:=[false,true,false,false]) 216 isAgg216 sizeOf216 underlying216 zeroValue216 typeInfo216 192 rfl ⟨sizeOf4,sizeOf105,sizeOf214,sizeOf3,trivial⟩ ⟨isAgg4,isAgg105,isAgg214,isAgg3,trivial⟩ rfl
noncomputable def ti218:TI prog:=GR (ks:=[1]) (ag:=[false]) 218 isAgg218 sizeOf218 underlying218 zeroValue218 typeInfo218 24 rfl ⟨sizeOf22,trivial⟩ ⟨isAgg22,trivial⟩ rfl
noncomputable def ti220:TI prog:=GR (ks:=[12,1,1]) (ag:=[true,true,false]) 220 isAgg220 sizeOf220 underlying220 zeroValue220 typeInfo220 240 rfl ⟨sizeOf216,sizeOf218,sizeOf22,trivial⟩ ⟨isAgg216,isAgg218,isAgg22,trivial⟩ rfl
noncomputable def ti221:TI prog:=O8 221 isAgg221 sizeOf221 underlying221 zeroValue221 typeInfo221 24 rfl
noncomputable def ti223:TI prog:=GR (ks:=[12,1,1,1]) (ag:=[true,true,false,false]) 223 isAgg223 sizeOf223 underlying223 zeroValue223 typeInfo223 264 rfl ⟨sizeOf216,sizeOf218,sizeOf22,sizeOf221,trivial⟩ ⟨isAgg216,isAgg218,isAgg22,isAgg221,trivial⟩ rfl
noncomputable def ti225:TI prog:=GR (ks:=[12,1,1]) (ag:=[true,true,false]) 225 isAgg225 sizeOf225 underlying225 zeroValue225 typeInfo225 240 rfl ⟨sizeOf216,sizeOf218,sizeOf22,trivial⟩ ⟨isAgg216,isAgg218,isAgg22,trivial⟩ rfl
noncomputable def ti227:TI prog:=GR (ks:=[12,1,1]) (ag:=[true,true,false]) 227 isAgg227 sizeOf227 underlying227 zeroValue227 typeInfo227 240 rfl ⟨sizeOf216,sizeOf218,sizeOf22,trivial⟩ ⟨isAgg216,isAgg218,isAgg22,trivial⟩ rfl
noncomputable def ti229:TI prog:=GR (ks:=[12,1,1]) (ag:=[true,true,false]) 229 isAgg229 sizeOf229 underlying229 zeroValue229 typeInfo229 240 rfl ⟨sizeOf216,sizeOf218,sizeOf57,trivial⟩ ⟨isAgg216,isAgg218,isAgg57,trivial⟩ rfl
noncomputable def ti232:TI prog:=O8 232 isAgg232 sizeOf232 underlying232 zeroValue232 typeInfo232 24 rfl
noncomputable def ti265:TI prog:=O8 265 isAgg265 sizeOf265 underlying265 zeroValue265 typeInfo265 8 rfl
noncomputable def ti266:TI prog:=O8 266 isAgg266 sizeOf266 underlying266 zeroValue266 typeInfo266 8 rfl
noncomputable def ti323:TI prog:=tiA 323 isAgg323 sizeOf323 underlying323 zeroValue323 typeInfo323 176 rfl sizeOf40
theorem Qb0(em:Bool)(n:Nat)(v:Int)(w:World):(Instr.checkKey em (n+1) 3 (.int .i64 v)).run prog w=.ok () w:=by
 rw[Instr.checkKey];simp[runUnderlying3]
theorem wL(em:Bool)(n:Nat)(a b c:Int)(w:World):(Instr.checkKey em (n+1+1) 84 (.agg #[.int .i64 a,.int .i64 b,.int .i64 c])).run prog w=.ok () w:=by
 rw[Instr.checkKey];simp[runUnderlying84];rw[show List.range' 0 3=[0,1,2] from rfl];simp[Go.part,isAgg3,sizeOf3,Qb0]
theorem SU(em:Bool)(ks:Uo)(hk:ks.length=3)(w:World):(Instr.checkKey em 10000 84 (Ak ks)).run prog w=.ok () w:=by
 match ks,hk with
 | [a,b,c],_=>exact wL em 9998 a b c w
theorem Qiv:MapT prog 328 84 3 (.int .i64 0):=⟨runUnderlying328,⟨_,runUnderlying84,λ_ _=>rfl⟩,SU,λx y hx hy w=>mO x y hx hy w,zeroValue3,rfl⟩
noncomputable def ti328:TI prog:={ O8 328 isAgg328 sizeOf328 underlying328 zeroValue328 typeInfo328 8 rfl with md:=some (.int .i64 0),hmd:=λd h=>by injection h with h;subst h;exact⟨84,3,Qiv⟩ }
theorem Qiw:MapT prog 329 84 4 (.bool false):=⟨runUnderlying329,⟨_,runUnderlying84,λ_ _=>rfl⟩,SU,λx y hx hy w=>mO x y hx hy w,zeroValue4,rfl⟩
noncomputable def ti329:TI prog:={ O8 329 isAgg329 sizeOf329 underlying329 zeroValue329 typeInfo329 8 rfl with md:=some (.bool false),hmd:=λd h=>by injection h with h;subst h;exact⟨84,4,Qiw⟩ }
noncomputable def ti332:TI prog:=GR (ks:=[5,1,1,1,1]) (ag:=[true,false,false,false,false]) 332 isAgg332 sizeOf332 underlying332 zeroValue332 typeInfo332 104 rfl ⟨sizeOf97,sizeOf87,sizeOf3,sizeOf93,sizeOf4,trivial⟩ ⟨isAgg97,isAgg87,isAgg3,isAgg93,isAgg4,trivial⟩ rfl
noncomputable def ti340:TI prog:=O8 340 isAgg340 sizeOf340 underlying340 zeroValue340 typeInfo340 24 rfl
noncomputable def ti349:TI prog:=tiA 349 isAgg349 sizeOf349 underlying349 zeroValue349 typeInfo349 72 rfl sizeOf32
noncomputable def ti352:TI prog:=GR (ks:=[7,1,1,9]) (ag:=[true,false,false,true]) 352 isAgg352 sizeOf352 underlying352 zeroValue352 typeInfo352 232 rfl ⟨sizeOf99,sizeOf4,sizeOf4,sizeOf105,trivial⟩ ⟨isAgg99,isAgg4,isAgg4,isAgg105,trivial⟩ rfl
noncomputable def ti365:TI prog:=O8 365 isAgg365 sizeOf365 underlying365 zeroValue365 typeInfo365 24 rfl
noncomputable def ti369:TI prog:=GR (ks:=[1]) (ag:=[false]) 369 isAgg369 sizeOf369 underlying369 zeroValue369 typeInfo369 24 rfl ⟨sizeOf340,trivial⟩ ⟨isAgg340,trivial⟩ rfl
noncomputable def ti378:TI prog:=GR (ks:=[1,1,4]) (ag:=[false,false,true]) 378 isAgg378 sizeOf378 underlying378 zeroValue378 typeInfo378 128 rfl ⟨sizeOf87,sizeOf87,sizeOf38,trivial⟩ ⟨isAgg87,isAgg87,isAgg38,trivial⟩ rfl
noncomputable def ti380:TI prog:=GR (ks:=[6,1]) (ag:=[true,false]) 380 isAgg380 sizeOf380 underlying380 zeroValue380 typeInfo380 136 rfl ⟨sizeOf378,sizeOf3,trivial⟩ ⟨isAgg378,isAgg3,trivial⟩ rfl
noncomputable def ti382:TI prog:=O8 382 isAgg382 sizeOf382 underlying382 zeroValue382 typeInfo382 24 rfl
noncomputable def ti386:TI prog:=tiA 386 isAgg386 sizeOf386 underlying386 zeroValue386 typeInfo386 272 rfl sizeOf380
noncomputable def ti405:TI prog:=O8 405 isAgg405 sizeOf405 underlying405 zeroValue405 typeInfo405 24 rfl
noncomputable def ti406:TI prog:=O8 406 isAgg406 sizeOf406 underlying406 zeroValue406 typeInfo406 24 rfl
noncomputable def tt:TT prog:=(.nd (.nd (.nd (.nd (.nd (.nd (.nd .nil ti3 .nil) ti4 .nil) ti5 (.nd .nil ti9 .nil)) ti22 (.nd (.nd (.nd .nil ti23 .nil) ti24 .nil) ti27 (.nd .nil ti30 .nil))) ti32 (.nd (.nd (.nd (.nd .nil ti33 .nil) ti34 .nil) ti36 (.nd .nil ti38 .nil)) ti40 (.nd (.nd (.nd .nil ti42 .nil) ti44 .nil) ti47 (.nd .nil ti49 .nil)))) ti51 (.nd (.nd (.nd (.nd (.nd .nil ti57 .nil) ti59 .nil) ti63 (.nd .nil ti66 .nil)) ti70 (.nd (.nd (.nd .nil ti73 .nil) ti74 .nil) ti75 (.nd .nil ti76 .nil))) ti77 (.nd (.nd (.nd (.nd .nil ti78 .nil) ti80 .nil) ti84 (.nd .nil ti87 .nil)) ti88 (.nd (.nd (.nd .nil ti90 .nil) ti93 .nil) ti95 (.nd .nil ti97 .nil))))) ti99 (.nd (.nd (.nd (.nd (.nd (.nd .nil ti105 .nil) ti109 .nil) ti139 (.nd .nil ti140 .nil)) ti151 (.nd (.nd (.nd .nil ti159 .nil) ti201 .nil) ti202 (.nd .nil ti204 .nil))) ti205 (.nd (.nd (.nd (.nd .nil ti207 .nil) ti214 .nil) ti216 (.nd .nil ti218 .nil)) ti220 (.nd (.nd (.nd .nil ti221 .nil) ti223 .nil) ti225 (.nd .nil ti227 .nil)))) ti229 (.nd (.nd (.nd (.nd (.nd .nil ti232 .nil) ti265 .nil) ti266 (.nd .nil ti323 .nil)) ti328 (.nd (.nd (.nd .nil ti329 .nil) ti332 .nil) ti340 (.nd .nil ti349 .nil))) ti352 (.nd (.nd (.nd (.nd .nil ti365 .nil) ti369 .nil) ti378 (.nd .nil ti380 .nil)) ti382 (.nd (.nd .nil ti386 .nil) ti405 (.nd .nil ti406 .nil))))))
instance:Mo prog:=⟨rfl⟩
theorem Uf{n : Nat}{Q : Exit -> Sg -> List OB -> Prop}{L L' : Sg}{B B' : List OB}{it it' : List It}{as0 : List Qv}{ob : List Prop}(hs : List (H Tryz.prog))(h : (match run tt n 100000 it L B hs [] []with
 |some (it, L, B, q, ob) => (match IQ ob with
  |some ob => some (it, L, B, q.map (·.1), q.map (·.2), ob)
  |none => none)
 |none => none) = some (it', L', B', as0, as0, ob)) (k : AK Tryz.prog n Q it' L' B') (ho : U3 ob := by exact trivial) : AK Tryz.prog n Q it L B := go tt hs h ho k
theorem Ug{n : Nat}{Q : Exit -> Sg -> List OB -> Prop}{L L' : Sg}{B B' : List OB}{it it' : List It}{as0 : List Qv}{ob : List Prop}(hs : List (H Tryz.prog))(h : (match run tt n 100000 it L B hs [] []with
 |some (it, L, B, q, ob) => (match IQ ob with
  |some ob => some (it, L, B, q.map (·.1), q.map (·.2), ob)
  |none => none)
 |none => none) = some (it', L', B', as0, as0, ob)) (k : AK Tryz.prog n Q it' L' B') (ho : U3 ob := by simp[U3];omega) : AK Tryz.prog n Q it L B := go tt hs h ho k
theorem Ui {n : Nat} {f : FuncId} {fn : Func} {c : Code} {args res us : List TV} {as0 : List Qv} {ob : List Prop} (hf : Tryz.prog.funcs[f]? = some fn) (hh : (fn.body, fn.ntmps, (fn.name == "runtime.NumGoroutine"), Nat.ble args.length n) = (some c, n, false, true)) (hs : List (H Tryz.prog))
 (h : wE tt n c fn.results.toList args hs = some (us, as0, as0, ob)) (he : us = res := by exact rfl) (ho : U3 ob := by exact trivial) : AT Tryz.prog f args res := w tt hf hh hs h he ho
theorem Uh{n : Nat}{L : Sg}{B : List OB}{fn : Func}{res us : List TV}{it : List It}{as0 : List Qv}{ob : List Prop}(hs : List (H Tryz.prog))(h : enE tt n fn.results.toList it L B hs = some (us, as0, as0, ob))(he : us = res := by exact rfl)(ho : U3 ob := by exact trivial) : AK Tryz.prog n (RQ Tryz.prog fn n 0 λu B => u = res /\ B = []) it L B := en tt hs h he ho
theorem Uj{n : Nat}{L : Sg}{B : List OB}{fn : Func}{k : Nat}{res : List TV}{Bout : List OB}{it : List It}{as0 : List Qv}{ob : List Prop}(ps is : List Nat)(hs : List (H Tryz.prog))(h : edE tt n k fn.results.toList it L B hs res Bout ps is = some (as0, as0, ob))(ho : U3 ob := by exact trivial) : AK Tryz.prog n (RQ Tryz.prog fn n k λu B => u = res /\ B = Bout) it L B := ed tt ps is hs h ho
theorem Uk{n : Nat}{Q : Exit -> Sg -> List OB -> Prop}{L : Sg}{B : List OB}{S : Type}{c : Code}{r : List It}{L1 : Sg}(k : Nat)(st : Sg -> S -> Sg)(bs : S -> List OB)(μ : S -> Nat)(I : S -> Prop)(s0 : S)(h0 : I s0)(hL : prn (kX c []) L = some L1){as0 : List Qv}(hs : two (dK none L B (st L1 s0) (bs s0)) = some (as0, as0))
 (round : ∀s, I s -> AK Tryz.prog n Q (.code c :: .rnd (some k) (λL B => ∃s', μ s' < μ s /\ I s' /\ L = st L1 s' /\ B = bs s') :: r) (st L1 s) (bs s)) (hk : ∀s, I s -> (bs s).length = k := by exact λ_ _ => rfl) : AK Tryz.prog n Q (.code (.loop c) :: r) L B := lp k st bs μ I s0 h0 hL hk hs round
abbrev Ul(f : Nat)(a r : List TV) : Prop := AT Tryz.prog f a r
end Orr
namespace Orr
open Go Go.Proofs Tryz
set_option maxRecDepth 10000
def lm(l:Uq):Uu:=l.map λ(x:Nat)=>[.int .u32 (x:Int)]
abbrev lr(l:Uq):TV:=.one (.row (lm l))
theorem U7(l:Uq):(lm l).length=l.length:=by simp[lm]
theorem G6{l:Uq}{i x:Nat}(h:l[i]? = some x):(lm l)[i]? = some [.int .u32 (x:Int)]:=by simp[lm,h]
def vN:Uq->Uq
 | []=>[]
 |
  x::l=>match vN l with
  | []=>if x=0 then []else [x]
  |r=>x::r
theorem Qq2{l:Uq}:vN l=[]↔∀x∈l,x=0:=by
 induction l with
 |nil=>simp[vN]
 |
  cons x l ih =>
  simp only[vN]
  split
  ·rename_i e;have h1:=ih.1 e;by_cases h:x=0
   ·simp[h];exact h1
   ·simp[h]
  ·rename_i r hne;simp only[reduceCtorEq,Ql,forall_eq_or_imp,false_iff,not_and];exact λ_ h=>hne (ih.2 h)
theorem GP:∀{l:Uq} {n:Nat},n<=l.length->(∀j,n<=j->j<l.length->l[j]? = some 0)->(n=0\/∃x,l[n-1]? = some x/\x≠0)->l.take n=vN l
 | [],n,h,_,_=>by simp at h;subst h;rfl
 |
  x::l,0,h,hz,_=>by
  rw[Vv];refine(Qq2.2 λy hy=>?_).symm;obtain⟨j,hj⟩:=Zk.1 hy;have:=hz j (Qh _) (Qe.1 hj).1;rw[hj]at this;injection this
 |
  x::l,n+1,h,hz,ht=>by
  simp only[Q5,Nat.add_le_add_iff_right]at h;have hz':∀j,n<=j->j<l.length->l[j]? = some 0:=λj h1 h2=>by simpa using hz (j+1) (by omega) (by simpa using h2)
  cases n with
  |
   zero =>
   have e:vN l=[]:=(GP (n:=0) h hz' (.inl rfl)).symm;rcases ht with h|⟨y,h1,h2⟩
   ·omega
   ·simp at h1;subst h1;simp[vN,e,h2]
  |
   succ n =>
   have ih:=GP (n:=n+1) h hz' (.inr (by rcases ht with h|⟨y,h1,h2⟩;(· omega);exact⟨y,by simpa using h1,h2⟩));simp only[Vf,vN];rw[<-ih];cases hl:l with
   |nil=>rw[hl]at h;simp at h
   |cons y l'=>simp[Vf]
theorem Qzi(l:Uq):Ul 182 [lr l] [lr (vN l)]:=by
 refine Fv func182 rfl (ln 0 rfl rfl λhl=>?_);rw[U7]at hl;refine Uf [] rfl ?_;refine Uk (S:=Nat) 0 (λL1 n=>(3,.v (.oi n))::L1) (λ_=>[]) id (λn=>n<=l.length/\∀j,n<=j->j<l.length->l[j]? = some 0) (lm l).length ⟨by rw[U7];exact Qm _,λj h1 h2=>by rw[U7]at h1;omega⟩ rfl rfl λn ⟨h1,h2⟩=>?_
 cases n with
 |zero=>exact Uh [.f (by simp),.f rfl,.i 0] rfl (by rw[<-GP h1 h2 (.inl rfl)];simp[lm]) (by simp[U3,Hu])
 |
  succ n =>
  obtain⟨x,hx⟩:=gxE (l:=l) (i:=n) (by omega);by_cases h0:x=0
  ·refine go tt [.t (by simp),.r 11 (v:=.oi n) (by simp),.x (G6 hx),.t (by simp[h0]),.r 17 (v:=.oi n) (by simp)] rfl (by simp[U3,Hu];omega) ?_;exact rd n (by simp) ⟨by omega,λj h3 h4=>by
    rcases Vl h3 with rfl|h3
    ·rw[hx,h0]
    ·exact h2 j h3 h4⟩ rfl
  ·exact Uh [.t (by simp),.r 11 (v:=.oi n) (by simp),.x (G6 hx),.f (by simp[h0]),.i (n+1)] rfl (by rw[<-GP h1 h2 (.inr ⟨x,hx,h0⟩)];simp[lm]) (by simp[U3,Hu,U7] <;> omega)
def Sm(l:Uq):Prop:=∀x∈l,x<4294967296
theorem vB:∀l:Uq,Cut l (vN l).length/\l.take (vN l).length=vN l
 | []=>⟨⟨Qm _,λj _ h=>by simp at h,λh=>by simp[vN]at h⟩,rfl⟩
 |
  x::l=>by
  obtain⟨⟨h1,h2,h3⟩,h4⟩:=vB l;simp only[vN]
  split
  ·rename_i e;rw[e]at h2 h3;by_cases h:x=0
   ·rw[if_pos h];refine⟨⟨Qh _,λj _ hj=>?_,λh=>by simp at h⟩,rfl⟩;cases j with
    |zero=>simp[h]
    |succ j=>simpa using h2 j (Qh _) (by simpa using hj)
   ·rw[if_neg h];refine⟨⟨by simp,λj h5 hj=>?_,λ_=>⟨x,rfl,h⟩⟩,rfl⟩;cases j with
    |zero=>simp at h5
    |succ j=>simpa using h2 j (Qh _) (by simpa using hj)
  ·rename_i r hne;refine⟨⟨by simp[h1],λj h5 hj=>?_,λ_=>?_⟩,by simp[h4]⟩
   ·cases j with
    |zero=>simp at h5
    |succ j=>simpa using h2 j (by simpa using h5) (by simpa using hj)
   ·have hp:0<(vN l).length:=by
     cases e:vN l with
     |nil=>exact absurd e hne
     |cons=>simp
    obtain⟨y,h5,h6⟩:=h3 hp;refine⟨y,?_,h6⟩;rw[Q5,show(vN l).length+1-1=((vN l).length-1)+1 from by omega];simpa using h5
theorem zO{l:Uq}(h:Sm l):vN l=Gb (val l):=by
 obtain⟨h1,h2⟩:=vB l;refine Qip ?_ ?_
 ·rw[<-h2];exact Qob h1 h
 ·rw[<-h2];exact Qoc h1
theorem Ls(x:Nat):Sm (Gb x):=(Dn x).1
theorem Td{x k:Nat}(h:sz x<=k):32*(Gb x).length<=k+31:=by
 have:=Qpd (Dn x);rw[Ha]at this;omega
theorem VD{l:Uq}(h:Sm l):Ul 182 [lr l] [lr (Gb (val l))]:=zO h ▸ Qzi l
theorem Qir(l:Uq):∀c∈lm l,c.length=1:=λc hc=>by
 obtain⟨x,_,rfl⟩:=Q9.1 hc;rfl
theorem KV{l:Uq}(h:Sm l)(hs:sz (val l)<=4294967296):Ul 219 [lr l] [lr (Gb (val l))] :=
 Ui func219 rfl [.k (VD h),.s (Qir (Gb (val l)))] rfl rfl (by have:=Td hs;simp[U3,Hu,U7];omega)
theorem HB{a:Uq}(ha:Sm a):∃p,Ul 182 [lr a] [lr p]/\kM p/\val p=val a/\p.length<=a.length/\p=Gb (val a) :=
 ⟨_,VD ha,Dn _,Ha _,by rw[<-zO ha];exact(vB a).1.1,rfl⟩
theorem Qek{a b:Uq}(ha:Sm a)(hb:Sm b):Ul 213 [lr a,lr b] [.oi (ZR (val a) (val b))]:=by
 refine Fv func213 rfl (ln 0 rfl rfl λhl=>ln 1 rfl rfl λhl'=>?_);rw[U7]at hl hl';obtain⟨p,ca,np,vp,lp',_⟩:=HB ha;obtain⟨q,cb,nq,vq,lq,_⟩:=HB hb;rw[<-vp,<-vq];by_cases h:p.length=q.length
 ·refine go tt [.k ca,.k cb,.f (by simp[U7,h])] rfl (by simp[U3,Hu,U7] <;> omega) ?_;refine Uk (S:=Int) 0 (λL1 i=>(5,.v (.oi i))::L1) (λ_=>[]) (λi=>(i+1).toNat) (λi=>-1<=i/\i<p.length/\p.drop (i+1).toNat=q.drop (i+1).toNat) (((lm p).length:Int)-1) ⟨by omega,by simp[U7];omega,by simp[U7,h]⟩ rfl rfl λi ⟨h1,h2,h3⟩=>?_
  rcases Kd i 0 with hi|hi
  ·obtain rfl:i=-1:=by omega
   exact Uh [.f (by decide)] rfl (by rw[eM];exact congrArg val (by simpa using h3)) trivial
  ·obtain⟨k,rfl⟩:=Kk hi;have e:((k:Int)+1).toNat=k+1:=by omega
   rw[e]at h3;obtain⟨x,hx⟩:=gxE (l:=p) (i:=k) (by omega);obtain⟨y,hy⟩:=gxE (l:=q) (i:=k) (by omega);rcases Kn x y with hxy|rfl|hxy
   ·exact Uh [.t (by simp),.x (G6 hx),.x (G6 hy),.t (by simp;omega)] rfl (by rw[MW (Qat np.1 h3 hx hy hxy)]) (by simp[U3,Hu,U7] <;> omega)
   ·refine go tt [.t (by simp),.x (G6 hx),.x (G6 hy),.f (by simp),.x (G6 hx),.x (G6 hy),.f (by simp)] rfl (by simp[U3,Hu,U7] <;> omega) ?_;exact rd ((k:Int)-1) (by omega) ⟨by omega,by omega,by rw[show((k:Int)-1+1).toNat=k from by omega];exact Qb9 h3 hx hy⟩ rfl
   ·exact Uh [.t (by simp),.x (G6 hx),.x (G6 hy),.f (by simp;omega),.x (G6 hx),.x (G6 hy),.t (by simp;omega)] rfl (by rw[MK (Qat nq.1 h3.symm hy hx hxy)]) (by simp[U3,Hu,U7] <;> omega)
 ·by_cases h2:p.length<q.length
  ·exact Uh [.k ca,.k cb,.t (by simp[U7];omega),.t (by simp[U7];omega)] rfl (by rw[MW (D4 np nq h2)]) (by simp[U3,Hu])
  ·exact Uh [.k ca,.k cb,.t (by simp[U7];omega),.f (by simp[U7];omega)] rfl (by rw[MK (D4 nq np (by omega))]) (by simp[U3,Hu])
theorem WH(m:Nat):List.replicate m [LV.int .u32 0]=lm (List.replicate m 0):=by simp[lm]
theorem Cm(l:Uq)(i x:Nat):(lm l).set i [.int .u32 (x:Int)]=lm (l.set i x):=by simp[lm,Vu]
theorem Dx{a b:Int}(h:a=b):TV.one (LV.int .u64 a)=.one (.int .u64 b):=h ▸ rfl
theorem Ei{a b:Int}(h:a=b):TV.one (LV.int .u32 a)=.one (.int .u32 b):=h ▸ rfl
theorem eI{a b:Int}(h:a=b):TV.one (LV.int .i64 a)=.oi b:=h ▸ rfl
theorem xZ(z:Int):IntKind.u32.wrap z=z % 4294967296:=by simp[IntKind.wrap,IntKind.bits,IntKind.signed]
theorem w64(z:Int):IntKind.u64.wrap z=z % 18446744073709551616:=by simp[IntKind.wrap,IntKind.bits,IntKind.signed]
theorem Qrq{a b:Uq}(ha:Sm a)(hb:Sm b)(h1:sz (val a)<=4294967296)(h2:sz (val b)<=4294967296):Ul 307 [lr a,lr b] [lr (Gb (val a+val b))]:=by
 refine Fv func307 rfl ?_;obtain⟨p,ca,np,vp,_,ep⟩:=HB ha;obtain⟨q,cb,nq,vq,_,eq⟩:=HB hb;have lp':=Td h1;have lq:=Td h2;rw[<-ep]at lp';rw[<-eq]at lq;rw[<-vp,<-vq];refine Uf [.k ca,.k cb] rfl ?_;refine ct 1 (S:=Uq×Uq) (λs=>[(0,.v (lr s.1)),(1,.v (lr s.2))]) (λ_=>[]) (λs=>kM s.1/\kM s.2/\32*s.1.length<=4294967327/\s.2.length<=s.1.length/\val s.1+val s.2=val p+val q) rfl ?_ ?_
 ·by_cases h:p.length<q.length
  ·exact go tt [.t (by simp[U7];omega)] rfl trivial (rc (q,p) ⟨nq,np,lq,Yl h,Jv _ _⟩ rfl)
  ·exact go tt [.f (by simp[U7];omega)] rfl trivial (rc (p,q) ⟨np,nq,lp',Yb h,rfl⟩ rfl)
 ·intro⟨p',q'⟩ ⟨np,nq,hp,hq,e⟩;dsimp only at np nq hp hq e;rw[<-e];clear ca cb e vp vq ep eq;refine go tt [.i ((lm p').length+1),.i ((lm p').length+1)] rfl (by simp[U3,Hu,U7] <;> omega) ?_;rw[WH];refine lp (S:=Nat×Uq×Nat) 1 (λL1 s=>(27,.v (.oi (s.1:Int)))::(6,.v (.one (.int .u64 (s.2.2:Int))))::L1) (λs=>[.row false 151 1 (lm s.2.1)]) (λs=>p'.length-s.1)
   (λs=>s.1<=p'.length/\s.2.1.length=p'.length+1/\Sm s.2.1/\s.2.2<=1/\val (s.2.1.take s.1)+s.2.2*4294967296^s.1=val (p'.take s.1)+val (q'.take s.1)) (0,List.replicate ((lm p').length+1) 0,0)
   ⟨Qh _,by simp[U7],λx hx=>by rw[Zw hx];decide,Qh _,by simp[val]⟩ rfl (λ_ _=>rfl) rfl λ⟨i,o,c⟩ ⟨j1,j2,j3,j4,j5⟩=>?_
  dsimp only at j1 j2 j3 j4 j5 ⊢;by_cases hi:i<p'.length
  ·obtain⟨x,hx⟩:=gxE (l:=p') (i:=i) hi;have xb:=np.1 x (Qa hx);have fin:∀y s,(q'[i]? = some y\/q'.length<=i/\y=0)->y<4294967296->s=x+c+y->p'.length-(i+1)<p'.length-i/\i+1<=p'.length/\(o.set i (s % 4294967296)).length=p'.length+1/\Sm (o.set i (s % 4294967296))/\s / 4294967296<=1 /\
    val ((o.set i (s % 4294967296)).take (i+1))+s / 4294967296*4294967296^(i+1)=val (p'.take (i+1))+val (q'.take (i+1)):=λy s hy hyb hs =>
    ⟨by omega,hi,by simp[j2],Bq j3 i _ (by omega),by omega,kN (by omega) hx hy j5 hs⟩
   by_cases hi2:i<q'.length
   ·obtain⟨y,hy⟩:=gxE (l:=q') (i:=i) hi2;have yb:=nq.1 y (Qa hy);refine go tt [.t (by simp[U7];omega),.x (G6 hx),.t (by simp[U7];omega),.x (G6 hy),.w 2,.r 50 (v:=.one (.int .u32 (((x+c+y) % 4294967296:Nat):Int))) (by simp[IntKind.wrap,IntKind.bits,IntKind.signed]),.i 32,.r 52 (v:=.one (.int .u64 (((x+c+y) / 4294967296:Nat):Int))) (by simp),.i i] rfl (by simp[U3,Hu,U7,IntKind.bits] <;> omega) ?_;rw[Cm];exact rd (i+1,o.set i ((x+c+y) % 4294967296),(x+c+y) / 4294967296) (fin y _ (.inl hy) yb rfl).1 (fin y _ (.inl hy) yb rfl).2 rfl
   ·refine go tt [.t (by simp[U7];omega),.x (G6 hx),.f (by simp[U7];omega),.w 0,.r 50 (v:=.one (.int .u32 (((x+c+0) % 4294967296:Nat):Int))) (by simp[IntKind.wrap,IntKind.bits,IntKind.signed]),.i 32,.r 52 (v:=.one (.int .u64 (((x+c+0) / 4294967296:Nat):Int))) (by simp),.i i] rfl (by simp[U3,Hu,U7,IntKind.bits] <;> omega) ?_;rw[Cm];exact rd (i+1,o.set i ((x+c+0) % 4294967296),(x+c+0) / 4294967296) (fin 0 _ (.inr ⟨by omega,rfl⟩) (by decide) rfl).1 (fin 0 _ (.inr ⟨by omega,rfl⟩) (by decide) rfl).2 rfl
  ·obtain rfl:i=p'.length:=by omega
   refine go tt [.f (by simp[U7]),.w 0,.r 59 (v:=.one (.int .u32 (c:Int))) (by simp[IntKind.wrap,IntKind.bits,IntKind.signed];omega),.i (lm p').length] rfl (by simp[U3,Hu,U7,j2]) ?_;rw[U7,Cm];have e:val (o.set p'.length c)=val p'+val q':=by
    have h1:=ZK o p'.length c (by omega);rw[Qo (by simp;omega)]at h1;rw[Qo (Qm _),Qo hq]at j5;rw[h1,<-j5,Zq]
   rw[<-e];exact Uh [.k (VD (Bq j3 _ c (by omega)))] rfl
theorem wA{x y:Nat}:ZR x y<0↔x<y:=by unfold ZR;split <;> (try split) <;> omega
theorem Qru{a b:Uq}(ha:Sm a)(hb:Sm b)(h1:sz (val a)<=4294967296):Ul 308 [lr a,lr b] (if val b<=val a then [lr (Gb (val a-val b)),.one (.bool true)]else [lr [],.one (.bool false)]):=by
 refine Fv func308 rfl ?_;obtain⟨p,ca,np,vp,_,ep⟩:=HB ha;obtain⟨q,cb,nq,vq,_,_⟩:=HB hb;have hp:=Td h1;rw[<-ep]at hp;rw[<-vp,<-vq];have cc:=Qek np.1 nq.1;by_cases hlt:val p<val q
 ·rw[if_neg (by omega)];exact Uh [.k ca,.k cb,.k cc,.t (by simpa using wA.2 hlt)] rfl
 rw[if_pos (by omega)];have hq:q.length<=p.length:=Yb λh=>hlt (D4 np nq h)
 refine go tt [.k ca,.k cb,.k cc,.f (by have:=mt wA.1 hlt;simpa using this),.i (lm p).length,.i (lm p).length] rfl (by simp[U3,Hu,U7] <;> omega) ?_;rw[WH];refine lp (S:=Nat×Uq×Nat) 1 (λL1 s=>(24,.v (.oi (s.1:Int)))::(7,.v (.one (.int .u64 (s.2.2:Int))))::L1) (λs=>[.row false 151 1 (lm s.2.1)]) (λs=>p.length-s.1)
  (λs=>s.1<=p.length/\s.2.1.length=p.length/\Sm s.2.1/\s.2.2<=1/\val (s.2.1.take s.1)+val (q.take s.1)=val (p.take s.1)+s.2.2*4294967296^s.1) (0,List.replicate (lm p).length 0,0)
  ⟨Qh _,by simp[U7],λx hx=>by rw[Zw hx];decide,Qh _,by simp[val]⟩ rfl (λ_ _=>rfl) rfl λ⟨i,o,c⟩ ⟨j1,j2,j3,j4,j5⟩=>?_
 dsimp only at j1 j2 j3 j4 j5 ⊢;by_cases hi:i<p.length
 ·obtain⟨x,hx⟩:=gxE (l:=p) (i:=i) hi;have xb:=np.1 x (Qa hx);have fin:∀y s,(q[i]? = some y\/q.length<=i/\y=0)->y<4294967296->s=(x+18446744073709551616-c-y) % 18446744073709551616->p.length-(i+1)<p.length-i/\i+1<=p.length/\(o.set i (s % 4294967296)).length=p.length/\Sm (o.set i (s % 4294967296))/\s / 9223372036854775808<=1 /\
   val ((o.set i (s % 4294967296)).take (i+1))+val (q.take (i+1))=val (p.take (i+1))+s / 9223372036854775808*4294967296^(i+1):=λy s hy hyb hs=>by
   obtain⟨h1,h2⟩:=Qk7 (o:=o) (by omega) hx hy xb hyb j4 j5 hs;exact⟨by omega,hi,by simp[j2],Bq j3 i _ (by omega),h2,h1⟩
  by_cases hi2:i<q.length
  ·obtain⟨y,hy⟩:=gxE (l:=q) (i:=i) hi2;have yb:=nq.1 y (Qa hy);obtain⟨s,hs⟩:=nmE ((x+18446744073709551616-c-y) % 18446744073709551616);refine go tt [.t (by simp[U7];omega),.x (G6 hx),.w 1,.r 32 (Dx (b:=(((x+18446744073709551616-c) % 18446744073709551616:Nat):Int)) (by rw[w64];omega)),.t (by simp[U7];omega),.x (G6 hy),.w 1,.r 43 (Dx (b:=(s:Int)) (by rw[w64];omega)),.w 0,.r 47 (Ei (b:=((s % 4294967296:Nat):Int)) (by rw[xZ];omega)),.i 63,.r 49 (Dx (b:=((s / 9223372036854775808:Nat):Int)) (by simp)),.i i] rfl (by simp[U3,Hu,U7,IntKind.bits] <;> omega) ?_;rw[Cm];exact rd (i+1,o.set i (s % 4294967296),s / 9223372036854775808) (fin y _ (.inl hy) yb hs).1 (fin y _ (.inl hy) yb hs).2 rfl
  ·obtain⟨s,hs⟩:=nmE ((x+18446744073709551616-c-0) % 18446744073709551616);have hf:=fin 0 _ (.inr ⟨by omega,rfl⟩) (by decide) hs;refine go tt [.t (by simp[U7];omega),.x (G6 hx),.w 1,.r 32 (Dx (b:=(s:Int)) (by rw[w64];omega)),.f (by simp[U7];omega),.w 0,.r 47 (Ei (b:=((s % 4294967296:Nat):Int)) (by rw[xZ];omega)),.i 63,.r 49 (Dx (b:=((s / 9223372036854775808:Nat):Int)) (by simp)),.i i] rfl (by simp[U3,Hu,U7,IntKind.bits] <;> omega) ?_;rw[Cm];exact rd (i+1,o.set i (s % 4294967296),s / 9223372036854775808) hf.1 hf.2 rfl
 ·obtain rfl:i=p.length:=by omega
  have e:val o=val p-val q:=by
   rw[Qo (Nat.le_of_eq j2),Qo hq,Qo (Qm _)]at j5;have h1:=Bu o j3;rw[j2]at h1;rcases Nat.le_one_iff_eq_zero_or_eq_one.1 j4 with rfl|rfl <;> omega
  rw[<-e];exact Uh [.f (by simp[U7]),.k (VD j3)] rfl
theorem Qxw{a b:Uq}(ha:Sm a)(hb:Sm b)(h1:sz (val a)<=4294967296)(h2:sz (val b)<=4294967296):Ul 113 [lr a,lr b] [lr (Gb (val a*val b))]:=by
 refine Fv func113 rfl ?_;obtain⟨p,ca,np,vp,_,ep⟩:=HB ha;obtain⟨q,cb,nq,vq,_,eq⟩:=HB hb;have hp:=Td h1;have hq:=Td h2;rw[<-ep]at hp;rw[<-eq]at hq;rw[<-vp,<-vq];refine go tt [.k ca,.k cb,.i ((lm p).length+(lm q).length),.i ((lm p).length+(lm q).length)] rfl (by simp[U3,Hu,U7] <;> omega) ?_;rw[WH];refine lp (S:=Nat×Uq) 1 (λL1 s=>(24,.v (.oi (s.1:Int)))::L1) (λs=>[.row false 151 1 (lm s.2)]) (λs=>p.length-s.1)
  (λs=>s.1<=p.length/\s.2.length=p.length+q.length/\Sm s.2/\(∀j,s.1+q.length<=j->j<s.2.length->s.2[j]? = some 0)/\val s.2=val (p.take s.1)*val q) (0,List.replicate ((lm p).length+(lm q).length) 0)
  ⟨Qh _,by simp[U7],λx hx=>by rw[Zw hx];decide,λj _ hj=>by rw[J0,if_pos (by simpa using hj)],by simp[val,TM]⟩ rfl (λ_ _=>rfl) rfl λ⟨i,o⟩ ⟨j1,j2,j3,j4,j5⟩=>?_
 dsimp only at j1 j2 j3 j4 j5 ⊢;by_cases hi:i<p.length
 ·obtain⟨x,hx⟩:=gxE (l:=p) (i:=i) hi;have xb:=np.1 x (Qa hx);refine Uf [.t (by simp[U7];omega),.x (G6 hx)] rfl ?_;refine lp (S:=Nat×Uq×Nat) 1 (λL1 s=>(31,.v (.oi (s.1:Int)))::(8,.v (.one (.int .u64 (s.2.2:Int))))::L1) (λs=>[.row false 151 1 (lm s.2.1)]) (λs=>q.length-s.1)
   (λs=>s.1<=q.length/\s.2.1.length=p.length+q.length/\Sm s.2.1/\(∀j,i+q.length<=j->j<s.2.1.length->s.2.1[j]? = some 0)/\s.2.2<4294967296/\val s.2.1+s.2.2*4294967296^(i+s.1)=val (p.take i)*val q+4294967296^i*x*val (q.take s.1)) (0,o,0)
   ⟨Qh _,j2,j3,j4,by simp,by simp[val,j5]⟩ rfl (λ_ _=>rfl) rfl λ⟨k,o',c⟩ ⟨k1,k2,k3,k4,k5,k6⟩=>?_
  dsimp only at k1 k2 k3 k4 k5 k6 ⊢;by_cases hk:k<q.length
  ·obtain⟨y,hy⟩:=gxE (l:=q) (i:=k) hk;have yb:=nq.1 y (Qa hy);obtain⟨z,hz⟩:=gxE (l:=o') (i:=i+k) (by omega);have zb:=k3 z (Qa hz);have hm:=XI xb yb;have hm2:(x:Int)*(y:Int)=((x*y:Nat):Int):=by push_cast;rfl
   obtain⟨s,hs⟩:=nmE (x*y+z+c);refine go tt [.t (by simp[U7];omega),.x (G6 hy),.r 40 (Dx (b:=((x*y:Nat):Int)) (by push_cast;rfl)),.i (i+k),.x (G6 hz),.r 50 (Dx (b:=(s:Int)) (by omega)),.w 1,.r 56 (Ei (b:=((s % 4294967296:Nat):Int)) (by rw[xZ];omega)),.i 32,.r 58 (Dx (b:=((s / 4294967296:Nat):Int)) (by simp)),.i (i+k)] rfl ?_ ?_
   ·simp[U3,Hu,U7,IntKind.bits] <;> omega
   ·rw[Cm];exact rd (k+1,o'.set (i+k) (s % 4294967296),s / 4294967296) (show q.length-(k+1)<q.length-k by omega) ⟨hk,by simp[k2],Bq k3 _ _ (by omega),λj h3 h4=>by
     rw[Yi (by omega)];exact k4 j h3 (by simpa using h4),(show s / 4294967296<4294967296 from by omega),Qi4 hz hy k6 hs⟩ rfl
  ·obtain rfl:k=q.length:=by omega
   by_cases hq0:0<q.length
   ·refine go tt [.f (by simp[U7]),.t (by simp[U7];omega),.w 1,.r 70 (Ei (b:=((c % 4294967296:Nat):Int)) (by rw[xZ];omega)),.i (i+(lm q).length)] rfl (by simp[U3,Hu,U7,IntKind.bits] <;> omega) ?_;rw[Cm];refine rd (i+1,o'.set (i+(lm q).length) (c % 4294967296)) (show p.length-(i+1)<p.length-i by omega) ⟨hi,by simp[k2],Bq k3 _ _ (by omega),λj h3 h4=>?_,?_⟩ rfl
    ·rw[U7,List.getElem?_set_ne (by dsimp only at h3;omega)];exact k4 j (by dsimp only at h3;omega) (by simpa using h4)
    ·rw[U7];exact Qi3 (k4 _ (Qm _) (by omega)) hx k5 rfl k6
   ·have q0:q=[]:=Qj (by omega);refine go tt [.f (by simp[U7]),.f (by simp[U7,q0])] rfl (by simp[U3,Hu,U7,IntKind.bits] <;> omega) ?_;refine rd (i+1,o') (show p.length-(i+1)<p.length-i by omega) ⟨hi,k2,k3,λj h3 h4=>k4 j (by dsimp only at h3;omega) h4,?_⟩ rfl;have c0:c*4294967296^(i+q.length)=0/\val o'=0:=by
     subst q0;simp only[val,List.take_nil,Y0]at k6;omega
    rw[c0.2,q0];rfl
 ·obtain rfl:i=p.length:=by omega
  rw[Qo (Qm _)]at j5;rw[<-j5];exact Uh [.f (by simp[U7]),.k (VD j3)] rfl
theorem o64{k q:Nat}(hq:q<4294967296)(hb:4294967296*k+q<18446744073709551616):orI .u64 ((4294967296*k:Nat):Int) (q:Int)=((4294967296*k+q:Nat):Int):=by
 have e1:(BitVec.ofInt 64 ((4294967296*k:Nat):Int)).toNat=4294967296*k:=by rw[BitVec.toNat_ofInt];omega
 have e2:(BitVec.ofInt 64 (q:Int)).toNat=q:=by rw[BitVec.toNat_ofInt];omega
 show IntKind.u64.wrap ((BitVec.ofInt 64 ((4294967296*k:Nat):Int) ||| BitVec.ofInt 64 (q:Int)).toNat:Int)=_;rw[BitVec.toNat_or,e1,e2,Qvy hq,w64];omega
theorem oM{k p:Nat}(hp:p<4294967296)(hb:4294967296*k+p<18446744073709551616):orI .u64 (p:Int) ((4294967296*k:Nat):Int)=((4294967296*k+p:Nat):Int):=by
 have:=o64 hp hb;unfold orI at this ⊢;rw[BitVec.or_comm];exact this
theorem o32{s k p:Nat}(hp:p<2^s)(h1:p<4294967296)(h2:2^s*k<4294967296)(hb:p+2^s*k<4294967296):orI .u32 (p:Int) ((2^s*k:Nat):Int)=((p+2^s*k:Nat):Int):=by
 have e1:(BitVec.ofInt 32 ((2^s*k:Nat):Int)).toNat=2^s*k:=by rw[BitVec.toNat_ofInt];omega
 have e2:(BitVec.ofInt 32 (p:Int)).toNat=p:=by rw[BitVec.toNat_ofInt];omega
 have e3:p ||| 2^s*k=p+2^s*k:=by
  have:=Ws (i:=s) (b:=p) hp k;rw[Nat.or_comm,<-this,Jv]
 show IntKind.u32.wrap ((BitVec.ofInt 32 (p:Int) ||| BitVec.ofInt 32 ((2^s*k:Nat):Int)).toNat:Int)=_;rw[BitVec.toNat_or,e1,e2,e3,xZ];omega
theorem Qx6{l:Uq}{v:Nat}(hl:Sm l)(hn:l.length<274877906944)(h0:0<v)(hv:v<4294967296):Ul 302 [lr l,.one (.int .u32 (v:Int))] [lr (Gb (val l / v)),.one (.int .u32 ((val l % v:Nat):Int))]:=by
 refine Fv func302 rfl ?_;refine go tt [.i (lm l).length,.i (lm l).length] rfl (by simp[U3,Hu,U7] <;> omega) ?_;rw[WH];refine lp (S:=Int×Uq×Nat) 1 (λL1 s=>(8,.v (.oi s.1))::(7,.v (.one (.int .u64 (s.2.2:Int))))::L1) (λs=>[.row false 151 1 (lm s.2.1)]) (λs=>(s.1+1).toNat)
  (λs=>-1<=s.1/\s.1<l.length/\s.2.1.length=l.length/\Sm s.2.1/\s.2.2<v/\val (l.drop (s.1+1).toNat)=v*val (s.2.1.drop (s.1+1).toNat)+s.2.2) (((lm l).length:Int)-1,List.replicate (lm l).length 0,0)
  ⟨by simp[U7];omega,by simp[U7];omega,by simp[U7],λx hx=>by rw[Zw hx];decide,h0,by simp[U7,val]⟩ rfl (λ_ _=>rfl) rfl λ⟨i,o,r⟩ ⟨j1,j2,j3,j4,j5,j6⟩=>?_
 dsimp only at j1 j2 j3 j4 j5 j6 ⊢;rcases Kd i 0 with hi|hi
 ·obtain rfl:i=-1:=by omega
  simp only[show((-1:Int)+1).toNat=0 from rfl,Xy]at j6;have e1:val l / v=val o:=by rw[j6,Ua h0,V2 j5,Xo]
  have e2:val l % v=r:=by rw[j6,Ub,Xw j5]
  rw[e1,e2];exact Uh [.f (by decide),.k (VD j4)] rfl rfl (by simp[U3,Hu,U7,IntKind.bits] <;> omega)
 ·obtain⟨k,rfl⟩:=Kk hi;have e:((k:Int)+1).toNat=k+1:=by omega
  rw[e]at j6;obtain⟨x,hx⟩:=gxE (l:=l) (i:=k) (by omega);have xb:=hl x (Qa hx);obtain⟨s,hs⟩:=nmE (r*4294967296+x);obtain⟨k1,k2,k3⟩:=Qjg hx xb (show k<o.length by omega) h0 j5 j6 hs;obtain⟨q,hq⟩:=nmE (s / v);obtain⟨u,hu⟩:=nmE (s % v);have hqi:(s:Int).tdiv v=(q:Int):=by rw[V6 (by omega),hq];rfl
  have hui:(s:Int).tmod v=(u:Int):=by rw[Y6 (by omega),hu];rfl
  rw[<-hq,<-hu]at k3;rw[<-hq]at k1;rw[<-hu]at k2;refine go tt [.t (by simp),.i 32,.r 21 (Dx (b:=((4294967296*r:Nat):Int)) (by omega)),.x (G6 hx),.r 27 (Dx (b:=(s:Int)) (by rw[o64 xb (by omega)];omega)),
   .r 33 (Dx (b:=(q:Int)) hqi),.w 0,.r 34 (Ei (b:=((q % 4294967296:Nat):Int)) (by rw[xZ];omega)),.r 38 (Dx (b:=(u:Int)) hui),.i k] rfl (by simp[U3,Hu,U7,IntKind.bits,hqi] <;> omega) ?_
  rw[Cm];exact rd ((k:Int)-1,o.set k (q % 4294967296),u) (by dsimp only;omega) ⟨by dsimp only;omega,by dsimp only;omega,by simp[j3],Bq j4 _ _ (by omega),k2,by dsimp only;rw[show((k:Int)-1+1).toNat=k from by omega];exact k3⟩ rfl
theorem UQ{i:Nat}{s:ByteArray}(h:∀i,i<256->(s[i]?).map (·.toNat)=some (sz i))(hi:i<256):(s[i]?).map (·.toNat)=some (sz i):=h i hi
set_option maxRecDepth 100000 in
theorem lK{x:Nat}(hx:x<4294967296):Ul 301 [.one (.int .u32 (x:Int))] [.oi (sz x:Int)]:=by
 refine Fv func301 rfl ?_;have h31:sz x<=32:=Ns.2 (by omega);by_cases h1:65536<=x
 ·have e1:sz x=16+sz (x / 2^16):=GF (by omega);obtain⟨y,hy⟩:=nmE (x / 2^16);rw[<-hy]at e1;by_cases h2:256<=y
  ·have e2:sz y=8+sz (y / 2^8):=GF (by omega);obtain⟨z,hz⟩:=nmE (y / 2^8);rw[<-hz]at e2;exact Uh [.t (by simp;omega),.i 16,.r 6 (Ei (b:=(y:Int)) (by simp[hy])),.t (by simp;omega),.i 8,.r 10 (Ei (b:=(z:Int)) (by simp[hz])),.y (UQ (i:=z) (by decide) (by omega))] rfl (by rw[e1,e2];simp;omega) (by simp[U3,Hu,IntKind.bits] <;> omega)
  ·exact Uh [.t (by simp;omega),.i 16,.r 6 (Ei (b:=(y:Int)) (by simp[hy])),.f (by simp;omega),.y (UQ (i:=y) (by decide) (by omega))] rfl (by rw[e1];simp) (by simp[U3,Hu,IntKind.bits] <;> omega)
 ·by_cases h2:256<=x
  ·have e2:sz x=8+sz (x / 2^8):=GF (by omega);obtain⟨z,hz⟩:=nmE (x / 2^8);rw[<-hz]at e2;exact Uh [.f (by simp;omega),.t (by simp;omega),.i 8,.r 10 (Ei (b:=(z:Int)) (by simp[hz])),.y (UQ (i:=z) (by decide) (by omega))] rfl (by rw[e2];simp) (by simp[U3,Hu,IntKind.bits] <;> omega)
  ·exact Uh [.f (by simp;omega),.f (by simp;omega),.y (UQ (i:=x) (by decide) (by omega))] rfl (by simp) (by simp[U3,Hu,IntKind.bits] <;> omega)
theorem Qtn{x:Nat}(hx:x<4294967296):Ul 303 [.one (.int .u32 (x:Int))] [.oi ((32-sz x:Nat):Int)]:=by
 have h31:sz x<=32:=Ns.2 (by omega);exact Ui func303 rfl [.k (lK hx)] rfl (by simp;omega) (by simp[U3,Hu] <;> omega)
theorem pB{l:Uq}(hl:Sm l)(hs:sz (val l)<=4294967296):Ul 267 [lr l] [.oi (sz (val l):Int)]:=by
 refine Fv func267 rfl ?_;obtain⟨p,ca,np,vp,_,ep⟩:=HB hl;have hp:=Td hs;rw[<-ep]at hp;rw[<-vp]at hs ⊢;by_cases h0:p=[]
 ·subst h0;exact Uh [.k ca,.t (by simp[lm])] rfl rfl (by simp[U3,Hu])
 ·have hpl:0<p.length:=J5.2 h0;obtain⟨x,hx,hx0⟩:=np.2 h0;have xb:=np.1 x (Qa hx);have e:=dW np hx;have h31:sz x<=32:=Ns.2 (by omega);have hn:(lm p).length≠0:=by rw[U7];omega
  refine Uh [.k ca,.f (by simp[U7];omega),.r 15 (eI (b:=((p.length-1:Nat):Int)) (by rw[U7];omega)),.x (G6 hx),.k (lK xb)] rfl (by rw[e,U7];simp;omega) (by simp[U3,Hu,U7] <;> omega)
theorem rO{s:Nat}(h:s<=31):((s:Nat):Int).tdiv 32=((0:Nat):Int):=by
 rw[V6 (by omega)];omega
theorem Qj8{s:Nat}(h:s<=31):((s:Nat):Int).tmod 32=(s:Int):=Int.tmod_eq_of_lt (by omega) (by omega)
theorem Qvn{s:Nat}(h:s<=31):max 0 (min (s:Int) 65536)=(s:Int):=by omega
theorem Qx1{a:Uq}{s:Nat}(ha:Sm a)(h1:sz (val a)<=4294967400)(hs:s<=31):Ul 332 [lr a,.oi s] [lr (Gb (val a*2^s))]:=by
 refine Fv func332 rfl ?_;obtain⟨p,ca,np,vp,_,ep⟩:=HB ha;have hp:=Td h1;rw[<-ep]at hp;rw[<-vp];have hq:((s:Nat):Int).tdiv 32=0:=rO hs;by_cases h0:p=[]
 ·subst h0;exact Uh [.k ca,.t (by simp[lm])] rfl (by simp[val,Hd,lm]) (by simp[U3,Hu])
 have hpl:0<p.length:=J5.2 h0;refine go tt [.k ca,.r 15 (eI (b:=(s:Int)) (Qvn hs)),.f (by simp[U7];omega),.r 20 (eI (b:=((0:Nat):Int)) (rO hs)),.r 22 (eI (b:=(s:Int)) (Qj8 hs)),.r 28 (eI (b:=(((lm p).length+1:Nat):Int)) (by omega)),.i ((lm p).length+1),.i ((lm p).length+1)] rfl (by have e:=U7 p;simp only[U3,Hu];omega) ?_;rw[WH];refine lp (S:=Nat×Uq) 1 (λL1 s=>(32,.v (.oi (s.1:Int)))::L1) (λs=>[.row false 151 1 (lm s.2)]) (λs=>p.length-s.1)
  (λr=>r.1<=p.length/\r.2.length=p.length+1/\Sm r.2/\(∃z,r.2[r.1]? = some z/\z<2^s)/\val (r.2.take (r.1+1))=val (p.take r.1)*2^s) (0,List.replicate ((lm p).length+1) 0)
  ⟨Qh _,by simp[U7],λx hx=>by rw[Zw hx];decide,⟨0,by simp,Z2 (by decide)⟩,by simp[val,J6]⟩ rfl (λ_ _=>rfl) rfl λ⟨i,o⟩ ⟨j1,j2,j3,⟨z,hz,hzs⟩,j5⟩=>?_
 dsimp only at j1 j2 j3 hz hzs j5 ⊢;by_cases hi:i<p.length
 ·obtain⟨x,hx⟩:=gxE (l:=p) (i:=i) hi;have xb:=np.1 x (Qa hx);have zb:=j3 z (Qa hz);obtain⟨k1,k2,k3,k4⟩:=Qku hs hx xb hz hzs (by omega) j5;have hxs:=Qwf hs xb;have h31:2^s<=2^31:=Zs (by decide) hs;have ec:(x:Int)*2^s=((x*2^s:Nat):Int):=by push_cast;rfl
  obtain⟨m,hm⟩:=nmE (x*2^s);rw[<-hm]at k1 k2 k3 k4 hxs ec;refine go tt [.t (by simp[U7];omega),.x (G6 hx),.i s,.r 40 (Dx (b:=(m:Int)) ec),.i i,.x (G6 hz),.w 0,.r 52 (Ei (b:=((m % 4294967296:Nat):Int)) (by rw[xZ];omega)),.r 53 (Ei (b:=((z+m % 4294967296:Nat):Int)) (by rw[k4,o32 hzs zb (by omega) (by omega)])),.i i,
   .i 32,.r 61 (Dx (b:=((m / 2^32:Nat):Int)) (by simp)),.w 0,.r 62 (Ei (b:=((m / 2^32 % 4294967296:Nat):Int)) (by rw[xZ];omega)),.i (i+1)] rfl (by simp[U3,Hu,U7,IntKind.bits,ec] <;> omega) ?_
  rw[Cm,Cm];exact rd (i+1,(o.set i (z+m % 4294967296)).set (i+1) (m / 2^32 % 4294967296)) (show p.length-(i+1)<p.length-i by omega) ⟨hi,by simp[j2],Bq (Bq j3 _ _ (by omega)) _ _ (by omega),⟨_,by rw[X9 (by simp;omega)],by omega⟩,k3⟩ rfl
 ·obtain rfl:i=p.length:=by omega
  rw[Qo (by omega),Qo (Qm _)]at j5;rw[<-j5];exact Uh [.f (by simp[U7]),.k (VD j3)] rfl
theorem Qx2{a:Uq}{s:Nat}(ha:Sm a)(h1:sz (val a)<=4294967400)(hs:s<=31):Ul 306 [lr a,.oi s] [lr (Gb (val a / 2^s))]:=by
 refine Fv func306 rfl ?_;obtain⟨p,ca,np,vp,_,ep⟩:=HB ha;have hp:=Td h1;rw[<-ep]at hp;rw[<-vp];have hq:((s:Nat):Int).tdiv 32=0:=rO hs;by_cases h0:p=[]
 ·subst h0;exact Uh [.k ca,.r 14 (eI (b:=(s:Int)) (Qvn hs)),.r 16 (eI (b:=((0:Nat):Int)) (rO hs)),.r 18 (eI (b:=(s:Int)) (Qj8 hs)),.t (by simp[lm])] rfl (by simp[val,Hd,lm]) (by simp only[U3,Hu];omega)
 have hpl:0<p.length:=J5.2 h0;refine go tt [.k ca,.r 14 (eI (b:=(s:Int)) (Qvn hs)),.r 16 (eI (b:=((0:Nat):Int)) (rO hs)),.r 18 (eI (b:=(s:Int)) (Qj8 hs)),.f (by simp[U7];omega),.r 27 (eI (b:=((lm p).length:Int)) (by omega)),.i (lm p).length,.i (lm p).length] rfl (by have e:=U7 p;simp only[U3,Hu];omega) ?_;rw[WH];refine lp (S:=Nat×Uq) 1 (λL1 s=>(31,.v (.oi (s.1:Int)))::L1) (λs=>[.row false 151 1 (lm s.2)]) (λs=>p.length-s.1)
  (λr=>r.1<=p.length/\r.2.length=p.length/\Sm r.2/\val (r.2.take r.1)=val p / 2^s % 4294967296^r.1) (0,List.replicate (lm p).length 0)
  ⟨Qh _,by simp[U7],λx hx=>by rw[Zw hx];decide,by simp[val];omega⟩ rfl (λ_ _=>rfl) rfl λ⟨i,o⟩ ⟨j1,j2,j3,j5⟩=>?_
 dsimp only at j1 j2 j3 j5 ⊢;by_cases hi:i<p.length
 ·obtain⟨x,hx⟩:=gxE (l:=p) (i:=i) hi;have xb:=np.1 x (Qa hx);have fin:∀y m,(p[i+1]? = some y\/p.length<=i+1/\y=0)->m=(x+y*2^32) / 2^s->p.length-(i+1)<p.length-i/\i+1<=p.length/\(o.set i (m % 4294967296)).length=p.length/\Sm (o.set i (m % 4294967296))/\val ((o.set i (m % 4294967296)).take (i+1))=val p / 2^s % 4294967296^(i+1):=λy m hy hm =>
   ⟨by omega,hi,by simp[j2],Bq j3 _ _ (by omega),by subst hm;exact Qkv hs hx hy (by omega) np.1 j5⟩
  have hsp:0<2^s:=Z2 (by decide);by_cases hy0:i+1<p.length
  ·obtain⟨y,hy⟩:=gxE (l:=p) (i:=i+1) hy0;have yb:=np.1 y (Qa hy);obtain⟨v,hv⟩:=nmE (4294967296*y+x);obtain⟨m,hm⟩:=nmE (v / 2^s);have hml:m<=v:=hm ▸ Jr _ _;have hf:=fin y m (.inl hy) (by rw[hm,hv];congr 1;omega);refine go tt [.t (by simp[U7];omega),.x (G6 hx),.t (by simp[U7];omega),.x (G6 hy),.i 32,.r 57 (Dx (b:=((4294967296*y:Nat):Int)) (by omega)),.r 58 (Dx (b:=(v:Int)) (by rw[oM xb (by omega)];omega)),
    .i s,.r 63 (Dx (b:=(m:Int)) (by rw[hm];push_cast;rfl)),.w 0,.r 64 (Ei (b:=((m % 4294967296:Nat):Int)) (by rw[xZ];omega)),.i i] rfl (by simp[U3,Hu,U7,IntKind.bits] <;> omega) ?_
   rw[Cm];exact rd (i+1,o.set i (m % 4294967296)) hf.1 hf.2 rfl
  ·obtain⟨m,hm⟩:=nmE (x / 2^s);have hml:m<=x:=hm ▸ Jr _ _;have hf:=fin 0 m (.inr ⟨by omega,rfl⟩) (by rw[hm];simp);refine go tt [.t (by simp[U7];omega),.x (G6 hx),.f (by simp[U7];omega),
    .i s,.r 63 (Dx (b:=(m:Int)) (by rw[hm];push_cast;rfl)),.w 0,.r 64 (Ei (b:=((m % 4294967296:Nat):Int)) (by rw[xZ];omega)),.i i] rfl (by simp[U3,Hu,U7,IntKind.bits] <;> omega) ?_
   rw[Cm];exact rd (i+1,o.set i (m % 4294967296)) hf.1 hf.2 rfl
 ·obtain rfl:i=p.length:=by omega
  have hvl:=Bu p np.1;rw[Qo (by omega),Xw (Z3 (Jr _ _) hvl)]at j5;rw[<-j5];exact Uh [.f (by simp[U7,j2]),.k (VD j3)] rfl
def uF:Nat->Nat->Uq
 | 0,_=>[]
 |k+1,v=>v % 4294967296::uF k (v / 4294967296)
theorem Qg4:∀{l:Uq},Sm l->l=uF l.length (val l)
 | [],_=>rfl
 |
  x::l,h=>by
  have hx:=h x (.head _);have ih:=Qg4 (l:=l) λy hy=>h y (.tail _ hy)
  simp only[Q5,uF,val];rw[show(x+4294967296*val l) % 4294967296=x by omega,show(x+4294967296*val l) / 4294967296=val l by omega,<-ih]
theorem mB{l:Uq}{k v:Nat}(h:Sm l)(hk:l.length=k)(hv:val l=v):uF k v=l:=by
 rw[<-hk,<-hv];exact(Qg4 h).symm
theorem jJ:∀{k v:Nat},(uF k v).length=k/\Sm (uF k v)/\(v<4294967296^k->val (uF k v)=v)
 | 0,v=>⟨rfl,λx hx=>by(cases hx),λh=>by simp at h;subst h;rfl⟩
 |
  k+1,v=>by
  obtain⟨h1,h2,h3⟩:=jJ (k:=k) (v:=v / 4294967296);refine⟨by simp[uF,h1],λx hx=>?_,λh=>?_⟩
  ·rcases Ql.1 hx with rfl|hx
   ·exact Z6 _ (by decide)
   ·exact h2 x hx
  ·simp only[uF,val];rw[h3 (by rw[Zr]at h;exact X8 (by rw[Zq];exact h))];omega
theorem Qgl{a:Uq}{s n:Nat}(ha:Sm a)(h1:sz (val a)<=4294967400)(hs:s<=31)(hn:n<274877906944)(h0:0<n)(hv:val a*2^s<4294967296^n) :
 U6 prog 304 [lr a,.oi s,.oi n] [] [.one (.orow 0 1 none)] [.row false 151 1 (lm (uF n (val a*2^s)))]:=by
 refine Fv func304 rfl ?_;obtain⟨v,hvv⟩:=nmE (val a*2^s);have cs:=Qx1 ha h1 hs;rw[<-hvv]at cs hv ⊢;have hl:(Gb v).length<=n:=by
  apply Classical.byContradiction;intro hh;have h2:=FR (Dn v) (λe=>by rw[e]at hh;simp at hh);rw[Ha]at h2;have h3:4294967296^n<=4294967296^((Gb v).length-1):=Zs (by decide) (by omega);omega
 refine go tt [.i n,.i n,.k cs,.s (Qir (Gb v)),.i (Gb v).length] rfl (by simp[U3,Hu,U7] <;> omega) ?_;have e:List.take 0 (List.replicate n [LV.int .u32 0])++(List.take (Gb v).length (lm (Gb v))++List.drop (0+(Gb v).length) (List.replicate n [LV.int .u32 0]))=lm (uF n v):=by
  rw[mB (l:=Gb v++List.replicate (n-(Gb v).length) 0) (λx hx=>?_) (by simp;omega) (by rw[Bt,TM,Ha];simp)]
  ·rw[Vv,Yk,Qo (by rw[U7];exact Qm _)];simp[lm]
  ·rcases Qp.1 hx with hx|hx
   ·exact Ls v x hx
   ·rw[Zw hx];decide
 rw[e];exact Uj [] [0] [] rfl
theorem IK{pre x post:Uq}{i u:Nat}(h:x[i]? = some u):(lm (pre++x++post))[pre.length+i]? = some [.int .u32 (u:Int)]:=G6 (by
 have hi:=(Qe.1 h).1;rw[Ze,Xa (by omega),Jk,Zi hi];exact h)
theorem Qll{pre x post:Uq}{i v:Nat}(h:i<x.length):(lm (pre++x++post)).set (pre.length+i) [.int .u32 (v:Int)]=lm (pre++x.set i v++post):=by
 rw[Cm,Ze,List.set_append_right _ _ (by omega),Jk,List.set_append_left _ _ h,<-Ze]
theorem Qnm{pre x post ly:Uq}{top nx xn x1 x2:Nat}(D:Dig x ly ly.length top nx xn x1 x2)(hn:ly.length<274877906944) :
 U6 prog 305 [.one (.orow 0 1 (some (pre.length,x.length))),lr ly] [.row true 151 1 (lm (pre++x++post))] [.one (.int .u32 ((val x / val ly:Nat):Int))] [.row true 151 1 (lm (pre++uF x.length (val x % val ly)++post))]:=by
 refine Fv func305 rfl ?_;have hxl:=D.hx;have hn2:=D.hn;have hb:=D.bnd;obtain⟨head,hh⟩:=nmE (xn*2^32+x1);obtain⟨g0,hg0⟩:=nmE (head / top);obtain⟨r0,hr0⟩:=nmE (head % top);have hst:=D.start;rw[<-hh,<-hg0]at hst;have ht0:=D.top0;have hg0l:g0<=head:=hg0 ▸ Jr _ _;have hr0l:r0<top:=hr0 ▸ Z6 _ ht0;have htd:(head:Int).tdiv top=(g0:Int):=by rw[V6 (by omega),hg0];rfl
 have htm:(head:Int).tmod top=(r0:Int):=by rw[Y6 (by omega),hr0];rfl
 refine go tt [.r 23 (eI (b:=(ly.length:Int)) (by rw[U7])),.r 26 (eI (b:=((ly.length-1:Nat):Int)) (by omega)),.x (G6 D.ltop),.r 32 (eI (b:=((ly.length-2:Nat):Int)) (by omega)),.x (G6 D.lnx),
  .i ly.length,.x (IK D.xn),.i 32,.r 41 (Dx (b:=((4294967296*xn:Nat):Int)) (by omega)),.r 44 (eI (b:=((ly.length-1:Nat):Int)) (by omega)),.i (ly.length-1),.x (IK D.x1),.r 48 (Dx (b:=(head:Int)) (by rw[o64 hb.2.2.2.1 (by omega)];omega)),
  .r 51 (Dx (b:=(g0:Int)) htd),.r 54 (Dx (b:=(r0:Int)) htm)] rfl ?_ ?_
 ·simp only[U3,Hu,htd,IntKind.bits];omega
 refine ct 2 (S:=Nat) (λg=>[(0,.v (.one (.orow 0 1 (some (pre.length,x.length))))),(1,.v (lr ly)),(5,.v (.oi (ly.length:Int))),(9,.v (.one (.int .u64 (g:Int))))]) (λ_=>[.row true 151 1 (lm (pre++x++post))]) (λg=>val x / val ly<=g/\(g-1)*val ly<=val x/\g<=4294967296) rfl ?_ ?_
 ·refine lp (S:=Nat×Nat) 1 (λL1 s=>(9,.v (.one (.int .u64 (s.1:Int))))::(10,.v (.one (.int .u64 (s.2:Int))))::L1) (λ_=>[.row true 151 1 (lm (pre++x++post))]) (λs=>4294967296-s.2)
   (λs=>s.1*top+s.2=xn*2^32+x1/\val x / val ly<=s.1/\s.2<4294967296/\s.1<18446744073709551616) (g0,r0)
   ⟨by rw[<-hh,hg0,hr0,Nat.mul_comm];exact Nat.div_add_mod _ _,hst,by dsimp only;omega,by dsimp only;omega⟩ rfl (λ_ _=>rfl) rfl λ⟨g,r⟩ ⟨j1,j2,j3,j4⟩=>?_
  dsimp only at j1 j2 j3 j4 ⊢;by_cases hge:4294967296<=g
  ·have hrd:=D.round j1 j2 (.inl hge);by_cases h2:4294967296<=r+top
   ·exact go tt [.t (by simp;omega),.t rfl,.r 73 (Dx (b:=((g-1:Nat):Int)) (by omega)),.t (by simp;omega)] rfl (by simp[U3,Hu] <;> omega) (rc (g-1) ⟨hrd.2.1,(hrd.2.2.2 h2).1,(hrd.2.2.2 h2).2⟩ rfl)
   ·exact go tt [.t (by simp;omega),.t rfl,.r 73 (Dx (b:=((g-1:Nat):Int)) (by omega)),.f (by simp;omega)] rfl (by simp[U3,Hu] <;> omega) (rd (g-1,r+top) (by dsimp only;omega) ⟨hrd.2.2.1,hrd.2.1,by dsimp only;omega,by dsimp only;omega⟩ rfl)
  ·have hgn:=XI (x:=g) (y:=nx) (by omega) hb.2.1;by_cases hc:r*2^32+x2<g*nx
   ·have hrd:=D.round j1 j2 (.inr hc);have e1:(g:Int)*(nx:Int)=((g*nx:Nat):Int):=by push_cast;rfl
    obtain⟨m,hm⟩:=nmE (g*nx);rw[<-hm]at e1 hgn hc;by_cases h2:4294967296<=r+top
    ·exact go tt [.f (by simp;omega),.r 60 (Dx (b:=(m:Int)) e1),.i 32,.r 62 (Dx (b:=((4294967296*r:Nat):Int)) (by omega)),.r 65 (eI (b:=((ly.length-2:Nat):Int)) (by omega)),.i (ly.length-2),.x (IK D.x2),.r 69 (Dx (b:=((4294967296*r+x2:Nat):Int)) (o64 hb.2.2.2.2 (by omega))),.t (by simp;omega),.r 73 (Dx (b:=((g-1:Nat):Int)) (by omega)),.t (by simp;omega)] rfl (by simp only[U3,Hu,e1,IntKind.bits];omega) (rc (g-1) ⟨hrd.2.1,(hrd.2.2.2 h2).1,(hrd.2.2.2 h2).2⟩ rfl)
    ·exact go tt [.f (by simp;omega),.r 60 (Dx (b:=(m:Int)) e1),.i 32,.r 62 (Dx (b:=((4294967296*r:Nat):Int)) (by omega)),.r 65 (eI (b:=((ly.length-2:Nat):Int)) (by omega)),.i (ly.length-2),.x (IK D.x2),.r 69 (Dx (b:=((4294967296*r+x2:Nat):Int)) (o64 hb.2.2.2.2 (by omega))),.t (by simp;omega),.r 73 (Dx (b:=((g-1:Nat):Int)) (by omega)),.f (by simp;omega)] rfl (by simp only[U3,Hu,e1,IntKind.bits];omega) (rd (g-1,r+top) (by dsimp only;omega) ⟨hrd.2.2.1,hrd.2.1,by dsimp only;omega,by dsimp only;omega⟩ rfl)
   ·have hf:=D.fin j1 (by omega) (by omega);have e1:(g:Int)*(nx:Int)=((g*nx:Nat):Int):=by push_cast;rfl
    obtain⟨m,hm⟩:=nmE (g*nx);rw[<-hm]at e1 hgn hc;exact go tt [.f (by simp;omega),.r 60 (Dx (b:=(m:Int)) e1),.i 32,.r 62 (Dx (b:=((4294967296*r:Nat):Int)) (by omega)),.r 65 (eI (b:=((ly.length-2:Nat):Int)) (by omega)),.i (ly.length-2),.x (IK D.x2),.r 69 (Dx (b:=((4294967296*r+x2:Nat):Int)) (o64 hb.2.2.2.2 (by omega))),.f (by simp;omega)] rfl (by simp only[U3,Hu,e1,IntKind.bits];omega) (rc g ⟨j2,hf,by omega⟩ rfl)
 ·intro g ⟨q1,q2,q3⟩;refine Uf [.r 80 (eI (b:=(ly.length:Int)) (by rw[U7]))] rfl ?_;refine lp (S:=Nat×Uq×Nat×Nat) 1 (λL1 s=>(81,.v (.oi (s.1:Int)))::(11,.v (.one (.int .u64 (s.2.2.1:Int))))::(12,.v (.one (.int .u64 (s.2.2.2:Int))))::L1) (λs=>[.row true 151 1 (lm (pre++s.2.1++post))]) (λs=>ly.length-s.1)
   (λs=>s.1<=ly.length/\s.2.1.length=ly.length+1/\Sm s.2.1/\s.2.2.2<=1/\s.2.2.1<4294967296/\val (s.2.1.take s.1)+g*val (ly.take s.1)=val (x.take s.1)+(s.2.2.1+s.2.2.2)*4294967296^s.1/\s.2.1.drop s.1=x.drop s.1) (0,x,0,0)
   ⟨Qh _,hxl,D.xb,Qh _,by simp,by simp[val],rfl⟩ rfl (λ_ _=>rfl) rfl λ⟨i,o,cy,bw⟩ ⟨j1,j2,j3,j4,j5,j6,j7⟩=>?_
  dsimp only at j1 j2 j3 j4 j5 j6 j7 ⊢;by_cases hi:i<ly.length
  ·obtain⟨w1,hw1⟩:=gxE (l:=ly) (i:=i) hi;obtain⟨u,hu⟩:=gxE (l:=x) (i:=i) (by omega);have wb:=D.lb w1 (Qa hw1);have ub:=D.xb u (Qa hu);have hou:=(UP j7).trans hu;have hgw:g*w1<=18446744069414584320:=by
    have:=Zd q3 (show w1<=4294967295 by omega);omega
   obtain⟨s,hs⟩:=nmE (((u+18446744073709551616-(g*w1+cy) % 4294967296) % 18446744073709551616+18446744073709551616-bw) % 18446744073709551616);have hstep:=yF (o:=o) (by omega) hu hw1 ub j4 j6 rfl hs;have e1:(g:Int)*(w1:Int)=((g*w1:Nat):Int):=by push_cast;rfl
   obtain⟨m,hm⟩:=nmE (g*w1);rw[<-hm]at e1 hgw hs hstep;obtain⟨p,hp⟩:=nmE (m+cy);rw[<-hp]at hs hstep;refine go tt [.t (by simp;omega),.x (G6 hw1),.r 89 (Dx (b:=(m:Int)) e1),.r 91 (Dx (b:=(p:Int)) (by omega)),.i 32,.r 93 (Dx (b:=((p / 2^32:Nat):Int)) (by simp)),.i i,.x (IK hou),.w 1,.r 100 (Ei (b:=((p % 4294967296:Nat):Int)) (by rw[xZ];omega)),.w 1,.r 102 (Dx (b:=(((u+18446744073709551616-p % 4294967296) % 18446744073709551616:Nat):Int)) (by rw[w64];omega)),.w 0,.r 104 (Dx (b:=(s:Int)) (by rw[w64];omega)),
    .w 0,.r 108 (Ei (b:=((s % 4294967296:Nat):Int)) (by rw[xZ];omega)),.i 63,.r 110 (Dx (b:=((s / 2^63:Nat):Int)) (by simp)),.i i] rfl (by simp only[U3,Hu,e1,IntKind.bits,U7,Qx];omega) ?_
   rw[Qll (by omega)];exact rd (i+1,o.set i (s % 4294967296),p / 2^32,s / 2^63) (by dsimp only;omega) ⟨hi,by simp[j2],Bq j3 _ _ (by omega),hstep.2,by dsimp only;omega,hstep.1,OX j7⟩ rfl
  ·obtain rfl:i=ly.length:=by omega
   have hon:=(UP j7).trans D.xn;rw[Qo (l:=ly) (Qm _)]at j6;obtain⟨s,hs⟩:=nmE (((xn+18446744073709551616-cy) % 18446744073709551616+18446744073709551616-bw) % 18446744073709551616);obtain⟨oa,hoa⟩:=nmE (o.set ly.length (s % 4294967296));have oal:oa.length=ly.length+1:=by rw[hoa,Xe];exact j2
   have oab:Sm oa:=hoa ▸ Bq j3 _ _ (by omega);by_cases AH:s / 2^63=0
   ·have hf:=D.fin0 j2 j5 j4 q1 j6 hs AH;refine go tt [.f (by simp),.i ly.length,.x (IK hon),.w 1,.r 119 (Dx (b:=(((xn+18446744073709551616-cy) % 18446744073709551616:Nat):Int)) (by rw[w64];omega)),.w 0,.r 121 (Dx (b:=(s:Int)) (by rw[w64];omega)),.w 0,.r 125 (Ei (b:=((s % 4294967296:Nat):Int)) (by rw[xZ];omega)),.i ly.length,.i 63,.r 128 (Dx (b:=((s / 2^63:Nat):Int)) (by simp)),.t (by simp;omega),.w 0,.r 131 (Ei (b:=((val x / val ly:Nat):Int)) (by rw[xZ];omega))] rfl (by simp only[U3,Hu,IntKind.bits,U7,Qx];omega) ?_;rw[Qll (by omega),<-mB (l:=o.set ly.length (s % 4294967296)) (k:=x.length) (hoa ▸ oab) (by rw[<-hoa,oal,hxl]) hf.2];exact Uj [] [0] [] rfl
   ·have hf:=D.fin1 j2 j3 j5 j4 q2 j6 hs AH;rw[<-hoa]at hf;obtain⟨v1,hv1⟩:=gxE (l:=oa) (i:=ly.length) (by omega);refine go tt [.f (by simp),.i ly.length,.x (IK hon),.w 1,.r 119 (Dx (b:=(((xn+18446744073709551616-cy) % 18446744073709551616:Nat):Int)) (by rw[w64];omega)),.w 0,.r 121 (Dx (b:=(s:Int)) (by rw[w64];omega)),.w 0,.r 125 (Ei (b:=((s % 4294967296:Nat):Int)) (by rw[xZ];omega)),.i ly.length,.i 63,.r 128 (Dx (b:=((s / 2^63:Nat):Int)) (by simp)),.f (by simp;omega),.r 133 (eI (b:=(ly.length:Int)) (by rw[U7]))] rfl (by simp only[U3,Hu,IntKind.bits,U7,Qx];omega) ?_;rw[Qll (by omega),<-hoa];refine lp (S:=Nat×Uq×Nat) 1 (λL1 s=>(134,.v (.oi (s.1:Int)))::(18,.v (.one (.int .u64 (s.2.2:Int))))::L1) (λs=>[.row true 151 1 (lm (pre++s.2.1++post))]) (λs=>ly.length-s.1)
     (λs=>s.1<=ly.length/\s.2.1.length=ly.length+1/\Sm s.2.1/\s.2.2<=1/\val (s.2.1.take s.1)+s.2.2*4294967296^s.1=val (oa.take s.1)+val (ly.take s.1)/\s.2.1.drop s.1=oa.drop s.1) (0,oa,0)
     ⟨Qh _,oal,oab,Qh _,by simp[val],rfl⟩ rfl (λ_ _=>rfl) rfl λ⟨j,o2,bk⟩ ⟨r1,r2,r3,r4,r5,r6⟩=>?_
    dsimp only at r1 r2 r3 r4 r5 r6 ⊢;by_cases hj:j<ly.length
    ·obtain⟨w1,hw1⟩:=gxE (l:=ly) (i:=j) hj;obtain⟨u,hu⟩:=gxE (l:=oa) (i:=j) (by omega);have wb:=D.lb w1 (Qa hw1);have ub:=oab u (Qa hu);have hou:=(UP r6).trans hu;obtain⟨m,hm⟩:=nmE (u+bk+w1);have hstep:=kN (o:=o2) (by omega) hu (.inl hw1) r5 hm;refine go tt [.t (by simp;omega),.x (G6 hw1),.i j,.x (IK hou),.r 148 (Dx (b:=(m:Int)) (by omega)),.w 0,.r 152 (Ei (b:=((m % 4294967296:Nat):Int)) (by rw[xZ];omega)),.i 32,.r 154 (Dx (b:=((m / 4294967296:Nat):Int)) (by simp)),.i j] rfl (by simp only[U3,Hu,IntKind.bits,U7,Qx];omega) ?_;rw[Qll (by omega)];exact rd (j+1,o2.set j (m % 4294967296),m / 4294967296) (by dsimp only;omega) ⟨hj,by simp[r2],Bq r3 _ _ (by omega),by dsimp only;omega,hstep,OX r6⟩ rfl
    ·obtain rfl:j=ly.length:=by omega
     have hon2:=(UP r6).trans hv1;have vb:=oab v1 (Qa hv1);rw[Qo (l:=ly) (Qm _)]at r5;have hf2:=D.fin2 oal oab r2 r3 hv1 r4 hf.2 r5;refine go tt [.f (by simp),.i ly.length,.x (IK hon2),.w 1,.r 165 (Ei (b:=(((v1+bk) % 4294967296:Nat):Int)) (by rw[xZ];omega)),.i ly.length,.w 0,.r 168 (Ei (b:=((g % 4294967296:Nat):Int)) (by rw[xZ];omega)),.w 0,.r 169 (Ei (b:=((val x / val ly:Nat):Int)) (Qzg hf.1 D.qlt))] rfl (by simp only[U3,Hu,IntKind.bits,U7,Qx];omega) ?_;rw[Qll (by omega),<-mB (l:=o2.set ly.length ((v1+bk) % 4294967296)) (k:=x.length) (Bq r3 _ _ (by omega)) (by rw[Xe,r2,hxl]) hf2];exact Uj [] [0] [] rfl
theorem Qfw{o ly:Uq}{lo top nx xn x1 x2:Nat}(hlo:lo+(ly.length+1)<=o.length)(D:Dig (WA o lo ly.length) ly ly.length top nx xn x1 x2)(hn:ly.length<274877906944) :
 U6 prog 305 [.one (.orow 0 1 (some (lo,ly.length+1))),lr ly] [.row true 151 1 (lm o)] [.one (.int .u32 ((val (WA o lo ly.length) / val ly:Nat):Int))] [.row true 151 1 (lm (o.take lo++uF (ly.length+1) (val (WA o lo ly.length) % val ly)++o.drop (lo+ly.length+1)))]:=by
 have:=Qnm (pre:=o.take lo) (post:=o.drop (lo+ly.length+1)) D hn;have e1:(o.take lo).length=lo:=by rw[Qr];omega
 have e2:=GB (o:=o) (i:=lo) (n:=ly.length) (by omega);rw[e1,e2,VW]at this;exact this
theorem wJ{a b:Uq}(ha:Sm a)(hb:Sm b)(h1:sz (val a)<=4294967296)(h2:sz (val b)<=4294967296)(hy:0<val b):Ul 268 [lr a,lr b] [lr (Gb (val a / val b)),lr (Gb (val a % val b)),.oi 0]:=by
 refine Fv func268 rfl ?_;obtain⟨p,ca,np,vp,_,ep⟩:=HB ha;obtain⟨q,cb,nq,vq,_,eq⟩:=HB hb;have hp:=Td h1;have hq:=Td h2;rw[<-ep]at hp;rw[<-eq]at hq;rw[<-vp,<-vq];rw[<-vp]at h1;rw[<-vq]at h2 hy;have q0:q≠[]:=λe=>by rw[e]at hy;simp[val]at hy
 have qp:0<q.length:=J5.2 q0;have c1:¬((lm q).length:Int)=0:=by rw[U7];omega
 by_cases hlt:p.length<q.length
 ·have hv:=D4 np nq hlt;rw[V2 hv,Xw hv,Hd];exact Uh [.k ca,.k cb,.f (by simpa using c1),.t (by simp[U7];omega),.k (KV np.1 h1)] rfl rfl (by simp[U3,Hu])
 by_cases hone:q.length=1
 ·obtain⟨y,rfl⟩:∃y,q=[y]:=by
   match q,hone with
   | [y],_=>exact⟨y,rfl⟩
  have yb:=nq.1 y (.head _);have vy:val [y]=y:=by simp[val]
  rw[vy]at hy ⊢;have co:=Qx6 np.1 (by omega) hy yb;have sm:Sm [val p % y]:=λz hz=>by
   simp at hz;subst hz;exact Nat.lt_trans (Z6 _ hy) yb
  have cc:=VD sm;rw[show val [val p % y]=val p % y from by simp[val]]at cc;exact Uh [.k ca,.k cb,.f (by simp[lm]),.f (by simp[U7];omega),.t (by simp[lm]),.x (G6 (l:=[y]) (i:=0) rfl),.k co,.k cc] rfl rfl (by simp[U3,Hu])
 ·have hle:q.length<=p.length:=Yb hlt;obtain⟨y1,hy1,hy10⟩:=nq.2 q0;have y1b:=nq.1 y1 (Qa hy1);have hszy:=dW nq hy1;have hsz1:sz y1<=32:=Ns.2 (by omega);have hsz0:0<sz y1:=Qwp (by omega);obtain⟨s,hs⟩:=nmE (32-sz y1);have hs31:s<=31:=by omega
  have Ei:(2:Nat)^32=4294967296:=by decide
  obtain⟨x,hx⟩:=nmE (val p);obtain⟨y,hyv⟩:=nmE (val q);have cl:=Qtn y1b;rw[<-hs]at cl;have hvx:val p*2^s<4294967296^(p.length+1):=by
   have h1:=Bu p np.1;rw[Zr];exact Z8 (Xp h1 (show 0<2^s from Z2 (by decide))) (Zu _ (by rw[<-Ei];exact Zs (by decide) (by omega)))
  have hvy:val q*2^s<4294967296^q.length:=by
   have h1:=FK (val q);rw[<-Ei,<-Ks];have h2:val q*2^s<2^sz (val q)*2^s:=Xp h1 (Z2 (by decide));rw[<-Xg]at h2;rw[show 32*q.length=sz (val q)+s from by omega];exact h2
  have cx:=Qgl np.1 (show sz (val p)<=4294967400 by omega) hs31 (show p.length+1<274877906944 by omega) (by omega) hvx;have cy:=Qgl nq.1 (show sz (val q)<=4294967400 by omega) hs31 (show q.length<274877906944 by omega) qp hvy;obtain⟨hXl,hXb,hXv⟩:=jJ (k:=p.length+1) (v:=val p*2^s);obtain⟨hYl,hYb,hYv⟩:=jJ (k:=q.length) (v:=val q*2^s);have hXv:=hXv hvx;have hYv:=hYv hvy;obtain⟨X,hX⟩:=nmE (uF (p.length+1) (val p*2^s));obtain⟨Y,hY⟩:=nmE (uF q.length (val q*2^s));rw[<-hX]at hXl hXb hXv cx;rw[<-hY]at hYl hYb hYv cy;have hyB:4294967296^(q.length-1)<=val q:=FR nq q0;have hR:=cF hXv hYv hXl hXb hYl hYb (show 2<=q.length by omega) (Bu p np.1) hyB hle;refine go tt [.k ca,.k cb,.f (by simpa using c1),.f (by simp[U7];omega),.f (by simp[U7];omega),.r 49 (eI (b:=((q.length-1:Nat):Int)) (by rw[U7];omega)),.x (G6 hy1),.k cl,.r 57 (eI (b:=((p.length+1:Nat):Int)) (by rw[U7];omega)),.c [0] cx,.r 62 (eI (b:=(q.length:Int)) (by rw[U7])),.c [1] cy,.r 65 (eI (b:=(q.length:Int)) (by rw[U7,hYl])),.r 70 (eI (b:=((p.length-q.length+1:Nat):Int)) (by rw[U7];omega)),.i (p.length-q.length+1),.i (p.length-q.length+1),.r 73 (eI (b:=((p.length-q.length+1:Nat):Int)) (by simp))] rfl ?_ ?_
  ·simp only[U3,Hu,IntKind.bits,U7];omega
  ·rw[WH];refine pb 1 rfl rfl ?_;refine lp (S:=Int×Uq×Uq) 3 (λL1 s=>(13,.v (.oi s.1))::L1) (λs=>[.row false 151 1 (lm s.2.2),.gone,.row false 151 1 (lm s.2.1)]) (λs=>(s.1+1).toNat)
    (λs=>-1<=s.1/\s.1<p.length-q.length+1/\s.2.1.length=p.length-q.length+1/\Sm s.2.1/\Rest s.2.2 Y p.length q.length (s.1+1).toNat/\val (s.2.1.drop (s.1+1).toNat)*4294967296^(s.1+1).toNat*val Y+val s.2.2=val X) (((p.length-q.length+1:Nat):Int)-1,List.replicate (p.length-q.length+1) 0,X)
    ⟨by dsimp only;omega,by dsimp only;omega,by simp,λx hx=>by rw[List.eq_of_mem_replicate hx];decide,by simpa using hR,by simp[val]⟩ rfl (λ_ _=>rfl) rfl λ⟨i,oq,ox⟩ ⟨j1,j2,j3,j4,j5,j6⟩=>?_
   dsimp only at j1 j2 j3 j4 j5 j6 ⊢;rcases Kd i 0 with hi|hi
   ·obtain rfl:i=-1:=by omega
    simp only[show((-1:Int)+1).toNat=0 from rfl,Xy,Ve,Yx]at j5 j6;have hlt':val ox<val q*2^s:=by have:=j5.lt;rw[hYv]at this;simpa using this
    have hfin:=Qj9 (x:=val p) (y:=val q) (s:=s) (r:=val ox) (q:=oq) hy (by rw[<-hXv,<-hYv];exact j6) hlt';have hoxl:=j5.ol;have hox:=dF (o:=ox) (n:=q.length) (by omega) (Nat.lt_trans hlt' hvy);have hszm:sz (val (ox.take q.length))<=4294967400:=by
     rw[hox,hfin.2];have h1:=Qk8 (val p % val q) (2^s);have h2':=Ri (Yl (Z6 (val p) hy));have h3:sz (2^s)<=s+1:=Ns.2 (Nat.pow_lt_pow_right (by decide) (by omega));omega
    have cs:=Qx2 (a:=ox.take q.length) (λu hu=>j5.ob u (Qn hu)) hszm hs31;rw[hox,hfin.2,Nat.mul_div_cancel _ (Z2 (by decide))]at cs;have cq:=VD j4;rw[hfin.1]at cq;exact Uh [.f (by decide),.p 2,.p 0,.k cq,.i q.length,.r 95 (v:=lr (ox.take q.length)) (by simp[lm]),.k cs] rfl rfl (by simp[U3,Hu,U7];omega)
   ·obtain⟨k,rfl⟩:=Kk hi;have e:((k:Int)+1).toNat=k+1:=by omega
    rw[e]at j5 j6;obtain⟨top,nx,xn,x1,x2,D⟩:=j5.dig;have hoxl:=j5.ol;have hm:=j5.hm;have cd:=Qfw (o:=ox) (lo:=k) (by omega) (hYl.symm ▸ D) (by omega);rw[hYl]at cd;have hwl:=GB (o:=ox) (i:=k) (n:=q.length) (by omega);have hwlt:val (WA ox k q.length) % val Y<4294967296^(q.length+1):=by
     have h3:=Bu (WA ox k q.length) D.xb;rw[hwl]at h3;exact Z3 (Nat.mod_le _ _) h3
    obtain⟨d1,d2,d3⟩:=jJ (k:=q.length+1) (v:=val (WA ox k q.length) % val Y);have hnx:=j5.next (w':=uF (q.length+1) (val (WA ox k q.length) % val Y)) (d1.trans hwl.symm) d2 (d3 hwlt) (q:=oq) (by omega) j6;have hdg:=D.qlt;refine go tt [.t (by simp),.i k,.i (k+q.length+1),.r 87 (v:=.one (.orow 0 1 (some (k,q.length+1)))) (by rw[show k+q.length+1-k=q.length+1 by omega]),.c [0] cd,.i k] rfl ?_ ?_
    ·simp only[U3,U7];omega
    ·rw[Cm];refine rd ((k:Int)-1,oq.set k (val (WA ox k q.length) / val Y),ox.take k++uF (q.length+1) (val (WA ox k q.length) % val Y)++ox.drop (k+q.length+1)) (by dsimp only;omega) ⟨by dsimp only;omega,by dsimp only;omega,by simp[j3],Bq j4 _ _ hdg,?_,?_⟩ rfl
     ·dsimp only;rw[show((k:Int)-1+1).toNat=k from by omega];exact hnx.1
     ·dsimp only;rw[show((k:Int)-1+1).toNat=k from by omega];exact hnx.2
def sg(z:Int):LV:=.bool (decide (z<0))
def mg(z:Int):LV:=.row (lm (Gb z.natAbs))
abbrev Hg(z:Int):Ut:=[sg z,mg z]
def Gd(x y:LV)(z:Int):Prop:=∃b l,x=.bool b/\y=.row (lm l)/\Sm l/\z=Fa b (val l)
theorem U4(z:Int):Gd (sg z) (mg z) z:=by
 refine⟨_,_,rfl,rfl,Ls _,?_⟩;rw[Ha];unfold Fa;by_cases h:z<0 <;> simp[h] <;> omega
theorem Qvw(b:Bool)(m:Nat):[LV.bool (b && decide (0<m)),LV.row (lm (Gb m))]=Hg (Fa b m):=by
 simp only[Hg,sg,mg,LG,Rw]
theorem Dz{m:Nat}:0<(Gb m).length↔0<m:=by
 rcases Q3 m with h|h
 ·subst h;rw[Hd];simp
 ·rw[Ez (by omega)];simp[h]
theorem P5(b:Bool)(m:Nat):Ul 112 [lr (Gb m),.one (.bool b)] [.agg (Hg (Fa b m))]:=by
 rw[<-Qvw];have e:=Dz (m:=m);cases b with
 |false=>exact Ui func112 rfl [.f rfl] rfl
 |true=>exact Ui func112 rfl [.t rfl] rfl (by simp[U7,e]) trivial
theorem Py{b:Bool}{m:Nat}{k:Nat}(h:Fc (Fa b m)<=k):sz m<=k:=by
 unfold Fc at h;rwa[Rw]at h
theorem Mp{x y:LV}{z:Int}(hi:Gd x y z)(hs:Fc z<=4294967295):Ul 151 [.agg [x,y]] [.agg (Hg z)]:=by
 obtain⟨b,l,rfl,rfl,hl,rfl⟩:=hi;exact Ui func151 rfl [.k (KV hl (Qc (Py hs) (by decide))),.k (P5 _ _)] rfl
theorem UE(b:Bool)(m:Nat):Fa (!b) m=-(Fa b m):=by unfold Fa;cases b <;> simp
theorem BV{x y:LV}{z:Int}(hi:Gd x y z)(hs:Fc z<=4294967295):Ul 165 [.agg [x,y]] [.agg (Hg (-z))]:=by
 obtain⟨b,l,rfl,rfl,hl,rfl⟩:=hi;rw[<-UE];exact Ui func165 rfl [.k (KV hl (Qc (Py hs) (by decide))),.k (P5 _ _)] rfl
theorem P0{x y x' y':LV}{z z':Int}(hi:Gd x y z)(hi':Gd x' y' z')(hs:Fc z<=4294967295)(hs':Fc z'<=4294967295):Ul 48 [.agg [x,y],.agg [x',y']] [.agg (Hg (z*z'))]:=by
 obtain⟨b,l,rfl,rfl,hl,rfl⟩:=hi;obtain⟨b',l',rfl,rfl,hl',rfl⟩:=hi';have e:Fa b (val l)*Fa b' (val l')=Fa (b != b') (val l*val l'):=by
  unfold Fa;cases b <;> cases b' <;> simp[Int.neg_mul,Int.mul_neg]
 rw[e];exact Ui func48 rfl [.k (Qxw hl hl' (Qc (Py hs) (by decide)) (Qc (Py hs') (by decide))),.k (P5 _ _)] rfl
theorem BH{a b:Uq}(ha:Sm a)(hb:Sm b)(h1:sz (val a)<=4294967296)(h:val b<=val a):Ul 308 [lr a,lr b] [lr (Gb (val a-val b)),.one (.bool true)]:=by
 have:=Qru ha hb h1;rwa[if_pos h]at this
theorem Qfm{a b:Uq}(ha:Sm a)(hb:Sm b)(h1:sz (val a)<=4294967296)(h:val a<val b):Ul 308 [lr a,lr b] [lr [],.one (.bool false)]:=by
 have:=Qru ha hb h1;rwa[if_neg (by omega)]at this
theorem KF{x y x' y':LV}{z z':Int}(hi:Gd x y z)(hi':Gd x' y' z')(hs:Fc z<=4294967295)(hs':Fc z'<=4294967295):Ul 300 [.agg [x,y],.agg [x',y']] [.agg (Hg (z+z'))]:=by
 obtain⟨b,l,rfl,rfl,hl,rfl⟩:=hi;obtain⟨b',l',rfl,rfl,hl',rfl⟩:=hi';have s1:=Qc (Py hs) (show 4294967295<=4294967296 by decide);have s2:=Qc (Py hs') (show 4294967295<=4294967296 by decide);by_cases hb:b=b'
 ·subst hb;have e:Fa b (val l)+Fa b (val l')=Fa b (val l+val l'):=by unfold Fa;cases b <;> simp <;> omega
  rw[e];exact Ui func300 rfl [.t (by simp),.k (Qrq hl hl' s1 s2),.k (P5 _ _)] rfl
 ·by_cases hle:val l'<=val l
  ·have e:Fa b (val l)+Fa b' (val l')=Fa b (val l-val l'):=by unfold Fa;cases b <;> cases b' <;> simp at hb ⊢ <;> omega
   rw[e];exact Ui func300 rfl [.f (by simpa using hb),.k (BH hl hl' s1 hle),.t rfl,.k (P5 _ _)] rfl
  ·have e:Fa b (val l)+Fa b' (val l')=Fa b' (val l'-val l):=by unfold Fa;cases b <;> cases b' <;> simp at hb ⊢ <;> omega
   rw[e];exact Ui func300 rfl [.f (by simpa using hb),.k (Qfm hl hl' s1 (by omega)),.f rfl,.k (BH hl' hl s2 (by omega)),.k (P5 _ _)] rfl
theorem Qft{x y x' y':LV}{z z':Int}(hi:Gd x y z)(hi':Gd x' y' z')(hs:Fc z<=4294967295)(hs':Fc z'<=4294967295):Ul 284 [.agg [x,y],.agg [x',y']] [.agg (Hg (z-z'))]:=by
 obtain⟨b',l',rfl,rfl,hl',rfl⟩:=hi';have hn:Gd (.bool (!b')) (.row (lm l')) (-(Fa b' (val l'))):=⟨_,_,rfl,rfl,hl',(UE _ _).symm⟩;rw[Int.sub_eq_add_neg];have hi2:=hi;obtain⟨b,l,rfl,rfl,hl,_⟩:=hi;exact Ui func284 rfl [.k (KF hi2 hn hs (by rw[Ho];exact hs'))] rfl
theorem Qge{x y:LV}{z:Int}(hi:Gd x y z)(hs:Fc z<=4294967295):Ul 212 [.agg [x,y]] [.oi (Int.sign z)]:=by
 obtain⟨b,l,rfl,rfl,hl,rfl⟩:=hi;have s1:=Qc (Py hs) (show 4294967295<=4294967296 by decide);have cb:=pB hl s1;by_cases h0:val l=0
 ·have e:Fa b (val l)=0:=by unfold Fa;rw[h0];cases b <;> simp
  rw[e];exact Ui func212 rfl [.k cb,.t (by simp[ED,h0])] rfl
 ·have AH:sz (val l)≠0:=λh=>h0 (ED.1 h)
  cases b
  ·have e:(Fa false (val l)).sign=1:=Int.sign_eq_one_of_pos (by unfold Fa;simp;omega);rw[e];exact Ui func212 rfl [.k cb,.f (by simp;omega),.f rfl] rfl
  ·have e:(Fa true (val l)).sign=-1:=Int.sign_eq_neg_one_of_neg (by unfold Fa;simp;omega);rw[e];exact Ui func212 rfl [.k cb,.f (by simp;omega),.t rfl] rfl
theorem HU{x y x' y':LV}{z z':Int}(hi:Gd x y z)(hi':Gd x' y' z')(hs:Fc z<=4294967295)(hs':Fc z'<=4294967295):Ul 142 [.agg [x,y],.agg [x',y']] [.oi (D9 z z')]:=by
 have c1:=Qge hi hs;have c2:=Qge hi' hs';obtain⟨b,l,rfl,rfl,hl,hz⟩:=hi;obtain⟨b',l',rfl,rfl,hl',hz'⟩:=hi';have k1:=Aw z;have k2:=Aw z';have zl:z.natAbs=val l:=by rw[hz,Rw]
 have zl':z'.natAbs=val l':=by rw[hz',Rw]
 by_cases h1:z.sign<z'.sign
 ·have e:D9 z z'=-1:=by unfold D9;rw[if_pos (by omega)]
  rw[e];exact Ui func142 rfl [.k c1,.k c2,.t (by simpa using h1)] rfl
 ·by_cases h2:z'.sign<z.sign
  ·have e:D9 z z'=1:=by unfold D9;rw[if_neg (by omega),if_pos (by omega)]
   rw[e];exact Ui func142 rfl [.k c1,.k c2,.f (by simpa using h1),.t (by simpa using h2)] rfl
  ·by_cases h3:z.sign<0
   ·have e:ZR (val l') (val l)=D9 z z':=by unfold D9 ZR;rw[<-zl,<-zl'];split <;> split <;> (try split) <;> (try split) <;> omega
    have cc:=Qek hl' hl;rw[e]at cc;exact Ui func142 rfl [.k c1,.k c2,.f (by simpa using h1),.f (by simpa using h2),.t (by simpa using h3),.k cc] rfl
   ·have e:ZR (val l) (val l')=D9 z z':=by unfold D9 ZR;rw[<-zl,<-zl'];split <;> split <;> (try split) <;> (try split) <;> omega
    have cc:=Qek hl hl';rw[e]at cc;exact Ui func142 rfl [.k c1,.k c2,.f (by simpa using h1),.f (by simpa using h2),.f (by simpa using h3),.k cc] rfl
theorem Di{z:Int}:Ul 152 [.agg (Hg z)] [.one (.bool (decide (z=0)))] :=
 Ui func152 rfl [] rfl (by simp only[U7];congr 3;have:=Dz (m:=z.natAbs);rw[decide_eq_decide];omega) trivial
theorem BK{z:Int}(h1:-9223372036854775808<=z/\z<=9223372036854775807):Ul 153 [.oi z] [.agg (Hg z)]:=by
 obtain⟨m,hm⟩:=nmE (z.natAbs);have sm:Sm [m % 4294967296,m / 4294967296]:=λx hx=>by
  simp at hx;rcases hx with rfl|rfl <;> omega
 have hv:val [m % 4294967296,m / 4294967296]=m:=by simp only[val];omega
 have cn:=KV sm (by rw[hv];exact Qc (Ns.2 (show m<2^64 by omega)) (show 64<=4294967296 by decide));rw[hv]at cn;by_cases hz:z<0
 ·have e:Fa true m=z:=by unfold Fa;simp;omega
  have cm:=P5 true m;rw[e]at cm;exact Ui func153 rfl [.w 0,.r 5 (Dx (b:=((18446744073709551616-m:Nat):Int)) (by rw[w64];omega)),.t (by simpa using hz),.w 0,.r 9 (Dx (b:=(m:Int)) (by rw[w64];omega)),.w 0,.r 11 (Ei (b:=((m % 4294967296:Nat):Int)) (by rw[xZ];omega)),.i 32,.r 13 (Dx (b:=((m / 4294967296:Nat):Int)) (by simp)),.k cn,.r 18 (v:=.one (.bool true)) (by simp[hz]),.k cm] rfl rfl (by simp[U3,IntKind.bits] <;> omega)
 ·have e:Fa false m=z:=by unfold Fa;simp;omega
  have cm:=P5 false m;rw[e]at cm;exact Ui func153 rfl [.w 0,.r 5 (Dx (b:=(m:Int)) (by rw[w64];omega)),.f (by simpa using hz),.w 0,.r 11 (Ei (b:=((m % 4294967296:Nat):Int)) (by rw[xZ];omega)),.i 32,.r 13 (Dx (b:=((m / 4294967296:Nat):Int)) (by simp)),.k cn,.r 18 (v:=.one (.bool false)) (by simp;omega),.k cm] rfl rfl (by simp[U3,IntKind.bits] <;> omega)
theorem pL{m n:Nat}(h1:sz m<=4294967296)(h2:sz n<=4294967296)(hn:0<n):Ul 268 [lr (Gb m),lr (Gb n)] [lr (Gb (m / n)),lr (Gb (m % n)),.oi 0]:=by
 have:=wJ (Ls m) (Ls n) (by rw[Ha];exact h1) (by rw[Ha];exact h2) (by rw[Ha];exact hn);rwa[Ha,Ha]at this
theorem Qbp{x y x' y':LV}{z z':Int}(hi:Gd x y z)(hi':Gd x' y' z')(hs:Fc z<=4294967295)(hs':Fc z'<=4294967295)(hz:z'≠0):Ul 269 [.agg [x,y],.agg [x',y']] [.agg (Hg (z / z')),.agg (Hg (z % z')),.oi 0]:=by
 obtain⟨b,l,rfl,rfl,hl,hz1⟩:=hi;obtain⟨b',l',rfl,rfl,hl',hz2⟩:=hi';have zl:z.natAbs=val l:=by rw[hz1,Rw]
 have zl':z'.natAbs=val l':=by rw[hz2,Rw]
 have s1:sz (val l)<=4294967296:=Qc (Py (hz1 ▸ hs)) (by decide);have s2:sz (val l')<=4294967296:=Qc (Py (hz2 ▸ hs')) (by decide);have hp:0<z'.natAbs:=by omega
 have e1:z=if b=true then -(z.natAbs:Int)else(z.natAbs:Int):=by rw[zl];exact hz1
 have e2:z'=if b'=true then -(z'.natAbs:Int)else(z'.natAbs:Int):=by rw[zl'];exact hz2
 have cd:=wJ hl hl' s1 s2 (by omega);rw[<-zl,<-zl']at cd;have s0:sz (z.natAbs % z'.natAbs)<=4294967296:=Qc (Ri (Yl (Z6 _ hp))) (by rw[zl'];exact s2);cases b with
 |
  false =>
  obtain⟨d1,d2⟩:=CW e2 hp e1;rw[d1,d2];exact Ui func269 rfl [.k cd,.f rfl,.k (P5 _ _),.k (P5 _ _),.f rfl,.f rfl] rfl
 |
  true =>
  by_cases h0:z.natAbs % z'.natAbs=0
  ·obtain⟨d1,d2⟩:=PR e2 hp e1 h0;rw[d1,d2];exact Ui func269 rfl [.k cd,.f rfl,.k (P5 _ _),.k (P5 _ _),.t rfl,.f (by rw[h0,Hd];rfl)] rfl
  ·obtain⟨d1,d2⟩:=CV e2 hp e1 (by omega);rw[d1,d2];have ca:=Qrq (a:=Gb (z.natAbs / z'.natAbs)) (b:=[1]) (Ls _) (λx hx=>by simp at hx;subst hx;decide) (by rw[Ha];exact Qc (Ri (Jr _ _)) (by rw[zl];exact s1)) (by decide);have cs:=BH (a:=l') (b:=Gb (z.natAbs % z'.natAbs)) hl' (Ls _) s2 (by rw[Ha,<-zl'];exact Yl (Z6 _ hp));rw[Ha]at ca cs;rw[<-zl']at cs;have hl0:=Dz (m:=z.natAbs % z'.natAbs);exact Ui func269 rfl [.k cd,.f rfl,.k (P5 _ _),.k (P5 _ _),.t rfl,.t (by simp[U7];omega),.k ca,.k cs,.k (P5 _ _),.k (P5 _ _)] rfl
theorem A8{x y x' y':LV}{z z':Int}(hi:Gd x y z)(hi':Gd x' y' z')(hs:Fc z<=4294967295)(hs':Fc z'<=4294967295)(hz:z'≠0)(hd:z % z'=0):Ul 216 [.agg [x,y],.agg [x',y']] [.agg (Hg (z / z')),.oi 0]:=by
 have cd:=Qbp hi hi' hs hs' hz;obtain⟨b,l,rfl,rfl,_⟩:=hi;obtain⟨b',l',rfl,rfl,_⟩:=hi';exact Ui func216 rfl [.k cd,.f rfl,.f (by rw[hd];simp[U7,Hd])] rfl
end Orr
namespace Orr
open Go
abbrev Q07(l:Uq):LV:=.row (lm l)
def Tc(l:Uo):Nat:=l.foldl (λg z=>Nat.gcd g z.natAbs) 0
theorem Qck{l:Uo}{i:Nat}{z:Int}(h:l[i]? = some z):Tc (l.take (i+1))=Nat.gcd (Tc (l.take i)) z.natAbs:=by
 unfold Tc;rw[Y8,h];simp[Vr]
theorem Qot(g x:Nat):Nat.gcd x (g % x)=Nat.gcd g x:=by
 rw[Nat.gcd_comm g x,Nat.gcd_rec x g,Nat.gcd_comm]
theorem AE(l:Uo):l.foldl (λg z=>Nat.gcd g z.natAbs) 1=1:=by
 induction l with
 |nil=>rfl
 |cons z l ih=>simp[ih]
theorem Qhx{l:Uo}{i:Nat}(h:Tc (l.take i)=1):Tc l=1:=by
 have e:l=l.take i++l.drop i:=(Zh i l).symm;unfold Tc at h ⊢;rw[e,Vr,h,AE]
def trim:Uo->Uo
 | []=>[]
 |
  x::l=>match trim l with
  | []=>if x=0 then []else [x]
  |y::k=>x::y::k
theorem WM:∀{l:Uo},(∀x∈l,x=0)->trim l=[]
 | [],_=>rfl
 |
  x::l,h=>by
  have ih:=WM (l:=l) (λy hy=>h y (Qg _ hy));simp[trim,ih,h x (Qy ..)]
theorem zI:∀{l:Uo} {m:Nat} {y:Int},(∀j x,m<j->l[j]? = some x->x=0)->l[m]? = some y->y≠0->trim l=l.take (m+1)
 | [],m,y,_,h,_=>by simp at h
 |
  x::l,0,y,h1,h2,h3=>by
  have h0:trim l=[]:=WM λz hz=>by
   obtain⟨j,hj⟩:=Zk.1 hz;exact h1 (j+1) z (by omega) (by simpa using hj)
  simp at h2;subst h2;simp[trim,h0,h3]
 |
  x::l,m+1,y,h1,h2,h3=>by
  have ih:=zI (l:=l) (m:=m) (y:=y) (λj z hj hz=>h1 (j+1) z (by omega) (by simpa using hz)) (by simpa using h2) h3;cases hl:l with
  |nil=>subst hl;simp at h2
  |
   cons u k =>
   subst hl;rw[Vf]at ih;simp only[trim]at ih ⊢;rw[ih];simp
def Fe(l:Uo):Prop:=trim l=l
theorem Rt:∀(l:Uo),Fe (trim l)
 | []=>rfl
 |
  x::l=>by
  have ih:=Rt l;unfold Fe at ih ⊢;cases h:trim l with
  |nil=>by_cases hx:x=0 <;> simp[trim,h,hx]
  |
   cons y k =>
   rw[h]at ih;simp only[trim,h]at ih ⊢;rw[ih]
theorem sV{l:Uo}{m:Nat}(hm:m<=l.length)(h1:∀j x,m<=j->l[j]? = some x->x=0)(h2:0<m->∃y,l[m-1]? = some y/\y≠0):trim l=l.take m:=by
 rcases Q3 m with h0|h0
 ·subst h0;rw[WM λz hz=>?_];rfl;obtain⟨j,hj⟩:=Zk.1 hz;exact h1 j z (by omega) hj
 ·obtain⟨y,hy,hy0⟩:=h2 h0;have:=zI (l:=l) (m:=m-1) (y:=y) (λj x hj hx=>h1 j x (by omega) hx) hy hy0;rwa[show m-1+1=m from by omega]at this
def IsInts:Uu->Uo->Prop
 | [],[]=>True
 |x::l,z::p=>(∃a b,x=[a,b]/\Gd a b z)/\IsInts l p
 |_,_=>False
theorem IsInts.len:∀{l:Uu} {p:Uo},IsInts l p->l.length=p.length
 | [],[],_=>rfl
 |x::l,z::p,h=>by simp[h.2.len]
 | [],_::_,h=>h.elim
 |_::_,[],h=>h.elim
theorem IsInts.get:∀{l:Uu} {p:Uo},IsInts l p->∀{i:Nat} {z:Int},p[i]? = some z->∃a b,l[i]? = some [a,b]/\Gd a b z
 | [],[],_,i,z,h=>by simp at h
 |
  x::l,y::p,h,0,z,hz=>by
  simp at hz;subst hz;obtain⟨a,b,rfl,hi⟩:=h.1;exact⟨a,b,rfl,hi⟩
 |x::l,y::p,h,i+1,z,hz=>by simpa using h.2.get (i:=i) (by simpa using hz)
 | [],_::_,h,_,_,_=>h.elim
 |_::_,[],h,_,_,_=>h.elim
theorem Gp:∀(p:Uo),IsInts (p.map Hg) p
 | []=>trivial
 |z::p=>⟨⟨_,_,rfl,U4 z⟩,Gp p⟩
theorem IsInts.append:∀{l l':Uu} {p p':Uo},IsInts l p->IsInts l' p'->IsInts (l++l') (p++p')
 | [],_,[],_,_,h=>h
 |x::l,_,z::p,_,h,h'=>⟨h.1,h.2.append h'⟩
 | [],_,_::_,_,h,_=>h.elim
 |_::_,_,[],_,h,_=>h.elim
def pl(p:Uo):LV:=.row (p.map Hg)
def ids(l:Uo):LV:=.row (l.map λ(x:Int)=>[.int .i64 x])
theorem QN:Gd (.bool false) (.row []) 0:=⟨false,[],rfl,rfl,(λx hx=>by cases hx),rfl⟩
theorem Qqm:sg 0=.bool false:=rfl
theorem Qcs{z:Int}:(Gb z.natAbs).length=0↔z=0:=by
 constructor
 ·intro h;have h0:=Qj h;have:=(FT (Dn z.natAbs)).2 h0;rw[Ha]at this;omega
 ·rintro rfl;rw[show(0:Int).natAbs=0 from rfl,Hd];rfl
theorem Gx{α β:Type}{f:α->β}{l:List α}{i:Nat}{x:α}(h:l[i]? = some x):(l.map f)[i]? = some (f x):=by rw[Za,h];rfl
theorem Qsh{α:Type}{f:α->Ut}{sz:Nat}(l:List α)(h:∀x,(f x).length=sz):∀c∈l.map f,c.length=sz:=λc hc=>by
 obtain⟨x,_,rfl⟩:=Q9.1 hc;exact h x
theorem Qo6:mg 0=.row []:=by simp[mg,Hd,lm]
theorem Ll:Hg 0=[LV.bool false,LV.row []]:=by simp[Hg,Qqm,Qo6]
end Orr
namespace Orr
open Go Go.Proofs Tryz
set_option maxRecDepth 10000
theorem MP{p:Uo}(hs:∀z∈p,Fc z≤4294967295):sz (Tc p)≤4294967295:=by
 have key:∀(p:Uo) (g:Nat),sz g≤4294967295->(∀z∈p,Fc z≤4294967295)->sz (p.foldl (λg z=>Nat.gcd g z.natAbs) g)≤4294967295:=by
  intro p
  induction p with
  |nil=>exact λg h _=>h
  |
   cons z p ih =>
   intro g h hs;refine ih _ ?_ λy hy=>hs y (.tail _ hy)
   rcases Q3 g with h0|h0
   ·subst h0;show sz (Nat.gcd 0 z.natAbs)<=_;rw[Nat.gcd_zero_left];exact hs z (.head _)
   ·exact Qc (Ri (Nat.gcd_le_left _ h0)) h
 exact key p 0 (by decide) hs
theorem Qet{l:Uu}{p:Uo}(hi:IsInts l p)(hs:∀z∈p,Fc z≤4294967295):Ul 215 [.one (.row l)] [.agg (Hg ((Tc p:Nat):Int))]:=by
 refine Fv func215 rfl (ln 0 rfl rfl λhl=>?_);have hlp:=hi.len;refine Uf [.z 3,.r 3 (v:=lr (Gb (Tc (p.take 0)))) (by simp[Tc,Hd,lm])] rfl ?_;refine ct 2 (S:=Unit) (λ_=>[(2,.v (.one (.ow 0 0))),(3,.v (lr (Gb (Tc p))))]) (λ_=>[.blk 36 [.bool false,.nils],.gone]) (λ_=>True) rfl ?_ ?_
 ·refine Uk (S:=Nat) 1 (λL1 i=>(12,.v (.oi i))::(3,.v (lr (Gb (Tc (p.take i)))))::L1) (λ_=>[.blk 36 [.bool false,.nils]]) (λi=>p.length-i) (λi=>i<=p.length) 0 (Qh _) rfl rfl λi hip=>?_
  by_cases h:i<p.length
  ·have hlt:i<l.length:=by omega
   obtain⟨c,hc⟩:=gxE (l:=l) (i:=i) hlt;obtain⟨z,hz⟩:=gxE (l:=p) (i:=i) h;obtain⟨x,y,hc',b,r,rfl,rfl,hr,hzz⟩:=hi.get hz;rw[hc]at hc';injection hc' with hc';subst hc'
   have hsz:=hs z (Qa hz);have hg0:sz (Tc (p.take i))<=4294967295:=MP λy hy=>hs y (Qn hy)
   have ezr:z.natAbs=val r:=by rw[hzz,Rw]
   have cn:=KV hr (by rw[<-ezr];exact Qc hsz (by decide));rw[<-ezr]at cn;refine Uf [.t (by simp;omega),.x hc,.k cn] rfl ?_;refine Uk (S:=Nat×Nat) 2 (λL1 s=>(3,.v (lr (Gb s.1)))::(6,.v (lr (Gb s.2)))::L1) (λ_=>[.blk 36 [.bool false,.nils],.blk 36 [.bool b,.row (lm r)]]) (λs=>s.2) (λs=>Nat.gcd s.1 s.2=Nat.gcd (Tc (p.take i)) z.natAbs/\sz s.1<=4294967295/\sz s.2<=4294967295) (Tc (p.take i),z.natAbs) ⟨rfl,hg0,hsz⟩ rfl rfl λ⟨g,u⟩ ⟨j1,j2,j3⟩=>?_
   dsimp only at j1 j2 j3 ⊢;have hul:=Dz (m:=u);by_cases hu:0<u
   ·have cd:=pL (m:=g) (n:=u) (by omega) (by omega) hu;refine Uf [.t (by simp[U7];omega),.k cd] rfl ?_;exact rd (u,g % u) (Z6 _ hu) ⟨(Qot g u).trans j1,j3,Qc (Ri (Yl (Z6 _ hu))) j3⟩ rfl
   ·obtain rfl:u=0:=by omega
    rw[Nat.gcd_zero_right,<-Qck hz]at j1;subst j1;by_cases h1:Tc (p.take (i+1))=1
    ·have e1:Gb (Tc (p.take (i+1)))=[1]:=by rw[h1,Ez (by decide)];simp[Hd]
     refine Uf [.f (by simp[Hd,lm]),.t (by rw[e1];rfl),.x (G6 (i:=0) (x:=1) (by rw[e1];rfl)),.t rfl] rfl ?_;exact rc () trivial (by rw[h1,Qhx h1];rfl)
    ·obtain⟨g,hg⟩:=nmE (Tc (p.take (i+1)));rw[<-hg]at h1 j2 ⊢;by_cases h2:(Gb g).length=1
     ·obtain⟨v,hv⟩:∃v,Gb g=[v]:=by
       match hm:Gb g,h2 with
       | [v],_=>exact⟨v,rfl⟩
      have hv1:v≠1:=λe=>h1 (by rw[<-Ha g,hv,e];rfl)
      refine go tt [.f (by simp[Hd,lm]),.t (by simp[U7,h2]),.x (G6 (i:=0) (x:=v) (by rw[hv];rfl)),.f (by simp;omega)] rfl (by simp[U3] <;> omega) ?_;exact rd (i+1) (by omega) h (by rw[<-hg];rfl)
     ·refine go tt [.f (by simp[Hd,lm]),.f (by simp[U7];omega),.f rfl] rfl (by simp[U3] <;> omega) ?_;exact rd (i+1) (by omega) h (by rw[<-hg];rfl)
  ·obtain rfl:i=p.length:=by omega
   refine Uf [.f (by simp;omega)] rfl ?_;rw[Q7];exact rc () trivial rfl
 ·intro _ _;have cn:=KV (Ls (Tc p)) (by rw[Ha];exact Qc (MP hs) (by decide));rw[Ha]at cn;exact Uh [.k cn,.k (P5 false _)] rfl (by simp[Fa]) trivial
end Orr
namespace Orr
def Bd(s:Nat)(p:Uo):Prop:=∀z∈p,Fc z≤s
theorem Nj:Fc 0=0:=rfl
theorem Qeg{s:Nat}{p:Uo}(h:Bd s p){i:Nat}{z:Int}(hz:p[i]? = some z):Fc z<=s:=h z (Qa hz)
theorem Ft{s:Nat}{p:Uo}(h:Bd s p)(k:Nat):Fc (p.getD k 0)<=s:=by
 rw[Qi];cases hk:p[k]? with
 |none=>rw[Kx,Nj];exact Qh _
 |some z=>exact Qeg h hk
theorem U5{s t:Nat}{p:Uo}(h:Bd s p)(ht:s<=t):Bd t p:=λz hz=>Qc (h z hz) ht
theorem ZL{s:Nat}:Bd s []:=λz hz=>by cases hz
theorem Qs8{s:Nat}{n:Nat}{g:Nat->Int}(h:∀k,k<n->Fc (g k)<=s):Bd s ((List.range n).map g):=λz hz=>by
 obtain⟨k,hk,rfl⟩:=Q9.1 hz;exact h k (Kj.1 hk)
theorem sW:∀(l:Uo),∀z∈trim l,z∈l
 | [],z,h=>by cases h
 |
  x::l,z,h=>by
  have ih:=sW l;cases hl:trim l with
  |
   nil =>
   simp only[trim,hl]at h
   split at h
   ·cases h
   ·rw[Qk]at h;rw[h];exact Qy ..
  |
   cons y k =>
   simp only[trim,hl]at h;rcases Ql.1 h with rfl|h
   ·exact Qy ..
   ·exact Qg _ (ih z (by rw[hl];exact h))
theorem H8(l:Uo):(trim l).length<=l.length:=by
 induction l with
 |nil=>exact Qm _
 |
  cons x l ih =>
  cases hl:trim l with
  |nil=>simp only[trim,hl];split <;> simp
  |cons y k=>simp only[trim,hl];rw[hl]at ih;simp at ih ⊢;exact ih
theorem Ty{s:Nat}{p:Uo}(h:Bd s p):Bd s (trim p):=λz hz=>h z (sW p z hz)
theorem VV:∀(l:Uo) (k:Nat),(trim l).getD k 0=l.getD k 0
 | [],k=>rfl
 |
  x::l,k=>by
  have ih:=VV l;cases hl:trim l with
  |
   nil =>
   rw[hl]at ih;simp only[trim,hl]
   split
   ·rename_i hx;cases k with
    |zero=>simp[hx]
    |succ k=>have:=ih k;simp at this ⊢;exact this
   ·cases k with
    |zero=>simp
    |succ k=>have:=ih k;simp at this ⊢;exact this
  |
   cons y m =>
   rw[hl]at ih;simp only[trim,hl];cases k with
   |zero=>simp
   |succ k=>have:=ih k;simp at this ⊢;exact this
def A4(n:Nat)(g:Nat->Int):Uo:=trim ((List.range n).map g)
theorem Fy(n:Nat)(g:Nat->Int):Fe (A4 n g):=Rt _
theorem I8(n:Nat)(g:Nat->Int):(A4 n g).length<=n:=Qc (H8 _) (by simp)
theorem S9(n:Nat)(g:Nat->Int)(k:Nat):(A4 n g).getD k 0=if k<n then g k else 0:=by
 unfold A4;rw[VV,Qi,Za]
 split
 ·rename_i h;rw[List.getElem?_range h];rfl
 ·rename_i h;rw[List.getElem?_eq_none (by simpa using h)];rfl
theorem JI{s n:Nat}{g:Nat->Int}(h:∀k,k<n->Fc (g k)<=s):Bd s (A4 n g):=Ty (Qs8 h)
def A5(p q:Uo):Uo:=A4 (max p.length q.length) λk=>p.getD k 0+q.getD k 0
def Na(p q:Uo):Uo:=A4 (max p.length q.length) λk=>p.getD k 0-q.getD k 0
def Mw(p:Uo):Uo:=A4 p.length λk=>-(p.getD k 0)
def Fu(p:Uo)(c:Int):Uo:=A4 p.length λk=>p.getD k 0*c
def Gy(p:Uo):Uo:=A4 (p.length-1) λk=>p.getD (k+1) 0*((k+1:Nat):Int)
theorem JO{s t:Nat}{p q:Uo}(h:Bd s p)(h':Bd t q):Bd (max s t+1) (A5 p q):=JI λk _=>Qc (QC _ _) (by have:=Ft h k;have:=Ft h' k;omega)
theorem Dt{s t:Nat}{p q:Uo}(h:Bd s p)(h':Bd t q):Bd (max s t+1) (Na p q):=JI λk _=>Qc (jA _ _) (by have:=Ft h k;have:=Ft h' k;omega)
theorem PO{s:Nat}{p:Uo}(h:Bd s p):Bd s (Mw p):=JI λk _=>by rw[Ho];exact Ft h k
theorem Ge{s t:Nat}{p:Uo}{c:Int}(h:Bd s p)(hc:Fc c<=t):Bd (s+t) (Fu p c):=JI λk _=>Qc (Ga _ _) (by have:=Ft h k;omega)
theorem Oe(p q:Uo):(A5 p q).length<=max p.length q.length:=I8 _ _
theorem Nl(p q:Uo):(Na p q).length<=max p.length q.length:=I8 _ _
theorem XB(p:Uo):(Mw p).length<=p.length:=I8 _ _
theorem Fx(p:Uo)(c:Int):(Fu p c).length<=p.length:=I8 _ _
theorem Nk(p:Uo):(Gy p).length<=p.length-1:=I8 _ _
theorem jE{k t:Nat}(h:k<2^t):Fc (k:Int)<=t:=by rw[S0];simpa using h
theorem Qcp{k:Nat}(h:k<274877906944):Fc (k:Int)<=4294967295:=Qc (jE (t:=38) (Kh h (by decide))) (by omega)
theorem xG{s t:Nat}{p:Uo}(h:Bd s p)(hl:p.length<=2^t):Bd (s+t) (Gy p):=JI λk hk=>Qc (Ga _ _) (by
 have:=Ft h (k+1);have:=jE (k:=k+1) (t:=t) (by omega);omega)
def Oj(x:Int)(b:Uo)(i:Nat)(o:Uo):Nat->Uo
 | 0=>o
 |k+1=>(Oj x b i o k).set (i+k) ((Oj x b i o k).getD (i+k) 0+x*b.getD k 0)
def Aq(a b o:Uo):Nat->Uo
 | 0=>o
 |i+1=>Oj (a.getD i 0) b i (Aq a b o i) b.length
def Gl(a b:Uo):Uo:=if a.length=0\/b.length=0 then []else trim (Aq a b (List.replicate (a.length+b.length-1) 0) a.length)
theorem Ol(x:Int)(b:Uo)(i:Nat)(o:Uo)(k:Nat):(Oj x b i o k).length=o.length:=by
 induction k with
 |zero=>rfl
 |succ k ih=>simp[Oj,ih]
theorem Li(a b o:Uo)(i:Nat):(Aq a b o i).length=o.length:=by
 induction i with
 |zero=>rfl
 |succ i ih=>simp[Aq,Ol,ih]
theorem Qh4(l:Uo)(i m:Nat)(v:Int)(h:i<l.length):(l.set i v).getD m 0=if m=i then v else l.getD m 0:=by
 rw[Qi,Yo,Qi];by_cases e:i=m
 ·subst e;simp[h]
 ·rw[if_neg e,if_neg (λh=>e h.symm)]
theorem Qcx(x:Int)(b:Uo)(i:Nat)(o:Uo)(k m:Nat)(h:i+k<=o.length):(Oj x b i o k).getD m 0=if i<=m/\m<i+k then o.getD m 0+x*b.getD (m-i) 0 else o.getD m 0:=by
 induction k with
 |zero=>simp only[Oj];rw[if_neg (by omega)]
 |
  succ k ih =>
  have ih:=ih (by omega);simp only[Oj];rw[Qh4 _ _ _ _ (by rw[Ol];omega)];by_cases e:m=i+k
  ·subst e;rw[if_pos rfl,if_pos (by omega),show i+k-i=k from by omega];rw[ih,if_neg (by omega)]
  ·rw[if_neg e,ih];by_cases h1:i<=m/\m<i+k
   ·rw[if_pos h1,if_pos (by omega)]
   ·rw[if_neg h1,if_neg (by omega)]
theorem Nm{x y:Int}{s t:Nat}(hx:Fc x<=s)(hy:Fc y<=t):(x*y).natAbs<=2^(s+t):=by
 have h:=Qc (Ga x y) (show _<=s+t by omega);rw[S0]at h;omega
theorem yU{x:Int}{b:Uo}{i:Nat}{o:Uo}{k M:Nat}(h:i+k<=o.length)(ho:∀m,(o.getD m 0).natAbs<=i*M)(hx:∀j,(x*b.getD j 0).natAbs<=M)(m:Nat):((Oj x b i o k).getD m 0).natAbs<=(i+1)*M:=by
 rw[Qcx x b i o k m h,Xb];have h1:=ho m
 split
 ·have h2:=hx (m-i);generalize i*M=q at *;omega
 ·omega
theorem yW{a b o:Uo}{i M:Nat}(h:∀j,j<i->j+b.length<=o.length)(ho:∀m,o.getD m 0=0)(hx:∀i j,(a.getD i 0*b.getD j 0).natAbs<=M)(m:Nat):((Aq a b o i).getD m 0).natAbs<=i*M:=by
 induction i generalizing m with
 |zero=>simp only[Aq];rw[ho];simp
 |
  succ i ih =>
  simp only[Aq];exact yU (by rw[Li];exact h i (by omega)) (ih λj hj=>h j (by omega)) (hx i) m
theorem Iu{z:Int}{i s t:Nat}(h:z.natAbs<=i*2^s)(hi:i<2^t):Fc z<=s+t:=by
 rw[S0];have h1:i*2^s<2^t*2^s:=Xp hi (Z2 (by decide));rw[<-Xg,Jv t s]at h1;omega
theorem Cj(n m:Nat):(List.replicate n (0:Int)).getD m 0=0:=by
 rw[Qi,J0];split <;> rfl
theorem ND{s:Nat}{p:Uo}(h:∀m,Fc (p.getD m 0)<=s):Bd s p:=λz hz=>by
 obtain⟨i,hi⟩:=Zk.1 hz;have:=h i;rw[Qi,hi]at this;exact this
theorem Tx(a b:Uo):(Gl a b).length<=a.length+b.length-1:=by
 unfold Gl
 split
 ·simp
 ·refine Qc (H8 _) ?_;rw[Li];simp
theorem Pi{s t u:Nat}{a b:Uo}(ha:Bd s a)(hb:Bd t b)(hl:a.length<2^u):Bd (s+t+u) (Gl a b):=by
 unfold Gl
 split
 ·exact ZL
 ·refine Ty (ND λm=>?_);exact Iu (yW (M:=2^(s+t)) (λj hj=>by simp;omega) (Cj _) (λi j=>Nm (Ft ha i) (Ft hb j)) m) hl
theorem Hz(a b:Uo):Fe (Gl a b):=by
 unfold Gl
 split
 ·rfl
 ·exact Rt _
def L9(a:Uo)(n d:Int):Nat->Int×Int
 | 0=>(0,1)
 |k+1=>((L9 a n d k).1*n+a.getD (a.length-1-k) 0*(L9 a n d k).2,(L9 a n d k).2*d)
def Qv1(a:Uo)(n d:Int):Int:=(L9 a n d a.length).1
theorem Qau{a:Uo}{n d:Int}{s t k:Nat}(ha:Bd s a)(hn:Fc n<=t)(hd:Fc d<=t):Fc (L9 a n d k).1<=s+2+k*(t+1)/\Fc (L9 a n d k).2<=1+k*t:=by
 induction k with
 |zero=>exact⟨by simp[L9,Nj],by simp[L9];decide⟩
 |
  succ k ih =>
  obtain⟨h1,h2⟩:=ih;have h3:=Ft ha (a.length-1-k);have e1:k*(t+1)=k*t+k:=by rw[Xk,Yx]
  rw[Xb,Xb];refine⟨?_,?_⟩
  ·simp only[L9];refine Qc (QC _ _) ?_;have h4:=Ga (L9 a n d k).1 n;have h5:=Ga (a.getD (a.length-1-k) 0) (L9 a n d k).2;generalize k*t=q at *;rw[e1]at h1 ⊢;omega
  ·simp only[L9];have h4:=Ga (L9 a n d k).2 d;generalize k*t=q at *;omega
end Orr
namespace Orr
theorem jZ{x y:Int}:D9 x y=0↔x=y:=by
 unfold D9;constructor
 ·intro h
  split at h
  ·omega
  ·split at h <;> omega
 ·rintro rfl;simp
theorem H9{p:Uo}(h:Fe p)(h0:0<p.length):p.getD (p.length-1) 0≠0:=by
 induction p with
 |nil=>simp at h0
 |
  cons x l ih =>
  unfold Fe at h;cases hl:trim l with
  |
   nil =>
   simp only[trim,hl]at h
   split at h
   ·cases h
   ·rename_i hx;injection h with h1 h2;subst h2;simpa using hx
  |
   cons y k =>
   simp only[trim,hl]at h;injection h with h1 h2;rw[<-hl]at h2;have ih:=ih h2 (by rw[<-h2,hl];simp);have h3:0<l.length:=by rw[<-h2,hl];simp
   simp only[Q5,Ye];obtain⟨m,hm⟩:∃m,l.length=m+1:=⟨l.length-1,by omega⟩;rw[hm]at ih ⊢;simpa using ih
end Orr
namespace Orr
theorem fO(p:Uo):(List.range p.length).map (λk=>p.getD k 0)=p:=by
 apply Xl;intro i;rw[Za];rcases Zc i p.length with h|h
 ·rw[X2 h];simp[Qf h]
 ·rw[Qu (by simpa using h),Qu h];rfl
theorem CB{p q:Uo}(hl:p.length=q.length)(h:∀j,j<p.length->p.getD j 0=q.getD j 0):p=q:=by
 rw[<-fO p,<-fO q,<-hl];exact Xt λj hj=>h j (Kj.1 hj)
end Orr
namespace Orr
abbrev rl(q:Rat):Ut:=[sg q.num,mg q.num,sg (q.den:Int),mg (q.den:Int)]
theorem Lc(n d:Int):Tc [n,d]=Int.gcd d n:=by
 unfold Tc;simp only[Z5,List.foldl_nil,Nat.gcd_zero_left];exact Nat.gcd_comm _ _
theorem fX{n d:Int}(hd:d≠0):(0:Int)<((Tc [n,d]:Nat):Int):=by
 rw[Lc];have:=Int.gcd_pos_of_ne_zero_left n hd;omega
theorem DW(n d:Int):n % ((Tc [n,d]:Nat):Int)=0:=by
 rw[Lc];exact Jy (Ww ..)
theorem DU(n d:Int):d % ((Tc [n,d]:Nat):Int)=0:=by
 rw[Lc];exact Jy (Int.gcd_dvd_left ..)
theorem iC{n g:Int}(h:n % g=0):-n % g=0:=by
 exact Jy (Int.dvd_neg.2 (Vg h))
theorem aA{n d:Int}{s:Nat}(hd:d≠0)(h:Fc d<=s):Fc ((Tc [n,d]:Nat):Int)<=s:=by
 rw[Lc];refine Qc (Ri ?_) h;have:=Kv (by omega:0<d.natAbs) (show Int.gcd d n∣d.natAbs from W3 _ _);simpa using this
theorem iG{n d:Int}(hd:0<d):n / ((Tc [n,d]:Nat):Int)=(Rat.divInt n d).num/\d / ((Tc [n,d]:Nat):Int)=((Rat.divInt n d).den:Int):=by
 rw[Lc,Rat.num_divInt,Wm,if_neg (by omega),Yv hd,Kq];refine⟨rfl,?_⟩;rw[Int.natCast_ediv,Int.natAbs_of_nonneg (by omega)]
theorem Qo4{n d:Int}(hd:d<0):-n / ((Tc [n,d]:Nat):Int)=(Rat.divInt n d).num/\-d / ((Tc [n,d]:Nat):Int)=((Rat.divInt n d).den:Int):=by
 rw[Lc,Rat.num_divInt,Wm,if_neg (by omega),Ya hd,Ko,Kq];refine⟨rfl,?_⟩;rw[Int.natCast_ediv,Int.ofNat_natAbs_of_nonpos (by omega)]
theorem XS(u g:Int):Fc (u / g)<=Fc u:=by
 unfold Fc;exact Ri (Int.natAbs_ediv_le_natAbs u g)
theorem Pd{n d:Int}{s:Nat}(h:Fc n<=s):Fc (Rat.divInt n d).num<=s:=by
 rw[Rat.num_divInt];refine Qc (XS _ _) ?_;unfold Fc;rw[Yc];refine Qc (Ri ?_) h;have:d.sign.natAbs<=1:=by rcases Aw d with⟨_,e⟩|⟨_,e⟩|⟨_,e⟩ <;> rw[e] <;> decide
 calc d.sign.natAbs*n.natAbs<=1*n.natAbs:=Q0 _ this
  _=n.natAbs:=Wn _
theorem Pa{n d:Int}{s:Nat}(h:Fc d<=s)(h1:1<=s):Fc ((Rat.divInt n d).den:Int)<=s:=by
 rw[Wm]
 split
 ·exact h1
 ·refine Qc (Ri ?_) h;exact Jr _ _
def Qs(s:Nat)(q:Rat):Prop:=Fc q.num<=s/\Fc (q.den:Int)<=s
theorem Qs.mono{s t:Nat}{q:Rat}(h:Qs s q)(ht:s<=t):Qs t q:=⟨Qc h.1 ht,Qc h.2 ht⟩
theorem Qs.divInt{s:Nat}{n d:Int}(h:Fc n<=s)(h':Fc d<=s)(h1:1<=s):Qs s (Rat.divInt n d):=⟨Pd h,Pa h' h1⟩
theorem Dl(q:Rat):(q.den:Int)≠0:=by have:=q.den_nz;omega
theorem den_pos(q:Rat):(0:Int)<(q.den:Int):=by have:=q.den_nz;omega
def Gh(n d:Int):Rat:=Rat.divInt n (if d=0 then 1 else d)
theorem Sw(q:Rat):Gh q.num q.den=q:=by
 unfold Gh;rw[if_neg (Dl q)];exact Z7 q
def Hk(a b:Rat):Int:=D9 (a.num*(b.den:Int)) (b.num*(a.den:Int))
theorem Ny{a b:Rat}:Hk a b<0↔a<b:=by
 rw[Rat.lt_iff];unfold Hk D9;constructor
 ·intro h;split at h
  ·assumption
  ·split at h <;> omega
 ·intro h;rw[if_pos h];decide
theorem Eh{a b:Rat}:0<Hk a b↔b<a:=by
 rw[Rat.lt_iff];unfold Hk D9;constructor
 ·intro h;split at h
  ·omega
  ·split at h
   ·assumption
   ·omega
 ·intro h;rw[if_neg (by omega),if_pos h];decide
theorem Ew(a:Rat):Hk a a=0:=by unfold Hk D9;simp
structure Crv where
 x:List Int
 y:List Int
 d:Int
abbrev cl(k:Crv):Ut:=[pl k.x,pl k.y,sg k.d,mg k.d]
def Crv.d'(k:Crv):Int:=if k.d=0 then 1 else k.d
def Crv.g(k:Crv):Int:=if k.d'<0 then -((Tc (k.d'::(trim k.x++trim k.y)):Nat):Int)else(Tc (k.d'::(trim k.x++trim k.y)):Nat)
def Crv.norm(k:Crv):Crv:=⟨trim ((trim k.x).map (· / k.g)),trim ((trim k.y).map (· / k.g)),k.d' / k.g⟩
theorem XW{l:Uo}:∀z∈l,((Tc l:Nat):Int)∣z:=by
 have key:∀(l:Uo) (g:Nat),(l.foldl (λg z=>Nat.gcd g z.natAbs) g∣g)/\∀z∈l,l.foldl (λg z=>Nat.gcd g z.natAbs) g∣z.natAbs:=by
  intro l
  induction l with
  |nil=>intro g;exact⟨Nat.dvd_refl _,by simp⟩
  |
   cons u l ih =>
   intro g;obtain⟨h1,h2⟩:=ih (Nat.gcd g u.natAbs);refine⟨Nat.dvd_trans h1 (W3 _ _),λz hz=>?_⟩;rcases Ql.1 hz with rfl|hz
   ·exact Nat.dvd_trans h1 (Nat.gcd_dvd_right _ _)
   ·exact h2 z hz
 intro z hz;have:=(key l 0).2 z hz;exact Wp.2 this
theorem Crv.d'_ne(k:Crv):k.d'≠0:=by unfold Crv.d';split <;> omega
theorem Crv.gcd_ne(k:Crv):Tc (k.d'::(trim k.x++trim k.y))≠0:=by
 intro e;have h:=XW (l:=k.d'::(trim k.x++trim k.y)) k.d' (Qy ..);rw[e]at h;exact k.d'_ne (by simpa using h)
theorem Crv.g_ne(k:Crv):k.g≠0:=by
 have h0:=k.gcd_ne;unfold Crv.g
 split <;> omega
theorem Crv.g_dvd(k:Crv):∀z∈k.d'::(trim k.x++trim k.y),z % k.g=0:=by
 intro z hz;have h:=XW z hz;refine Jy ?_;unfold Crv.g
 split
 ·exact Ue.2 h
 ·exact h
theorem Crv.isz_g(k:Crv){s:Nat}(h:Fc k.d'<=s):Fc k.g<=s:=by
 have hd:=XW (l:=k.d'::(trim k.x++trim k.y)) k.d' (Qy ..);have hle:Tc (k.d'::(trim k.x++trim k.y))<=k.d'.natAbs:=Kv (by have:=k.d'_ne;omega) (Wp.1 hd);refine Qc (Ri ?_) h;unfold Crv.g
 split <;> simp <;> exact hle
structure Cs(s n:Nat)(k:Crv):Prop where
 x:Bd s k.x
 y:Bd s k.y
 d:Fc k.d<=s
 lx:k.x.length<=n
 ly:k.y.length<=n
theorem Qii{k:Crv}{s:Nat}(h:Fc k.d<=s)(h1:1<=s):Fc k.d'<=s:=by unfold Crv.d';split <;> first|exact h1|exact h
theorem HY{s:Nat}{p:Uo}(h:Bd s p)(g:Int):Bd s (p.map (· / g)):=λz hz=>by
 obtain⟨u,hu,rfl⟩:=Q9.1 hz;exact Qc (XS u g) (h u hu)
theorem Cs.norm{s n:Nat}{k:Crv}(h:Cs s n k)(h1:1<=s):Cs s n k.norm:=by
 refine⟨Ty (HY (Ty h.x) _),Ty (HY (Ty h.y) _),Qc (XS _ _) (Qii h.d h1),?_,?_⟩
 ·refine Qc (H8 _) ?_;rw[Zb];exact Qc (H8 _) h.lx
 ·refine Qc (H8 _) ?_;rw[Zb];exact Qc (H8 _) h.ly
theorem Cs.mono{s n t m:Nat}{k:Crv}(h:Cs s n k)(hs:s<=t)(hn:n<=m):Cs t m k:=⟨U5 h.x hs,U5 h.y hs,Qc h.d hs,Qc h.lx hn,Qc h.ly hn⟩
def ZC(k:Crv):Prop:=Fe k.x/\Fe k.y/\0<k.d/\Tc (k.d::(k.x++k.y))=1
theorem Crv.norm_of{k:Crv}(h:ZC k):k.norm=k:=by
 obtain⟨h1,h2,h3,h4⟩:=h;have hd:k.d'=k.d:=by unfold Crv.d';rw[if_neg (by omega)]
 have hx:trim k.x=k.x:=h1;have hy:trim k.y=k.y:=h2;have hg:k.g=1:=by unfold Crv.g;rw[hd,hx,hy,h4,if_neg (by omega)];rfl
 unfold Crv.norm;rw[hg,hd,hx,hy];simp[hx,hy]
theorem jP{l:Uo}{g:Int}(hg:g≠0)(hga:g.natAbs=Tc l):Tc (l.map (· / g))=1:=by
 have key:∀(l:Uo) (a:Nat),(∀z∈l,g∣z)->l.foldl (λa z=>Nat.gcd a z.natAbs) (a*g.natAbs)=((l.map (· / g)).foldl (λa z=>Nat.gcd a z.natAbs) a)*g.natAbs:=by
  intro l
  induction l with
  |nil=>intro a _;rfl
  |
   cons z l ih =>
   intro a h;simp only[Zz,Z5];have hz:z.natAbs=(z / g).natAbs*g.natAbs:=by
    obtain⟨q,rfl⟩:=h z (Qy ..);rw[Jc _ hg,Yc,Zq]
   rw[hz,Nat.gcd_mul_right];exact ih _ λu hu=>h u (Qg _ hu)
 have h:=key l 0 λz hz=>X3.1 (by rw[hga];exact X3.2 (XW z hz))
 rw[Ym]at h;have h':Tc l=Tc (l.map (· / g))*g.natAbs:=h;rw[<-hga]at h';have hp:0<g.natAbs:=by omega
 exact Nat.eq_of_mul_eq_mul_right hp (by rw[Wn];exact h'.symm)
theorem JM{l:Uo}{g:Int}(ht:Fe l)(hg:g≠0)(hd:∀z∈l,g∣z):Fe (l.map (· / g)):=by
 induction l with
 |nil=>rfl
 |
  cons x l ih =>
  have hne:∀z∈x::l,z≠0->z / g≠0:=λz hz h0 h1=>by
   obtain⟨q,rfl⟩:=hd z hz;rw[Jc _ hg]at h1;rw[h1]at h0;simp at h0
  unfold Fe at ht ih ⊢;cases hl:trim l with
  |
   nil =>
   simp only[trim,hl]at ht
   split at ht
   ·cases ht
   ·rename_i hx;injection ht with _ h2;subst h2;simp[trim,hne x (Qy ..) hx]
  |
   cons y k =>
   simp only[trim,hl]at ht;injection ht with _ h2;have hll:trim l=l:=by rw[hl];exact h2
   have ih:=ih hll λz hz=>hd z (Qg _ hz)
   rw[Zz];have hne2:l.map (· / g)≠[]:=by rw[<-hll,hl];simp
   cases hm:l.map (· / g)with
   |nil=>exact absurd hm hne2
   |
    cons u w =>
    rw[hm]at ih;have e:trim (x / g::u::w)=match trim (u::w)with| []=>if x / g=0 then []else [x / g]|y::k=>x / g::y::k:=rfl
    rw[e,ih]
theorem Crv.nml(k:Crv):ZC k.norm:=by
 have hg:=k.g_ne;have hdv:∀z∈k.d'::(trim k.x++trim k.y),k.g∣z:=λz hz=>Vg (k.g_dvd z hz)
 have hx:=JM (g:=k.g) (Rt k.x) hg λz hz=>hdv z (by simp[hz])
 have hy:=JM (g:=k.g) (Rt k.y) hg λz hz=>hdv z (by simp[hz])
 refine⟨Rt _,Rt _,?_,?_⟩
 ·show 0<k.d' / k.g;obtain⟨q,hq⟩:=hdv k.d' (Qy ..);have h0:=k.d'_ne;have hgc:=k.gcd_ne;have e:k.d' / k.g=q:=by rw[hq,Jc _ hg]
  rw[e];unfold Crv.g at hq hg;have hq0:q≠0:=λe=>by rw[e,Wa]at hq;exact h0 hq
  split at hq
  ·rename_i hneg;rcases Wo hq0 with h|h
   ·have:=V9 (a:=-((Tc (k.d'::(trim k.x++trim k.y)):Nat):Int)) (b:=q) (by omega) h;omega
   ·exact h
  ·rename_i hneg;rcases Wo hq0 with h|h
   ·have:=V8 (a:=((Tc (k.d'::(trim k.x++trim k.y)):Nat):Int)) (b:=q) (by omega) h;omega
   ·exact h
 ·show Tc (k.d' / k.g::(trim ((trim k.x).map (· / k.g))++trim ((trim k.y).map (· / k.g))))=1;rw[show trim ((trim k.x).map (· / k.g))=(trim k.x).map (· / k.g) from hx,show trim ((trim k.y).map (· / k.g))=(trim k.y).map (· / k.g) from hy,<-Yj,<-Zz (f:=(· / k.g))];refine jP hg ?_;unfold Crv.g
  split <;> omega
structure Pt where
 c:Crv
 id:Int
def Fb(p:Pt):Ut:=[pl p.c.x,pl p.c.y,sg p.c.d,mg p.c.d,.int .i64 p.id]
def pts(l:List Pt):LV:=.row (l.map Fb)
def Rx:List Pt->Int->Nat
 | [],_=>0
 |p::l,id=>if p.id<id then Rx l id+1 else 0
def has(l:List Pt)(id:Int):Bool:=match l[Rx l id]? with
 |some p=>decide (p.id=id)
 |none=>false
theorem yI(l:List Pt)(id:Int):Rx l id<=l.length:=by
 induction l with
 |nil=>exact Qm _
 |cons p l ih=>simp only[Rx];split <;> simp <;> omega
theorem EZ:∀{l:List Pt} {id:Int} {k:Nat},(∀j p,j<k->l[j]? = some p->p.id<id)->(k=l.length\/∃p,l[k]? = some p/\¬p.id<id)->Rx l id=k
 |
  [],id,k,_,h=>by
  rcases h with h|⟨p,h,_⟩
  ·subst h;rfl
  ·simp at h
 |
  q::l,id,0,_,h=>by
  rcases h with h|⟨p,h,h2⟩
  ·simp at h
  ·simp at h;subst h;simp[Rx,h2]
 |
  q::l,id,k+1,h1,h=>by
  have hq:=h1 0 q (by omega) rfl;simp only[Rx,hq,if_true];rw[EZ (k:=k) (λj p hj hp=>h1 (j+1) p (by omega) (by simpa using hp))];rcases h with h|⟨p,h,h2⟩
  ·left;simpa using h
  ·right;exact⟨p,by simpa using h,h2⟩
def put(l:List Pt)(q:Pt):List Pt:=l.take (Rx l q.id)++q::l.drop (Rx l q.id)
def WU(l:List Pt)(q:Pt):Int:=if has l q.id=true then 6 else if 6<=l.length then 9 else 0
def Qd4(s n:Nat)(p:Pt):Prop:=ZC p.c/\Cs s n p.c
theorem oI(l:List Pt)(q:Pt):(put l q).length=l.length+1:=by
 have:=yI l q.id;simp[put];omega
theorem MO{l:List Pt}{q p:Pt}(h:p∈put l q):p=q\/p∈l:=by
 unfold put at h;rcases Qp.1 h with h|h
 ·exact .inr (Qn h)
 ·rcases Ql.1 h with h|h
  ·exact .inl h
  ·exact .inr (Qz h)
def La(a b:Crv):Bool:=decide (a.x=b.x/\a.y=b.y/\a.d=b.d)
def Ph(out:List Pt)(p:Pt):List Pt:=if out.any (λq=>La p.c q.c)=true then out else out++[p]
def H7(l:List Pt):List Pt:=l.foldl Ph []
theorem Qdu{out:List Pt}{p q:Pt}(h:q∈Ph out p):q∈out\/q=p:=by
 unfold Ph at h
 split at h
 ·exact .inl h
 ·rcases Qp.1 h with h|h
  ·exact .inl h
  ·exact .inr (by simpa using h)
theorem Qdt(out:List Pt)(p:Pt):(Ph out p).length<=out.length+1:=by
 unfold Ph;split <;> simp
theorem Si{α β:Type}(f:β->α->β)(b:β)(l:List α){i:Nat}{x:α}(h:l[i]? = some x):(l.take (i+1)).foldl f b=f ((l.take i).foldl f b) x:=by
 rw[Y8,h];simp[Vr]
theorem KJ(l:List Pt)(i:Nat):∀q∈(l.take i).foldl Ph [],q∈l:=by
 induction i with
 |zero=>simp
 |
  succ i ih =>
  intro q hq;cases hi:l[i]? with
  |
   none =>
   rw[Qo (by have:=Jp.1 hi;omega)]at hq;rw[Qo (Jp.1 hi)]at ih;exact ih q hq
  |
   some x =>
   rw[Si _ _ _ hi]at hq;rcases Qdu hq with h|h
   ·exact ih q h
   ·subst h;exact Qa hi
theorem KX(l:List Pt)(i:Nat):((l.take i).foldl Ph []).length<=i:=by
 induction i with
 |zero=>simp
 |
  succ i ih =>
  cases hi:l[i]? with
  |
   none =>
   rw[Qo (by have:=Jp.1 hi;omega)];rw[Qo (Jp.1 hi)]at ih;omega
  |
   some x =>
   rw[Si _ _ _ hi];have:=Qdt ((l.take i).foldl Ph []) x;omega
theorem Tp{l:List Pt}{q:Pt}(h:q∈H7 l):q∈l:=by
 have:=KJ l l.length q;rw[Q7]at this;exact this h
theorem Az(l:List Pt):(H7 l).length<=l.length:=by
 have:=KX l l.length;rwa[Q7]at this
def Re(p:Uo)(q:Rat):Int:=D9 (Qv1 p q.num q.den) 0
abbrev qa(q:Rat):Ut:=pl [-q.num,(q.den:Int)]::(rl q++rl q)
def Tw(sgn:Uo->Int):Nat->Uo->Int
 | 0,_=>0
 |k+1,p=>if p.length=0 then 0 else if sgn p=0 then Tw sgn k (Gy p)else sgn p
theorem XG(sgn:Uo->Int):∀(k:Nat) (p:Uo),p.length<=k->Tw sgn k p=Tw sgn p.length p
 |
  0,p,h=>by
  have:p.length=0:=by omega
  rw[this]
 |
  k+1,p,h=>by
  cases hp:p.length with
  |zero=>simp[Tw,hp]
  |
   succ m =>
   simp only[Tw];have h1:=Nk p;rw[XG sgn k (Gy p) (by omega),XG sgn m (Gy p) (by omega)]
theorem fK(sgn:Uo->Int){p:Uo}(h:p.length=0):Tw sgn p.length p=0:=by rw[h];rfl
theorem fY(sgn:Uo->Int){p:Uo}(h:0<p.length)(hs:sgn p≠0):Tw sgn p.length p=sgn p:=by
 obtain⟨m,hm⟩:∃m,p.length=m+1:=⟨p.length-1,by omega⟩;rw[hm];simp only[Tw];rw[if_neg (by omega),if_neg hs]
theorem fV(sgn:Uo->Int){p:Uo}(h:0<p.length)(hs:sgn p=0):Tw sgn p.length p=Tw sgn (Gy p).length (Gy p):=by
 obtain⟨m,hm⟩:∃m,p.length=m+1:=⟨p.length-1,by omega⟩;rw[hm];simp only[Tw];rw[if_neg (by omega),if_pos hs];exact XG sgn m _ (by have:=Nk p;omega)
structure Tm where
 p:List Int
 lo:Rat
 hi:Rat
abbrev ta(t:Tm):Ut:=pl t.p::(rl t.lo++rl t.hi)
abbrev tq(q:Rat):Tm:=⟨[-q.num,(q.den:Int)],q,q⟩
def Hl(sg:Uo->Int)(p:Uo):Int:=Tw sg p.length p
structure Pb(p:List Int):Prop where
 t:Fe p
 l:p.length<=64
 b:Bd 16777216 p
abbrev Qb(q:Rat):Prop:=Qs 16777216 q
abbrev Cb(k:Crv):Prop:=Cs 1048576 16 k
def Gn(a b:Crv):Uo:=Na (Fu b.x a.d) (Fu a.x b.d)
def Gm(a b:Crv):Uo:=Na (Fu b.y a.d) (Fu a.y b.d)
theorem rV{a b:Crv}(ha:Cb a)(hb:Cb b):Pb (Gn a b)/\(Gn a b).length<=16/\Bd 2097153 (Gn a b):=by
 have h1:Bd 2097153 (Gn a b):=U5 (Dt (Ge hb.x ha.d) (Ge ha.x hb.d)) (by omega);have h2:(Gn a b).length<=16:=by
  refine Qc (Nl _ _) ?_;have:=Fx b.x a.d;have:=Fx a.x b.d;have:=ha.lx;have:=hb.lx;omega
 exact⟨⟨Fy _ _,by omega,U5 h1 (by omega)⟩,h2,h1⟩
theorem rJ{a b:Crv}(ha:Cb a)(hb:Cb b):Pb (Gm a b)/\(Gm a b).length<=16/\Bd 2097153 (Gm a b):=by
 have h1:Bd 2097153 (Gm a b):=U5 (Dt (Ge hb.y ha.d) (Ge ha.y hb.d)) (by omega);have h2:(Gm a b).length<=16:=by
  refine Qc (Nl _ _) ?_;have:=Fx b.y a.d;have:=Fx a.y b.d;have:=ha.ly;have:=hb.ly;omega
 exact⟨⟨Fy _ _,by omega,U5 h1 (by omega)⟩,h2,h1⟩
def Ly(sg:Uo->Int)(a b:Pt):Up->Bool
 | []=>decide (a.id<b.id)
 |p::l=>if 0<p.length then decide (0<Hl sg p)else Ly sg a b l
def Cd(sg:Uo->Int)(a b:Pt):Bool:=Ly sg a b [Gm b.c a.c,Gn b.c a.c]
def Tu(sg:Uo->Int)(a b:Pt):Bool:=Ly sg a b [Gn a.c b.c,Gm a.c b.c]
end Orr
namespace Orr
open Go
structure Ct where
 kind:Int
 i0:Int
 i1:Int
 i2:Int
 i3:Int
 p:List Int
 want:Int
abbrev Lx(c:Ct):Ut:=[.int .i64 c.kind,.int .i64 c.i0,.int .i64 c.i1,.int .i64 c.i2,.int .i64 c.i3,pl c.p,.int .i64 c.want]
def Lu(p q:Uo):Uo:=if 0<p.length then p else q
def Db:Uo->Uo->Bool
 |x::l,y::m=>if x=y then Db l m else decide (x<y)
 |_,_=>false
def fN(a b:Ct):Bool:=Db [a.kind,a.i0,a.i1,a.i2,a.i3] [b.kind,b.i0,b.i1,b.i2,b.i3]
def JK(out:List Ct)(c:Ct):Nat->Nat
 | 0=>0
 |
  k+1=>match out[k]? with
  |some x=>if fN c x=true then JK out c k else k+1
  |none=>k+1
theorem oG(out:List Ct)(c:Ct):∀k,JK out c k<=k
 | 0=>Qm _
 |
  k+1=>by
  simp only[JK]
  split
  ·split
   ·exact Nat.le_succ_of_le (oG out c k)
   ·exact Qm _
  ·exact Qm _
theorem Qps{out:List Ct}{c x:Ct}{k:Nat}(hx:out[k]? = some x)(h:fN c x=true):JK out c (k+1)=JK out c k:=by
 simp only[JK,hx,h,if_true]
theorem Qjv{out:List Ct}{c x:Ct}{k:Nat}(hx:out[k]? = some x)(h:fN c x=false):JK out c (k+1)=k+1:=by
 simp[JK,hx,h]
def KE(out:List Ct)(c:Ct):List Ct:=out.take (JK out c out.length)++c::out.drop (JK out c out.length)
theorem Qib(out:List Ct)(c:Ct):(KE out c).length=out.length+1:=by
 have:=oG out c out.length;simp[KE];omega
theorem Qic{out:List Ct}{c x:Ct}(h:x∈KE out c):x=c\/x∈out:=by
 simp only[KE,Qp,Ql]at h;rcases h with h|h|h
 ·exact .inr (Qn h)
 ·exact .inl h
 ·exact .inr (Qz h)
def Fw(l:List Ct):List Ct:=l.foldl KE []
theorem cA(l:List Ct)(c:Ct):Fw (l++[c])=KE (Fw l) c:=by simp[Fw,Vr]
theorem cI{l:List Ct}{i:Nat}{c:Ct}(h:l[i]? = some c):Fw (l.take (i+1))=KE (Fw (l.take i)) c:=by
 rw[Z1,h];exact cA _ _
theorem OM:∀(l acc:List Ct),(l.foldl KE acc).length=acc.length+l.length
 | [],acc=>by simp
 |c::l,acc=>by simp only[Z5];rw[OM l (KE acc c),Qib];simp;omega
theorem Ds(l:List Ct):(Fw l).length=l.length:=by unfold Fw;rw[OM];simp
theorem ON:∀(l acc:List Ct) {x:Ct},x∈l.foldl KE acc->x∈l\/x∈acc
 | [],acc,x,h=>.inr h
 |
  c::l,acc,x,h=>by
  simp only[Z5]at h;rcases ON l _ h with h|h
  ·exact .inl (Qg _ h)
  ·rcases Qic h with rfl|h
   ·exact .inl (Qy ..)
   ·exact .inr h
theorem VZ{l:List Ct}{x:Ct}(h:x∈Fw l):x∈l:=by
 rcases ON l [] h with h|h
 ·exact h
 ·cases h
theorem fG{α:Type}(l:List α)(z x:α){k m':Nat}(hk:k<=l.length)(hm:m'=l.length-k) :
 ((l++[z]).take (k+1)++((l++[z]).drop k).take m'++(l++[z]).drop (k+1+m')).set k x=l.take k++x::l.drop k:=by
 subst hm;have e1:((l++[z]).drop k).take (l.length-k)=l.drop k:=by
  rw[Wg hk,Vq (by simp),Qo (by simp)]
 have e2:(l++[z]).drop (k+1+(l.length-k))=[]:=Yw (by simp;omega);rw[e1,e2,Zv];have e3:(l++[z]).take (k+1)=(l++[z]).take k++[(l++[z])[k]'(by simp;omega)]:=by rw[List.take_succ_eq_append_getElem]
 rw[e3,Vq hk,Ze,List.set_append,if_neg (by simp;omega)];simp[Zx hk]
def Ar(a b:Pt):Uo:=Lu (Gn a.c b.c) (Gm a.c b.c)
def Ao(a b:Pt):Uo:=Lu (Gm b.c a.c) (Gn b.c a.c)
def QO(sg:Uo->Int)(a b:Pt):Ct:={ kind:=1,i0:=a.id,i1:=b.id,i2:=0,i3:=0,p:=Ar a b,want:=Hl sg (Ar a b) }
def D2(sg:Uo->Int)(a b:Pt):Ct:={ kind:=2,i0:=a.id,i1:=b.id,i2:=0,i3:=0,p:=Ao a b,want:=Hl sg (Ao a b) }
end Orr
namespace Orr
open Go Go.Proofs Tryz
set_option maxRecDepth 10000
abbrev pr(p:Uo):TV:=.one (pl p)
theorem Pn{p:Uo}{i:Nat}{z:Int}(h:p[i]? = some z):(p.map Hg)[i]? = some (Hg z):=Gx h
theorem BM(p:Uo):Ul 181 [pr p] [pr (trim p)]:=by
 refine Fv func181 rfl (ln 0 rfl rfl λhl=>?_);rw[Zb]at hl;refine Uf [] rfl ?_;refine lp (S:=Nat) 0 (λL1 n=>(3,.v (.oi n))::L1) (λ_=>[]) id (λn=>n<=p.length/\∀j x,n<=j->p[j]? = some x->x=0) (p.map Hg).length ⟨by simp,λj x h1 h2=>by
  have:=(Qe.1 h2).1;simp at h1;omega⟩ rfl (λ_ _=>rfl) rfl λn ⟨h1,h2⟩=>?_
 cases n with
 |zero=>exact Uh [.f (by simp),.f rfl,.i 0] rfl (by rw[sV h1 h2 (λh=>by omega)];simp[pl]) (by simp[U3])
 |
  succ n =>
  obtain⟨x,hx⟩:=gxE (l:=p) (i:=n) (by omega);by_cases h0:x=0
  ·refine Ug [.t (by simp),.r 11 (v:=.oi n) (by simp),.x (Pn hx),.k Di,.t (by simp[h0]),.r 17 (v:=.oi n) (by simp)] rfl ?_;exact rd n (by simp) ⟨by omega,λj y h3 h4=>by
    rcases Vl h3 with rfl|h3
    ·rw[hx]at h4;injection h4 with h4;rw[<-h4,h0]
    ·exact h2 j y h3 h4⟩ rfl
  ·exact Uh [.t (by simp),.r 11 (v:=.oi n) (by simp),.x (Pn hx),.k Di,.f (by simp[h0]),.i (n+1)] rfl (by rw[sV h1 h2 (λ_=>⟨x,hx,h0⟩)];simp[pl,Jw]) (by simp[U3] <;> omega)
theorem lO(p:Uo)(k:Nat):Ul 285 [pr p,.oi k] [.agg (Hg (p.getD k 0))]:=by
 by_cases h:k<p.length
 ·have hx:=Qf h;have e:p.getD k 0=p[k]:=by simp[List.getD,hx]
  rw[e];exact Ui func285 rfl [.t (by simp;omega),.x (Pn hx)] rfl
 ·have e:p.getD k 0=0:=by simp[List.getD,Qu (Yb h)]
  rw[e,Ll];exact Ui func285 rfl [.f (by simp;omega)] rfl
def AG(f:Nat->Ut)(z:Ut)(n k:Nat):Uu:=(List.range n).map λi=>if i<k then f i else z
theorem Ii(f:Nat->Ut)(z:Ut)(n k:Nat):(AG f z n k).length=n:=by simp[AG]
theorem Ah(f:Nat->Ut)(z:Ut)(n:Nat):List.replicate n z=AG f z n 0:=by
 refine Xl λi=>?_
 simp only[AG,J0,Za];by_cases h:i<n
 ·simp[h]
 ·simp[h]
theorem QP(f:Nat->Ut)(z:Ut)(n:Nat):AG f z n n=(List.range n).map f:=by
 refine Xt λi hi=>?_
 rw[if_pos (Kj.1 hi)]
theorem QM(f:Nat->Ut)(z:Ut){n k:Nat}(h:k<n):(AG f z n k).set k (f k)=AG f z n (k+1):=by
 refine Xl λi=>?_
 rw[Yo];simp only[AG,Za,Zb,List.length_range,h,if_true];by_cases e:k=i
 ·subst e;simp[h]
 ·simp only[e,if_false];by_cases hi:i<n
  ·simp only[X2 hi,Yn];congr 1;by_cases h2:i<k
   ·rw[if_pos h2,if_pos (by omega)]
   ·rw[if_neg h2,if_neg (by omega)]
  ·simp[Qu,hi]
theorem xA{n fid:Nat}{l1 l2:Ut}{g:Nat->Int}(hn:n<274877906944)(h:∀k,k<n->AT prog fid [.oi k,.one (.sh l1),.one (.sh l2)] [.agg (Hg (g k))]):Ul 110 [.oi n,.one (.fn fid [] [.sh l1,.sh l2])] [pr (A4 n g)]:=by
 refine Fv func110 rfl ?_;refine Ug [.i n,.i n,.r 10 (eI (b:=(n:Int)) (by simp))] rfl ?_;rw[Ah λk=>Hg (g k)];refine Uk (S:=Nat) 1 (λL1 k=>(11,.v (.oi k))::L1) (λk=>[.row false 36 2 (AG (λk=>Hg (g k)) [.bool false,.nils] n k)]) (λk=>n-k) (λk=>k<=n) 0 (Qh _) rfl rfl λk hk=>?_
 by_cases hlt:k<n
 ·refine go tt [.t (by simp;omega),.k (h k hlt),.i k] rfl (by simp[U3,Ii];omega) ?_;have e:=QM (λk=>Hg (g k)) [.bool false,.nils] hlt;rw[e];exact rd (k+1) (by omega) hlt rfl
 ·obtain rfl:k=n:=by omega
  have e:AG (λk=>Hg (g k)) [.bool false,.nils] k k=((List.range k).map g).map Hg:=by rw[QP];simp
  rw[e];exact Uh [.f (by simp),.k (BM _)] rfl
theorem lE{n fid:Nat}{l1:Ut}{g:Nat->Int}(hn:n<274877906944)(h:∀k,k<n->AT prog fid [.oi k,.one (.sh l1)] [.agg (Hg (g k))]):Ul 110 [.oi n,.one (.fn fid [] [.sh l1])] [pr (A4 n g)]:=by
 refine Fv func110 rfl ?_;refine Ug [.i n,.i n,.r 10 (eI (b:=(n:Int)) (by simp))] rfl ?_;rw[Ah λk=>Hg (g k)];refine Uk (S:=Nat) 1 (λL1 k=>(11,.v (.oi k))::L1) (λk=>[.row false 36 2 (AG (λk=>Hg (g k)) [.bool false,.nils] n k)]) (λk=>n-k) (λk=>k<=n) 0 (Qh _) rfl rfl λk hk=>?_
 by_cases hlt:k<n
 ·refine go tt [.t (by simp;omega),.k (h k hlt),.i k] rfl (by simp[U3,Ii];omega) ?_;have e:=QM (λk=>Hg (g k)) [.bool false,.nils] hlt;rw[e];exact rd (k+1) (by omega) hlt rfl
 ·obtain rfl:k=n:=by omega
  have e:AG (λk=>Hg (g k)) [.bool false,.nils] k k=((List.range k).map g).map Hg:=by rw[QP];simp
  rw[e];exact Uh [.f (by simp),.k (BM _)] rfl
theorem Qtd{p q:Uo}(k:Nat)(hp:Bd 4294967295 p)(hq:Bd 4294967295 q):Ul 299 [.oi k,.one (.sh [pl p]),.one (.sh [pl q])] [.agg (Hg (p.getD k 0+q.getD k 0))] :=
 Ui func299 rfl [.k (lO p k),.k (lO q k),.k (KF (U4 _) (U4 _) (Ft hp k) (Ft hq k))] rfl
theorem Qtx{p q:Uo}(k:Nat)(hp:Bd 4294967295 p)(hq:Bd 4294967295 q):Ul 283 [.oi k,.one (.sh [pl p]),.one (.sh [pl q])] [.agg (Hg (p.getD k 0-q.getD k 0))] :=
 Ui func283 rfl [.k (lO p k),.k (lO q k),.k (Qft (U4 _) (U4 _) (Ft hp k) (Ft hq k))] rfl
theorem Ry{p:Uo}{k:Nat}(h:k<p.length):p[k]? = some (p.getD k 0):=by simp[List.getD,Qf h]
theorem Qfl{p:Uo}{c:Int}{k:Nat}(hk:k<p.length)(hp:Bd 4294967295 p)(hc:Fc c<=4294967295):Ul 111 [.oi k,.one (.sh [pl p]),.one (.sh (Hg c))] [.agg (Hg (p.getD k 0*c))] :=
 Ui func111 rfl [.x (Pn (Ry hk)),.k (P0 (U4 _) (U4 _) (Ft hp k) hc)] rfl
theorem Qtq{p:Uo}{k:Nat}(hk:k<p.length)(hp:Bd 4294967295 p):Ul 339 [.oi k,.one (.sh [pl p])] [.agg (Hg (-(p.getD k 0)))] :=
 Ui func339 rfl [.x (Pn (Ry hk)),.k (BV (U4 _) (Ft hp k))] rfl
theorem Qbb{p:Uo}{k:Nat}(hk:k+1<p.length)(hl:p.length<274877906944)(hp:Bd 4294967295 p):Ul 317 [.oi k,.one (.sh [pl p])] [.agg (Hg (p.getD (k+1) 0*((k+1:Nat):Int)))] :=
 Ui func317 rfl [.x (Pn (Ry hk)),.r 10 (eI (b:=((k+1:Nat):Int)) (by omega)),.k (BK (by omega)),.k (P0 (U4 _) (U4 _) (Ft hp _) (Qcp (show k+1<274877906944 by omega)))] rfl rfl (by simp[U3] <;> omega)
theorem BW{p q:Uo}(hlp:p.length<274877906944)(hlq:q.length<274877906944)(hp:Bd 4294967295 p)(hq:Bd 4294967295 q):Ul 265 [pr p,pr q] [pr (A5 p q)] :=
 Ui func265 rfl [.r 9 (eI (b:=((max p.length q.length:Nat):Int)) (by simp;omega)),.k (xA (by omega) λk _=>Qtd k hp hq)] rfl
theorem HW{p q:Uo}(hlp:p.length<274877906944)(hlq:q.length<274877906944)(hp:Bd 4294967295 p)(hq:Bd 4294967295 q):Ul 243 [pr p,pr q] [pr (Na p q)] :=
 Ui func243 rfl [.r 9 (eI (b:=((max p.length q.length:Nat):Int)) (by simp;omega)),.k (xA (by omega) λk _=>Qtx k hp hq)] rfl
theorem Qe7{p:Uo}(hlp:p.length<274877906944)(hp:Bd 4294967295 p):Ul 320 [pr p] [pr (Mw p)] :=
 Ui func320 rfl [.r 4 (eI (b:=(p.length:Int)) (by simp)),.k (lE hlp λk hk=>Qtq hk hp)] rfl
theorem Pp{p:Uo}{c:Int}(hlp:p.length<274877906944)(hp:Bd 4294967295 p)(hc:Fc c<=4294967295):Ul 47 [pr p,.agg (Hg c)] [pr (Fu p c)] :=
 Ui func47 rfl [.r 6 (eI (b:=(p.length:Int)) (by simp)),.k (xA hlp λk hk=>Qfl hk hp hc)] rfl
theorem I3{p:Uo}(hlp:p.length<274877906944)(hp:Bd 4294967295 p):Ul 280 [pr p] [pr (Gy p)] :=
 Ui func280 rfl [.r 6 (eI (b:=((p.length-1:Nat):Int)) (by simp;omega)),.k (lE (by omega) λk hk=>Qbb (by omega) hlp hp)] rfl rfl (by simp[U3];omega)
theorem Ce{ls:Uu}{p:Uo}(hi:IsInts ls p)(hl:p.length<274877906944)(hs:Bd 4294967295 p):Ul 205 [.one (.row ls)] [pr (trim p)]:=by
 refine Fv func205 rfl ?_;have hlen:=hi.len;refine Ug [.i ls.length,.i ls.length] rfl ?_;rw[Ah λk=>Hg (p.getD k 0)];refine Uk (S:=Nat) 1 (λL1 k=>(11,.v (.oi k))::L1) (λk=>[.row false 36 2 (AG (λk=>Hg (p.getD k 0)) [.bool false,.nils] ls.length k)]) (λk=>ls.length-k) (λk=>k<=ls.length) 0 (Qh _) rfl rfl λk hk=>?_
 by_cases hlt:k<ls.length
 ·obtain⟨x,y,hx,hxy⟩:=hi.get (Ry (p:=p) (k:=k) (by omega));have cn:=Mp hxy (Ft hs k);obtain⟨b,l,rfl,rfl,_⟩:=hxy;refine go tt [.t (by simp;omega),.x hx,.k cn,.i k] rfl (by simp[U3,Ii];omega) ?_;have e:=QM (λk=>Hg (p.getD k 0)) [.bool false,.nils] hlt;rw[e];exact rd (k+1) (by omega) hlt rfl
 ·obtain rfl:k=ls.length:=by omega
  have e:AG (λk=>Hg (p.getD k 0)) [.bool false,.nils] ls.length ls.length=p.map Hg:=by
   rw[QP,hlen];refine Xl λi=>?_
   by_cases hi:i<p.length
   ·simp[X2 hi,List.getD,Qf hi]
   ·simp[Qu,hi]
  rw[e];exact Uh [.f (by simp),.k (BM _)] rfl
theorem Hr{p:Uo}(ht:Fe p)(hl:p.length<274877906944)(hs:Bd 4294967295 p):Ul 205 [pr p] [pr p]:=by
 have:=Ce (Gp p) hl hs;rw[ht]at this;exact this
theorem Qou{p:Uo}{i:Nat}{z:Int}(h:p[i]? = some z):(p.map λ(x:Int)=>[LV.int .i64 x])[i]? = some [.int .i64 z]:=Gx h
theorem lG{p:Uo}(hl:p.length<274877906944)(hr:∀z∈p,-9223372036854775808≤z/\z≤9223372036854775807):Ul 150 [.one (ids p)] [pr (trim p)]:=by
 refine Fv func150 rfl ?_;refine Ug [.r 7 (eI (b:=(p.length:Int)) (by simp)),.i p.length,.i p.length,.r 10 (eI (b:=(p.length:Int)) (by simp))] rfl ?_;rw[Ah λk=>Hg (p.getD k 0)];refine Uk (S:=Nat) 1 (λL1 k=>(11,.v (.oi k))::L1) (λk=>[.row false 36 2 (AG (λk=>Hg (p.getD k 0)) [.bool false,.nils] p.length k)]) (λk=>p.length-k) (λk=>k<=p.length) 0 (Qh _) rfl rfl λk hk=>?_
 by_cases hlt:k<p.length
 ·have hg:=Ry hlt;refine go tt [.t (by simp;omega),.x (Qou hg),.k (BK (hr _ (Qa hg))),.i k] rfl (by simp[U3,Ii];omega) ?_;have e:=QM (λk=>Hg (p.getD k 0)) [.bool false,.nils] hlt;rw[e];exact rd (k+1) (by omega) hlt rfl
 ·obtain rfl:k=p.length:=by omega
  have e:AG (λk=>Hg (p.getD k 0)) [.bool false,.nils] p.length p.length=p.map Hg:=by
   rw[QP];refine Xl λi=>?_
   by_cases hi:i<p.length
   ·simp[X2 hi,List.getD,Qf hi]
   ·simp[Qu,hi]
  rw[e];exact Uh [.f (by simp),.k (BM _)] rfl
theorem bC(l:Uo)(i:Nat)(z:Int):(l.map Hg).set i (Hg z)=(l.set i z).map Hg:=by rw[Vu]
theorem NX(m:Nat):((List.replicate m [LV.bool false,LV.nils]).map λc=>c.map FG)=(List.replicate m (0:Int)).map Hg:=by
 simp[Ll,FG]
theorem xT{p0 q:Uo}{s t:Nat}(tq:Fe q)(hlp:p0.length<137438953472)(hlq:q.length<137438953472)(hp:Bd s p0)(hq:Bd t q)(hst:s+t<=4294967000):Ul 266 [pr p0,pr q] [pr (Gl (trim p0) q)]:=by
 have cp:=Ce (Gp p0) (by omega) (U5 hp (show s<=4294967295 by omega));have hp:=Ty hp;have hlp:=Z3 (H8 p0) hlp;obtain⟨p,ep⟩:=nmE (trim p0);rw[<-ep]at cp hp hlp ⊢;have cq:=Hr tq (by omega) (U5 hq (show t<=4294967295 by omega));by_cases h0:p.length=0
 ·have e:Gl p q=[]:=by unfold Gl;rw[if_pos (.inl h0)]
  rw[e];exact Ui func266 rfl [.k cp,.k cq,.t (by simp;exact Qj h0),.t rfl] rfl
 by_cases h1:q.length=0
 ·have e:Gl p q=[]:=by unfold Gl;rw[if_pos (.inr h1)]
  rw[e];exact Ui func266 rfl [.k cp,.k cq,.f (by simp;intro h;subst h;simp at h0),.t (by simp;exact Qj h1)] rfl
 refine Fv func266 rfl ?_;have e:Gl p q=trim (Aq p q (List.replicate (p.length+q.length-1) 0) p.length):=by unfold Gl;rw[if_neg (by omega)]
 rw[e];obtain⟨N,hN⟩:=nmE (p.length+q.length-1);rw[<-hN];obtain⟨o,ho⟩:=nmE (List.replicate N (0:Int));rw[<-ho];have hol:o.length=N:=by rw[ho];simp
 have ho0:∀m,o.getD m 0=0:=λm=>by rw[ho];exact Cj N m
 refine Ug [.k cp,.k cq,.f (by simp;intro h;subst h;simp at h0),.f (by simp;intro h;subst h;simp at h1),.r 27 (eI (b:=(N:Int)) (by simp;omega)),.i N,.i N] rfl ?_;refine nl 0 rfl rfl rfl ?_;rw[NX,<-ho];refine Uk (S:=Nat) 1 (λL1 i=>(31,.v (.oi i))::L1) (λi=>[.row false 36 2 ((Aq p q o i).map Hg)]) (λi=>p.length-i) (λi=>i<=p.length) 0 (Qh _) rfl rfl λi hi=>?_
 by_cases hlt:i<p.length
 ·refine Uf [.t (by simp;omega),.x (Pn (Ry hlt))] rfl ?_;refine Uk (S:=Nat) 2 (λL1 k=>(38,.v (.oi k))::L1) (λk=>[.row false 36 2 ((Oj (p.getD i 0) q i (Aq p q o i) k).map Hg),.blk 36 (Hg (p.getD i 0))]) (λk=>q.length-k) (λk=>k<=q.length) 0 (Qh _) rfl rfl λk hk=>?_
  by_cases hk2:k<q.length
  ·have hm1:Fc ((Oj (p.getD i 0) q i (Aq p q o i) k).getD (i+k) 0)<=4294967295:=Qc (Iu (t:=39) (yU (by rw[Li];omega) (yW (λj hj=>by omega) ho0 (λi j=>Nm (Ft hp i) (Ft hq j))) (λj=>Nm (Ft hp i) (Ft hq j)) (i+k)) (Kh (show i+1<549755813888 by omega) (by decide))) (by omega);have hm2:Fc (p.getD i 0*q.getD k 0)<=4294967295:=Qc (Ga _ _) (by have:=Ft hp i;have:=Ft hq k;omega);have hg:(Oj (p.getD i 0) q i (Aq p q o i) k)[i+k]? = some ((Oj (p.getD i 0) q i (Aq p q o i) k).getD (i+k) 0):=Ry (by rw[Ol,Li];omega);refine go tt [.t (by simp;omega),.x (Pn (Ry hk2)),.i (i+k),.x (Pn hg),.k (P0 (U4 _) (U4 _) (Qc (Ft hp i) (by omega)) (Qc (Ft hq k) (by omega))),.k (KF (U4 _) (U4 _) hm1 hm2),.i (i+k)] rfl (by simp[U3,Ol,Li] <;> omega) ?_;rw[bC];exact rd (k+1) (by omega) hk2 rfl
  ·obtain rfl:k=q.length:=by omega
   exact go tt [.f (by simp)] rfl (by simp[U3];omega) (rd (i+1) (by omega) hlt rfl)
 ·obtain rfl:i=p.length:=by omega
  exact Uh [.f (by simp),.k (BM _)] rfl
theorem KU{p q:Uo}{s t:Nat}(tp:Fe p)(tq:Fe q)(hlp:p.length<137438953472)(hlq:q.length<137438953472)(hp:Bd s p)(hq:Bd t q)(hst:s+t<=4294967000):Ul 266 [pr p,pr q] [pr (Gl p q)]:=by
 have h:=xT tq hlp hlq hp hq hst;rw[show trim p=p from tp]at h;exact h
theorem MZ{p q:Uo}(hlp:p.length<274877906944)(hlq:q.length<274877906944)(hp:Bd 4294967295 p)(hq:Bd 4294967295 q):Ul 148 [pr p,pr q] [.one (.bool (decide (trim p=trim q)))]:=by
 refine Fv func148 rfl ?_;have cp:=Ce (Gp p) hlp hp;have cq:=Ce (Gp q) hlq hq;have bp:=Ty hp;have bq:=Ty hq;have l1:=H8 p;have l2:=H8 q;obtain⟨a,ha⟩:=nmE (trim p);obtain⟨b,hb⟩:=nmE (trim q);rw[<-ha]at cp bp l1 ⊢;rw[<-hb]at cq bq l2 ⊢;by_cases hl:a.length=b.length
 ·refine Uf [.k cp,.k cq,.f (by simp;omega)] rfl ?_;refine Uk (S:=Nat) 0 (λL1 i=>(18,.v (.oi i))::L1) (λ_=>[]) (λi=>a.length-i) (λi=>i<=a.length/\a.take i=b.take i) 0 ⟨Qh _,rfl⟩ rfl rfl λi ⟨hi,he⟩=>?_
  by_cases hlt:i<a.length
  ·have ga:=Ry hlt;have gb:=Ry (p:=b) (k:=i) (by omega);have cc:=HU (U4 (a.getD i 0)) (U4 (b.getD i 0)) (Ft bp i) (Ft bq i);by_cases hz:a.getD i 0=b.getD i 0
   ·refine Ug [.t (by simp;omega),.x (Pn ga),.x (Pn gb),.k cc,.f (by simpa using jZ.2 hz)] rfl ?_;exact rd (i+1) (by omega) ⟨hlt,by rw[Y8,Y8,he,ga,gb,hz]⟩ rfl
   ·exact Uh [.t (by simp;omega),.x (Pn ga),.x (Pn gb),.k cc,.t (by have:=mt jZ.1 hz;simpa using this)] rfl (by rw[decide_eq_false];intro h;exact hz (by rw[h])) trivial
  ·obtain rfl:i=a.length:=by omega
   rw[Q7,hl,Q7]at he;exact Uh [.f (by simp)] rfl (by rw[decide_eq_true he]) trivial
 ·exact Uh [.k cp,.k cq,.t (by simp;omega)] rfl (by rw[decide_eq_false];intro h;exact hl (by rw[h])) trivial
theorem Qfc{p:Uo}{n d:Int}{s t:Nat}(hl:p.length<274877906944)(hp:Bd s p)(hn:Fc n<=t)(hd:Fc d<=t)(hst:s+p.length*(t+1)+2*t+10<=4294967295):Ul 310 [pr p,.agg (Hg n),.agg (Hg d)] [.agg (Hg (Qv1 p n d))]:=by
 refine Fv func310 rfl ?_;refine Ug [.k (BK (z:=1) (by decide)),.r 13 (eI (b:=(p.length:Int)-1-((0:Nat):Int)) (by simp))] rfl ?_;refine nlb 3 rfl rfl rfl ?_;have e0:[LV.bool false,LV.nils].map FG=Hg (L9 p n d 0).1:=by simp[FG,L9,Ll]
 rw[e0];refine Uk (S:=Nat) 5 (λL1 j=>(9,.v (.oi ((p.length:Int)-1-(j:Int))))::L1) (λj=>[.blk 36 (Hg n),.blk 36 (Hg d),.blk 36 [.bool false,.nils],.blk 36 (Hg (L9 p n d j).1),.blk 36 (Hg (L9 p n d j).2)]) (λj=>p.length-j) (λj=>j<=p.length) 0 (Qh _) rfl rfl λj hj=>?_
 have hv:=Qau (k:=j) hp hn hd;have hjl:j*(t+1)<=p.length*(t+1):=Q0 _ (by omega);have hjl2:j*t<=j*(t+1):=Zu _ (by omega);by_cases hlt:j<p.length
 ·have hc:=Ft hp (p.length-1-j);have hm1:Fc ((L9 p n d j).1*n)<=4294967295:=Qc (Ga _ _) (by omega);have hm2:Fc (p.getD (p.length-1-j) 0*(L9 p n d j).2)<=4294967295:=Qc (Ga _ _) (by omega);refine go tt [.t (by simp;omega),.k (P0 (U4 _) (U4 _) (by omega) (by omega)),.r 22 (eI (b:=((p.length-1-j:Nat):Int)) (by omega)),.x (Pn (Ry (p:=p) (k:=p.length-1-j) (by omega))),.k (P0 (U4 _) (U4 _) (by omega) (by omega)),.k (KF (U4 _) (U4 _) hm1 hm2),.k (P0 (U4 _) (U4 _) (by omega) (by omega)),.r 17 (eI (b:=(p.length:Int)-1-((j+1:Nat):Int)) (by omega))] rfl (by simp[U3] <;> omega) ?_;exact rd (j+1) (by omega) hlt rfl
 ·obtain rfl:j=p.length:=by omega
  exact Uh [.f (by simp;omega)] rfl
theorem Du{p:Uo}(tp:Fe p)(hl:p.length<274877906944)(hp:Bd 4294967295 p):Ul 334 [pr p] [.agg (Hg (p.getD (p.length-1) 0))]:=by
 have cn:=Hr tp hl hp;by_cases h0:p=[]
 ·subst h0;exact Ui func334 rfl [.k cn,.t (by simp)] rfl (by simp[Ll]) trivial
 ·have hpl:0<p.length:=J5.2 h0;exact Ui func334 rfl [.k cn,.f (by simpa using h0),.r 12 (eI (b:=((p.length-1:Nat):Int)) (by simp;omega)),.x (Pn (Ry (by omega)))] rfl rfl (by simp[U3];omega)
theorem Qsn{a b:Int}{q:Rat}(h1:a=q.num)(h2:b=(q.den:Int)):[sg a,mg a,sg b,mg b]=rl q:=by rw[h1,h2]
theorem ZA{n d:Int}(h0:d≠0)(hn:Fc n<=4294967295)(hd:Fc d<=4294967295):Ul 211 [.agg (Hg n),.agg (Hg d)] [.agg (rl (Rat.divInt n d))]:=by
 have cg:=Qet (Gp [n,d]) (λz hz=>by simp at hz;rcases hz with rfl|rfl <;> assumption);have gp:=fX (n:=n) h0;have gs:=aA (n:=n) h0 hd;have m1:=DW n d;have m2:=DU n d;obtain⟨g,hg⟩:=nmE (((Tc [n,d]:Nat):Int));rw[<-hg]at cg gp gs m1 m2;by_cases hneg:d<0
 ·obtain⟨e1,e2⟩:=Qo4 (n:=n) hneg;rw[<-hg]at e1 e2;rw[<-Qsn e1 e2];exact Ui func211 rfl [.k cg,.t (by simpa using hneg),.k (BV (U4 n) hn),.k (BV (U4 d) hd),.k (A8 (U4 _) (U4 _) (by rw[Ho];exact hn) gs (by omega) (iC m1)),.k (A8 (U4 _) (U4 _) (by rw[Ho];exact hd) gs (by omega) (iC m2))] rfl
 ·obtain⟨e1,e2⟩:=iG (n:=n) (d:=d) (by omega);rw[<-hg]at e1 e2;rw[<-Qsn e1 e2];exact Ui func211 rfl [.k cg,.f (by simpa using hneg),.k (A8 (U4 _) (U4 _) hn gs (by omega) m1),.k (A8 (U4 _) (U4 _) hd gs (by omega) m2)] rfl
theorem MY{x y x' y':LV}{n d:Int}(h1:Gd x y n)(h2:Gd x' y' d)(hn:Fc n<=4294967295)(hd:Fc d<=4294967295):Ul 140 [.agg [x,y,x',y']] [.agg (rl (Gh n d))]:=by
 have c1:=Mp h1 hn;have c2:=Mp h2 hd;obtain⟨b,l,rfl,rfl,_⟩:=h1;obtain⟨b',l',rfl,rfl,_⟩:=h2;by_cases h0:d=0
 ·have e:Gh n d=Rat.divInt n 1:=by unfold Gh;rw[if_pos h0]
  rw[e];exact Ui func140 rfl [.k c2,.k Di,.t (by simpa using h0),.k (BK (z:=1) (by decide)),.k c1,.k (ZA (by decide) hn (by decide))] rfl
 ·have e:Gh n d=Rat.divInt n d:=by unfold Gh;rw[if_neg h0]
  rw[e];exact Ui func140 rfl [.k c2,.k Di,.f (by simpa using h0),.k c1,.k (ZA h0 hn hd)] rfl
theorem BD{q:Rat}(hq:Qs 4294967295 q):Ul 140 [.agg (rl q)] [.agg (rl q)]:=by
 have:=MY (U4 q.num) (U4 (q.den:Int)) hq.1 hq.2;rwa[Sw]at this
theorem Qt9{n:Int}(hn:Fc n<=4294967295):Ul 122 [.agg (Hg n)] [.agg (rl (n:Rat))] :=
 Ui func122 rfl [.k (Mp (U4 n) hn),.k (BK (z:=1) (by decide))] rfl (by simp[rl]) trivial
theorem xC{a b:Rat}(ha:Qs 2147483647 a)(hb:Qs 2147483647 b):Ul 141 [.agg (rl a),.agg (rl b)] [.agg (Hg (a.num*(b.den:Int))),.agg (Hg (b.num*(a.den:Int))),.agg (Hg ((a.den:Int)*(b.den:Int)))] :=
 Ui func141 rfl [.k (BD (ha.mono (by decide))),.k (BD (hb.mono (by decide))),.k (P0 (U4 _) (U4 _) (Qc ha.1 (by decide)) (Qc hb.2 (by decide))),.k (P0 (U4 _) (U4 _) (Qc hb.1 (by decide)) (Qc ha.2 (by decide))),.k (P0 (U4 _) (U4 _) (Qc ha.2 (by decide)) (Qc hb.2 (by decide)))] rfl
theorem Dk{a b:Rat}(ha:Qs 2147483647 a)(hb:Qs 2147483647 b):Ul 70 [.agg (rl a),.agg (rl b)] [.oi (Hk a b)] :=
 Ui func70 rfl [.k (xC ha hb),.k (HU (U4 _) (U4 _) (Qc (Ga _ _) (by have:=ha.1;have:=hb.2;omega)) (Qc (Ga _ _) (by have:=hb.1;have:=ha.2;omega)))] rfl
theorem BC{x y x' y':LV}{n d:Int}(h1:Gd x y n)(h2:Gd x' y' d)(hn:Fc n<=4294967295)(hd:Fc d<=4294967295):Ul 69 [.agg [x,y,x',y'],.one (.row [])] [.agg (rl (Gh n d))]:=by
 have c1:=MY h1 h2 hn hd;obtain⟨b,l,rfl,rfl,_⟩:=h1;obtain⟨b',l',rfl,rfl,_⟩:=h2;refine Fv func69 rfl ?_;refine Uf [.k c1] rfl ?_;refine Uk (S:=Unit) 3 (λL1 _=>(12,.v (.oi 0))::L1) (λ_=>[.blk 42 [.bool b,.row (lm l),.bool b',.row (lm l')],.blk 42 [.bool false,.nils,.bool false,.nils],.blk 42 (rl (Gh n d))]) (λ_=>0) (λ_=>True) () trivial rfl rfl λ_ _=>?_
 exact Uh [.f (by simp)] rfl
theorem Nx{q:Rat}(hq:Qs 4294967295 q):Ul 69 [.agg (rl q),.one (.row [])] [.agg (rl q)]:=by
 have:=BC (U4 q.num) (U4 (q.den:Int)) hq.1 hq.2;rwa[Sw]at this
theorem Qnv{q:Rat}(hq:Qs 4294967295 q):Ul 309 [.agg (rl q)] [.agg (rl q)]:=Ui func309 rfl [.k (Nx hq)] rfl
theorem lR{p:Uo}{q:Rat}{s t:Nat}(tp:Fe p)(hl:p.length<274877906944)(hp:Bd s p)(hq:Qs t q)(hst:s+p.length*(t+1)+2*t+10<=4294967295):Ul 270 [pr p,.agg (rl q)] [.oi (Re p q)]:=by
 have cc:=HU (U4 (Qv1 p q.num q.den)) QN (Qc (Qau hp hq.1 hq.2).1 (by omega)) (by decide);exact Ui func270 rfl [.k (Qnv (hq.mono (by omega))),.k (Hr tp hl (U5 hp (by omega))),.k (Qfc hl hp hq.1 hq.2 hst),.k cc] rfl
theorem Qf3{p:Uo}{g:Int}(hl:p.length<274877906944)(hp:Bd 4294967295 p)(hg:Fc g≤4294967295)(h0:g≠0)(hd:∀z∈p,z % g=0):Ul 217 [pr p,.agg (Hg g)] [pr (trim (p.map (· / g)))]:=by
 refine Fv func217 rfl ?_;refine Ug [.r 9 (eI (b:=(p.length:Int)) (by simp)),.i p.length,.i p.length,.r 12 (eI (b:=(p.length:Int)) (by simp))] rfl ?_;rw[Ah λk=>Hg (p.getD k 0 / g)];refine Uk (S:=Nat) 2 (λL1 k=>(13,.v (.oi k))::L1) (λk=>[.blk 36 (Hg g),.row false 36 2 (AG (λk=>Hg (p.getD k 0 / g)) [.bool false,.nils] p.length k)]) (λk=>p.length-k) (λk=>k<=p.length) 0 (Qh _) rfl rfl λk hk=>?_
 by_cases hlt:k<p.length
 ·have hg2:=Ry hlt;refine go tt [.t (by simp;omega),.x (Pn hg2),.k (A8 (U4 _) (U4 _) (Ft hp k) hg h0 (hd _ (Qa hg2))),.i k] rfl (by simp[U3,Ii];omega) ?_;have e:=QM (λk=>Hg (p.getD k 0 / g)) [.bool false,.nils] hlt;rw[e];exact rd (k+1) (by omega) hlt rfl
 ·obtain rfl:k=p.length:=by omega
  have e:AG (λk=>Hg (p.getD k 0 / g)) [.bool false,.nils] p.length p.length=(p.map (· / g)).map Hg:=by
   rw[QP];refine Xl λi=>?_
   by_cases hi:i<p.length
   ·simp[X2 hi,List.getD,Qf hi]
   ·simp[Qu,hi]
  rw[e];exact Uh [.f (by simp),.k (Ce (Gp (p.map (· / g))) (by simp;exact hl) (HY hp g))] rfl
theorem LL(p:Uo):∀c∈p.map Hg,c.length=2:=Qsh p λ_=>rfl
theorem MX{lx ly:Uu}{px py:Uo}{x y:LV}{d:Int}(hx:IsInts lx px)(hy:IsInts ly py)(hd:Gd x y d)(hk:Cs 4294967294 1073741824 (Crv.mk px py d)):Ul 147 [.agg [.row lx,.row ly,x,y]] [.agg (cl (Crv.norm (Crv.mk px py d)))]:=by
 have hlx:=hk.lx;have hly:=hk.ly;simp only at hlx hly;have htx:=H8 px;have hty:=H8 py;have hd1:Fc (Crv.mk px py d).d'<=4294967295:=Qc (Qii hk.d (by omega)) (by omega);have hg1:=Crv.isz_g (Crv.mk px py d) hd1;have hg0:=Crv.g_ne (Crv.mk px py d);have hgd:=Crv.g_dvd (Crv.mk px py d);have cx:=Ce hx (by omega) (U5 hk.x (by omega));have cy:=Ce hy (by omega) (U5 hk.y (by omega));have cd:=Mp hd (Qc hk.d (by omega));have bx:Bd 4294967295 (trim px):=U5 (Ty hk.x) (by omega);have by_:Bd 4294967295 (trim py):=U5 (Ty hk.y) (by omega);obtain⟨b,l,rfl,rfl,_⟩:=hd;obtain⟨e,he⟩:=nmE ((Crv.mk px py d).d');obtain⟨g,hgg⟩:=nmE ((Crv.mk px py d).g);obtain⟨X,hX⟩:=nmE (trim px);obtain⟨Y,hY⟩:=nmE (trim py);have hnorm:(Crv.mk px py d).norm=⟨trim (X.map (· / g)),trim (Y.map (· / g)),e / g⟩:=by rw[he,hgg,hX,hY];rfl
 rw[hnorm];have hgdef:g=if e<0 then -((Tc (e::(X++Y)):Nat):Int)else(Tc (e::(X++Y)):Nat):=by rw[hgg,he,hX,hY];rfl
 have hde:e=if d=0 then 1 else d:=by rw[he];rfl
 simp only[<-he,<-hgg,<-hX,<-hY]at hd1 hg1 hg0 hgd htx hty cx cy bx by_;clear hnorm hgg he hX hY;refine Fv func147 rfl ?_;refine Uf [.k cx,.k cy,.k cd,.k Di] rfl ?_;refine ct 1 (S:=Unit) (λ_=>[(2,.v (.one (.ow 1 0))),(3,.v (pr X)),(4,.v (pr Y)),(5,.v (.one (.ow 2 0)))]) (λ_=>[.blk 38 [.row lx,.row ly,.bool b,.row (lm l)],.blk 38 [.nils,.nils,.bool false,.nils],.blk 36 (Hg e)]) (λ_=>True) rfl ?_ ?_
 ·by_cases h0:d=0
  ·rw[hde,if_pos h0];exact go tt [.t (by simpa using h0),.k (BK (z:=1) (by decide))] rfl trivial (rc () trivial rfl)
  ·rw[hde,if_neg h0];exact go tt [.f (by simpa using h0)] rfl trivial (rc () trivial rfl)
 ·intro _ _;have hgi:IsInts ([Hg e]++X.map Hg++Y.map Hg) (e::(X++Y)):=by
   have:=Gp (e::(X++Y));simpa using this
  have hgs:∀z∈e::(X++Y),Fc z≤4294967295:=λz hz=>by
   rcases Ql.1 hz with rfl|hz
   ·exact hd1
   ·rcases Qp.1 hz with hz|hz
    ·exact bx z hz
    ·exact by_ z hz
  have cg:=Qet hgi hgs;have co1:=Qf3 (p:=X) (by omega) bx hg1 hg0 λz hz=>hgd z (Qg _ (Xn _ hz))
  have co2:=Qf3 (p:=Y) (by omega) by_ hg1 hg0 λz hz=>hgd z (Qg _ (Je _ hz))
  have ce:=A8 (U4 e) (U4 g) hd1 hg1 hg0 (hgd e (Qy ..));have hszg:=MP hgs;by_cases hneg:e<0
  ·rw[if_pos hneg]at hgdef;have cn:=BV (U4 ((Tc (e::(X++Y)):Nat):Int)) hszg;rw[<-hgdef]at cn;exact Uh [.lo,.s (LL X),.s (LL Y),.k cg,.t (by simpa using hneg),.k cn,.k ce,.k co1,.k co2] rfl rfl (by simp[U3];omega)
  ·rw[if_neg hneg]at hgdef;rw[<-hgdef]at cg;exact Uh [.lo,.s (LL X),.s (LL Y),.k cg,.f (by simpa using hneg),.k ce,.k co1,.k co2] rfl rfl (by simp[U3];omega)
theorem BS{k:Crv}(hn:ZC k)(hk:Cs 4294967294 1073741824 k):Ul 147 [.agg (cl k)] [.agg (cl k)]:=by
 have h:=MX (Gp k.x) (Gp k.y) (U4 k.d) hk;rw[Crv.norm_of hn]at h;exact h
theorem UV{lx ly:Uu}{px py:Uo}{x y:LV}{d:Int}(hx:IsInts lx px)(hy:IsInts ly py)(hd:Gd x y d)(hk:Cs 4294967294 1073741824 (Crv.mk px py d))(h0:d≠0):Ul 154 [.one (.row lx),.one (.row ly),.agg [x,y]] [.agg (cl (Crv.norm (Crv.mk px py d))),.oi 0]:=by
 have cd:=Mp hd (Qc hk.d (by omega));have cn:=MX hx hy hd hk;obtain⟨b,l,rfl,rfl,_⟩:=hd;exact Ui func154 rfl [.k cd,.k Di,.f (by simpa using h0),.k cn] rfl
theorem Qrv{lx ly:Uu}{px py:Uo}(hx:IsInts lx px)(hy:IsInts ly py)(hk:Cs 4294967294 1073741824 (Crv.mk px py 0)):Ul 80 [.one (.row lx),.one (.row ly)] [.agg (cl (Crv.norm (Crv.mk px py 0)))] :=
 Ui func80 rfl [.k (MX hx hy QN hk)] rfl
def O7(x y:Int):Crv:=Crv.norm ⟨trim [x],trim [y],0⟩
theorem uJ{x y:Int}(hx:-9223372036854775808<=x/\x<=9223372036854775807)(hy:-9223372036854775808<=y/\y<=9223372036854775807):Cs 64 1 ⟨trim [x],trim [y],0⟩:=by
 have key:∀z:Int,-9223372036854775808<=z/\z<=9223372036854775807->Fc z<=64:=λz hz=>by
  rw[S0];have:(2:Nat)^64=18446744073709551616:=by decide
  omega
 refine⟨Ty λz hz=>?_,Ty λz hz=>?_,Qh _,H8 [x],H8 [y]⟩
 ·rw[Qk]at hz;rw[hz];exact key x hx
 ·rw[Qk]at hz;rw[hz];exact key y hy
theorem Qnc{x y:Int}(hx:-9223372036854775808<=x/\x<=9223372036854775807)(hy:-9223372036854775808<=y/\y<=9223372036854775807):Ul 79 [.oi x,.oi y] [.agg (cl (O7 x y))] :=
 Ui func79 rfl [.k (lG (p:=[x]) (show 1<274877906944 by decide) (by intro z hz;rw[Qk]at hz;rw[hz];exact hx)),.k (lG (p:=[y]) (show 1<274877906944 by decide) (by intro z hz;rw[Qk]at hz;rw[hz];exact hy)),.k (Qrv (Gp _) (Gp _) ((uJ hx hy).mono (by omega) (by omega)))] rfl
theorem Qnl{a b:Crv}(ha:ZC a)(hb:ZC b)(ca:Cs 4294967294 1073741824 a)(cb:Cs 4294967294 1073741824 b):Ul 75 [.agg (cl a),.agg (cl b)] [.one (.bool (La a b))]:=by
 have na:=BS ha ca;have nb:=BS hb cb;have alx:=ca.lx;have aly:=ca.ly;have blx:=cb.lx;have bly:=cb.ly;have sx:=MZ (p:=a.x) (q:=b.x) (by omega) (by omega) (U5 ca.x (by omega)) (U5 cb.x (by omega));have sy:=MZ (p:=a.y) (q:=b.y) (by omega) (by omega) (U5 ca.y (by omega)) (U5 cb.y (by omega));have sd:=HU (U4 a.d) (U4 b.d) (Qc ca.d (by omega)) (Qc cb.d (by omega));rw[ha.1,hb.1]at sx;rw[ha.2.1,hb.2.1]at sy;by_cases h1:a.x=b.x
 ·by_cases h2:a.y=b.y
  ·exact Ui func75 rfl [.k na,.k nb,.k sx,.t (by simpa using h1),.k sy,.t (by simpa using h2),.k sd] rfl (by simp[La,h1,h2,jZ]) trivial
  ·exact Ui func75 rfl [.k na,.k nb,.k sx,.t (by simpa using h1),.k sy,.f (by simpa using h2)] rfl (by simp[La,h1,h2]) trivial
 ·exact Ui func75 rfl [.k na,.k nb,.k sx,.f (by simpa using h1),.f rfl] rfl (by simp[La,h1]) trivial
end Orr
