/- Ntt L1 L2 L3 L4 L5 M1 P2 M2 PolyL RatL CrvL CrowdL PredL CertL Y1 Y2 -/
import Derived.Test.YthgaepodbpcjdaaGreatPart03
import Derived.Laws.StructEq
import Derived.Test.YthgaepodbpcjdaaGreatProg
import Derived.Test.YthgaepodbpcjdaaGreatPart00
set_option linter.all false
namespace Orr
open Go Go.Proofs
theorem Qxo (d:Nat) (x y:Int) (w:World):(Op.equalIn (d+1) 3 (.int .i64 x) (.int .i64 y)).run Tryz.prog w=.ok (decide (x=y)) w:=by
 simp [Op.equalIn,Tryz.runUnderlying3];rfl
noncomputable def ti3:TI Tryz.prog:=E8 3 Tryz.isAgg3 Tryz.sizeOf3 Tryz.underlying3 Tryz.zeroValue3 Tryz.typeInfo3 8 rfl
noncomputable def ti4:TI Tryz.prog:=E8 4 Tryz.isAgg4 Tryz.sizeOf4 Tryz.underlying4 Tryz.zeroValue4 Tryz.typeInfo4 1 rfl
noncomputable def ti5:TI Tryz.prog:=E8 5 Tryz.isAgg5 Tryz.sizeOf5 Tryz.underlying5 Tryz.zeroValue5 Tryz.typeInfo5 1 rfl
noncomputable def ti9:TI Tryz.prog:=E8 9 Tryz.isAgg9 Tryz.sizeOf9 Tryz.underlying9 Tryz.zeroValue9 Tryz.typeInfo9 16 rfl
noncomputable def ti22:TI Tryz.prog:=E8 22 Tryz.isAgg22 Tryz.sizeOf22 Tryz.underlying22 Tryz.zeroValue22 Tryz.typeInfo22 8 rfl
noncomputable def ti23:TI Tryz.prog:=E8 23 Tryz.isAgg23 Tryz.sizeOf23 Tryz.underlying23 Tryz.zeroValue23 Tryz.typeInfo23 8 rfl
noncomputable def ti27:TI Tryz.prog:=E8 27 Tryz.isAgg27 Tryz.sizeOf27 Tryz.underlying27 Tryz.zeroValue27 Tryz.typeInfo27 24 rfl
noncomputable def ti28:TI Tryz.prog:=E8 28 Tryz.isAgg28 Tryz.sizeOf28 Tryz.underlying28 Tryz.zeroValue28 Tryz.typeInfo28 24 rfl
noncomputable def ti30:TI Tryz.prog:=tiS (ks:=[1,1,1,1,1]) (ag:=[false,false,false,false,false]) 30 Tryz.isAgg30 Tryz.sizeOf30 Tryz.underlying30 Tryz.zeroValue30 Tryz.typeInfo30 120 rfl ⟨Tryz.sizeOf27,Tryz.sizeOf27,Tryz.sizeOf27,Tryz.sizeOf27,Tryz.sizeOf28,trivial⟩ ⟨Tryz.isAgg27,Tryz.isAgg27,Tryz.isAgg27,Tryz.isAgg27,Tryz.isAgg28,trivial⟩ rfl
noncomputable def ti32:TI Tryz.prog:=E8 32 Tryz.isAgg32 Tryz.sizeOf32 Tryz.underlying32 Tryz.zeroValue32 Tryz.typeInfo32 24 rfl
noncomputable def ti33:TI Tryz.prog:=E8 33 Tryz.isAgg33 Tryz.sizeOf33 Tryz.underlying33 Tryz.zeroValue33 Tryz.typeInfo33 24 rfl
noncomputable def ti34:TI Tryz.prog:=E8 34 Tryz.isAgg34 Tryz.sizeOf34 Tryz.underlying34 Tryz.zeroValue34 Tryz.typeInfo34 24 rfl
noncomputable def ti36:TI Tryz.prog:=tiS (ks:=[1,1]) (ag:=[false,false]) 36 Tryz.isAgg36 Tryz.sizeOf36 Tryz.underlying36 Tryz.zeroValue36 Tryz.typeInfo36 32 rfl ⟨Tryz.sizeOf4,Tryz.sizeOf34,trivial⟩ ⟨Tryz.isAgg4,Tryz.isAgg34,trivial⟩ rfl
noncomputable def ti38:TI Tryz.prog:=tiS (ks:=[2,2]) (ag:=[true,true]) 38 Tryz.isAgg38 Tryz.sizeOf38 Tryz.underlying38 Tryz.zeroValue38 Tryz.typeInfo38 64 rfl ⟨Tryz.sizeOf36,Tryz.sizeOf36,trivial⟩ ⟨Tryz.isAgg36,Tryz.isAgg36,trivial⟩ rfl
noncomputable def ti40:TI Tryz.prog:=tiS (ks:=[1,4,4]) (ag:=[false,true,true]) 40 Tryz.isAgg40 Tryz.sizeOf40 Tryz.underlying40 Tryz.zeroValue40 Tryz.typeInfo40 152 rfl ⟨Tryz.sizeOf33,Tryz.sizeOf38,Tryz.sizeOf38,trivial⟩ ⟨Tryz.isAgg33,Tryz.isAgg38,Tryz.isAgg38,trivial⟩ rfl
noncomputable def ti44:TI Tryz.prog:=E8 44 Tryz.isAgg44 Tryz.sizeOf44 Tryz.underlying44 Tryz.zeroValue44 Tryz.typeInfo44 8 rfl
theorem Zhe:∀ x∈([(333,0,"Advance"),(70,0,"Begin"),(334,0,"Certs"),(55,0,"Clone"),(335,0,"Drop"),(336,0,"Events"),(341,0,"Go"),(35,0,"Ids"),(337,0,"Next"),(345,0,"Now"),(338,0,"Put"),(339,0,"Turn")]:List (Nat×Nat×String)),∀ b o w,(method (Tryz.prog.types.size+Made.depth) 45 (.pointer (some ⟨b,o,none⟩)) x.2.2).run Tryz.prog w=.ok (x.1,.pointer (some ⟨b,o+x.2.1,none⟩)) w:=λx hx=>by
 simp only [Ql,Yh,or_false] at hx;rcases hx with rfl | rfl | rfl | rfl | rfl | rfl | rfl | rfl | rfl | rfl | rfl | rfl
 ·exact Ul (E:=156) Tryz.typeInfo45 rfl Tryz.underlying45
 ·exact Uh (S:=156) (i:=0) Tryz.typeInfo45 rfl Tryz.underlying156 rfl Tryz.underlying154 (λ_ h=>by cases h) Tryz.sizeOf154 (by decide)
 ·exact Uh (S:=156) (i:=0) Tryz.typeInfo45 rfl Tryz.underlying156 rfl Tryz.underlying154 (λ_ h=>by cases h) Tryz.sizeOf154 (by decide)
 ·exact Ul (E:=156) Tryz.typeInfo45 rfl Tryz.underlying45
 ·exact Ul (E:=156) Tryz.typeInfo45 rfl Tryz.underlying45
 ·exact Uh (S:=156) (i:=0) Tryz.typeInfo45 rfl Tryz.underlying156 rfl Tryz.underlying154 (λ_ h=>by cases h) Tryz.sizeOf154 (by decide)
 ·exact Uh (S:=156) (i:=0) Tryz.typeInfo45 rfl Tryz.underlying156 rfl Tryz.underlying154 (λ_ h=>by cases h) Tryz.sizeOf154 (by decide)
 ·exact Ul (E:=156) Tryz.typeInfo45 rfl Tryz.underlying45
 ·exact Uh (S:=156) (i:=0) Tryz.typeInfo45 rfl Tryz.underlying156 rfl Tryz.underlying154 (λ_ h=>by cases h) Tryz.sizeOf154 (by decide)
 ·exact Uh (S:=156) (i:=0) Tryz.typeInfo45 rfl Tryz.underlying156 rfl Tryz.underlying154 (λ_ h=>by cases h) Tryz.sizeOf154 (by decide)
 ·exact Ul (E:=156) Tryz.typeInfo45 rfl Tryz.underlying45
 ·exact Ul (E:=156) Tryz.typeInfo45 rfl Tryz.underlying45
noncomputable def ti45:TI Tryz.prog:={ E8 45 Tryz.isAgg45 Tryz.sizeOf45 Tryz.underlying45 Tryz.zeroValue45 Tryz.typeInfo45 8 rfl with ms:=[(333,0,"Advance"),(70,0,"Begin"),(334,0,"Certs"),(55,0,"Clone"),(335,0,"Drop"),(336,0,"Events"),(341,0,"Go"),(35,0,"Ids"),(337,0,"Next"),(345,0,"Now"),(338,0,"Put"),(339,0,"Turn")],hms:=Zhe }
theorem Zhf:∀ x∈([(362,0,"Advance"),(70,0,"Begin"),(334,0,"Certs"),(56,0,"Clone"),(363,0,"Drop"),(336,0,"Events"),(341,0,"Go"),(337,0,"Next"),(345,0,"Now"),(364,0,"Put"),(365,0,"Turn"),(38,0,"Winner")]:List (Nat×Nat×String)),∀ b o w,(method (Tryz.prog.types.size+Made.depth) 46 (.pointer (some ⟨b,o,none⟩)) x.2.2).run Tryz.prog w=.ok (x.1,.pointer (some ⟨b,o+x.2.1,none⟩)) w:=λx hx=>by
 simp only [Ql,Yh,or_false] at hx;rcases hx with rfl | rfl | rfl | rfl | rfl | rfl | rfl | rfl | rfl | rfl | rfl | rfl
 ·exact Ul (E:=162) Tryz.typeInfo46 rfl Tryz.underlying46
 ·exact Uh (S:=162) (i:=0) Tryz.typeInfo46 rfl Tryz.underlying162 rfl Tryz.underlying154 (λ_ h=>by cases h) Tryz.sizeOf154 (by decide)
 ·exact Uh (S:=162) (i:=0) Tryz.typeInfo46 rfl Tryz.underlying162 rfl Tryz.underlying154 (λ_ h=>by cases h) Tryz.sizeOf154 (by decide)
 ·exact Ul (E:=162) Tryz.typeInfo46 rfl Tryz.underlying46
 ·exact Ul (E:=162) Tryz.typeInfo46 rfl Tryz.underlying46
 ·exact Uh (S:=162) (i:=0) Tryz.typeInfo46 rfl Tryz.underlying162 rfl Tryz.underlying154 (λ_ h=>by cases h) Tryz.sizeOf154 (by decide)
 ·exact Uh (S:=162) (i:=0) Tryz.typeInfo46 rfl Tryz.underlying162 rfl Tryz.underlying154 (λ_ h=>by cases h) Tryz.sizeOf154 (by decide)
 ·exact Uh (S:=162) (i:=0) Tryz.typeInfo46 rfl Tryz.underlying162 rfl Tryz.underlying154 (λ_ h=>by cases h) Tryz.sizeOf154 (by decide)
 ·exact Uh (S:=162) (i:=0) Tryz.typeInfo46 rfl Tryz.underlying162 rfl Tryz.underlying154 (λ_ h=>by cases h) Tryz.sizeOf154 (by decide)
 ·exact Ul (E:=162) Tryz.typeInfo46 rfl Tryz.underlying46
 ·exact Ul (E:=162) Tryz.typeInfo46 rfl Tryz.underlying46
 ·exact Ul (E:=162) Tryz.typeInfo46 rfl Tryz.underlying46
noncomputable def ti46:TI Tryz.prog:={ E8 46 Tryz.isAgg46 Tryz.sizeOf46 Tryz.underlying46 Tryz.zeroValue46 Tryz.typeInfo46 8 rfl with ms:=[(362,0,"Advance"),(70,0,"Begin"),(334,0,"Certs"),(56,0,"Clone"),(363,0,"Drop"),(336,0,"Events"),(341,0,"Go"),(337,0,"Next"),(345,0,"Now"),(364,0,"Put"),(365,0,"Turn"),(38,0,"Winner")],hms:=Zhf }
theorem Zhg:∀ x∈([(367,0,"Advance"),(70,0,"Begin"),(334,0,"Certs"),(57,0,"Clone"),(368,0,"Drop"),(336,0,"Events"),(341,0,"Go"),(36,0,"Ids"),(337,0,"Next"),(345,0,"Now"),(369,0,"Put"),(370,0,"Turn")]:List (Nat×Nat×String)),∀ b o w,(method (Tryz.prog.types.size+Made.depth) 47 (.pointer (some ⟨b,o,none⟩)) x.2.2).run Tryz.prog w=.ok (x.1,.pointer (some ⟨b,o+x.2.1,none⟩)) w:=λx hx=>by
 simp only [Ql,Yh,or_false] at hx;rcases hx with rfl | rfl | rfl | rfl | rfl | rfl | rfl | rfl | rfl | rfl | rfl | rfl
 ·exact Ul (E:=164) Tryz.typeInfo47 rfl Tryz.underlying47
 ·exact Uh (S:=164) (i:=0) Tryz.typeInfo47 rfl Tryz.underlying164 rfl Tryz.underlying154 (λ_ h=>by cases h) Tryz.sizeOf154 (by decide)
 ·exact Uh (S:=164) (i:=0) Tryz.typeInfo47 rfl Tryz.underlying164 rfl Tryz.underlying154 (λ_ h=>by cases h) Tryz.sizeOf154 (by decide)
 ·exact Ul (E:=164) Tryz.typeInfo47 rfl Tryz.underlying47
 ·exact Ul (E:=164) Tryz.typeInfo47 rfl Tryz.underlying47
 ·exact Uh (S:=164) (i:=0) Tryz.typeInfo47 rfl Tryz.underlying164 rfl Tryz.underlying154 (λ_ h=>by cases h) Tryz.sizeOf154 (by decide)
 ·exact Uh (S:=164) (i:=0) Tryz.typeInfo47 rfl Tryz.underlying164 rfl Tryz.underlying154 (λ_ h=>by cases h) Tryz.sizeOf154 (by decide)
 ·exact Ul (E:=164) Tryz.typeInfo47 rfl Tryz.underlying47
 ·exact Uh (S:=164) (i:=0) Tryz.typeInfo47 rfl Tryz.underlying164 rfl Tryz.underlying154 (λ_ h=>by cases h) Tryz.sizeOf154 (by decide)
 ·exact Uh (S:=164) (i:=0) Tryz.typeInfo47 rfl Tryz.underlying164 rfl Tryz.underlying154 (λ_ h=>by cases h) Tryz.sizeOf154 (by decide)
 ·exact Ul (E:=164) Tryz.typeInfo47 rfl Tryz.underlying47
 ·exact Ul (E:=164) Tryz.typeInfo47 rfl Tryz.underlying47
noncomputable def ti47:TI Tryz.prog:={ E8 47 Tryz.isAgg47 Tryz.sizeOf47 Tryz.underlying47 Tryz.zeroValue47 Tryz.typeInfo47 8 rfl with ms:=[(367,0,"Advance"),(70,0,"Begin"),(334,0,"Certs"),(57,0,"Clone"),(368,0,"Drop"),(336,0,"Events"),(341,0,"Go"),(36,0,"Ids"),(337,0,"Next"),(345,0,"Now"),(369,0,"Put"),(370,0,"Turn")],hms:=Zhg }
theorem Zhh:∀ x∈([(372,0,"Advance"),(70,0,"Begin"),(334,0,"Certs"),(58,0,"Clone"),(373,0,"Drop"),(336,0,"Events"),(341,0,"Go"),(39,0,"Ids"),(337,0,"Next"),(345,0,"Now"),(374,0,"Put"),(375,0,"Turn")]:List (Nat×Nat×String)),∀ b o w,(method (Tryz.prog.types.size+Made.depth) 48 (.pointer (some ⟨b,o,none⟩)) x.2.2).run Tryz.prog w=.ok (x.1,.pointer (some ⟨b,o+x.2.1,none⟩)) w:=λx hx=>by
 simp only [Ql,Yh,or_false] at hx;rcases hx with rfl | rfl | rfl | rfl | rfl | rfl | rfl | rfl | rfl | rfl | rfl | rfl
 ·exact Ul (E:=166) Tryz.typeInfo48 rfl Tryz.underlying48
 ·exact Uh (S:=166) (i:=0) Tryz.typeInfo48 rfl Tryz.underlying166 rfl Tryz.underlying154 (λ_ h=>by cases h) Tryz.sizeOf154 (by decide)
 ·exact Uh (S:=166) (i:=0) Tryz.typeInfo48 rfl Tryz.underlying166 rfl Tryz.underlying154 (λ_ h=>by cases h) Tryz.sizeOf154 (by decide)
 ·exact Ul (E:=166) Tryz.typeInfo48 rfl Tryz.underlying48
 ·exact Ul (E:=166) Tryz.typeInfo48 rfl Tryz.underlying48
 ·exact Uh (S:=166) (i:=0) Tryz.typeInfo48 rfl Tryz.underlying166 rfl Tryz.underlying154 (λ_ h=>by cases h) Tryz.sizeOf154 (by decide)
 ·exact Uh (S:=166) (i:=0) Tryz.typeInfo48 rfl Tryz.underlying166 rfl Tryz.underlying154 (λ_ h=>by cases h) Tryz.sizeOf154 (by decide)
 ·exact Ul (E:=166) Tryz.typeInfo48 rfl Tryz.underlying48
 ·exact Uh (S:=166) (i:=0) Tryz.typeInfo48 rfl Tryz.underlying166 rfl Tryz.underlying154 (λ_ h=>by cases h) Tryz.sizeOf154 (by decide)
 ·exact Uh (S:=166) (i:=0) Tryz.typeInfo48 rfl Tryz.underlying166 rfl Tryz.underlying154 (λ_ h=>by cases h) Tryz.sizeOf154 (by decide)
 ·exact Ul (E:=166) Tryz.typeInfo48 rfl Tryz.underlying48
 ·exact Ul (E:=166) Tryz.typeInfo48 rfl Tryz.underlying48
noncomputable def ti48:TI Tryz.prog:={ E8 48 Tryz.isAgg48 Tryz.sizeOf48 Tryz.underlying48 Tryz.zeroValue48 Tryz.typeInfo48 8 rfl with ms:=[(372,0,"Advance"),(70,0,"Begin"),(334,0,"Certs"),(58,0,"Clone"),(373,0,"Drop"),(336,0,"Events"),(341,0,"Go"),(39,0,"Ids"),(337,0,"Next"),(345,0,"Now"),(374,0,"Put"),(375,0,"Turn")],hms:=Zhh }
theorem Zhi:∀ x∈([(377,0,"Advance"),(70,0,"Begin"),(334,0,"Certs"),(59,0,"Clone"),(378,0,"Drop"),(336,0,"Events"),(341,0,"Go"),(337,0,"Next"),(345,0,"Now"),(379,0,"Put"),(37,0,"Triples"),(380,0,"Turn")]:List (Nat×Nat×String)),∀ b o w,(method (Tryz.prog.types.size+Made.depth) 49 (.pointer (some ⟨b,o,none⟩)) x.2.2).run Tryz.prog w=.ok (x.1,.pointer (some ⟨b,o+x.2.1,none⟩)) w:=λx hx=>by
 simp only [Ql,Yh,or_false] at hx;rcases hx with rfl | rfl | rfl | rfl | rfl | rfl | rfl | rfl | rfl | rfl | rfl | rfl
 ·exact Ul (E:=168) Tryz.typeInfo49 rfl Tryz.underlying49
 ·exact Uh (S:=168) (i:=0) Tryz.typeInfo49 rfl Tryz.underlying168 rfl Tryz.underlying154 (λ_ h=>by cases h) Tryz.sizeOf154 (by decide)
 ·exact Uh (S:=168) (i:=0) Tryz.typeInfo49 rfl Tryz.underlying168 rfl Tryz.underlying154 (λ_ h=>by cases h) Tryz.sizeOf154 (by decide)
 ·exact Ul (E:=168) Tryz.typeInfo49 rfl Tryz.underlying49
 ·exact Ul (E:=168) Tryz.typeInfo49 rfl Tryz.underlying49
 ·exact Uh (S:=168) (i:=0) Tryz.typeInfo49 rfl Tryz.underlying168 rfl Tryz.underlying154 (λ_ h=>by cases h) Tryz.sizeOf154 (by decide)
 ·exact Uh (S:=168) (i:=0) Tryz.typeInfo49 rfl Tryz.underlying168 rfl Tryz.underlying154 (λ_ h=>by cases h) Tryz.sizeOf154 (by decide)
 ·exact Uh (S:=168) (i:=0) Tryz.typeInfo49 rfl Tryz.underlying168 rfl Tryz.underlying154 (λ_ h=>by cases h) Tryz.sizeOf154 (by decide)
 ·exact Uh (S:=168) (i:=0) Tryz.typeInfo49 rfl Tryz.underlying168 rfl Tryz.underlying154 (λ_ h=>by cases h) Tryz.sizeOf154 (by decide)
 ·exact Ul (E:=168) Tryz.typeInfo49 rfl Tryz.underlying49
 ·exact Ul (E:=168) Tryz.typeInfo49 rfl Tryz.underlying49
 ·exact Ul (E:=168) Tryz.typeInfo49 rfl Tryz.underlying49
noncomputable def ti49:TI Tryz.prog:={ E8 49 Tryz.isAgg49 Tryz.sizeOf49 Tryz.underlying49 Tryz.zeroValue49 Tryz.typeInfo49 8 rfl with ms:=[(377,0,"Advance"),(70,0,"Begin"),(334,0,"Certs"),(59,0,"Clone"),(378,0,"Drop"),(336,0,"Events"),(341,0,"Go"),(337,0,"Next"),(345,0,"Now"),(379,0,"Put"),(37,0,"Triples"),(380,0,"Turn")],hms:=Zhi }
noncomputable def ti51:TI Tryz.prog:=tiS (ks:=[1,4,1,1,1,1,1]) (ag:=[false,true,false,false,false,false,false]) 51 Tryz.isAgg51 Tryz.sizeOf51 Tryz.underlying51 Tryz.zeroValue51 Tryz.typeInfo51 112 rfl ⟨Tryz.sizeOf44,Tryz.sizeOf38,Tryz.sizeOf45,Tryz.sizeOf46,Tryz.sizeOf47,Tryz.sizeOf48,Tryz.sizeOf49,trivial⟩ ⟨Tryz.isAgg44,Tryz.isAgg38,Tryz.isAgg45,Tryz.isAgg46,Tryz.isAgg47,Tryz.isAgg48,Tryz.isAgg49,trivial⟩ rfl
set_option maxRecDepth 20000 in
theorem Zbc (d:Nat) (x0 x1 x2 x3 x4 y0 y1 y2 y3 y4:Int) (w:World):(Op.equalIn (d+1+1) 53 (.agg #[.int .i64 x0,.int .i64 x1,.int .i64 x2,.int .i64 x3,.int .i64 x4]) (.agg #[.int .i64 y0,.int .i64 y1,.int .i64 y2,.int .i64 y3,.int .i64 y4])).run Tryz.prog w=.ok (decide ([x0,x1,x2,x3,x4]=[y0,y1,y2,y3,y4])) w:=by
 rw [run_equalIn_array w (d+1) _ _ (n:=5) (e:=3) rfl rfl];rw [show List.range 5=[0,1,2,3,4] from rfl,show Tryz.prog.cellsOf 3=1 from rfl];simp [Op.eqItems,Go.part,Tryz.isAgg3,Qxo];by_cases h0:x0=y0 <;> by_cases h1:x1=y1 <;> by_cases h2:x2=y2 <;> by_cases h3:x3=y3 <;> by_cases h4:x4=y4 <;> simp [h0,h1,h2,h3,h4]
theorem Zgn (a b:List Int) (ha:a.length=5) (hb:b.length=5) (w:World):(Op.equal 53 (.agg (a.map (Value.int .i64)).toArray) (.agg (b.map (Value.int .i64)).toArray)).run Tryz.prog w=.ok (decide (a=b)) w:=by
 match a,ha,b,hb with
 | [x0,x1,x2,x3,x4],_,[y0,y1,y2,y3,y4],_=>exact Zbc 9998 x0 x1 x2 x3 x4 y0 y1 y2 y3 y4 w
noncomputable def ti53:TI Tryz.prog:={ tiA 53 Tryz.isAgg53 Tryz.sizeOf53 Tryz.underlying53 Tryz.zeroValue53 Tryz.typeInfo53 40 rfl Tryz.sizeOf3 with eqn:=some 5,heq:=λk h=>by injection h with h; subst h; exact ⟨Tryz.eqGuardType53,Zgn⟩ }
noncomputable def ti55:TI Tryz.prog:=E8 55 Tryz.isAgg55 Tryz.sizeOf55 Tryz.underlying55 Tryz.zeroValue55 Tryz.typeInfo55 24 rfl
noncomputable def ti58:TI Tryz.prog:=E8 58 Tryz.isAgg58 Tryz.sizeOf58 Tryz.underlying58 Tryz.zeroValue58 Tryz.typeInfo58 24 rfl
noncomputable def ti60:TI Tryz.prog:=tiS (ks:=[1,1,2]) (ag:=[false,false,true]) 60 Tryz.isAgg60 Tryz.sizeOf60 Tryz.underlying60 Tryz.zeroValue60 Tryz.typeInfo60 80 rfl ⟨Tryz.sizeOf33,Tryz.sizeOf33,Tryz.sizeOf36,trivial⟩ ⟨Tryz.isAgg33,Tryz.isAgg33,Tryz.isAgg36,trivial⟩ rfl
noncomputable def ti62:TI Tryz.prog:=tiS (ks:=[4,1]) (ag:=[true,false]) 62 Tryz.isAgg62 Tryz.sizeOf62 Tryz.underlying62 Tryz.zeroValue62 Tryz.typeInfo62 88 rfl ⟨Tryz.sizeOf60,Tryz.sizeOf3,trivial⟩ ⟨Tryz.isAgg60,Tryz.isAgg3,trivial⟩ rfl
noncomputable def ti64:TI Tryz.prog:=tiS (ks:=[1,1,1,5,4]) (ag:=[false,false,false,true,true]) 64 Tryz.isAgg64 Tryz.sizeOf64 Tryz.underlying64 Tryz.zeroValue64 Tryz.typeInfo64 176 rfl ⟨Tryz.sizeOf3,Tryz.sizeOf3,Tryz.sizeOf3,Tryz.sizeOf62,Tryz.sizeOf38,trivial⟩ ⟨Tryz.isAgg3,Tryz.isAgg3,Tryz.isAgg3,Tryz.isAgg62,Tryz.isAgg38,trivial⟩ rfl
noncomputable def ti67:TI Tryz.prog:=tiS (ks:=[1,1,1]) (ag:=[false,false,false]) 67 Tryz.isAgg67 Tryz.sizeOf67 Tryz.underlying67 Tryz.zeroValue67 Tryz.typeInfo67 24 rfl ⟨Tryz.sizeOf22,Tryz.sizeOf65,Tryz.sizeOf3,trivial⟩ ⟨Tryz.isAgg22,Tryz.isAgg65,Tryz.isAgg3,trivial⟩ rfl
noncomputable def ti91:TI Tryz.prog:=E8 91 Tryz.isAgg91 Tryz.sizeOf91 Tryz.underlying91 Tryz.zeroValue91 Tryz.typeInfo91 4 rfl
noncomputable def ti95:TI Tryz.prog:=E8 95 Tryz.isAgg95 Tryz.sizeOf95 Tryz.underlying95 Tryz.zeroValue95 Tryz.typeInfo95 24 rfl
noncomputable def ti97:TI Tryz.prog:=tiS (ks:=[1,1]) (ag:=[false,false]) 97 Tryz.isAgg97 Tryz.sizeOf97 Tryz.underlying97 Tryz.zeroValue97 Tryz.typeInfo97 32 rfl ⟨Tryz.sizeOf95,Tryz.sizeOf4,trivial⟩ ⟨Tryz.isAgg95,Tryz.isAgg4,trivial⟩ rfl
noncomputable def ti99:TI Tryz.prog:=tiS (ks:=[2,2]) (ag:=[true,true]) 99 Tryz.isAgg99 Tryz.sizeOf99 Tryz.underlying99 Tryz.zeroValue99 Tryz.typeInfo99 64 rfl ⟨Tryz.sizeOf97,Tryz.sizeOf97,trivial⟩ ⟨Tryz.isAgg97,Tryz.isAgg97,trivial⟩ rfl
noncomputable def ti108:TI Tryz.prog:=E8 108 Tryz.isAgg108 Tryz.sizeOf108 Tryz.underlying108 Tryz.zeroValue108 Tryz.typeInfo108 24 rfl
noncomputable def ti110:TI Tryz.prog:=E8 110 Tryz.isAgg110 Tryz.sizeOf110 Tryz.underlying110 Tryz.zeroValue110 Tryz.typeInfo110 16 rfl
noncomputable def ti111:TI Tryz.prog:=tiA 111 Tryz.isAgg111 Tryz.sizeOf111 Tryz.underlying111 Tryz.zeroValue111 Tryz.typeInfo111 80 rfl Tryz.sizeOf110
noncomputable def ti114:TI Tryz.prog:=E8 114 Tryz.isAgg114 Tryz.sizeOf114 Tryz.underlying114 Tryz.zeroValue114 Tryz.typeInfo114 24 rfl
noncomputable def ti116:TI Tryz.prog:=tiS (ks:=[1,1,1]) (ag:=[false,false,false]) 116 Tryz.isAgg116 Tryz.sizeOf116 Tryz.underlying116 Tryz.zeroValue116 Tryz.typeInfo116 40 rfl ⟨Tryz.sizeOf3,Tryz.sizeOf3,Tryz.sizeOf114,trivial⟩ ⟨Tryz.isAgg3,Tryz.isAgg3,Tryz.isAgg114,trivial⟩ rfl
set_option maxRecDepth 20000 in
theorem Q4t (d:Nat) (x0 x1 x2 y0 y1 y2:Int) (w:World):(Op.equalIn (d+1+1) 139 (.agg #[.int .i64 x0,.int .i64 x1,.int .i64 x2]) (.agg #[.int .i64 y0,.int .i64 y1,.int .i64 y2])).run Tryz.prog w=.ok (decide ([x0,x1,x2]=[y0,y1,y2])) w:=by
 rw [run_equalIn_array w (d+1) _ _ (n:=3) (e:=3) rfl rfl];rw [show List.range 3=[0,1,2] from rfl,show Tryz.prog.cellsOf 3=1 from rfl];simp [Op.eqItems,Go.part,Tryz.isAgg3,Qxo];by_cases h0:x0=y0 <;> by_cases h1:x1=y1 <;> by_cases h2:x2=y2 <;> simp [h0,h1,h2]
theorem Qne (a b:List Int) (ha:a.length=3) (hb:b.length=3) (w:World):(Op.equal 139 (.agg (a.map (Value.int .i64)).toArray) (.agg (b.map (Value.int .i64)).toArray)).run Tryz.prog w=.ok (decide (a=b)) w:=by
 match a,ha,b,hb with
 | [x0,x1,x2],_,[y0,y1,y2],_=>exact Q4t 9998 x0 x1 x2 y0 y1 y2 w
noncomputable def ti139:TI Tryz.prog:={ tiA 139 Tryz.isAgg139 Tryz.sizeOf139 Tryz.underlying139 Tryz.zeroValue139 Tryz.typeInfo139 24 rfl Tryz.sizeOf3 with eqn:=some 3,heq:=λk h=>by injection h with h; subst h; exact ⟨Tryz.eqGuardType139,Qne⟩ }
set_option maxRecDepth 20000 in
theorem Q4u (d:Nat) (x0 x1 x2 x3 y0 y1 y2 y3:Int) (w:World):(Op.equalIn (d+1+1) 140 (.agg #[.int .i64 x0,.int .i64 x1,.int .i64 x2,.int .i64 x3]) (.agg #[.int .i64 y0,.int .i64 y1,.int .i64 y2,.int .i64 y3])).run Tryz.prog w=.ok (decide ([x0,x1,x2,x3]=[y0,y1,y2,y3])) w:=by
 rw [run_equalIn_array w (d+1) _ _ (n:=4) (e:=3) rfl rfl];rw [show List.range 4=[0,1,2,3] from rfl,show Tryz.prog.cellsOf 3=1 from rfl];simp [Op.eqItems,Go.part,Tryz.isAgg3,Qxo];by_cases h0:x0=y0 <;> by_cases h1:x1=y1 <;> by_cases h2:x2=y2 <;> by_cases h3:x3=y3 <;> simp [h0,h1,h2,h3]
noncomputable def ti140:TI Tryz.prog:=tiA 140 Tryz.isAgg140 Tryz.sizeOf140 Tryz.underlying140 Tryz.zeroValue140 Tryz.typeInfo140 32 rfl Tryz.sizeOf3
set_option maxRecDepth 20000 in
theorem Q4v (d:Nat) (x x0 x1 x2 x3 y y0 y1 y2 y3:Int) (w:World):(Op.equalIn (d+1+1+1) 142 (.agg #[.int .i64 x,.int .i64 x0,.int .i64 x1,.int .i64 x2,.int .i64 x3]) (.agg #[.int .i64 y,.int .i64 y0,.int .i64 y1,.int .i64 y2,.int .i64 y3])).run Tryz.prog w=.ok (decide ([x,x0,x1,x2,x3]=[y,y0,y1,y2,y3])) w:=by
 rw [run_equalIn_struct w (d+1+1) 142 _ _ rfl Tryz.stoodInHeld142];have hf:(Tryz.prog.fieldsOf 142).toList=[{ name := "Kind",type:=3,offset:=0,embedded:=false,tag := "",pkgPath := "",byteOffset:=0 },{ name := "Ids",type:=140,offset:=1,embedded:=false,tag := "",pkgPath := "",byteOffset:=8 }]:=by simp [Program.fieldsOf,Tryz.underlying142]
 rw [hf];simp [Op.eqFields,Go.part,Tryz.isAgg3,Tryz.isAgg140,Tryz.sizeOf140,Tryz.sizeOf3,Qxo,Q4u];by_cases h:x=y <;> by_cases h0:x0=y0 <;> by_cases h1:x1=y1 <;> by_cases h2:x2=y2 <;> by_cases h3:x3=y3 <;> simp [h,h0,h1,h2,h3]
theorem Zbb (a b:List Int) (ha:a.length=5) (hb:b.length=5) (w:World):(Op.equal 142 (.agg (a.map (Value.int .i64)).toArray) (.agg (b.map (Value.int .i64)).toArray)).run Tryz.prog w=.ok (decide (a=b)) w:=by
 match a,ha,b,hb with
 | [x,x0,x1,x2,x3],_,[y,y0,y1,y2,y3],_=>exact Q4v 9997 x x0 x1 x2 x3 y y0 y1 y2 y3 w
noncomputable def ti142:TI Tryz.prog:={ tiS (ks:=[1,4]) (ag:=[false,true]) 142 Tryz.isAgg142 Tryz.sizeOf142 Tryz.underlying142 Tryz.zeroValue142 Tryz.typeInfo142 40 rfl ⟨Tryz.sizeOf3,Tryz.sizeOf140,trivial⟩ ⟨Tryz.isAgg3,Tryz.isAgg140,trivial⟩ rfl with eqn:=some 5,heq:=λk h=>by injection h with h; subst h; exact ⟨Tryz.eqGuardType142,Zbb⟩ }
noncomputable def ti144:TI Tryz.prog:=tiS (ks:=[5,1,1]) (ag:=[true,false,false]) 144 Tryz.isAgg144 Tryz.sizeOf144 Tryz.underlying144 Tryz.zeroValue144 Tryz.typeInfo144 72 rfl ⟨Tryz.sizeOf142,Tryz.sizeOf33,Tryz.sizeOf3,trivial⟩ ⟨Tryz.isAgg142,Tryz.isAgg33,Tryz.isAgg3,trivial⟩ rfl
noncomputable def ti149:TI Tryz.prog:=tiS (ks:=[1]) (ag:=[false]) 149 Tryz.isAgg149 Tryz.sizeOf149 Tryz.underlying149 Tryz.zeroValue149 Tryz.typeInfo149 24 rfl ⟨Tryz.sizeOf114,trivial⟩ ⟨Tryz.isAgg114,trivial⟩ rfl
noncomputable def ti152:TI Tryz.prog:=E8 152 Tryz.isAgg152 Tryz.sizeOf152 Tryz.underlying152 Tryz.zeroValue152 Tryz.typeInfo152 24 rfl
noncomputable def ti154:TI Tryz.prog:=tiS (ks:=[1,9,1,1]) (ag:=[false,true,false,false]) 154 Tryz.isAgg154 Tryz.sizeOf154 Tryz.underlying154 Tryz.zeroValue154 Tryz.typeInfo154 192 rfl ⟨Tryz.sizeOf4,Tryz.sizeOf40,Tryz.sizeOf152,Tryz.sizeOf3,trivial⟩ ⟨Tryz.isAgg4,Tryz.isAgg40,Tryz.isAgg152,Tryz.isAgg3,trivial⟩ rfl
noncomputable def ti156:TI Tryz.prog:=tiS (ks:=[12,1,1]) (ag:=[true,true,false]) 156 Tryz.isAgg156 Tryz.sizeOf156 Tryz.underlying156 Tryz.zeroValue156 Tryz.typeInfo156 240 rfl ⟨Tryz.sizeOf154,Tryz.sizeOf149,Tryz.sizeOf114,trivial⟩ ⟨Tryz.isAgg154,Tryz.isAgg149,Tryz.isAgg114,trivial⟩ rfl
noncomputable def ti160:TI Tryz.prog:=E8 160 Tryz.isAgg160 Tryz.sizeOf160 Tryz.underlying160 Tryz.zeroValue160 Tryz.typeInfo160 24 rfl
noncomputable def ti162:TI Tryz.prog:=tiS (ks:=[12,1,1,1]) (ag:=[true,true,false,false]) 162 Tryz.isAgg162 Tryz.sizeOf162 Tryz.underlying162 Tryz.zeroValue162 Tryz.typeInfo162 264 rfl ⟨Tryz.sizeOf154,Tryz.sizeOf149,Tryz.sizeOf114,Tryz.sizeOf160,trivial⟩ ⟨Tryz.isAgg154,Tryz.isAgg149,Tryz.isAgg114,Tryz.isAgg160,trivial⟩ rfl
noncomputable def ti164:TI Tryz.prog:=tiS (ks:=[12,1,1]) (ag:=[true,true,false]) 164 Tryz.isAgg164 Tryz.sizeOf164 Tryz.underlying164 Tryz.zeroValue164 Tryz.typeInfo164 240 rfl ⟨Tryz.sizeOf154,Tryz.sizeOf149,Tryz.sizeOf114,trivial⟩ ⟨Tryz.isAgg154,Tryz.isAgg149,Tryz.isAgg114,trivial⟩ rfl
noncomputable def ti166:TI Tryz.prog:=tiS (ks:=[12,1,1]) (ag:=[true,true,false]) 166 Tryz.isAgg166 Tryz.sizeOf166 Tryz.underlying166 Tryz.zeroValue166 Tryz.typeInfo166 240 rfl ⟨Tryz.sizeOf154,Tryz.sizeOf149,Tryz.sizeOf114,trivial⟩ ⟨Tryz.isAgg154,Tryz.isAgg149,Tryz.isAgg114,trivial⟩ rfl
noncomputable def ti168:TI Tryz.prog:=tiS (ks:=[12,1,1]) (ag:=[true,true,false]) 168 Tryz.isAgg168 Tryz.sizeOf168 Tryz.underlying168 Tryz.zeroValue168 Tryz.typeInfo168 240 rfl ⟨Tryz.sizeOf154,Tryz.sizeOf149,Tryz.sizeOf28,trivial⟩ ⟨Tryz.isAgg154,Tryz.isAgg149,Tryz.isAgg28,trivial⟩ rfl
noncomputable def ti179:TI Tryz.prog:=E8 179 Tryz.isAgg179 Tryz.sizeOf179 Tryz.underlying179 Tryz.zeroValue179 Tryz.typeInfo179 24 rfl
noncomputable def ti181:TI Tryz.prog:=E8 181 Tryz.isAgg181 Tryz.sizeOf181 Tryz.underlying181 Tryz.zeroValue181 Tryz.typeInfo181 24 rfl
noncomputable def ti183:TI Tryz.prog:=E8 183 Tryz.isAgg183 Tryz.sizeOf183 Tryz.underlying183 Tryz.zeroValue183 Tryz.typeInfo183 24 rfl
noncomputable def ti184:TI Tryz.prog:=E8 184 Tryz.isAgg184 Tryz.sizeOf184 Tryz.underlying184 Tryz.zeroValue184 Tryz.typeInfo184 24 rfl
noncomputable def ti186:TI Tryz.prog:=tiS (ks:=[1,1,4,4]) (ag:=[false,false,true,true]) 186 Tryz.isAgg186 Tryz.sizeOf186 Tryz.underlying186 Tryz.zeroValue186 Tryz.typeInfo186 176 rfl ⟨Tryz.sizeOf183,Tryz.sizeOf184,Tryz.sizeOf99,Tryz.sizeOf99,trivial⟩ ⟨Tryz.isAgg183,Tryz.isAgg184,Tryz.isAgg99,Tryz.isAgg99,trivial⟩ rfl
noncomputable def ti187:TI Tryz.prog:=E8 187 Tryz.isAgg187 Tryz.sizeOf187 Tryz.underlying187 Tryz.zeroValue187 Tryz.typeInfo187 24 rfl
noncomputable def ti188:TI Tryz.prog:=E8 188 Tryz.isAgg188 Tryz.sizeOf188 Tryz.underlying188 Tryz.zeroValue188 Tryz.typeInfo188 24 rfl
noncomputable def ti190:TI Tryz.prog:=tiS (ks:=[10,1,1,1]) (ag:=[true,false,false,false]) 190 Tryz.isAgg190 Tryz.sizeOf190 Tryz.underlying190 Tryz.zeroValue190 Tryz.typeInfo190 232 rfl ⟨Tryz.sizeOf186,Tryz.sizeOf187,Tryz.sizeOf3,Tryz.sizeOf188,trivial⟩ ⟨Tryz.isAgg186,Tryz.isAgg187,Tryz.isAgg3,Tryz.isAgg188,trivial⟩ rfl
noncomputable def ti191:TI Tryz.prog:=tiA 191 Tryz.isAgg191 Tryz.sizeOf191 Tryz.underlying191 Tryz.zeroValue191 Tryz.typeInfo191 1160 rfl Tryz.sizeOf190
noncomputable def ti193:TI Tryz.prog:=tiS (ks:=[1,1,1,4,65]) (ag:=[false,false,false,true,true]) 193 Tryz.isAgg193 Tryz.sizeOf193 Tryz.underlying193 Tryz.zeroValue193 Tryz.typeInfo193 1264 rfl ⟨Tryz.sizeOf3,Tryz.sizeOf3,Tryz.sizeOf181,Tryz.sizeOf99,Tryz.sizeOf191,trivial⟩ ⟨Tryz.isAgg3,Tryz.isAgg3,Tryz.isAgg181,Tryz.isAgg99,Tryz.isAgg191,trivial⟩ rfl
noncomputable def ti209:TI Tryz.prog:=E8 209 Tryz.isAgg209 Tryz.sizeOf209 Tryz.underlying209 Tryz.zeroValue209 Tryz.typeInfo209 8 rfl
noncomputable def ti210:TI Tryz.prog:=E8 210 Tryz.isAgg210 Tryz.sizeOf210 Tryz.underlying210 Tryz.zeroValue210 Tryz.typeInfo210 8 rfl
noncomputable def ti217:TI Tryz.prog:=tiA 217 Tryz.isAgg217 Tryz.sizeOf217 Tryz.underlying217 Tryz.zeroValue217 Tryz.typeInfo217 176 rfl Tryz.sizeOf62
theorem Q0l (em:Bool) (n:Nat) (v:Int) (w:World):(Instr.checkKey em (n+1) 3 (.int .i64 v)).run Tryz.prog w=.ok () w:=by
 rw [Instr.checkKey];simp [Tryz.runUnderlying3]
theorem Qm0 (em:Bool) (n:Nat) (a b c:Int) (w:World):(Instr.checkKey em (n+1+1) 139 (.agg #[.int .i64 a,.int .i64 b,.int .i64 c])).run Tryz.prog w=.ok () w:=by
 rw [Instr.checkKey];simp [Tryz.runUnderlying139];rw [show List.range' 0 3=[0,1,2] from rfl];simp [Go.part,Tryz.isAgg3,Tryz.sizeOf3,Q0l]
theorem Qc0 (em:Bool) (ks:List Int) (hk:ks.length=3) (w:World):(Instr.checkKey em 10000 139 (Dt ks)).run Tryz.prog w=.ok () w:=by
 match ks,hk with
 | [a,b,c],_=>exact Qm0 em 9998 a b c w
theorem Q55:MapT Tryz.prog 224 139 3 (.int .i64 0):=⟨Tryz.runUnderlying224,⟨_,Tryz.runUnderlying139,λ_ _=>rfl⟩,Qc0,λx y hx hy w=>Qne x y hx hy w,Tryz.zeroValue3,rfl⟩
noncomputable def ti224:TI Tryz.prog:={ E8 224 Tryz.isAgg224 Tryz.sizeOf224 Tryz.underlying224 Tryz.zeroValue224 Tryz.typeInfo224 8 rfl with md:=some (.int .i64 0),hmd:=λd h=>by injection h with h; subst h; exact ⟨139,3,Q55⟩ }
theorem Q56:MapT Tryz.prog 225 139 4 (.bool false):=⟨Tryz.runUnderlying225,⟨_,Tryz.runUnderlying139,λ_ _=>rfl⟩,Qc0,λx y hx hy w=>Qne x y hx hy w,Tryz.zeroValue4,rfl⟩
noncomputable def ti225:TI Tryz.prog:={ E8 225 Tryz.isAgg225 Tryz.sizeOf225 Tryz.underlying225 Tryz.zeroValue225 Tryz.typeInfo225 8 rfl with md:=some (.bool false),hmd:=λd h=>by injection h with h; subst h; exact ⟨139,4,Q56⟩ }
noncomputable def ti266:TI Tryz.prog:=tiS (ks:=[7,1,1,9]) (ag:=[true,false,false,true]) 266 Tryz.isAgg266 Tryz.sizeOf266 Tryz.underlying266 Tryz.zeroValue266 Tryz.typeInfo266 232 rfl ⟨Tryz.sizeOf144,Tryz.sizeOf4,Tryz.sizeOf4,Tryz.sizeOf40,trivial⟩ ⟨Tryz.isAgg144,Tryz.isAgg4,Tryz.isAgg4,Tryz.isAgg40,trivial⟩ rfl
noncomputable def ti284:TI Tryz.prog:=E8 284 Tryz.isAgg284 Tryz.sizeOf284 Tryz.underlying284 Tryz.zeroValue284 Tryz.typeInfo284 24 rfl
noncomputable def ti289:TI Tryz.prog:=tiS (ks:=[5,1,1,1,1]) (ag:=[true,false,false,false,false]) 289 Tryz.isAgg289 Tryz.sizeOf289 Tryz.underlying289 Tryz.zeroValue289 Tryz.typeInfo289 104 rfl ⟨Tryz.sizeOf142,Tryz.sizeOf183,Tryz.sizeOf3,Tryz.sizeOf188,Tryz.sizeOf4,trivial⟩ ⟨Tryz.isAgg142,Tryz.isAgg183,Tryz.isAgg3,Tryz.isAgg188,Tryz.isAgg4,trivial⟩ rfl
noncomputable def ti305:TI Tryz.prog:=tiA 305 Tryz.isAgg305 Tryz.sizeOf305 Tryz.underlying305 Tryz.zeroValue305 Tryz.typeInfo305 72 rfl Tryz.sizeOf32
noncomputable def ti317:TI Tryz.prog:=E8 317 Tryz.isAgg317 Tryz.sizeOf317 Tryz.underlying317 Tryz.zeroValue317 Tryz.typeInfo317 24 rfl
noncomputable def ti321:TI Tryz.prog:=tiS (ks:=[1]) (ag:=[false]) 321 Tryz.isAgg321 Tryz.sizeOf321 Tryz.underlying321 Tryz.zeroValue321 Tryz.typeInfo321 24 rfl ⟨Tryz.sizeOf284,trivial⟩ ⟨Tryz.isAgg284,trivial⟩ rfl
noncomputable def ti337:TI Tryz.prog:=tiS (ks:=[1,1,4]) (ag:=[false,false,true]) 337 Tryz.isAgg337 Tryz.sizeOf337 Tryz.underlying337 Tryz.zeroValue337 Tryz.typeInfo337 128 rfl ⟨Tryz.sizeOf183,Tryz.sizeOf183,Tryz.sizeOf60,trivial⟩ ⟨Tryz.isAgg183,Tryz.isAgg183,Tryz.isAgg60,trivial⟩ rfl
noncomputable def ti339:TI Tryz.prog:=tiS (ks:=[6,1]) (ag:=[true,false]) 339 Tryz.isAgg339 Tryz.sizeOf339 Tryz.underlying339 Tryz.zeroValue339 Tryz.typeInfo339 136 rfl ⟨Tryz.sizeOf337,Tryz.sizeOf3,trivial⟩ ⟨Tryz.isAgg337,Tryz.isAgg3,trivial⟩ rfl
noncomputable def ti341:TI Tryz.prog:=E8 341 Tryz.isAgg341 Tryz.sizeOf341 Tryz.underlying341 Tryz.zeroValue341 Tryz.typeInfo341 24 rfl
noncomputable def ti345:TI Tryz.prog:=tiA 345 Tryz.isAgg345 Tryz.sizeOf345 Tryz.underlying345 Tryz.zeroValue345 Tryz.typeInfo345 272 rfl Tryz.sizeOf339
noncomputable def ti364:TI Tryz.prog:=E8 364 Tryz.isAgg364 Tryz.sizeOf364 Tryz.underlying364 Tryz.zeroValue364 Tryz.typeInfo364 24 rfl
noncomputable def ti365:TI Tryz.prog:=E8 365 Tryz.isAgg365 Tryz.sizeOf365 Tryz.underlying365 Tryz.zeroValue365 Tryz.typeInfo365 24 rfl
noncomputable def tt:TT Tryz.prog:=(.nd (.nd (.nd (.nd (.nd (.nd (.nd .nil ti3 .nil) ti4 .nil) ti5 (.nd .nil ti9 .nil)) ti22 (.nd (.nd (.nd .nil ti23 .nil) ti27 .nil) ti28 (.nd .nil ti30 .nil))) ti32 (.nd (.nd (.nd (.nd .nil ti33 .nil) ti34 .nil) ti36 (.nd .nil ti38 .nil)) ti40 (.nd (.nd (.nd .nil ti44 .nil) ti45 .nil) ti46 (.nd .nil ti47 .nil)))) ti48 (.nd (.nd (.nd (.nd (.nd .nil ti49 .nil) ti51 .nil) ti53 (.nd .nil ti55 .nil)) ti58 (.nd (.nd (.nd .nil ti60 .nil) ti62 .nil) ti64 (.nd .nil ti67 .nil))) ti91 (.nd (.nd (.nd (.nd .nil ti95 .nil) ti97 .nil) ti99 (.nd .nil ti108 .nil)) ti110 (.nd (.nd (.nd .nil ti111 .nil) ti114 .nil) ti116 (.nd .nil ti139 .nil))))) ti140 (.nd (.nd (.nd (.nd (.nd (.nd .nil ti142 .nil) ti144 .nil) ti149 (.nd .nil ti152 .nil)) ti154 (.nd (.nd (.nd .nil ti156 .nil) ti160 .nil) ti162 (.nd .nil ti164 .nil))) ti166 (.nd (.nd (.nd (.nd .nil ti168 .nil) ti179 .nil) ti181 (.nd .nil ti183 .nil)) ti184 (.nd (.nd (.nd .nil ti186 .nil) ti187 .nil) ti188 (.nd .nil ti190 .nil)))) ti191 (.nd (.nd (.nd (.nd (.nd .nil ti193 .nil) ti209 .nil) ti210 (.nd .nil ti217 .nil)) ti224 (.nd (.nd (.nd .nil ti225 .nil) ti266 .nil) ti284 (.nd .nil ti289 .nil))) ti305 (.nd (.nd (.nd (.nd .nil ti317 .nil) ti321 .nil) ti337 (.nd .nil ti339 .nil)) ti341 (.nd (.nd .nil ti345 .nil) ti364 (.nd .nil ti365 .nil))))))
instance:Mo Tryz.prog:=⟨rfl⟩
end Orr
namespace Orr
open Go Go.Proofs
set_option maxRecDepth 10000
def lm (l:List Nat):List (List LV):=l.map λ(x:Nat)=>[.int .u32 (x:Int)]
abbrev lr (l:List Nat):TV:=.one (.row (lm l))
theorem Wz (l:List Nat):(lm l).length=l.length:=by simp [lm]
theorem Fg {l:List Nat} {i x:Nat} (h:l[i]? = some x):(lm l)[i]? = some [.int .u32 (x:Int)]:=by simp [lm,h]
def trm:List Nat->List Nat
 | []=>[]
 |
  x::l=>match trm l with
  | []=>if x=0 then [] else [x]
  | r=>x::r
theorem Zda {l:List Nat}:trm l=[]↔∀ x∈l,x=0:=by
 induction l with
 | nil=>simp [trm]
 |
  cons x l ih =>
  simp only [trm]
  split
  ·rename_i e;have h1:=ih.1 e;by_cases h:x=0
   ·simp [h]; exact h1
   ·simp [h]
  ·rename_i r hne;simp only [reduceCtorEq,Ql,forall_eq_or_imp,false_iff,not_and];exact λ_ h=>hne (ih.2 h)
theorem Qdt:∀ {l:List Nat} {n:Nat},n<=l.length->(∀ j,n<=j->j<l.length->l[j]? = some 0)->(n=0\/∃ x,l[n-1]? = some x/\x≠0)->l.take n=trm l
 | [],n,h,_,_=>by simp at h; subst h; rfl
 |
  x::l,0,h,hz,_=>by
  rw [Yv];refine (Zda.2 λy hy=>?_).symm;obtain ⟨j,hj⟩:=Zl.1 hy;have:=hz j (Qi _) (Qg.1 hj).1;rw [hj] at this; injection this
 |
  x::l,n+1,h,hz,ht=>by
  simp only [Q6,Nat.add_le_add_iff_right] at h;have hz':∀ j,n<=j->j<l.length->l[j]? = some 0:=λj h1 h2=>by simpa using hz (j+1) (by omega) (by simpa using h2)
  cases n with
  |
   zero =>
   have e:trm l=[]:=(Qdt (n:=0) h hz' (.inl rfl)).symm;rcases ht with h | ⟨y,h1,h2⟩
   ·omega
   ·simp at h1; subst h1; simp [trm,e,h2]
  |
   succ n =>
   have ih:=Qdt (n:=n+1) h hz' (.inr (by rcases ht with h | ⟨y,h1,h2⟩; (· omega); exact ⟨y,by simpa using h1,h2⟩));simp only [Vu,trm];rw [<-ih];cases hl:l with
   | nil=>rw [hl] at h; simp at h
   | cons y l'=>simp [Vu]
theorem Zkr (l:List Nat):W0 Tryz.prog 164 [lr l] [lr (trm l)]:=by
 refine U4 Tryz.func164 rfl (ln 0 rfl rfl λhl=>?_);rw [Wz] at hl;refine go tt [] rfl trivial ?_;refine lp (S:=Nat) 0 (λL1 n=>(3,.v (.one (.int .i64 (n:Int))))::L1) (λ_=>[]) id (λn=>n<=l.length/\∀ j,n<=j->j<l.length->l[j]? = some 0) (lm l).length ⟨by rw [Wz]; exact Qm _,λj h1 h2=>by rw [Wz] at h1; omega⟩ rfl (λ_ _=>rfl) rfl λn ⟨h1,h2⟩=>?_
 cases n with
 | zero=>exact en tt [.f (by simp),.f rfl,.i 0] rfl (by rw [<-Qdt h1 h2 (.inl rfl)]; simp [lm]) (by simp [Wv,Gd])
 |
  succ n =>
  obtain ⟨x,hx⟩:=gxE (l:=l) (i:=n) (by omega);by_cases h0:x=0
  ·refine go tt [.t (by simp),.r 11 (v:=.one (.int .i64 (n:Int))) (by simp),.x (Fg hx),.t (by simp [h0]),.r 17 (v:=.one (.int .i64 (n:Int))) (by simp)] rfl (by simp [Wv,Gd]; omega) ?_;exact rd n (by simp) ⟨by omega,λj h3 h4=>by
    rcases V4 h3 with rfl | h3
    ·rw [hx,h0]
    ·exact h2 j h3 h4⟩ rfl
  ·exact en tt [.t (by simp),.r 11 (v:=.one (.int .i64 (n:Int))) (by simp),.x (Fg hx),.f (by simp [h0]),.i (n+1)] rfl (by rw [<-Qdt h1 h2 (.inr ⟨x,hx,h0⟩)]; simp [lm]) (by simp [Wv,Gd,Wz] <;> omega)
def Sm (l:List Nat):Prop:=∀ x∈l,x<4294967296
theorem Qor:∀ l:List Nat,Cut l (trm l).length/\l.take (trm l).length=trm l
 | []=>⟨⟨Qm _,λj _ h=>by simp at h,λh=>by simp [trm] at h⟩,rfl⟩
 |
  x::l=>by
  obtain ⟨⟨h1,h2,h3⟩,h4⟩:=Qor l;simp only [trm]
  split
  ·rename_i e;rw [e] at h2 h3;by_cases h:x=0
   ·rw [if_pos h];refine ⟨⟨Qi _,λj _ hj=>?_,λh=>by simp at h⟩,rfl⟩;cases j with
    | zero=>simp [h]
    | succ j=>simpa using h2 j (Qi _) (by simpa using hj)
   ·rw [if_neg h];refine ⟨⟨by simp,λj h5 hj=>?_,λ_=>⟨x,rfl,h⟩⟩,rfl⟩;cases j with
    | zero=>simp at h5
    | succ j=>simpa using h2 j (Qi _) (by simpa using hj)
  ·rename_i r hne;refine ⟨⟨by simp [h1],λj h5 hj=>?_,λ_=>?_⟩,by simp [h4]⟩
   ·cases j with
    | zero=>simp at h5
    | succ j=>simpa using h2 j (by simpa using h5) (by simpa using hj)
   ·have hp:0<(trm l).length:=by
     cases e:trm l with
     | nil=>exact absurd e hne
     | cons=>simp
    obtain ⟨y,h5,h6⟩:=h3 hp;refine ⟨y,?_,h6⟩;rw [Q6,show (trm l).length+1-1=((trm l).length-1)+1 from by omega];simpa using h5
theorem Qme {l:List Nat} (h:Sm l):trm l=Uo (val l):=by
 obtain ⟨h1,h2⟩:=Qor l;refine Q50 ?_ ?_
 ·rw [<-h2]; exact Za1 h1 h
 ·rw [<-h2]; exact Za2 h1
theorem Bv (x:Nat):Sm (Uo x):=(Ni x).1
theorem Hi {x k:Nat} (h:sz x<=k):32*(Uo x).length<=k+31:=by
 have:=Zb1 (Ni x);rw [Fb] at this; omega
theorem Qax {l:List Nat} (h:Sm l):W0 Tryz.prog 164 [lr l] [lr (Uo (val l))]:=Qme h ▸ Zkr l
theorem Q51 (l:List Nat):∀ c∈lm l,c.length=1:=λc hc=>by
 obtain ⟨x,_,rfl⟩:=Ze.1 hc; rfl
theorem Qba {l:List Nat} (h:Sm l) (hs:sz (val l)<=4294967296):W0 Tryz.prog 103 [lr l] [lr (Uo (val l))] :=
 w tt Tryz.func103 rfl [.c [] (Qax h),.s (Q51 (Uo (val l)))] rfl rfl (by have:=Hi hs; simp [Wv,Gd,Wz]; omega)
theorem Qee {a:List Nat} (ha:Sm a):∃ p,W0 Tryz.prog 164 [lr a] [lr p]/\Nrm p/\val p=val a/\p.length<=a.length/\p=Uo (val a) :=
 ⟨_,Qax ha,Ni _,Fb _,by rw [<-Qme ha]; exact (Qor a).1.1,rfl⟩
theorem Q2m {a b:List Nat} (ha:Sm a) (hb:Sm b):W0 Tryz.prog 162 [lr a,lr b] [.one (.int .i64 (Qeb (val a) (val b)))]:=by
 refine U4 Tryz.func162 rfl (ln 0 rfl rfl λhl=>ln 1 rfl rfl λhl'=>?_);rw [Wz] at hl hl';obtain ⟨p,ca,np,vp,lp',_⟩:=Qee ha;obtain ⟨q,cb,nq,vq,lq,_⟩:=Qee hb;rw [<-vp,<-vq];by_cases h:p.length=q.length
 ·refine go tt [.c [] ca,.c [] cb,.f (by simp [Wz,h])] rfl (by simp [Wv,Gd,Wz] <;> omega) ?_;refine lp (S:=Int) 0 (λL1 i=>(5,.v (.one (.int .i64 i)))::L1) (λ_=>[]) (λi=>(i+1).toNat) (λi=>-1<=i/\i<p.length/\p.drop (i+1).toNat=q.drop (i+1).toNat) (((lm p).length:Int)-1) ⟨by omega,by simp [Wz]; omega,by simp [Wz,h]⟩ rfl (λ_ _=>rfl) rfl λi ⟨h1,h2,h3⟩=>?_
  rcases Wc i 0 with hi | hi
  ·obtain rfl:i=-1:=by omega
   exact en tt [.f (by decide)] rfl (by rw [Zaw]; exact congrArg val (by simpa using h3)) trivial
  ·obtain ⟨k,rfl⟩:=V5 hi;have e:((k:Int)+1).toNat=k+1:=by omega
   rw [e] at h3;obtain ⟨x,hx⟩:=gxE (l:=p) (i:=k) (by omega);obtain ⟨y,hy⟩:=gxE (l:=q) (i:=k) (by omega);rcases V7 x y with hxy | rfl | hxy
   ·exact en tt [.t (by simp),.x (Fg hx),.x (Fg hy),.t (by simp; omega)] rfl (by rw [Qw9 (Qzt np.1 h3 hx hy hxy)]) (by simp [Wv,Gd,Wz] <;> omega)
   ·refine go tt [.t (by simp),.x (Fg hx),.x (Fg hy),.f (by simp),.x (Fg hx),.x (Fg hy),.f (by simp)] rfl (by simp [Wv,Gd,Wz] <;> omega) ?_;exact rd ((k:Int)-1) (by omega) ⟨by omega,by omega,by rw [show ((k:Int)-1+1).toNat=k from by omega]; exact Q0p h3 hx hy⟩ rfl
   ·exact en tt [.t (by simp),.x (Fg hx),.x (Fg hy),.f (by simp; omega),.x (Fg hx),.x (Fg hy),.t (by simp; omega)] rfl (by rw [Qw8 (Qzt nq.1 h3.symm hy hx hxy)]) (by simp [Wv,Gd,Wz] <;> omega)
 ·by_cases h2:p.length<q.length
  ·exact en tt [.c [] ca,.c [] cb,.t (by simp [Wz]; omega),.t (by simp [Wz]; omega)] rfl (by rw [Qw9 (Nw np nq h2)]) (by simp [Wv,Gd])
  ·exact en tt [.c [] ca,.c [] cb,.t (by simp [Wz]; omega),.f (by simp [Wz]; omega)] rfl (by rw [Qw8 (Nw nq np (by omega))]) (by simp [Wv,Gd])
theorem Qbz (m:Nat):List.replicate m [LV.int .u32 0]=lm (List.replicate m 0):=by simp [lm]
theorem Mi (l:List Nat) (i x:Nat):(lm l).set i [.int .u32 (x:Int)]=lm (l.set i x):=by simp [lm,Ko]
theorem Nq {a b:Int} (h:a=b):TV.one (LV.int .u64 a)=.one (.int .u64 b):=h ▸ rfl
theorem Dl {a b:Int} (h:a=b):TV.one (LV.int .u32 a)=.one (.int .u32 b):=h ▸ rfl
theorem eI {a b:Int} (h:a=b):TV.one (LV.int .i64 a)=.one (.int .i64 b):=h ▸ rfl
theorem w32 (z:Int):IntKind.u32.wrap z=z % 4294967296:=by simp [IntKind.wrap,IntKind.bits,IntKind.signed]
theorem w64 (z:Int):IntKind.u64.wrap z=z % 18446744073709551616:=by simp [IntKind.wrap,IntKind.bits,IntKind.signed]
theorem Zdz {a b:List Nat} (ha:Sm a) (hb:Sm b) (h1:sz (val a)<=4294967296) (h2:sz (val b)<=4294967296):W0 Tryz.prog 224 [lr a,lr b] [lr (Uo (val a+val b))]:=by
 refine U4 Tryz.func224 rfl ?_;obtain ⟨p,ca,np,vp,_,ep⟩:=Qee ha;obtain ⟨q,cb,nq,vq,_,eq⟩:=Qee hb;have lp':=Hi h1;have lq:=Hi h2;rw [<-ep] at lp';rw [<-eq] at lq;rw [<-vp,<-vq];refine go tt [.c [] ca,.c [] cb] rfl trivial ?_;refine ct 1 (S:=List Nat×List Nat) (λs=>[(0,.v (lr s.1)),(1,.v (lr s.2))]) (λ_=>[]) (λs=>Nrm s.1/\Nrm s.2/\32*s.1.length<=4294967327/\s.2.length<=s.1.length/\val s.1+val s.2=val p+val q) rfl ?_ ?_
 ·by_cases h:p.length<q.length
  ·exact go tt [.t (by simp [Wz]; omega)] rfl trivial (rc (q,p) ⟨nq,np,lq,J4 h,Jj _ _⟩ rfl)
  ·exact go tt [.f (by simp [Wz]; omega)] rfl trivial (rc (p,q) ⟨np,nq,lp',Js h,rfl⟩ rfl)
 ·intro ⟨p',q'⟩ ⟨np,nq,hp,hq,e⟩;dsimp only at np nq hp hq e;rw [<-e];clear ca cb e vp vq ep eq;refine go tt [.i ((lm p').length+1),.i ((lm p').length+1)] rfl (by simp [Wv,Gd,Wz] <;> omega) ?_;rw [Qbz];refine lp (S:=Nat×List Nat×Nat) 1 (λL1 s=>(27,.v (.one (.int .i64 (s.1:Int))))::(6,.v (.one (.int .u64 (s.2.2:Int))))::L1) (λs=>[.row false 91 1 (lm s.2.1)]) (λs=>p'.length-s.1)
   (λs=>s.1<=p'.length/\s.2.1.length=p'.length+1/\Sm s.2.1/\s.2.2<=1/\val (s.2.1.take s.1)+s.2.2*4294967296^s.1=val (p'.take s.1)+val (q'.take s.1)) (0,List.replicate ((lm p').length+1) 0,0)
   ⟨Qi _,by simp [Wz],λx hx=>by rw [Z1 hx]; decide,Qi _,by simp [val]⟩ rfl (λ_ _=>rfl) rfl λ⟨i,o,c⟩ ⟨j1,j2,j3,j4,j5⟩=>?_
  dsimp only at j1 j2 j3 j4 j5 ⊢;by_cases hi:i<p'.length
  ·obtain ⟨x,hx⟩:=gxE (l:=p') (i:=i) hi;have xb:=np.1 x (Qa hx);have fin:∀ y s,(q'[i]? = some y\/q'.length<=i/\y=0)->y<4294967296->s=x+c+y->p'.length-(i+1)<p'.length-i/\i+1<=p'.length/\(o.set i (s % 4294967296)).length=p'.length+1/\Sm (o.set i (s % 4294967296))/\s / 4294967296<=1 /\
    val ((o.set i (s % 4294967296)).take (i+1))+s / 4294967296*4294967296^(i+1)=val (p'.take (i+1))+val (q'.take (i+1)):=λy s hy hyb hs =>
    ⟨by omega,hi,by simp [j2],Po j3 i _ (by omega),by omega,Qo7 (by omega) hx hy j5 hs⟩
   by_cases hi2:i<q'.length
   ·obtain ⟨y,hy⟩:=gxE (l:=q') (i:=i) hi2;have yb:=nq.1 y (Qa hy);refine go tt [.t (by simp [Wz]; omega),.x (Fg hx),.t (by simp [Wz]; omega),.x (Fg hy),.w 2,.r 50 (v:=.one (.int .u32 (((x+c+y) % 4294967296:Nat):Int))) (by simp [IntKind.wrap,IntKind.bits,IntKind.signed]),.i 32,.r 52 (v:=.one (.int .u64 (((x+c+y) / 4294967296:Nat):Int))) (by simp),.i i] rfl (by simp [Wv,Gd,Wz,IntKind.bits] <;> omega) ?_;rw [Mi];exact rd (i+1,o.set i ((x+c+y) % 4294967296),(x+c+y) / 4294967296) (fin y _ (.inl hy) yb rfl).1 (fin y _ (.inl hy) yb rfl).2 rfl
   ·refine go tt [.t (by simp [Wz]; omega),.x (Fg hx),.f (by simp [Wz]; omega),.w 0,.r 50 (v:=.one (.int .u32 (((x+c+0) % 4294967296:Nat):Int))) (by simp [IntKind.wrap,IntKind.bits,IntKind.signed]),.i 32,.r 52 (v:=.one (.int .u64 (((x+c+0) / 4294967296:Nat):Int))) (by simp),.i i] rfl (by simp [Wv,Gd,Wz,IntKind.bits] <;> omega) ?_;rw [Mi];exact rd (i+1,o.set i ((x+c+0) % 4294967296),(x+c+0) / 4294967296) (fin 0 _ (.inr ⟨by omega,rfl⟩) (by decide) rfl).1 (fin 0 _ (.inr ⟨by omega,rfl⟩) (by decide) rfl).2 rfl
  ·obtain rfl:i=p'.length:=by omega
   refine go tt [.f (by simp [Wz]),.w 0,.r 59 (v:=.one (.int .u32 (c:Int))) (by simp [IntKind.wrap,IntKind.bits,IntKind.signed]; omega),.i (lm p').length] rfl (by simp [Wv,Gd,Wz,j2]) ?_;rw [Wz,Mi];have e:val (o.set p'.length c)=val p'+val q':=by
    have h1:=A1 o p'.length c (by omega);rw [Qr (by simp; omega)] at h1;rw [Qr (Qm _),Qr hq] at j5;rw [h1,<-j5,Zp]
   rw [<-e];exact en tt [.c [] (Qax (Po j3 _ c (by omega)))] rfl rfl trivial
theorem Qpw {x y:Nat}:Qeb x y<0↔x<y:=by unfold Qeb; split <;> (try split) <;> omega
theorem Zd3 {a b:List Nat} (ha:Sm a) (hb:Sm b) (h1:sz (val a)<=4294967296):W0 Tryz.prog 225 [lr a,lr b] (if val b<=val a then [lr (Uo (val a-val b)),.one (.bool true)] else [lr [],.one (.bool false)]):=by
 refine U4 Tryz.func225 rfl ?_;obtain ⟨p,ca,np,vp,_,ep⟩:=Qee ha;obtain ⟨q,cb,nq,vq,_,_⟩:=Qee hb;have hp:=Hi h1;rw [<-ep] at hp;rw [<-vp,<-vq];have cc:=Q2m np.1 nq.1;by_cases hlt:val p<val q
 ·rw [if_neg (by omega)];exact en tt [.c [] ca,.c [] cb,.c [] cc,.t (by simpa using Qpw.2 hlt)] rfl rfl trivial
 rw [if_pos (by omega)];have hq:q.length<=p.length:=Js λh=>hlt (Nw np nq h)
 refine go tt [.c [] ca,.c [] cb,.c [] cc,.f (by have:=mt Qpw.1 hlt; simpa using this),.i (lm p).length,.i (lm p).length] rfl (by simp [Wv,Gd,Wz] <;> omega) ?_;rw [Qbz];refine lp (S:=Nat×List Nat×Nat) 1 (λL1 s=>(24,.v (.one (.int .i64 (s.1:Int))))::(7,.v (.one (.int .u64 (s.2.2:Int))))::L1) (λs=>[.row false 91 1 (lm s.2.1)]) (λs=>p.length-s.1)
  (λs=>s.1<=p.length/\s.2.1.length=p.length/\Sm s.2.1/\s.2.2<=1/\val (s.2.1.take s.1)+val (q.take s.1)=val (p.take s.1)+s.2.2*4294967296^s.1) (0,List.replicate (lm p).length 0,0)
  ⟨Qi _,by simp [Wz],λx hx=>by rw [Z1 hx]; decide,Qi _,by simp [val]⟩ rfl (λ_ _=>rfl) rfl λ⟨i,o,c⟩ ⟨j1,j2,j3,j4,j5⟩=>?_
 dsimp only at j1 j2 j3 j4 j5 ⊢;by_cases hi:i<p.length
 ·obtain ⟨x,hx⟩:=gxE (l:=p) (i:=i) hi;have xb:=np.1 x (Qa hx);have fin:∀ y s,(q[i]? = some y\/q.length<=i/\y=0)->y<4294967296->s=(x+18446744073709551616-c-y) % 18446744073709551616->p.length-(i+1)<p.length-i/\i+1<=p.length/\(o.set i (s % 4294967296)).length=p.length/\Sm (o.set i (s % 4294967296))/\s / 9223372036854775808<=1 /\
   val ((o.set i (s % 4294967296)).take (i+1))+val (q.take (i+1))=val (p.take (i+1))+s / 9223372036854775808*4294967296^(i+1):=λy s hy hyb hs=>by
   obtain ⟨h1,h2⟩:=Q78 (o:=o) (by omega) hx hy xb hyb j4 j5 hs;exact ⟨by omega,hi,by simp [j2],Po j3 i _ (by omega),h2,h1⟩
  by_cases hi2:i<q.length
  ·obtain ⟨y,hy⟩:=gxE (l:=q) (i:=i) hi2;have yb:=nq.1 y (Qa hy);obtain ⟨s,hs⟩:=nmE ((x+18446744073709551616-c-y) % 18446744073709551616);refine go tt [.t (by simp [Wz]; omega),.x (Fg hx),.w 1,.r 32 (Nq (b:=(((x+18446744073709551616-c) % 18446744073709551616:Nat):Int)) (by rw [w64]; omega)),.t (by simp [Wz]; omega),.x (Fg hy),.w 1,.r 43 (Nq (b:=(s:Int)) (by rw [w64]; omega)),.w 0,.r 47 (Dl (b:=((s % 4294967296:Nat):Int)) (by rw [w32]; omega)),.i 63,.r 49 (Nq (b:=((s / 9223372036854775808:Nat):Int)) (by simp)),.i i] rfl (by simp [Wv,Gd,Wz,IntKind.bits] <;> omega) ?_;rw [Mi];exact rd (i+1,o.set i (s % 4294967296),s / 9223372036854775808) (fin y _ (.inl hy) yb hs).1 (fin y _ (.inl hy) yb hs).2 rfl
  ·obtain ⟨s,hs⟩:=nmE ((x+18446744073709551616-c-0) % 18446744073709551616);have hf:=fin 0 _ (.inr ⟨by omega,rfl⟩) (by decide) hs;refine go tt [.t (by simp [Wz]; omega),.x (Fg hx),.w 1,.r 32 (Nq (b:=(s:Int)) (by rw [w64]; omega)),.f (by simp [Wz]; omega),.w 0,.r 47 (Dl (b:=((s % 4294967296:Nat):Int)) (by rw [w32]; omega)),.i 63,.r 49 (Nq (b:=((s / 9223372036854775808:Nat):Int)) (by simp)),.i i] rfl (by simp [Wv,Gd,Wz,IntKind.bits] <;> omega) ?_;rw [Mi];exact rd (i+1,o.set i (s % 4294967296),s / 9223372036854775808) hf.1 hf.2 rfl
 ·obtain rfl:i=p.length:=by omega
  have e:val o=val p-val q:=by
   rw [Qr (Nat.le_of_eq j2),Qr hq,Qr (Qm _)] at j5;have h1:=Nm o j3;rw [j2] at h1;rcases Nat.le_one_iff_eq_zero_or_eq_one.1 j4 with rfl | rfl <;> omega
  rw [<-e];exact en tt [.f (by simp [Wz]),.c [] (Qax j3)] rfl rfl trivial
theorem Zi9 {a b:List Nat} (ha:Sm a) (hb:Sm b) (h1:sz (val a)<=4294967296) (h2:sz (val b)<=4294967296):W0 Tryz.prog 205 [lr a,lr b] [lr (Uo (val a*val b))]:=by
 refine U4 Tryz.func205 rfl ?_;obtain ⟨p,ca,np,vp,_,ep⟩:=Qee ha;obtain ⟨q,cb,nq,vq,_,eq⟩:=Qee hb;have hp:=Hi h1;have hq:=Hi h2;rw [<-ep] at hp;rw [<-eq] at hq;rw [<-vp,<-vq];refine go tt [.c [] ca,.c [] cb,.i ((lm p).length+(lm q).length),.i ((lm p).length+(lm q).length)] rfl (by simp [Wv,Gd,Wz] <;> omega) ?_;rw [Qbz];refine lp (S:=Nat×List Nat) 1 (λL1 s=>(24,.v (.one (.int .i64 (s.1:Int))))::L1) (λs=>[.row false 91 1 (lm s.2)]) (λs=>p.length-s.1)
  (λs=>s.1<=p.length/\s.2.length=p.length+q.length/\Sm s.2/\(∀ j,s.1+q.length<=j->j<s.2.length->s.2[j]? = some 0)/\val s.2=val (p.take s.1)*val q) (0,List.replicate ((lm p).length+(lm q).length) 0)
  ⟨Qi _,by simp [Wz],λx hx=>by rw [Z1 hx]; decide,λj _ hj=>by rw [Jl,if_pos (by simpa using hj)],by simp [val,Qfg]⟩ rfl (λ_ _=>rfl) rfl λ⟨i,o⟩ ⟨j1,j2,j3,j4,j5⟩=>?_
 dsimp only at j1 j2 j3 j4 j5 ⊢;by_cases hi:i<p.length
 ·obtain ⟨x,hx⟩:=gxE (l:=p) (i:=i) hi;have xb:=np.1 x (Qa hx);refine go tt [.t (by simp [Wz]; omega),.x (Fg hx)] rfl trivial ?_;refine lp (S:=Nat×List Nat×Nat) 1 (λL1 s=>(31,.v (.one (.int .i64 (s.1:Int))))::(8,.v (.one (.int .u64 (s.2.2:Int))))::L1) (λs=>[.row false 91 1 (lm s.2.1)]) (λs=>q.length-s.1)
   (λs=>s.1<=q.length/\s.2.1.length=p.length+q.length/\Sm s.2.1/\(∀ j,i+q.length<=j->j<s.2.1.length->s.2.1[j]? = some 0)/\s.2.2<4294967296/\val s.2.1+s.2.2*4294967296^(i+s.1)=val (p.take i)*val q+4294967296^i*x*val (q.take s.1)) (0,o,0)
   ⟨Qi _,j2,j3,j4,by simp,by simp [val,j5]⟩ rfl (λ_ _=>rfl) rfl λ⟨k,o',c⟩ ⟨k1,k2,k3,k4,k5,k6⟩=>?_
  dsimp only at k1 k2 k3 k4 k5 k6 ⊢;by_cases hk:k<q.length
  ·obtain ⟨y,hy⟩:=gxE (l:=q) (i:=k) hk;have yb:=nq.1 y (Qa hy);obtain ⟨z,hz⟩:=gxE (l:=o') (i:=i+k) (by omega);have zb:=k3 z (Qa hz);have hm:=I2 xb yb;have hm2:(x:Int)*(y:Int)=((x*y:Nat):Int):=by push_cast; rfl
   obtain ⟨s,hs⟩:=nmE (x*y+z+c);refine go tt [.t (by simp [Wz]; omega),.x (Fg hy),.r 40 (Nq (b:=((x*y:Nat):Int)) (by push_cast; rfl)),.i (i+k),.x (Fg hz),.r 50 (Nq (b:=(s:Int)) (by omega)),.w 1,.r 56 (Dl (b:=((s % 4294967296:Nat):Int)) (by rw [w32]; omega)),.i 32,.r 58 (Nq (b:=((s / 4294967296:Nat):Int)) (by simp)),.i (i+k)] rfl ?_ ?_
   ·simp [Wv,Gd,Wz,IntKind.bits] <;> omega
   ·rw [Mi];exact rd (k+1,o'.set (i+k) (s % 4294967296),s / 4294967296) (show q.length-(k+1)<q.length-k by omega) ⟨hk,by simp [k2],Po k3 _ _ (by omega),λj h3 h4=>by
     rw [Vm (by omega)]; exact k4 j h3 (by simpa using h4),(show s / 4294967296<4294967296 from by omega),Q6d hz hy k6 hs⟩ rfl
  ·obtain rfl:k=q.length:=by omega
   by_cases hq0:0<q.length
   ·refine go tt [.f (by simp [Wz]),.t (by simp [Wz]; omega),.w 1,.r 70 (Dl (b:=((c % 4294967296:Nat):Int)) (by rw [w32]; omega)),.i (i+(lm q).length)] rfl (by simp [Wv,Gd,Wz,IntKind.bits] <;> omega) ?_;rw [Mi];refine rd (i+1,o'.set (i+(lm q).length) (c % 4294967296)) (show p.length-(i+1)<p.length-i by omega) ⟨hi,by simp [k2],Po k3 _ _ (by omega),λj h3 h4=>?_,?_⟩ rfl
    ·rw [Wz,List.getElem?_set_ne (by dsimp only at h3; omega)];exact k4 j (by dsimp only at h3; omega) (by simpa using h4)
    ·rw [Wz];exact Q6c (k4 _ (Qm _) (by omega)) hx k5 rfl k6
   ·have q0:q=[]:=Qh (by omega);refine go tt [.f (by simp [Wz]),.f (by simp [Wz,q0])] rfl (by simp [Wv,Gd,Wz,IntKind.bits] <;> omega) ?_;refine rd (i+1,o') (show p.length-(i+1)<p.length-i by omega) ⟨hi,k2,k3,λj h3 h4=>k4 j (by dsimp only at h3; omega) h4,?_⟩ rfl;have c0:c*4294967296^(i+q.length)=0/\val o'=0:=by
     subst q0;simp only [val,List.take_nil,Y3] at k6;omega
    rw [c0.2,q0]; rfl
 ·obtain rfl:i=p.length:=by omega
  rw [Qr (Qm _)] at j5;rw [<-j5];exact en tt [.f (by simp [Wz]),.c [] (Qax j3)] rfl rfl trivial
theorem o64 {k q:Nat} (hq:q<4294967296) (hb:4294967296*k+q<18446744073709551616):orI .u64 ((4294967296*k:Nat):Int) (q:Int)=((4294967296*k+q:Nat):Int):=by
 have e1:(BitVec.ofInt 64 ((4294967296*k:Nat):Int)).toNat=4294967296*k:=by rw [BitVec.toNat_ofInt]; omega
 have e2:(BitVec.ofInt 64 (q:Int)).toNat=q:=by rw [BitVec.toNat_ofInt]; omega
 show IntKind.u64.wrap ((BitVec.ofInt 64 ((4294967296*k:Nat):Int) ||| BitVec.ofInt 64 (q:Int)).toNat:Int)=_;rw [BitVec.toNat_or,e1,e2,Zho hq,w64]; omega
theorem oM {k p:Nat} (hp:p<4294967296) (hb:4294967296*k+p<18446744073709551616):orI .u64 (p:Int) ((4294967296*k:Nat):Int)=((4294967296*k+p:Nat):Int):=by
 have:=o64 hp hb;unfold orI at this ⊢;rw [BitVec.or_comm]; exact this
theorem o32 {s k p:Nat} (hp:p<2^s) (h1:p<4294967296) (h2:2^s*k<4294967296) (hb:p+2^s*k<4294967296):orI .u32 (p:Int) ((2^s*k:Nat):Int)=((p+2^s*k:Nat):Int):=by
 have e1:(BitVec.ofInt 32 ((2^s*k:Nat):Int)).toNat=2^s*k:=by rw [BitVec.toNat_ofInt]; omega
 have e2:(BitVec.ofInt 32 (p:Int)).toNat=p:=by rw [BitVec.toNat_ofInt]; omega
 have e3:p ||| 2^s*k=p+2^s*k:=by
  have:=K6 (i:=s) (b:=p) hp k;rw [Nat.or_comm,<-this,Jj]
 show IntKind.u32.wrap ((BitVec.ofInt 32 (p:Int) ||| BitVec.ofInt 32 ((2^s*k:Nat):Int)).toNat:Int)=_;rw [BitVec.toNat_or,e1,e2,e3,w32]; omega
theorem Zjl {l:List Nat} {v:Nat} (hl:Sm l) (hn:l.length<274877906944) (h0:0<v) (hv:v<4294967296):W0 Tryz.prog 219 [lr l,.one (.int .u32 (v:Int))] [lr (Uo (val l / v)),.one (.int .u32 ((val l % v:Nat):Int))]:=by
 refine U4 Tryz.func219 rfl ?_;refine go tt [.i (lm l).length,.i (lm l).length] rfl (by simp [Wv,Gd,Wz] <;> omega) ?_;rw [Qbz];refine lp (S:=Int×List Nat×Nat) 1 (λL1 s=>(8,.v (.one (.int .i64 s.1)))::(7,.v (.one (.int .u64 (s.2.2:Int))))::L1) (λs=>[.row false 91 1 (lm s.2.1)]) (λs=>(s.1+1).toNat)
  (λs=>-1<=s.1/\s.1<l.length/\s.2.1.length=l.length/\Sm s.2.1/\s.2.2<v/\val (l.drop (s.1+1).toNat)=v*val (s.2.1.drop (s.1+1).toNat)+s.2.2) (((lm l).length:Int)-1,List.replicate (lm l).length 0,0)
  ⟨by simp [Wz]; omega,by simp [Wz]; omega,by simp [Wz],λx hx=>by rw [Z1 hx]; decide,h0,by simp [Wz,val]⟩ rfl (λ_ _=>rfl) rfl λ⟨i,o,r⟩ ⟨j1,j2,j3,j4,j5,j6⟩=>?_
 dsimp only at j1 j2 j3 j4 j5 j6 ⊢;rcases Wc i 0 with hi | hi
 ·obtain rfl:i=-1:=by omega
  simp only [show ((-1:Int)+1).toNat=0 from rfl,Yg] at j6;have e1:val l / v=val o:=by rw [j6,Wm h0,Vp j5,Xu]
  have e2:val l % v=r:=by rw [j6,Wn,Xn j5]
  rw [e1,e2];exact en tt [.f (by decide),.c [] (Qax j4)] rfl rfl (by simp [Wv,Gd,Wz,IntKind.bits] <;> omega)
 ·obtain ⟨k,rfl⟩:=V5 hi;have e:((k:Int)+1).toNat=k+1:=by omega
  rw [e] at j6;obtain ⟨x,hx⟩:=gxE (l:=l) (i:=k) (by omega);have xb:=hl x (Qa hx);obtain ⟨s,hs⟩:=nmE (r*4294967296+x);obtain ⟨k1,k2,k3⟩:=Q6n hx xb (show k<o.length by omega) h0 j5 j6 hs;obtain ⟨q,hq⟩:=nmE (s / v);obtain ⟨u,hu⟩:=nmE (s % v);have hqi:(s:Int).tdiv v=(q:Int):=by rw [Vr (by omega),hq]; rfl
  have hui:(s:Int).tmod v=(u:Int):=by rw [Vs (by omega),hu]; rfl
  rw [<-hq,<-hu] at k3;rw [<-hq] at k1;rw [<-hu] at k2;refine go tt [.t (by simp),.i 32,.r 21 (Nq (b:=((4294967296*r:Nat):Int)) (by omega)),.x (Fg hx),.r 27 (Nq (b:=(s:Int)) (by rw [o64 xb (by omega)]; omega)),
   .r 33 (Nq (b:=(q:Int)) hqi),.w 0,.r 34 (Dl (b:=((q % 4294967296:Nat):Int)) (by rw [w32]; omega)),.r 38 (Nq (b:=(u:Int)) hui),.i k] rfl (by simp [Wv,Gd,Wz,IntKind.bits,hqi] <;> omega) ?_
  rw [Mi];exact rd ((k:Int)-1,o.set k (q % 4294967296),u) (by dsimp only; omega) ⟨by dsimp only; omega,by dsimp only; omega,by simp [j3],Po j4 _ _ (by omega),k2,by dsimp only; rw [show ((k:Int)-1+1).toNat=k from by omega]; exact k3⟩ rfl
theorem Qce {i:Nat} {s:ByteArray} (h:∀ i,i<256->(s[i]?).map (·.toNat)=some (sz i)) (hi:i<256):(s[i]?).map (·.toNat)=some (sz i):=h i hi
set_option maxRecDepth 100000 in
theorem Qwn {x:Nat} (hx:x<4294967296):W0 Tryz.prog 245 [.one (.int .u32 (x:Int))] [.one (.int .i64 (sz x:Int))]:=by
 refine U4 Tryz.func245 rfl ?_;have h31:sz x<=32:=M8.2 (by omega);by_cases h1:65536<=x
 ·have e1:sz x=16+sz (x / 2^16):=Qdp (by omega);obtain ⟨y,hy⟩:=nmE (x / 2^16);rw [<-hy] at e1;by_cases h2:256<=y
  ·have e2:sz y=8+sz (y / 2^8):=Qdp (by omega);obtain ⟨z,hz⟩:=nmE (y / 2^8);rw [<-hz] at e2;exact en tt [.t (by simp; omega),.i 16,.r 6 (Dl (b:=(y:Int)) (by simp [hy])),.t (by simp; omega),.i 8,.r 10 (Dl (b:=(z:Int)) (by simp [hz])),.y (Qce (i:=z) (by decide) (by omega))] rfl (by rw [e1,e2]; simp; omega) (by simp [Wv,Gd,IntKind.bits] <;> omega)
  ·exact en tt [.t (by simp; omega),.i 16,.r 6 (Dl (b:=(y:Int)) (by simp [hy])),.f (by simp; omega),.y (Qce (i:=y) (by decide) (by omega))] rfl (by rw [e1]; simp) (by simp [Wv,Gd,IntKind.bits] <;> omega)
 ·by_cases h2:256<=x
  ·have e2:sz x=8+sz (x / 2^8):=Qdp (by omega);obtain ⟨z,hz⟩:=nmE (x / 2^8);rw [<-hz] at e2;exact en tt [.f (by simp; omega),.t (by simp; omega),.i 8,.r 10 (Dl (b:=(z:Int)) (by simp [hz])),.y (Qce (i:=z) (by decide) (by omega))] rfl (by rw [e2]; simp) (by simp [Wv,Gd,IntKind.bits] <;> omega)
  ·exact en tt [.f (by simp; omega),.f (by simp; omega),.y (Qce (i:=x) (by decide) (by omega))] rfl (by simp) (by simp [Wv,Gd,IntKind.bits] <;> omega)
theorem Zfs {x:Nat} (hx:x<4294967296):W0 Tryz.prog 220 [.one (.int .u32 (x:Int))] [.one (.int .i64 ((32-sz x:Nat):Int))]:=by
 have h31:sz x<=32:=M8.2 (by omega);exact w tt Tryz.func220 rfl [.c [] (Qwn hx)] rfl (by simp; omega) (by simp [Wv,Gd] <;> omega)
theorem Qts {l:List Nat} (hl:Sm l) (hs:sz (val l)<=4294967296):W0 Tryz.prog 206 [lr l] [.one (.int .i64 (sz (val l):Int))]:=by
 refine U4 Tryz.func206 rfl ?_;obtain ⟨p,ca,np,vp,_,ep⟩:=Qee hl;have hp:=Hi hs;rw [<-ep] at hp;rw [<-vp] at hs ⊢;by_cases h0:p=[]
 ·subst h0;exact en tt [.c [] ca,.t (by simp [lm])] rfl rfl (by simp [Wv,Gd])
 ·have hpl:0<p.length:=Jq.2 h0;obtain ⟨x,hx,hx0⟩:=np.2 h0;have xb:=np.1 x (Qa hx);have e:=Qv2 np hx;have h31:sz x<=32:=M8.2 (by omega);have hn:(lm p).length≠0:=by rw [Wz]; omega
  refine en tt [.c [] ca,.f (by simp [Wz]; omega),.r 15 (eI (b:=((p.length-1:Nat):Int)) (by rw [Wz]; omega)),.x (Fg hx),.c [] (Qwn xb)] rfl (by rw [e,Wz]; simp; omega) (by simp [Wv,Gd,Wz] <;> omega)
theorem Qr6 {s:Nat} (h:s<=31):((s:Nat):Int).tdiv 32=((0:Nat):Int):=by
 rw [Vr (by omega)]; omega
theorem Q7d {s:Nat} (h:s<=31):((s:Nat):Int).tmod 32=(s:Int):=Int.tmod_eq_of_lt (by omega) (by omega)
theorem Zhd {s:Nat} (h:s<=31):max 0 (min (s:Int) 65536)=(s:Int):=by omega
theorem Zjd {a:List Nat} {s:Nat} (ha:Sm a) (h1:sz (val a)<=4294967400) (hs:s<=31):W0 Tryz.prog 253 [lr a,.one (.int .i64 (s:Int))] [lr (Uo (val a*2^s))]:=by
 refine U4 Tryz.func253 rfl ?_;obtain ⟨p,ca,np,vp,_,ep⟩:=Qee ha;have hp:=Hi h1;rw [<-ep] at hp;rw [<-vp];have hq:((s:Nat):Int).tdiv 32=0:=Qr6 hs;by_cases h0:p=[]
 ·subst h0;exact en tt [.c [] ca,.t (by simp [lm])] rfl (by simp [val,Ff,lm]) (by simp [Wv,Gd])
 have hpl:0<p.length:=Jq.2 h0;refine go tt [.c [] ca,.r 15 (eI (b:=(s:Int)) (Zhd hs)),.f (by simp [Wz]; omega),.r 20 (eI (b:=((0:Nat):Int)) (Qr6 hs)),.r 22 (eI (b:=(s:Int)) (Q7d hs)),.r 28 (eI (b:=(((lm p).length+1:Nat):Int)) (by omega)),.i ((lm p).length+1),.i ((lm p).length+1)] rfl (by have e:=Wz p; simp only [Wv,Gd]; omega) ?_;rw [Qbz];refine lp (S:=Nat×List Nat) 1 (λL1 s=>(32,.v (.one (.int .i64 (s.1:Int))))::L1) (λs=>[.row false 91 1 (lm s.2)]) (λs=>p.length-s.1)
  (λr=>r.1<=p.length/\r.2.length=p.length+1/\Sm r.2/\(∃ z,r.2[r.1]? = some z/\z<2^s)/\val (r.2.take (r.1+1))=val (p.take r.1)*2^s) (0,List.replicate ((lm p).length+1) 0)
  ⟨Qi _,by simp [Wz],λx hx=>by rw [Z1 hx]; decide,⟨0,by simp,Zy (by decide)⟩,by simp [val,Yd]⟩ rfl (λ_ _=>rfl) rfl λ⟨i,o⟩ ⟨j1,j2,j3,⟨z,hz,hzs⟩,j5⟩=>?_
 dsimp only at j1 j2 j3 hz hzs j5 ⊢;by_cases hi:i<p.length
 ·obtain ⟨x,hx⟩:=gxE (l:=p) (i:=i) hi;have xb:=np.1 x (Qa hx);have zb:=j3 z (Qa hz);obtain ⟨k1,k2,k3,k4⟩:=Q7w hs hx xb hz hzs (by omega) j5;have hxs:=Zh0 hs xb;have h31:2^s<=2^31:=Zs (by decide) hs;have ec:(x:Int)*2^s=((x*2^s:Nat):Int):=by push_cast; rfl
  obtain ⟨m,hm⟩:=nmE (x*2^s);rw [<-hm] at k1 k2 k3 k4 hxs ec;refine go tt [.t (by simp [Wz]; omega),.x (Fg hx),.i s,.r 40 (Nq (b:=(m:Int)) ec),.i i,.x (Fg hz),.w 0,.r 52 (Dl (b:=((m % 4294967296:Nat):Int)) (by rw [w32]; omega)),.r 53 (Dl (b:=((z+m % 4294967296:Nat):Int)) (by rw [k4,o32 hzs zb (by omega) (by omega)])),.i i,
   .i 32,.r 61 (Nq (b:=((m / 2^32:Nat):Int)) (by simp)),.w 0,.r 62 (Dl (b:=((m / 2^32 % 4294967296:Nat):Int)) (by rw [w32]; omega)),.i (i+1)] rfl (by simp [Wv,Gd,Wz,IntKind.bits,ec] <;> omega) ?_
  rw [Mi,Mi];exact rd (i+1,(o.set i (z+m % 4294967296)).set (i+1) (m / 2^32 % 4294967296)) (show p.length-(i+1)<p.length-i by omega) ⟨hi,by simp [j2],Po (Po j3 _ _ (by omega)) _ _ (by omega),⟨_,by rw [X3 (by simp; omega)],by omega⟩,k3⟩ rfl
 ·obtain rfl:i=p.length:=by omega
  rw [Qr (by omega),Qr (Qm _)] at j5;rw [<-j5];exact en tt [.f (by simp [Wz]),.c [] (Qax j3)] rfl rfl trivial
theorem Zje {a:List Nat} {s:Nat} (ha:Sm a) (h1:sz (val a)<=4294967400) (hs:s<=31):W0 Tryz.prog 223 [lr a,.one (.int .i64 (s:Int))] [lr (Uo (val a / 2^s))]:=by
 refine U4 Tryz.func223 rfl ?_;obtain ⟨p,ca,np,vp,_,ep⟩:=Qee ha;have hp:=Hi h1;rw [<-ep] at hp;rw [<-vp];have hq:((s:Nat):Int).tdiv 32=0:=Qr6 hs;by_cases h0:p=[]
 ·subst h0;exact en tt [.c [] ca,.r 14 (eI (b:=(s:Int)) (Zhd hs)),.r 16 (eI (b:=((0:Nat):Int)) (Qr6 hs)),.r 18 (eI (b:=(s:Int)) (Q7d hs)),.t (by simp [lm])] rfl (by simp [val,Ff,lm]) (by simp only [Wv,Gd]; omega)
 have hpl:0<p.length:=Jq.2 h0;refine go tt [.c [] ca,.r 14 (eI (b:=(s:Int)) (Zhd hs)),.r 16 (eI (b:=((0:Nat):Int)) (Qr6 hs)),.r 18 (eI (b:=(s:Int)) (Q7d hs)),.f (by simp [Wz]; omega),.r 27 (eI (b:=((lm p).length:Int)) (by omega)),.i (lm p).length,.i (lm p).length] rfl (by have e:=Wz p; simp only [Wv,Gd]; omega) ?_;rw [Qbz];refine lp (S:=Nat×List Nat) 1 (λL1 s=>(31,.v (.one (.int .i64 (s.1:Int))))::L1) (λs=>[.row false 91 1 (lm s.2)]) (λs=>p.length-s.1)
  (λr=>r.1<=p.length/\r.2.length=p.length/\Sm r.2/\val (r.2.take r.1)=val p / 2^s % 4294967296^r.1) (0,List.replicate (lm p).length 0)
  ⟨Qi _,by simp [Wz],λx hx=>by rw [Z1 hx]; decide,by simp [val]; omega⟩ rfl (λ_ _=>rfl) rfl λ⟨i,o⟩ ⟨j1,j2,j3,j5⟩=>?_
 dsimp only at j1 j2 j3 j5 ⊢;by_cases hi:i<p.length
 ·obtain ⟨x,hx⟩:=gxE (l:=p) (i:=i) hi;have xb:=np.1 x (Qa hx);have fin:∀ y m,(p[i+1]? = some y\/p.length<=i+1/\y=0)->m=(x+y*2^32) / 2^s->p.length-(i+1)<p.length-i/\i+1<=p.length/\(o.set i (m % 4294967296)).length=p.length/\Sm (o.set i (m % 4294967296))/\val ((o.set i (m % 4294967296)).take (i+1))=val p / 2^s % 4294967296^(i+1):=λy m hy hm =>
   ⟨by omega,hi,by simp [j2],Po j3 _ _ (by omega),by subst hm; exact Q7x hs hx hy (by omega) np.1 j5⟩
  have hsp:0<2^s:=Zy (by decide);by_cases hy0:i+1<p.length
  ·obtain ⟨y,hy⟩:=gxE (l:=p) (i:=i+1) hy0;have yb:=np.1 y (Qa hy);obtain ⟨v,hv⟩:=nmE (4294967296*y+x);obtain ⟨m,hm⟩:=nmE (v / 2^s);have hml:m<=v:=hm ▸ Jo _ _;have hf:=fin y m (.inl hy) (by rw [hm,hv]; congr 1; omega);refine go tt [.t (by simp [Wz]; omega),.x (Fg hx),.t (by simp [Wz]; omega),.x (Fg hy),.i 32,.r 57 (Nq (b:=((4294967296*y:Nat):Int)) (by omega)),.r 58 (Nq (b:=(v:Int)) (by rw [oM xb (by omega)]; omega)),
    .i s,.r 63 (Nq (b:=(m:Int)) (by rw [hm]; push_cast; rfl)),.w 0,.r 64 (Dl (b:=((m % 4294967296:Nat):Int)) (by rw [w32]; omega)),.i i] rfl (by simp [Wv,Gd,Wz,IntKind.bits] <;> omega) ?_
   rw [Mi];exact rd (i+1,o.set i (m % 4294967296)) hf.1 hf.2 rfl
  ·obtain ⟨m,hm⟩:=nmE (x / 2^s);have hml:m<=x:=hm ▸ Jo _ _;have hf:=fin 0 m (.inr ⟨by omega,rfl⟩) (by rw [hm]; simp);refine go tt [.t (by simp [Wz]; omega),.x (Fg hx),.f (by simp [Wz]; omega),
    .i s,.r 63 (Nq (b:=(m:Int)) (by rw [hm]; push_cast; rfl)),.w 0,.r 64 (Dl (b:=((m % 4294967296:Nat):Int)) (by rw [w32]; omega)),.i i] rfl (by simp [Wv,Gd,Wz,IntKind.bits] <;> omega) ?_
   rw [Mi];exact rd (i+1,o.set i (m % 4294967296)) hf.1 hf.2 rfl
 ·obtain rfl:i=p.length:=by omega
  have hvl:=Nm p np.1;rw [Qr (by omega),Xn (Z2 (Jo _ _) hvl)] at j5;rw [<-j5];exact en tt [.f (by simp [Wz,j2]),.c [] (Qax j3)] rfl rfl trivial
def dgs:Nat->Nat->List Nat
 | 0,_=>[]
 | k+1,v=>v % 4294967296::dgs k (v / 4294967296)
theorem Q4g:∀ {l:List Nat},Sm l->l=dgs l.length (val l)
 | [],_=>rfl
 |
  x::l,h=>by
  have hx:=h x (.head _);have ih:=Q4g (l:=l) λy hy=>h y (.tail _ hy)
  simp only [Q6,dgs,val];rw [show (x+4294967296*val l) % 4294967296=x by omega,show (x+4294967296*val l) / 4294967296=val l by omega,<-ih]
theorem Qt7 {l:List Nat} {k v:Nat} (h:Sm l) (hk:l.length=k) (hv:val l=v):dgs k v=l:=by
 rw [<-hk,<-hv]; exact (Q4g h).symm
theorem Qm6:∀ {k v:Nat},(dgs k v).length=k/\Sm (dgs k v)/\(v<4294967296^k->val (dgs k v)=v)
 | 0,v=>⟨rfl,λx hx=>by (cases hx),λh=>by simp at h; subst h; rfl⟩
 |
  k+1,v=>by
  obtain ⟨h1,h2,h3⟩:=Qm6 (k:=k) (v:=v / 4294967296);refine ⟨by simp [dgs,h1],λx hx=>?_,λh=>?_⟩
  ·rcases Ql.1 hx with rfl | hx
   ·exact Z9 _ (by decide)
   ·exact h2 x hx
  ·simp only [dgs,val];rw [h3 (by rw [Zr] at h; exact X1 (by rw [Zp]; exact h))];omega
theorem Q3y {a:List Nat} {s n:Nat} (ha:Sm a) (h1:sz (val a)<=4294967400) (hs:s<=31) (hn:n<274877906944) (h0:0<n) (hv:val a*2^s<4294967296^n) :
 W6 Tryz.prog 221 [lr a,.one (.int .i64 (s:Int)),.one (.int .i64 (n:Int))] [] [.one (.orow 0 1 none)] [.row false 91 1 (lm (dgs n (val a*2^s)))]:=by
 refine U4 Tryz.func221 rfl ?_;obtain ⟨v,hvv⟩:=nmE (val a*2^s);have cs:=Zjd ha h1 hs;rw [<-hvv] at cs hv ⊢;have hl:(Uo v).length<=n:=by
  apply Classical.byContradiction;intro hh;have h2:=Qc6 (Ni v) (λe=>by rw [e] at hh; simp at hh);rw [Fb] at h2;have h3:4294967296^n<=4294967296^((Uo v).length-1):=Zs (by decide) (by omega);omega
 refine go tt [.i n,.i n,.c [] cs,.s (Q51 (Uo v)),.i (Uo v).length] rfl (by simp [Wv,Gd,Wz] <;> omega) ?_;have e:List.take 0 (List.replicate n [LV.int .u32 0])++(List.take (Uo v).length (lm (Uo v))++List.drop (0+(Uo v).length) (List.replicate n [LV.int .u32 0]))=lm (dgs n v):=by
  rw [Qt7 (l:=Uo v++List.replicate (n-(Uo v).length) 0) (λx hx=>?_) (by simp; omega) (by rw [Pq,Qfg,Fb]; simp)]
  ·rw [Yv,J3,Qr (by rw [Wz]; exact Qm _)];simp [lm]
  ·rcases Qq.1 hx with hx | hx
   ·exact Bv v x hx
   ·rw [Z1 hx]; decide
 rw [e];exact ed tt [] [0] [] rfl trivial
theorem Qkh {pre x post:List Nat} {i u:Nat} (h:x[i]? = some u):(lm (pre++x++post))[pre.length+i]? = some [.int .u32 (u:Int)]:=Fg (by
 have hi:=(Qg.1 h).1;rw [Q8,Xm (by omega),Jc,Zn hi]; exact h)
theorem Q8k {pre x post:List Nat} {i v:Nat} (h:i<x.length):(lm (pre++x++post)).set (pre.length+i) [.int .u32 (v:Int)]=lm (pre++x.set i v++post):=by
 rw [Mi,Q8,List.set_append_right _ _ (by omega),Jc,List.set_append_left _ _ h,<-Q8]
theorem Zai {pre x post ly:List Nat} {top nx xn x1 x2:Nat} (D:Dig x ly ly.length top nx xn x1 x2) (hn:ly.length<274877906944) :
 W6 Tryz.prog 222 [.one (.orow 0 1 (some (pre.length,x.length))),lr ly] [.row true 91 1 (lm (pre++x++post))] [.one (.int .u32 ((val x / val ly:Nat):Int))] [.row true 91 1 (lm (pre++dgs x.length (val x % val ly)++post))]:=by
 refine U4 Tryz.func222 rfl ?_;have hxl:=D.hx;have hn2:=D.hn;have hb:=D.bnd;obtain ⟨head,hh⟩:=nmE (xn*2^32+x1);obtain ⟨g0,hg0⟩:=nmE (head / top);obtain ⟨r0,hr0⟩:=nmE (head % top);have hst:=D.start;rw [<-hh,<-hg0] at hst;have ht0:=D.top0;have hg0l:g0<=head:=hg0 ▸ Jo _ _;have hr0l:r0<top:=hr0 ▸ Z9 _ ht0;have htd:(head:Int).tdiv top=(g0:Int):=by rw [Vr (by omega),hg0]; rfl
 have htm:(head:Int).tmod top=(r0:Int):=by rw [Vs (by omega),hr0]; rfl
 refine go tt [.r 23 (eI (b:=(ly.length:Int)) (by rw [Wz])),.r 26 (eI (b:=((ly.length-1:Nat):Int)) (by omega)),.x (Fg D.ltop),.r 32 (eI (b:=((ly.length-2:Nat):Int)) (by omega)),.x (Fg D.lnx),
  .i ly.length,.x (Qkh D.xn),.i 32,.r 41 (Nq (b:=((4294967296*xn:Nat):Int)) (by omega)),.r 44 (eI (b:=((ly.length-1:Nat):Int)) (by omega)),.i (ly.length-1),.x (Qkh D.x1),.r 48 (Nq (b:=(head:Int)) (by rw [o64 hb.2.2.2.1 (by omega)]; omega)),
  .r 51 (Nq (b:=(g0:Int)) htd),.r 54 (Nq (b:=(r0:Int)) htm)] rfl ?_ ?_
 ·simp only [Wv,Gd,htd,IntKind.bits]; omega
 refine ct 2 (S:=Nat) (λg=>[(0,.v (.one (.orow 0 1 (some (pre.length,x.length))))),(1,.v (lr ly)),(5,.v (.one (.int .i64 (ly.length:Int)))),(9,.v (.one (.int .u64 (g:Int))))]) (λ_=>[.row true 91 1 (lm (pre++x++post))]) (λg=>val x / val ly<=g/\(g-1)*val ly<=val x/\g<=4294967296) rfl ?_ ?_
 ·refine lp (S:=Nat×Nat) 1 (λL1 s=>(9,.v (.one (.int .u64 (s.1:Int))))::(10,.v (.one (.int .u64 (s.2:Int))))::L1) (λ_=>[.row true 91 1 (lm (pre++x++post))]) (λs=>4294967296-s.2)
   (λs=>s.1*top+s.2=xn*2^32+x1/\val x / val ly<=s.1/\s.2<4294967296/\s.1<18446744073709551616) (g0,r0)
   ⟨by rw [<-hh,hg0,hr0,Nat.mul_comm]; exact Nat.div_add_mod _ _,hst,by dsimp only; omega,by dsimp only; omega⟩ rfl (λ_ _=>rfl) rfl λ⟨g,r⟩ ⟨j1,j2,j3,j4⟩=>?_
  dsimp only at j1 j2 j3 j4 ⊢;by_cases hge:4294967296<=g
  ·have hrd:=D.round j1 j2 (.inl hge);by_cases h2:4294967296<=r+top
   ·exact go tt [.t (by simp; omega),.t rfl,.r 73 (Nq (b:=((g-1:Nat):Int)) (by omega)),.t (by simp; omega)] rfl (by simp [Wv,Gd] <;> omega) (rc (g-1) ⟨hrd.2.1,(hrd.2.2.2 h2).1,(hrd.2.2.2 h2).2⟩ rfl)
   ·exact go tt [.t (by simp; omega),.t rfl,.r 73 (Nq (b:=((g-1:Nat):Int)) (by omega)),.f (by simp; omega)] rfl (by simp [Wv,Gd] <;> omega) (rd (g-1,r+top) (by dsimp only; omega) ⟨hrd.2.2.1,hrd.2.1,by dsimp only; omega,by dsimp only; omega⟩ rfl)
  ·have hgn:=I2 (x:=g) (y:=nx) (by omega) hb.2.1;by_cases hc:r*2^32+x2<g*nx
   ·have hrd:=D.round j1 j2 (.inr hc);have e1:(g:Int)*(nx:Int)=((g*nx:Nat):Int):=by push_cast; rfl
    obtain ⟨m,hm⟩:=nmE (g*nx);rw [<-hm] at e1 hgn hc;by_cases h2:4294967296<=r+top
    ·exact go tt [.f (by simp; omega),.r 60 (Nq (b:=(m:Int)) e1),.i 32,.r 62 (Nq (b:=((4294967296*r:Nat):Int)) (by omega)),.r 65 (eI (b:=((ly.length-2:Nat):Int)) (by omega)),.i (ly.length-2),.x (Qkh D.x2),.r 69 (Nq (b:=((4294967296*r+x2:Nat):Int)) (o64 hb.2.2.2.2 (by omega))),.t (by simp; omega),.r 73 (Nq (b:=((g-1:Nat):Int)) (by omega)),.t (by simp; omega)] rfl (by simp only [Wv,Gd,e1,IntKind.bits]; omega) (rc (g-1) ⟨hrd.2.1,(hrd.2.2.2 h2).1,(hrd.2.2.2 h2).2⟩ rfl)
    ·exact go tt [.f (by simp; omega),.r 60 (Nq (b:=(m:Int)) e1),.i 32,.r 62 (Nq (b:=((4294967296*r:Nat):Int)) (by omega)),.r 65 (eI (b:=((ly.length-2:Nat):Int)) (by omega)),.i (ly.length-2),.x (Qkh D.x2),.r 69 (Nq (b:=((4294967296*r+x2:Nat):Int)) (o64 hb.2.2.2.2 (by omega))),.t (by simp; omega),.r 73 (Nq (b:=((g-1:Nat):Int)) (by omega)),.f (by simp; omega)] rfl (by simp only [Wv,Gd,e1,IntKind.bits]; omega) (rd (g-1,r+top) (by dsimp only; omega) ⟨hrd.2.2.1,hrd.2.1,by dsimp only; omega,by dsimp only; omega⟩ rfl)
   ·have hf:=D.fin j1 (by omega) (by omega);have e1:(g:Int)*(nx:Int)=((g*nx:Nat):Int):=by push_cast; rfl
    obtain ⟨m,hm⟩:=nmE (g*nx);rw [<-hm] at e1 hgn hc;exact go tt [.f (by simp; omega),.r 60 (Nq (b:=(m:Int)) e1),.i 32,.r 62 (Nq (b:=((4294967296*r:Nat):Int)) (by omega)),.r 65 (eI (b:=((ly.length-2:Nat):Int)) (by omega)),.i (ly.length-2),.x (Qkh D.x2),.r 69 (Nq (b:=((4294967296*r+x2:Nat):Int)) (o64 hb.2.2.2.2 (by omega))),.f (by simp; omega)] rfl (by simp only [Wv,Gd,e1,IntKind.bits]; omega) (rc g ⟨j2,hf,by omega⟩ rfl)
 ·intro g ⟨q1,q2,q3⟩;refine go tt [.r 80 (eI (b:=(ly.length:Int)) (by rw [Wz]))] rfl trivial ?_;refine lp (S:=Nat×List Nat×Nat×Nat) 1 (λL1 s=>(81,.v (.one (.int .i64 (s.1:Int))))::(11,.v (.one (.int .u64 (s.2.2.1:Int))))::(12,.v (.one (.int .u64 (s.2.2.2:Int))))::L1) (λs=>[.row true 91 1 (lm (pre++s.2.1++post))]) (λs=>ly.length-s.1)
   (λs=>s.1<=ly.length/\s.2.1.length=ly.length+1/\Sm s.2.1/\s.2.2.2<=1/\s.2.2.1<4294967296/\val (s.2.1.take s.1)+g*val (ly.take s.1)=val (x.take s.1)+(s.2.2.1+s.2.2.2)*4294967296^s.1/\s.2.1.drop s.1=x.drop s.1) (0,x,0,0)
   ⟨Qi _,hxl,D.xb,Qi _,by simp,by simp [val],rfl⟩ rfl (λ_ _=>rfl) rfl λ⟨i,o,cy,bw⟩ ⟨j1,j2,j3,j4,j5,j6,j7⟩=>?_
  dsimp only at j1 j2 j3 j4 j5 j6 j7 ⊢;by_cases hi:i<ly.length
  ·obtain ⟨w1,hw1⟩:=gxE (l:=ly) (i:=i) hi;obtain ⟨u,hu⟩:=gxE (l:=x) (i:=i) (by omega);have wb:=D.lb w1 (Qa hw1);have ub:=D.xb u (Qa hu);have hou:=(Qcn j7).trans hu;have hgw:g*w1<=18446744069414584320:=by
    have:=Zk q3 (show w1<=4294967295 by omega);omega
   obtain ⟨s,hs⟩:=nmE (((u+18446744073709551616-(g*w1+cy) % 4294967296) % 18446744073709551616+18446744073709551616-bw) % 18446744073709551616);have hstep:=Qnv (o:=o) (by omega) hu hw1 ub j4 j6 rfl hs;have e1:(g:Int)*(w1:Int)=((g*w1:Nat):Int):=by push_cast; rfl
   obtain ⟨m,hm⟩:=nmE (g*w1);rw [<-hm] at e1 hgw hs hstep;obtain ⟨p,hp⟩:=nmE (m+cy);rw [<-hp] at hs hstep;refine go tt [.t (by simp; omega),.x (Fg hw1),.r 89 (Nq (b:=(m:Int)) e1),.r 91 (Nq (b:=(p:Int)) (by omega)),.i 32,.r 93 (Nq (b:=((p / 2^32:Nat):Int)) (by simp)),.i i,.x (Qkh hou),.w 1,.r 100 (Dl (b:=((p % 4294967296:Nat):Int)) (by rw [w32]; omega)),.w 1,.r 102 (Nq (b:=(((u+18446744073709551616-p % 4294967296) % 18446744073709551616:Nat):Int)) (by rw [w64]; omega)),.w 0,.r 104 (Nq (b:=(s:Int)) (by rw [w64]; omega)),
    .w 0,.r 108 (Dl (b:=((s % 4294967296:Nat):Int)) (by rw [w32]; omega)),.i 63,.r 110 (Nq (b:=((s / 2^63:Nat):Int)) (by simp)),.i i] rfl (by simp only [Wv,Gd,e1,IntKind.bits,Wz,Qw]; omega) ?_
   rw [Q8k (by omega)];exact rd (i+1,o.set i (s % 4294967296),p / 2^32,s / 2^63) (by dsimp only; omega) ⟨hi,by simp [j2],Po j3 _ _ (by omega),hstep.2,by dsimp only; omega,hstep.1,Qkx j7⟩ rfl
  ·obtain rfl:i=ly.length:=by omega
   have hon:=(Qcn j7).trans D.xn;rw [Qr (l:=ly) (Qm _)] at j6;obtain ⟨s,hs⟩:=nmE (((xn+18446744073709551616-cy) % 18446744073709551616+18446744073709551616-bw) % 18446744073709551616);obtain ⟨oa,hoa⟩:=nmE (o.set ly.length (s % 4294967296));have oal:oa.length=ly.length+1:=by rw [hoa,Jz]; exact j2
   have oab:Sm oa:=hoa ▸ Po j3 _ _ (by omega);by_cases hs0:s / 2^63=0
   ·have hf:=D.fin0 j2 j5 j4 q1 j6 hs hs0;refine go tt [.f (by simp),.i ly.length,.x (Qkh hon),.w 1,.r 119 (Nq (b:=(((xn+18446744073709551616-cy) % 18446744073709551616:Nat):Int)) (by rw [w64]; omega)),.w 0,.r 121 (Nq (b:=(s:Int)) (by rw [w64]; omega)),.w 0,.r 125 (Dl (b:=((s % 4294967296:Nat):Int)) (by rw [w32]; omega)),.i ly.length,.i 63,.r 128 (Nq (b:=((s / 2^63:Nat):Int)) (by simp)),.t (by simp; omega),.w 0,.r 131 (Dl (b:=((val x / val ly:Nat):Int)) (by rw [w32]; omega))] rfl (by simp only [Wv,Gd,IntKind.bits,Wz,Qw]; omega) ?_;rw [Q8k (by omega),<-Qt7 (l:=o.set ly.length (s % 4294967296)) (k:=x.length) (hoa ▸ oab) (by rw [<-hoa,oal,hxl]) hf.2];exact ed tt [] [0] [] rfl trivial
   ·have hf:=D.fin1 j2 j3 j5 j4 q2 j6 hs hs0;rw [<-hoa] at hf;obtain ⟨v1,hv1⟩:=gxE (l:=oa) (i:=ly.length) (by omega);refine go tt [.f (by simp),.i ly.length,.x (Qkh hon),.w 1,.r 119 (Nq (b:=(((xn+18446744073709551616-cy) % 18446744073709551616:Nat):Int)) (by rw [w64]; omega)),.w 0,.r 121 (Nq (b:=(s:Int)) (by rw [w64]; omega)),.w 0,.r 125 (Dl (b:=((s % 4294967296:Nat):Int)) (by rw [w32]; omega)),.i ly.length,.i 63,.r 128 (Nq (b:=((s / 2^63:Nat):Int)) (by simp)),.f (by simp; omega),.r 133 (eI (b:=(ly.length:Int)) (by rw [Wz]))] rfl (by simp only [Wv,Gd,IntKind.bits,Wz,Qw]; omega) ?_;rw [Q8k (by omega),<-hoa];refine lp (S:=Nat×List Nat×Nat) 1 (λL1 s=>(134,.v (.one (.int .i64 (s.1:Int))))::(18,.v (.one (.int .u64 (s.2.2:Int))))::L1) (λs=>[.row true 91 1 (lm (pre++s.2.1++post))]) (λs=>ly.length-s.1)
     (λs=>s.1<=ly.length/\s.2.1.length=ly.length+1/\Sm s.2.1/\s.2.2<=1/\val (s.2.1.take s.1)+s.2.2*4294967296^s.1=val (oa.take s.1)+val (ly.take s.1)/\s.2.1.drop s.1=oa.drop s.1) (0,oa,0)
     ⟨Qi _,oal,oab,Qi _,by simp [val],rfl⟩ rfl (λ_ _=>rfl) rfl λ⟨j,o2,bk⟩ ⟨r1,r2,r3,r4,r5,r6⟩=>?_
    dsimp only at r1 r2 r3 r4 r5 r6 ⊢;by_cases hj:j<ly.length
    ·obtain ⟨w1,hw1⟩:=gxE (l:=ly) (i:=j) hj;obtain ⟨u,hu⟩:=gxE (l:=oa) (i:=j) (by omega);have wb:=D.lb w1 (Qa hw1);have ub:=oab u (Qa hu);have hou:=(Qcn r6).trans hu;obtain ⟨m,hm⟩:=nmE (u+bk+w1);have hstep:=Qo7 (o:=o2) (by omega) hu (.inl hw1) r5 hm;refine go tt [.t (by simp; omega),.x (Fg hw1),.i j,.x (Qkh hou),.r 148 (Nq (b:=(m:Int)) (by omega)),.w 0,.r 152 (Dl (b:=((m % 4294967296:Nat):Int)) (by rw [w32]; omega)),.i 32,.r 154 (Nq (b:=((m / 4294967296:Nat):Int)) (by simp)),.i j] rfl (by simp only [Wv,Gd,IntKind.bits,Wz,Qw]; omega) ?_;rw [Q8k (by omega)];exact rd (j+1,o2.set j (m % 4294967296),m / 4294967296) (by dsimp only; omega) ⟨hj,by simp [r2],Po r3 _ _ (by omega),by dsimp only; omega,hstep,Qkx r6⟩ rfl
    ·obtain rfl:j=ly.length:=by omega
     have hon2:=(Qcn r6).trans hv1;have vb:=oab v1 (Qa hv1);rw [Qr (l:=ly) (Qm _)] at r5;have hf2:=D.fin2 oal oab r2 r3 hv1 r4 hf.2 r5;refine go tt [.f (by simp),.i ly.length,.x (Qkh hon2),.w 1,.r 165 (Dl (b:=(((v1+bk) % 4294967296:Nat):Int)) (by rw [w32]; omega)),.i ly.length,.w 0,.r 168 (Dl (b:=((g % 4294967296:Nat):Int)) (by rw [w32]; omega)),.w 0,.r 169 (Dl (b:=((val x / val ly:Nat):Int)) (Zkp hf.1 D.qlt))] rfl (by simp only [Wv,Gd,IntKind.bits,Wz,Qw]; omega) ?_;rw [Q8k (by omega),<-Qt7 (l:=o2.set ly.length ((v1+bk) % 4294967296)) (k:=x.length) (Po r3 _ _ (by omega)) (by rw [Jz,r2,hxl]) hf2];exact ed tt [] [0] [] rfl trivial
theorem Q3i {o ly:List Nat} {lo top nx xn x1 x2:Nat} (hlo:lo+(ly.length+1)<=o.length) (D:Dig (win o lo ly.length) ly ly.length top nx xn x1 x2) (hn:ly.length<274877906944) :
 W6 Tryz.prog 222 [.one (.orow 0 1 (some (lo,ly.length+1))),lr ly] [.row true 91 1 (lm o)] [.one (.int .u32 ((val (win o lo ly.length) / val ly:Nat):Int))] [.row true 91 1 (lm (o.take lo++dgs (ly.length+1) (val (win o lo ly.length) % val ly)++o.drop (lo+ly.length+1)))]:=by
 have:=Zai (pre:=o.take lo) (post:=o.drop (lo+ly.length+1)) D hn;have e1:(o.take lo).length=lo:=by rw [Qu]; omega
 have e2:=Qdw (o:=o) (i:=lo) (n:=ly.length) (by omega);rw [e1,e2,Qal] at this;exact this
theorem Qpk {a b:List Nat} (ha:Sm a) (hb:Sm b) (h1:sz (val a)<=4294967296) (h2:sz (val b)<=4294967296) (hy:0<val b):W0 Tryz.prog 185 [lr a,lr b] [lr (Uo (val a / val b)),lr (Uo (val a % val b)),.one (.int .i64 0)]:=by
 refine U4 Tryz.func185 rfl ?_;obtain ⟨p,ca,np,vp,_,ep⟩:=Qee ha;obtain ⟨q,cb,nq,vq,_,eq⟩:=Qee hb;have hp:=Hi h1;have hq:=Hi h2;rw [<-ep] at hp;rw [<-eq] at hq;rw [<-vp,<-vq];rw [<-vp] at h1;rw [<-vq] at h2 hy;have q0:q≠[]:=λe=>by rw [e] at hy; simp [val] at hy
 have qp:0<q.length:=Jq.2 q0;have c1:¬((lm q).length:Int)=0:=by rw [Wz]; omega
 by_cases hlt:p.length<q.length
 ·have hv:=Nw np nq hlt;rw [Vp hv,Xn hv,Ff];exact en tt [.c [] ca,.c [] cb,.f (by simpa using c1),.t (by simp [Wz]; omega),.c [] (Qba np.1 h1)] rfl rfl (by simp [Wv,Gd])
 by_cases hone:q.length=1
 ·obtain ⟨y,rfl⟩:∃ y,q=[y]:=by
   match q,hone with
   | [y],_=>exact ⟨y,rfl⟩
  have yb:=nq.1 y (.head _);have vy:val [y]=y:=by simp [val]
  rw [vy] at hy ⊢;have co:=Zjl np.1 (by omega) hy yb;have sm:Sm [val p % y]:=λz hz=>by
   simp at hz; subst hz; exact Nat.lt_trans (Z9 _ hy) yb
  have cc:=Qax sm;rw [show val [val p % y]=val p % y from by simp [val]] at cc;exact en tt [.c [] ca,.c [] cb,.f (by simp [lm]),.f (by simp [Wz]; omega),.t (by simp [lm]),.x (Fg (l:=[y]) (i:=0) rfl),.c [] co,.c [] cc] rfl rfl (by simp [Wv,Gd])
 ·have hle:q.length<=p.length:=Js hlt;obtain ⟨y1,hy1,hy10⟩:=nq.2 q0;have y1b:=nq.1 y1 (Qa hy1);have hszy:=Qv2 nq hy1;have hsz1:sz y1<=32:=M8.2 (by omega);have hsz0:0<sz y1:=Zia (by omega);obtain ⟨s,hs⟩:=nmE (32-sz y1);have hs31:s<=31:=by omega
  have Dl:(2:Nat)^32=4294967296:=by decide
  obtain ⟨x,hx⟩:=nmE (val p);obtain ⟨y,hyv⟩:=nmE (val q);have cl:=Zfs y1b;rw [<-hs] at cl;have hvx:val p*2^s<4294967296^(p.length+1):=by
   have h1:=Nm p np.1;rw [Zr];exact Xb (Xi h1 (show 0<2^s from Zy (by decide))) (Zt _ (by rw [<-Dl]; exact Zs (by decide) (by omega)))
  have hvy:val q*2^s<4294967296^q.length:=by
   have h1:=Qix (val q);rw [<-Dl,<-Wu];have h2:val q*2^s<2^sz (val q)*2^s:=Xi h1 (Zy (by decide));rw [<-Xc] at h2;rw [show 32*q.length=sz (val q)+s from by omega];exact h2
  have cx:=Q3y np.1 (show sz (val p)<=4294967400 by omega) hs31 (show p.length+1<274877906944 by omega) (by omega) hvx;have cy:=Q3y nq.1 (show sz (val q)<=4294967400 by omega) hs31 (show q.length<274877906944 by omega) qp hvy;obtain ⟨hXl,hXb,hXv⟩:=Qm6 (k:=p.length+1) (v:=val p*2^s);obtain ⟨hYl,hYb,hYv⟩:=Qm6 (k:=q.length) (v:=val q*2^s);have hXv:=hXv hvx;have hYv:=hYv hvy;obtain ⟨X,hX⟩:=nmE (dgs (p.length+1) (val p*2^s));obtain ⟨Y,hY⟩:=nmE (dgs q.length (val q*2^s));rw [<-hX] at hXl hXb hXv cx;rw [<-hY] at hYl hYb hYv cy;have hyB:4294967296^(q.length-1)<=val q:=Qc6 nq q0;have hR:=Qvh hXv hYv hXl hXb hYl hYb (show 2<=q.length by omega) (Nm p np.1) hyB hle;refine go tt [.c [] ca,.c [] cb,.f (by simpa using c1),.f (by simp [Wz]; omega),.f (by simp [Wz]; omega),.r 49 (eI (b:=((q.length-1:Nat):Int)) (by rw [Wz]; omega)),.x (Fg hy1),.c [] cl,.r 57 (eI (b:=((p.length+1:Nat):Int)) (by rw [Wz]; omega)),.c [0] cx,.r 62 (eI (b:=(q.length:Int)) (by rw [Wz])),.c [1] cy,.r 65 (eI (b:=(q.length:Int)) (by rw [Wz,hYl])),.r 70 (eI (b:=((p.length-q.length+1:Nat):Int)) (by rw [Wz]; omega)),.i (p.length-q.length+1),.i (p.length-q.length+1),.r 73 (eI (b:=((p.length-q.length+1:Nat):Int)) (by simp))] rfl ?_ ?_
  ·simp only [Wv,Gd,IntKind.bits,Wz];omega
  ·rw [Qbz];refine pb 1 rfl rfl ?_;refine lp (S:=Int×List Nat×List Nat) 3 (λL1 s=>(13,.v (.one (.int .i64 s.1)))::L1) (λs=>[.row false 91 1 (lm s.2.2),.gone,.row false 91 1 (lm s.2.1)]) (λs=>(s.1+1).toNat)
    (λs=>-1<=s.1/\s.1<p.length-q.length+1/\s.2.1.length=p.length-q.length+1/\Sm s.2.1/\Rest s.2.2 Y p.length q.length (s.1+1).toNat/\val (s.2.1.drop (s.1+1).toNat)*4294967296^(s.1+1).toNat*val Y+val s.2.2=val X) (((p.length-q.length+1:Nat):Int)-1,List.replicate (p.length-q.length+1) 0,X)
    ⟨by dsimp only; omega,by dsimp only; omega,by simp,λx hx=>by rw [List.eq_of_mem_replicate hx]; decide,by simpa using hR,by simp [val]⟩ rfl (λ_ _=>rfl) rfl λ⟨i,oq,ox⟩ ⟨j1,j2,j3,j4,j5,j6⟩=>?_
   dsimp only at j1 j2 j3 j4 j5 j6 ⊢;rcases Wc i 0 with hi | hi
   ·obtain rfl:i=-1:=by omega
    simp only [show ((-1:Int)+1).toNat=0 from rfl,Yg,Y4,Yj] at j5 j6;have hlt':val ox<val q*2^s:=by have:=j5.lt; rw [hYv] at this; simpa using this
    have hfin:=Q7e (x:=val p) (y:=val q) (s:=s) (r:=val ox) (q:=oq) hy (by rw [<-hXv,<-hYv]; exact j6) hlt';have hoxl:=j5.ol;have hox:=Qv4 (o:=ox) (n:=q.length) (by omega) (Nat.lt_trans hlt' hvy);have hszm:sz (val (ox.take q.length))<=4294967400:=by
     rw [hox,hfin.2];have h1:=Q79 (val p % val q) (2^s);have h2':=T0 (J4 (Z9 (val p) hy));have h3:sz (2^s)<=s+1:=M8.2 (Nat.pow_lt_pow_right (by decide) (by omega));omega
    have cs:=Zje (a:=ox.take q.length) (λu hu=>j5.ob u (Qn hu)) hszm hs31;rw [hox,hfin.2,Nat.mul_div_cancel _ (Zy (by decide))] at cs;have cq:=Qax j4;rw [hfin.1] at cq;exact en tt [.f (by decide),.p 2,.p 0,.c [] cq,.i q.length,.r 95 (v:=lr (ox.take q.length)) (by simp [lm]),.c [] cs] rfl rfl (by simp [Wv,Gd,Wz]; omega)
   ·obtain ⟨k,rfl⟩:=V5 hi;have e:((k:Int)+1).toNat=k+1:=by omega
    rw [e] at j5 j6;obtain ⟨top,nx,xn,x1,x2,D⟩:=j5.dig;have hoxl:=j5.ol;have hm:=j5.hm;have cd:=Q3i (o:=ox) (lo:=k) (by omega) (hYl.symm ▸ D) (by omega);rw [hYl] at cd;have hwl:=Qdw (o:=ox) (i:=k) (n:=q.length) (by omega);have hwlt:val (win ox k q.length) % val Y<4294967296^(q.length+1):=by
     have h3:=Nm (win ox k q.length) D.xb;rw [hwl] at h3;exact Z2 (Nat.mod_le _ _) h3
    obtain ⟨d1,d2,d3⟩:=Qm6 (k:=q.length+1) (v:=val (win ox k q.length) % val Y);have hnx:=j5.next (w':=dgs (q.length+1) (val (win ox k q.length) % val Y)) (d1.trans hwl.symm) d2 (d3 hwlt) (q:=oq) (by omega) j6;have hdg:=D.qlt;refine go tt [.t (by simp),.i k,.i (k+q.length+1),.r 87 (v:=.one (.orow 0 1 (some (k,q.length+1)))) (by rw [show k+q.length+1-k=q.length+1 by omega]),.c [0] cd,.i k] rfl ?_ ?_
    ·simp only [Wv,Wz]; omega
    ·rw [Mi];refine rd ((k:Int)-1,oq.set k (val (win ox k q.length) / val Y),ox.take k++dgs (q.length+1) (val (win ox k q.length) % val Y)++ox.drop (k+q.length+1)) (by dsimp only; omega) ⟨by dsimp only; omega,by dsimp only; omega,by simp [j3],Po j4 _ _ hdg,?_,?_⟩ rfl
     ·dsimp only; rw [show ((k:Int)-1+1).toNat=k from by omega]; exact hnx.1
     ·dsimp only; rw [show ((k:Int)-1+1).toNat=k from by omega]; exact hnx.2
def sg (z:Int):LV:=.bool (decide (z<0))
def mg (z:Int):LV:=.row (lm (Uo z.natAbs))
abbrev Gb (z:Int):List LV:=[sg z,mg z]
def Fc (x y:LV) (z:Int):Prop:=∃ b l,x=.bool b/\y=.row (lm l)/\Sm l/\z=Uk b (val l)
theorem Wy (z:Int):Fc (sg z) (mg z) z:=by
 refine ⟨_,_,rfl,rfl,Bv _,?_⟩;rw [Fb];unfold Uk;by_cases h:z<0 <;> simp [h] <;> omega
theorem Zhm (b:Bool) (m:Nat):[LV.bool (b && decide (0<m)),LV.row (lm (Uo m))]=Gb (Uk b m):=by
 simp only [Gb,sg,mg,Qi5,Gv]
theorem Nt {m:Nat}:0<(Uo m).length↔0<m:=by
 rcases Q5 m with h | h
 ·subst h; rw [Ff]; simp
 ·rw [C7 (by omega)]; simp [h]
theorem Rw (b:Bool) (m:Nat):W0 Tryz.prog 102 [lr (Uo m),.one (.bool b)] [.agg (Gb (Uk b m))]:=by
 rw [<-Zhm];have e:=Nt (m:=m);cases b with
 | false=>exact w tt Tryz.func102 rfl [.f rfl] rfl rfl trivial
 | true=>exact w tt Tryz.func102 rfl [.t rfl] rfl (by simp [Wz,e]) trivial
theorem Ru {b:Bool} {m:Nat} {k:Nat} (h:Ug (Uk b m)<=k):sz m<=k:=by
 unfold Ug at h; rwa [Gv] at h
theorem Md {x y:LV} {z:Int} (hi:Fc x y z) (hs:Ug z<=4294967295):W0 Tryz.prog 66 [.agg [x,y]] [.agg (Gb z)]:=by
 obtain ⟨b,l,rfl,rfl,hl,rfl⟩:=hi;exact w tt Tryz.func66 rfl [.c [] (Qba hl (Qd (Ru hs) (by decide))),.c [] (Rw _ _)] rfl rfl trivial
theorem Qct (b:Bool) (m:Nat):Uk (!b) m=-(Uk b m):=by unfold Uk; cases b <;> simp
theorem Qhq {x y:LV} {z:Int} (hi:Fc x y z) (hs:Ug z<=4294967295):W0 Tryz.prog 105 [.agg [x,y]] [.agg (Gb (-z))]:=by
 obtain ⟨b,l,rfl,rfl,hl,rfl⟩:=hi;rw [<-Qct];exact w tt Tryz.func105 rfl [.c [] (Qba hl (Qd (Ru hs) (by decide))),.c [] (Rw _ _)] rfl rfl trivial
theorem Pf {x y x' y':LV} {z z':Int} (hi:Fc x y z) (hi':Fc x' y' z') (hs:Ug z<=4294967295) (hs':Ug z'<=4294967295):W0 Tryz.prog 160 [.agg [x,y],.agg [x',y']] [.agg (Gb (z*z'))]:=by
 obtain ⟨b,l,rfl,rfl,hl,rfl⟩:=hi;obtain ⟨b',l',rfl,rfl,hl',rfl⟩:=hi';have e:Uk b (val l)*Uk b' (val l')=Uk (b != b') (val l*val l'):=by
  unfold Uk; cases b <;> cases b' <;> simp [Int.neg_mul,Int.mul_neg]
 rw [e];exact w tt Tryz.func160 rfl [.c [] (Zi9 hl hl' (Qd (Ru hs) (by decide)) (Qd (Ru hs') (by decide))),.c [] (Rw _ _)] rfl rfl trivial
theorem Qht {a b:List Nat} (ha:Sm a) (hb:Sm b) (h1:sz (val a)<=4294967296) (h:val b<=val a):W0 Tryz.prog 225 [lr a,lr b] [lr (Uo (val a-val b)),.one (.bool true)]:=by
 have:=Zd3 ha hb h1; rwa [if_pos h] at this
theorem Q29 {a b:List Nat} (ha:Sm a) (hb:Sm b) (h1:sz (val a)<=4294967296) (h:val a<val b):W0 Tryz.prog 225 [lr a,lr b] [lr [],.one (.bool false)]:=by
 have:=Zd3 ha hb h1; rwa [if_neg (by omega)] at this
theorem Qbb {x y x' y':LV} {z z':Int} (hi:Fc x y z) (hi':Fc x' y' z') (hs:Ug z<=4294967295) (hs':Ug z'<=4294967295):W0 Tryz.prog 244 [.agg [x,y],.agg [x',y']] [.agg (Gb (z+z'))]:=by
 obtain ⟨b,l,rfl,rfl,hl,rfl⟩:=hi;obtain ⟨b',l',rfl,rfl,hl',rfl⟩:=hi';have s1:=Qd (Ru hs) (show 4294967295<=4294967296 by decide);have s2:=Qd (Ru hs') (show 4294967295<=4294967296 by decide);by_cases hb:b=b'
 ·subst hb;have e:Uk b (val l)+Uk b (val l')=Uk b (val l+val l'):=by unfold Uk; cases b <;> simp <;> omega
  rw [e];exact w tt Tryz.func244 rfl [.t (by simp),.c [] (Zdz hl hl' s1 s2),.c [] (Rw _ _)] rfl rfl trivial
 ·by_cases hle:val l'<=val l
  ·have e:Uk b (val l)+Uk b' (val l')=Uk b (val l-val l'):=by unfold Uk; cases b <;> cases b' <;> simp at hb ⊢ <;> omega
   rw [e];exact w tt Tryz.func244 rfl [.f (by simpa using hb),.c [] (Qht hl hl' s1 hle),.t rfl,.c [] (Rw _ _)] rfl rfl trivial
  ·have e:Uk b (val l)+Uk b' (val l')=Uk b' (val l'-val l):=by unfold Uk; cases b <;> cases b' <;> simp at hb ⊢ <;> omega
   rw [e];exact w tt Tryz.func244 rfl [.f (by simpa using hb),.c [] (Q29 hl hl' s1 (by omega)),.f rfl,.c [] (Qht hl' hl s2 (by omega)),.c [] (Rw _ _)] rfl rfl trivial
theorem Q3g {x y x' y':LV} {z z':Int} (hi:Fc x y z) (hi':Fc x' y' z') (hs:Ug z<=4294967295) (hs':Ug z'<=4294967295):W0 Tryz.prog 217 [.agg [x,y],.agg [x',y']] [.agg (Gb (z-z'))]:=by
 obtain ⟨b',l',rfl,rfl,hl',rfl⟩:=hi';have hn:Fc (.bool (!b')) (.row (lm l')) (-(Uk b' (val l'))):=⟨_,_,rfl,rfl,hl',(Qct _ _).symm⟩;rw [Int.sub_eq_add_neg];have hi2:=hi;obtain ⟨b,l,rfl,rfl,hl,_⟩:=hi;exact w tt Tryz.func217 rfl [.c [] (Qbb hi2 hn hs (by rw [Lj]; exact hs'))] rfl rfl trivial
theorem Q3t {x y:LV} {z:Int} (hi:Fc x y z) (hs:Ug z<=4294967295):W0 Tryz.prog 161 [.agg [x,y]] [.one (.int .i64 (Int.sign z))]:=by
 obtain ⟨b,l,rfl,rfl,hl,rfl⟩:=hi;have s1:=Qd (Ru hs) (show 4294967295<=4294967296 by decide);have cb:=Qts hl s1;by_cases h0:val l=0
 ·have e:Uk b (val l)=0:=by unfold Uk; rw [h0]; cases b <;> simp
  rw [e];exact w tt Tryz.func161 rfl [.c [] cb,.t (by simp [Qjw,h0])] rfl rfl trivial
 ·have hs0:sz (val l)≠0:=λh=>h0 (Qjw.1 h)
  cases b
  ·have e:(Uk false (val l)).sign=1:=Int.sign_eq_one_of_pos (by unfold Uk; simp; omega);rw [e];exact w tt Tryz.func161 rfl [.c [] cb,.f (by simp; omega),.f rfl] rfl rfl trivial
  ·have e:(Uk true (val l)).sign=-1:=Int.sign_eq_neg_one_of_neg (by unfold Uk; simp; omega);rw [e];exact w tt Tryz.func161 rfl [.c [] cb,.f (by simp; omega),.t rfl] rfl rfl trivial
theorem Qd9 {x y x' y':LV} {z z':Int} (hi:Fc x y z) (hi':Fc x' y' z') (hs:Ug z<=4294967295) (hs':Ug z'<=4294967295):W0 Tryz.prog 99 [.agg [x,y],.agg [x',y']] [.one (.int .i64 (Bb z z'))]:=by
 have c1:=Q3t hi hs;have c2:=Q3t hi' hs';obtain ⟨b,l,rfl,rfl,hl,hz⟩:=hi;obtain ⟨b',l',rfl,rfl,hl',hz'⟩:=hi';have k1:=D4 z;have k2:=D4 z';have zl:z.natAbs=val l:=by rw [hz,Gv]
 have zl':z'.natAbs=val l':=by rw [hz',Gv]
 by_cases h1:z.sign<z'.sign
 ·have e:Bb z z'=-1:=by unfold Bb; rw [if_pos (by omega)]
  rw [e];exact w tt Tryz.func99 rfl [.c [] c1,.c [] c2,.t (by simpa using h1)] rfl rfl trivial
 ·by_cases h2:z'.sign<z.sign
  ·have e:Bb z z'=1:=by unfold Bb; rw [if_neg (by omega),if_pos (by omega)]
   rw [e];exact w tt Tryz.func99 rfl [.c [] c1,.c [] c2,.f (by simpa using h1),.t (by simpa using h2)] rfl rfl trivial
  ·by_cases h3:z.sign<0
   ·have e:Qeb (val l') (val l)=Bb z z':=by unfold Bb Qeb; rw [<-zl,<-zl']; split <;> split <;> (try split) <;> (try split) <;> omega
    have cc:=Q2m hl' hl;rw [e] at cc;exact w tt Tryz.func99 rfl [.c [] c1,.c [] c2,.f (by simpa using h1),.f (by simpa using h2),.t (by simpa using h3),.c [] cc] rfl rfl trivial
   ·have e:Qeb (val l) (val l')=Bb z z':=by unfold Bb Qeb; rw [<-zl,<-zl']; split <;> split <;> (try split) <;> (try split) <;> omega
    have cc:=Q2m hl hl';rw [e] at cc;exact w tt Tryz.func99 rfl [.c [] c1,.c [] c2,.f (by simpa using h1),.f (by simpa using h2),.f (by simpa using h3),.c [] cc] rfl rfl trivial
theorem Nc {z:Int}:W0 Tryz.prog 11 [.agg (Gb z)] [.one (.bool (decide (z=0)))] :=
 w tt Tryz.func11 rfl [] rfl (by simp only [Wz]; congr 3; have:=Nt (m:=z.natAbs); rw [decide_eq_decide]; omega) trivial
theorem Qmq {z:Int} (h1:-9223372036854775808<=z/\z<=9223372036854775807):W0 Tryz.prog 67 [.one (.int .i64 z)] [.agg (Gb z)]:=by
 obtain ⟨m,hm⟩:=nmE (z.natAbs);have sm:Sm [m % 4294967296,m / 4294967296]:=λx hx=>by
  simp at hx; rcases hx with rfl | rfl <;> omega
 have hv:val [m % 4294967296,m / 4294967296]=m:=by simp only [val]; omega
 have cn:=Qba sm (by rw [hv]; exact Qd (M8.2 (show m<2^64 by omega)) (show 64<=4294967296 by decide));rw [hv] at cn;by_cases hz:z<0
 ·have e:Uk true m=z:=by unfold Uk; simp; omega
  have cm:=Rw true m;rw [e] at cm;exact w tt Tryz.func67 rfl [.w 0,.r 5 (Nq (b:=((18446744073709551616-m:Nat):Int)) (by rw [w64]; omega)),.t (by simpa using hz),.w 0,.r 9 (Nq (b:=(m:Int)) (by rw [w64]; omega)),.w 0,.r 11 (Dl (b:=((m % 4294967296:Nat):Int)) (by rw [w32]; omega)),.i 32,.r 13 (Nq (b:=((m / 4294967296:Nat):Int)) (by simp)),.c [] cn,.r 18 (v:=.one (.bool true)) (by simp [hz]),.c [] cm] rfl rfl (by simp [Wv,IntKind.bits] <;> omega)
 ·have e:Uk false m=z:=by unfold Uk; simp; omega
  have cm:=Rw false m;rw [e] at cm;exact w tt Tryz.func67 rfl [.w 0,.r 5 (Nq (b:=(m:Int)) (by rw [w64]; omega)),.f (by simpa using hz),.w 0,.r 11 (Dl (b:=((m % 4294967296:Nat):Int)) (by rw [w32]; omega)),.i 32,.r 13 (Nq (b:=((m / 4294967296:Nat):Int)) (by simp)),.c [] cn,.r 18 (v:=.one (.bool false)) (by simp; omega),.c [] cm] rfl rfl (by simp [Wv,IntKind.bits] <;> omega)
theorem Qtu {m n:Nat} (h1:sz m<=4294967296) (h2:sz n<=4294967296) (hn:0<n):W0 Tryz.prog 185 [lr (Uo m),lr (Uo n)] [lr (Uo (m / n)),lr (Uo (m % n)),.one (.int .i64 0)]:=by
 have:=Qpk (Bv m) (Bv n) (by rw [Fb]; exact h1) (by rw [Fb]; exact h2) (by rw [Fb]; exact hn);rwa [Fb,Fb] at this
theorem Q0d {x y x' y':LV} {z z':Int} (hi:Fc x y z) (hi':Fc x' y' z') (hs:Ug z<=4294967295) (hs':Ug z'<=4294967295) (hz:z'≠0):W0 Tryz.prog 186 [.agg [x,y],.agg [x',y']] [.agg (Gb (z / z')),.agg (Gb (z % z')),.one (.int .i64 0)]:=by
 obtain ⟨b,l,rfl,rfl,hl,hz1⟩:=hi;obtain ⟨b',l',rfl,rfl,hl',hz2⟩:=hi';have zl:z.natAbs=val l:=by rw [hz1,Gv]
 have zl':z'.natAbs=val l':=by rw [hz2,Gv]
 have s1:sz (val l)<=4294967296:=Qd (Ru (hz1 ▸ hs)) (by decide);have s2:sz (val l')<=4294967296:=Qd (Ru (hz2 ▸ hs')) (by decide);have hp:0<z'.natAbs:=by omega
 have e1:z=if b=true then -(z.natAbs:Int) else (z.natAbs:Int):=by rw [zl]; exact hz1
 have e2:z'=if b'=true then -(z'.natAbs:Int) else (z'.natAbs:Int):=by rw [zl']; exact hz2
 have cd:=Qpk hl hl' s1 s2 (by omega);rw [<-zl,<-zl'] at cd;have s0:sz (z.natAbs % z'.natAbs)<=4294967296:=Qd (T0 (J4 (Z9 _ hp))) (by rw [zl']; exact s2);cases b with
 |
  false =>
  obtain ⟨d1,d2⟩:=Qh8 e2 hp e1;rw [d1,d2];exact w tt Tryz.func186 rfl [.c [] cd,.f rfl,.c [] (Rw _ _),.c [] (Rw _ _),.f rfl,.f rfl] rfl rfl trivial
 |
  true =>
  by_cases h0:z.natAbs % z'.natAbs=0
  ·obtain ⟨d1,d2⟩:=Qga e2 hp e1 h0;rw [d1,d2];exact w tt Tryz.func186 rfl [.c [] cd,.f rfl,.c [] (Rw _ _),.c [] (Rw _ _),.t rfl,.f (by rw [h0,Ff]; rfl)] rfl rfl trivial
  ·obtain ⟨d1,d2⟩:=Qh7 e2 hp e1 (by omega);rw [d1,d2];have ca:=Zdz (a:=Uo (z.natAbs / z'.natAbs)) (b:=[1]) (Bv _) (λx hx=>by simp at hx; subst hx; decide) (by rw [Fb]; exact Qd (T0 (Jo _ _)) (by rw [zl]; exact s1)) (by decide);have cs:=Qht (a:=l') (b:=Uo (z.natAbs % z'.natAbs)) hl' (Bv _) s2 (by rw [Fb,<-zl']; exact J4 (Z9 _ hp));rw [Fb] at ca cs;rw [<-zl'] at cs;have hl0:=Nt (m:=z.natAbs % z'.natAbs);exact w tt Tryz.func186 rfl [.c [] cd,.f rfl,.c [] (Rw _ _),.c [] (Rw _ _),.t rfl,.t (by simp [Wz]; omega),.c [] ca,.c [] cs,.c [] (Rw _ _),.c [] (Rw _ _)] rfl rfl trivial
theorem D9 {x y x' y':LV} {z z':Int} (hi:Fc x y z) (hi':Fc x' y' z') (hs:Ug z<=4294967295) (hs':Ug z'<=4294967295) (hz:z'≠0) (hd:z % z'=0):W0 Tryz.prog 124 [.agg [x,y],.agg [x',y']] [.agg (Gb (z / z')),.one (.int .i64 0)]:=by
 have cd:=Q0d hi hi' hs hs' hz;obtain ⟨b,l,rfl,rfl,_⟩:=hi;obtain ⟨b',l',rfl,rfl,_⟩:=hi';exact w tt Tryz.func124 rfl [.c [] cd,.f rfl,.f (by rw [hd]; simp [Wz,Ff])] rfl rfl trivial
end Orr
namespace Orr
open Go
abbrev Zku (l:List Nat):LV:=.row (lm l)
def G5 (l:List Int):Nat:=l.foldl (λg z=>Nat.gcd g z.natAbs) 0
theorem Q0v {l:List Int} {i:Nat} {z:Int} (h:l[i]? = some z):G5 (l.take (i+1))=Nat.gcd (G5 (l.take i)) z.natAbs:=by
 unfold G5;rw [Yt,h];simp [Ve]
theorem Zbi (g x:Nat):Nat.gcd x (g % x)=Nat.gcd g x:=by
 rw [Nat.gcd_comm g x,Nat.gcd_rec x g,Nat.gcd_comm]
theorem Qj8 (l:List Int):l.foldl (λg z=>Nat.gcd g z.natAbs) 1=1:=by
 induction l with
 | nil=>rfl
 | cons z l ih=>simp [ih]
theorem Q49 {l:List Int} {i:Nat} (h:G5 (l.take i)=1):G5 l=1:=by
 have e:l=l.take i++l.drop i:=(Zg i l).symm;unfold G5 at h ⊢;rw [e,Ve,h,Qj8]
def trim:List Int->List Int
 | []=>[]
 |
  x::l=>match trim l with
  | []=>if x=0 then [] else [x]
  | y::k=>x::y::k
theorem Qb1:∀ {l:List Int},(∀ x∈l,x=0)->trim l=[]
 | [],_=>rfl
 |
  x::l,h=>by
  have ih:=Qb1 (l:=l) (λy hy=>h y (Qe _ hy));simp [trim,ih,h x (Qx ..)]
theorem Qmd:∀ {l:List Int} {m:Nat} {y:Int},(∀ j x,m<j->l[j]? = some x->x=0)->l[m]? = some y->y≠0->trim l=l.take (m+1)
 | [],m,y,_,h,_=>by simp at h
 |
  x::l,0,y,h1,h2,h3=>by
  have h0:trim l=[]:=Qb1 λz hz=>by
   obtain ⟨j,hj⟩:=Zl.1 hz;exact h1 (j+1) z (by omega) (by simpa using hj)
  simp at h2;subst h2;simp [trim,h0,h3]
 |
  x::l,m+1,y,h1,h2,h3=>by
  have ih:=Qmd (l:=l) (m:=m) (y:=y) (λj z hj hz=>h1 (j+1) z (by omega) (by simpa using hz)) (by simpa using h2) h3;cases hl:l with
  | nil=>subst hl; simp at h2
  |
   cons u k =>
   subst hl;rw [Vu] at ih;simp only [trim] at ih ⊢;rw [ih];simp
def Ua (l:List Int):Prop:=trim l=l
theorem Hj:∀ (l:List Int),Ua (trim l)
 | []=>rfl
 |
  x::l=>by
  have ih:=Hj l;unfold Ua at ih ⊢;cases h:trim l with
  | nil=>by_cases hx:x=0 <;> simp [trim,h,hx]
  |
   cons y k =>
   rw [h] at ih;simp only [trim,h] at ih ⊢;rw [ih]
theorem Qss {l:List Int} {m:Nat} (hm:m<=l.length) (h1:∀ j x,m<=j->l[j]? = some x->x=0) (h2:0<m->∃ y,l[m-1]? = some y/\y≠0):trim l=l.take m:=by
 rcases Q5 m with h0 | h0
 ·subst h0;rw [Qb1 λz hz=>?_]; rfl;obtain ⟨j,hj⟩:=Zl.1 hz;exact h1 j z (by omega) hj
 ·obtain ⟨y,hy,hy0⟩:=h2 h0;have:=Qmd (l:=l) (m:=m-1) (y:=y) (λj x hj hx=>h1 j x (by omega) hx) hy hy0;rwa [show m-1+1=m from by omega] at this
def IsInts:List (List LV)->List Int->Prop
 | [],[]=>True
 | x::l,z::p=>(∃ a b,x=[a,b]/\Fc a b z)/\IsInts l p
 | _,_=>False
theorem IsInts.len:∀ {l:List (List LV)} {p:List Int},IsInts l p->l.length=p.length
 | [],[],_=>rfl
 | x::l,z::p,h=>by simp [h.2.len]
 | [],_::_,h=>h.elim
 | _::_,[],h=>h.elim
theorem IsInts.get:∀ {l:List (List LV)} {p:List Int},IsInts l p->∀ {i:Nat} {z:Int},p[i]? = some z->∃ a b,l[i]? = some [a,b]/\Fc a b z
 | [],[],_,i,z,h=>by simp at h
 |
  x::l,y::p,h,0,z,hz=>by
  simp at hz; subst hz;obtain ⟨a,b,rfl,hi⟩:=h.1;exact ⟨a,b,rfl,hi⟩
 | x::l,y::p,h,i+1,z,hz=>by simpa using h.2.get (i:=i) (by simpa using hz)
 | [],_::_,h,_,_,_=>h.elim
 | _::_,[],h,_,_,_=>h.elim
theorem Ga:∀ (p:List Int),IsInts (p.map Gb) p
 | []=>trivial
 | z::p=>⟨⟨_,_,rfl,Wy z⟩,Ga p⟩
theorem IsInts.append:∀ {l l':List (List LV)} {p p':List Int},IsInts l p->IsInts l' p'->IsInts (l++l') (p++p')
 | [],_,[],_,_,h=>h
 | x::l,_,z::p,_,h,h'=>⟨h.1,h.2.append h'⟩
 | [],_,_::_,_,h,_=>h.elim
 | _::_,_,[],_,h,_=>h.elim
def pl (p:List Int):LV:=.row (p.map Gb)
def ids (l:List Int):LV:=.row (l.map λ(x:Int)=>[.int .i64 x])
theorem Ao:Fc (.bool false) (.row []) 0:=⟨false,[],rfl,rfl,(λx hx=>by cases hx),rfl⟩
theorem Zcz:sg 0=.bool false:=rfl
theorem Q02 {z:Int}:(Uo z.natAbs).length=0↔z=0:=by
 constructor
 ·intro h;have h0:=Qh h;have:=(Qc7 (Ni z.natAbs)).2 h0;rw [Fb] at this; omega
 ·rintro rfl; rw [show (0:Int).natAbs=0 from rfl,Ff]; rfl
theorem Gu {α β:Type} {f:α->β} {l:List α} {i:Nat} {x:α} (h:l[i]? = some x):(l.map f)[i]? = some (f x):=by rw [Zq,h]; rfl
theorem Zer {α:Type} {f:α->List LV} {sz:Nat} (l:List α) (h:∀ x,(f x).length=sz):∀ c∈l.map f,c.length=sz:=λc hc=>by
 obtain ⟨x,_,rfl⟩:=Ze.1 hc;exact h x
theorem Zbu:mg 0=.row []:=by simp [mg,Ff,lm]
theorem Dx:Gb 0=[LV.bool false,LV.row []]:=by simp [Gb,Zcz,Zbu]
end Orr
namespace Orr
open Go Go.Proofs
set_option maxRecDepth 10000
theorem Qgt {p:List Int} (hs:∀ z∈p,Ug z≤4294967295):sz (G5 p)≤4294967295:=by
 have key:∀ (p:List Int) (g:Nat),sz g≤4294967295->(∀ z∈p,Ug z≤4294967295)->sz (p.foldl (λg z=>Nat.gcd g z.natAbs) g)≤4294967295:=by
  intro p
  induction p with
  | nil=>exact λg h _=>h
  |
   cons z p ih =>
   intro g h hs;refine ih _ ?_ λy hy=>hs y (.tail _ hy)
   rcases Q5 g with h0 | h0
   ·subst h0; show sz (Nat.gcd 0 z.natAbs)<=_; rw [Nat.gcd_zero_left]; exact hs z (.head _)
   ·exact Qd (T0 (Nat.gcd_le_left _ h0)) h
 exact key p 0 (by decide) hs
theorem Q2s {l:List (List LV)} {p:List Int} (hi:IsInts l p) (hs:∀ z∈p,Ug z≤4294967295):W0 Tryz.prog 123 [.one (.row l)] [.agg (Gb ((G5 p:Nat):Int))]:=by
 refine U4 Tryz.func123 rfl (ln 0 rfl rfl λhl=>?_);have hlp:=hi.len;refine go tt [.z 3,.r 3 (v:=lr (Uo (G5 (p.take 0)))) (by simp [G5,Ff,lm])] rfl trivial ?_;refine ct 2 (S:=Unit) (λ_=>[(2,.v (.one (.ow 0 0))),(3,.v (lr (Uo (G5 p))))]) (λ_=>[.blk 36 [.bool false,.nils],.gone]) (λ_=>True) rfl ?_ ?_
 ·refine lp (S:=Nat) 1 (λL1 i=>(12,.v (.one (.int .i64 (i:Int))))::(3,.v (lr (Uo (G5 (p.take i)))))::L1) (λ_=>[.blk 36 [.bool false,.nils]]) (λi=>p.length-i) (λi=>i<=p.length) 0 (Qi _) rfl (λ_ _=>rfl) rfl λi hip=>?_
  by_cases h:i<p.length
  ·have hlt:i<l.length:=by omega
   obtain ⟨c,hc⟩:=gxE (l:=l) (i:=i) hlt;obtain ⟨z,hz⟩:=gxE (l:=p) (i:=i) h;obtain ⟨x,y,hc',b,r,rfl,rfl,hr,hzz⟩:=hi.get hz;rw [hc] at hc'; injection hc' with hc'; subst hc'
   have hsz:=hs z (Qa hz);have hg0:sz (G5 (p.take i))<=4294967295:=Qgt λy hy=>hs y (Qn hy)
   have ezr:z.natAbs=val r:=by rw [hzz,Gv]
   have cn:=Qba hr (by rw [<-ezr]; exact Qd hsz (by decide));rw [<-ezr] at cn;refine go tt [.t (by simp; omega),.x hc,.c [] cn] rfl trivial ?_;refine lp (S:=Nat×Nat) 2 (λL1 s=>(3,.v (lr (Uo s.1)))::(6,.v (lr (Uo s.2)))::L1) (λ_=>[.blk 36 [.bool false,.nils],.blk 36 [.bool b,.row (lm r)]]) (λs=>s.2) (λs=>Nat.gcd s.1 s.2=Nat.gcd (G5 (p.take i)) z.natAbs/\sz s.1<=4294967295/\sz s.2<=4294967295) (G5 (p.take i),z.natAbs) ⟨rfl,hg0,hsz⟩ rfl (λ_ _=>rfl) rfl λ⟨g,u⟩ ⟨j1,j2,j3⟩=>?_
   dsimp only at j1 j2 j3 ⊢;have hul:=Nt (m:=u);by_cases hu:0<u
   ·have cd:=Qtu (m:=g) (n:=u) (by omega) (by omega) hu;refine go tt [.t (by simp [Wz]; omega),.c [] cd] rfl trivial ?_;exact rd (u,g % u) (Z9 _ hu) ⟨(Zbi g u).trans j1,j3,Qd (T0 (J4 (Z9 _ hu))) j3⟩ rfl
   ·obtain rfl:u=0:=by omega
    rw [Nat.gcd_zero_right,<-Q0v hz] at j1;subst j1;by_cases h1:G5 (p.take (i+1))=1
    ·have e1:Uo (G5 (p.take (i+1)))=[1]:=by rw [h1,C7 (by decide)]; simp [Ff]
     refine go tt [.f (by simp [Ff,lm]),.t (by rw [e1]; rfl),.x (Fg (i:=0) (x:=1) (by rw [e1]; rfl)),.t rfl] rfl trivial ?_;exact rc () trivial (by rw [h1,Q49 h1]; rfl)
    ·obtain ⟨g,hg⟩:=nmE (G5 (p.take (i+1)));rw [<-hg] at h1 j2 ⊢;by_cases h2:(Uo g).length=1
     ·obtain ⟨v,hv⟩:∃ v,Uo g=[v]:=by
       match hm:Uo g,h2 with
       | [v],_=>exact ⟨v,rfl⟩
      have hv1:v≠1:=λe=>h1 (by rw [<-Fb g,hv,e]; rfl)
      refine go tt [.f (by simp [Ff,lm]),.t (by simp [Wz,h2]),.x (Fg (i:=0) (x:=v) (by rw [hv]; rfl)),.f (by simp; omega)] rfl (by simp [Wv] <;> omega) ?_;exact rd (i+1) (by omega) h (by rw [<-hg]; rfl)
     ·refine go tt [.f (by simp [Ff,lm]),.f (by simp [Wz]; omega),.f rfl] rfl (by simp [Wv] <;> omega) ?_;exact rd (i+1) (by omega) h (by rw [<-hg]; rfl)
  ·obtain rfl:i=p.length:=by omega
   refine go tt [.f (by simp; omega)] rfl trivial ?_;rw [Q4];exact rc () trivial rfl
 ·intro _ _;have cn:=Qba (Bv (G5 p)) (by rw [Fb]; exact Qd (Qgt hs) (by decide));rw [Fb] at cn;exact en tt [.c [] cn,.c [] (Rw false _)] rfl (by simp [Uk]) trivial
end Orr
namespace Orr
def Bd (s:Nat) (p:List Int):Prop:=∀ z∈p,Ug z≤s
theorem Bf:Ug 0=0:=rfl
theorem Q2i {s:Nat} {p:List Int} (h:Bd s p) {i:Nat} {z:Int} (hz:p[i]? = some z):Ug z<=s:=h z (Qa hz)
theorem U3 {s:Nat} {p:List Int} (h:Bd s p) (k:Nat):Ug (p.getD k 0)<=s:=by
 rw [Qj];cases hk:p[k]? with
 | none=>rw [Kd,Bf]; exact Qi _
 | some z=>exact Q2i h hk
theorem Wx {s t:Nat} {p:List Int} (h:Bd s p) (ht:s<=t):Bd t p:=λz hz=>Qd (h z hz) ht
theorem Qa8 {s:Nat}:Bd s []:=λz hz=>by cases hz
theorem Zfg {s:Nat} {n:Nat} {g:Nat->Int} (h:∀ k,k<n->Ug (g k)<=s):Bd s ((List.range n).map g):=λz hz=>by
 obtain ⟨k,hk,rfl⟩:=Ze.1 hz;exact h k (List.mem_range.1 hk)
theorem Qsu:∀ (l:List Int),∀ z∈trim l,z∈l
 | [],z,h=>by cases h
 |
  x::l,z,h=>by
  have ih:=Qsu l;cases hl:trim l with
  |
   nil =>
   simp only [trim,hl] at h
   split at h
   ·cases h
   ·rw [Qk] at h; rw [h]; exact Qx ..
  |
   cons y k =>
   simp only [trim,hl] at h;rcases Ql.1 h with rfl | h
   ·exact Qx ..
   ·exact Qe _ (ih z (by rw [hl]; exact h))
theorem G0 (l:List Int):(trim l).length<=l.length:=by
 induction l with
 | nil=>exact Qm _
 |
  cons x l ih =>
  cases hl:trim l with
  | nil=>simp only [trim,hl]; split <;> simp
  | cons y k=>simp only [trim,hl]; rw [hl] at ih; simp at ih ⊢; exact ih
theorem Ra {s:Nat} {p:List Int} (h:Bd s p):Bd s (trim p):=λz hz=>h z (Qsu p z hz)
theorem Qaj:∀ (l:List Int) (k:Nat),(trim l).getD k 0=l.getD k 0
 | [],k=>rfl
 |
  x::l,k=>by
  have ih:=Qaj l;cases hl:trim l with
  |
   nil =>
   rw [hl] at ih;simp only [trim,hl]
   split
   ·rename_i hx;cases k with
    | zero=>simp [hx]
    | succ k=>have:=ih k; simp at this ⊢; exact this
   ·cases k with
    | zero=>simp
    | succ k=>have:=ih k; simp at this ⊢; exact this
  |
   cons y m =>
   rw [hl] at ih;simp only [trim,hl];cases k with
   | zero=>simp
   | succ k=>have:=ih k; simp at this ⊢; exact this
def Qcp (n:Nat) (g:Nat->Int):List Int:=trim ((List.range n).map g)
theorem Ur (n:Nat) (g:Nat->Int):Ua (Qcp n g):=Hj _
theorem Ik (n:Nat) (g:Nat->Int):(Qcp n g).length<=n:=Qd (G0 _) (by simp)
theorem Nh (n:Nat) (g:Nat->Int) (k:Nat):(Qcp n g).getD k 0=if k<n then g k else 0:=by
 unfold Qcp;rw [Qaj,Qj,Zq]
 split
 ·rename_i h; rw [List.getElem?_range h]; rfl
 ·rename_i h; rw [List.getElem?_eq_none (by simpa using h)]; rfl
theorem Qcc {s n:Nat} {g:Nat->Int} (h:∀ k,k<n->Ug (g k)<=s):Bd s (Qcp n g):=Ra (Zfg h)
def Qbr (p q:List Int):List Int:=Qcp (max p.length q.length) λk=>p.getD k 0+q.getD k 0
def M3 (p q:List Int):List Int:=Qcp (max p.length q.length) λk=>p.getD k 0-q.getD k 0
def B9 (p:List Int):List Int:=Qcp p.length λk=>-(p.getD k 0)
def Uv (p:List Int) (c:Int):List Int:=Qcp p.length λk=>p.getD k 0*c
def Fj (p:List Int):List Int:=Qcp (p.length-1) λk=>p.getD (k+1) 0*((k+1:Nat):Int)
theorem Qcd {s t:Nat} {p q:List Int} (h:Bd s p) (h':Bd t q):Bd (max s t+1) (Qbr p q):=Qcc λk _=>Qd (Qcz _ _) (by have:=U3 h k; have:=U3 h' k; omega)
theorem Nn {s t:Nat} {p q:List Int} (h:Bd s p) (h':Bd t q):Bd (max s t+1) (M3 p q):=Qcc λk _=>Qd (Qno _ _) (by have:=U3 h k; have:=U3 h' k; omega)
theorem Qmo {s:Nat} {p:List Int} (h:Bd s p):Bd s (B9 p):=Qcc λk _=>by rw [Lj]; exact U3 h k
theorem Uw {s t:Nat} {p:List Int} {c:Int} (h:Bd s p) (hc:Ug c<=t):Bd (s+t) (Uv p c):=Qcc λk _=>Qd (Fz _ _) (by have:=U3 h k; omega)
theorem Ix (p q:List Int):(Qbr p q).length<=max p.length q.length:=Ik _ _
theorem Su (p q:List Int):(M3 p q).length<=max p.length q.length:=Ik _ _
theorem Qiw (p:List Int):(B9 p).length<=p.length:=Ik _ _
theorem Un (p:List Int) (c:Int):(Uv p c).length<=p.length:=Ik _ _
theorem Bi (p:List Int):(Fj p).length<=p.length-1:=Ik _ _
theorem Qx2 {k t:Nat} (h:k<2^t):Ug (k:Int)<=t:=by rw [Mg]; simpa using h
theorem Q00 {k:Nat} (h:k<274877906944):Ug (k:Int)<=4294967295:=Qd (Qx2 (t:=38) (Nat.lt_of_lt_of_eq h (by decide))) (by omega)
theorem Qwl {s t:Nat} {p:List Int} (h:Bd s p) (hl:p.length<=2^t):Bd (s+t) (Fj p):=Qcc λk hk=>Qd (Fz _ _) (by
 have:=U3 h (k+1);have:=Qx2 (k:=k+1) (t:=t) (by omega);omega)
def Qbn (x:Int) (b:List Int) (i:Nat) (o:List Int):Nat->List Int
 | 0=>o
 | k+1=>(Qbn x b i o k).set (i+k) ((Qbn x b i o k).getD (i+k) 0+x*b.getD k 0)
def Qbm (a b o:List Int):Nat->List Int
 | 0=>o
 | i+1=>Qbn (a.getD i 0) b i (Qbm a b o i) b.length
def U5 (a b:List Int):List Int:=if a.length=0\/b.length=0 then [] else trim (Qbm a b (List.replicate (a.length+b.length-1) 0) a.length)
theorem I3 (x:Int) (b:List Int) (i:Nat) (o:List Int) (k:Nat):(Qbn x b i o k).length=o.length:=by
 induction k with
 | zero=>rfl
 | succ k ih=>simp [Qbn,ih]
theorem Ek (a b o:List Int) (i:Nat):(Qbm a b o i).length=o.length:=by
 induction i with
 | zero=>rfl
 | succ i ih=>simp [Qbm,I3,ih]
theorem Q5h (l:List Int) (i m:Nat) (v:Int) (h:i<l.length):(l.set i v).getD m 0=if m=i then v else l.getD m 0:=by
 rw [Qj,J6,Qj];by_cases e:i=m
 ·subst e; simp [h]
 ·rw [if_neg e,if_neg (λh=>e h.symm)]
theorem Q08 (x:Int) (b:List Int) (i:Nat) (o:List Int) (k m:Nat) (h:i+k<=o.length):(Qbn x b i o k).getD m 0=if i<=m/\m<i+k then o.getD m 0+x*b.getD (m-i) 0 else o.getD m 0:=by
 induction k with
 | zero=>simp only [Qbn]; rw [if_neg (by omega)]
 |
  succ k ih =>
  have ih:=ih (by omega);simp only [Qbn];rw [Q5h _ _ _ _ (by rw [I3]; omega)];by_cases e:m=i+k
  ·subst e;rw [if_pos rfl,if_pos (by omega),show i+k-i=k from by omega];rw [ih,if_neg (by omega)]
  ·rw [if_neg e,ih];by_cases h1:i<=m/\m<i+k
   ·rw [if_pos h1,if_pos (by omega)]
   ·rw [if_neg h1,if_neg (by omega)]
theorem Lt {x y:Int} {s t:Nat} (hx:Ug x<=s) (hy:Ug y<=t):(x*y).natAbs<=2^(s+t):=by
 have h:=Qd (Fz x y) (show _<=s+t by omega);rw [Mg] at h; omega
theorem Qyk {x:Int} {b:List Int} {i:Nat} {o:List Int} {k M:Nat} (h:i+k<=o.length) (ho:∀ m,(o.getD m 0).natAbs<=i*M) (hx:∀ j,(x*b.getD j 0).natAbs<=M) (m:Nat):((Qbn x b i o k).getD m 0).natAbs<=(i+1)*M:=by
 rw [Q08 x b i o k m h,Z5];have h1:=ho m
 split
 ·have h2:=hx (m-i);generalize i*M=q at *;omega
 ·omega
theorem Qyj {a b o:List Int} {i M:Nat} (h:∀ j,j<i->j+b.length<=o.length) (ho:∀ m,o.getD m 0=0) (hx:∀ i j,(a.getD i 0*b.getD j 0).natAbs<=M) (m:Nat):((Qbm a b o i).getD m 0).natAbs<=i*M:=by
 induction i generalizing m with
 | zero=>simp only [Qbm]; rw [ho]; simp
 |
  succ i ih =>
  simp only [Qbm];exact Qyk (by rw [Ek]; exact h i (by omega)) (ih λj hj=>h j (by omega)) (hx i) m
theorem Qaz {z:Int} {i s t:Nat} (h:z.natAbs<=i*2^s) (hi:i<2^t):Ug z<=s+t:=by
 rw [Mg];have h1:i*2^s<2^t*2^s:=Xi hi (Zy (by decide));rw [<-Xc,Jj t s] at h1;omega
theorem Dq (n m:Nat):(List.replicate n (0:Int)).getD m 0=0:=by
 rw [Qj,Jl]; split <;> rfl
theorem Qhj {s:Nat} {p:List Int} (h:∀ m,Ug (p.getD m 0)<=s):Bd s p:=λz hz=>by
 obtain ⟨i,hi⟩:=Zl.1 hz;have:=h i;rw [Qj,hi] at this;exact this
theorem Rh (a b:List Int):(U5 a b).length<=a.length+b.length-1:=by
 unfold U5
 split
 ·simp
 ·refine Qd (G0 _) ?_;rw [Ek]; simp
theorem Tt {s t u:Nat} {a b:List Int} (ha:Bd s a) (hb:Bd t b) (hl:a.length<2^u):Bd (s+t+u) (U5 a b):=by
 unfold U5
 split
 ·exact Qa8
 ·refine Ra (Qhj λm=>?_);exact Qaz (Qyj (M:=2^(s+t)) (λj hj=>by simp; omega) (Dq _) (λi j=>Lt (U3 ha i) (U3 hb j)) m) hl
theorem Gh (a b:List Int):Ua (U5 a b):=by
 unfold U5
 split
 ·rfl
 ·exact Hj _
def Ce (a:List Int) (n d:Int):Nat->Int×Int
 | 0=>(0,1)
 | k+1=>((Ce a n d k).1*n+a.getD (a.length-1-k) 0*(Ce a n d k).2,(Ce a n d k).2*d)
def Zhq (a:List Int) (n d:Int):Int:=(Ce a n d a.length).1
theorem Qzu {a:List Int} {n d:Int} {s t k:Nat} (ha:Bd s a) (hn:Ug n<=t) (hd:Ug d<=t):Ug (Ce a n d k).1<=s+2+k*(t+1)/\Ug (Ce a n d k).2<=1+k*t:=by
 induction k with
 | zero=>exact ⟨by simp [Ce,Bf],by simp [Ce]; decide⟩
 |
  succ k ih =>
  obtain ⟨h1,h2⟩:=ih;have h3:=U3 ha (a.length-1-k);have e1:k*(t+1)=k*t+k:=by rw [Xe,Yj]
  rw [Z5,Z5];refine ⟨?_,?_⟩
  ·simp only [Ce];refine Qd (Qcz _ _) ?_;have h4:=Fz (Ce a n d k).1 n;have h5:=Fz (a.getD (a.length-1-k) 0) (Ce a n d k).2;generalize k*t=q at *;rw [e1] at h1 ⊢;omega
  ·simp only [Ce];have h4:=Fz (Ce a n d k).2 d;generalize k*t=q at *;omega
end Orr
namespace Orr
theorem Ziu {l:List Int} {i:Nat} (h:i<l.length):l[i]? = some (l.getD i 0):=by
 rw [Qj,Qf h]; rfl
theorem Qm1 {x y:Int}:Bb x y=0↔x=y:=by
 unfold Bb;constructor
 ·intro h
  split at h
  ·omega
  ·split at h <;> omega
 ·rintro rfl; simp
theorem G7 {p:List Int} (h:Ua p) (h0:0<p.length):p.getD (p.length-1) 0≠0:=by
 induction p with
 | nil=>simp at h0
 |
  cons x l ih =>
  unfold Ua at h;cases hl:trim l with
  |
   nil =>
   simp only [trim,hl] at h
   split at h
   ·cases h
   ·rename_i hx;injection h with h1 h2;subst h2;simpa using hx
  |
   cons y k =>
   simp only [trim,hl] at h;injection h with h1 h2;rw [<-hl] at h2;have ih:=ih h2 (by rw [<-h2,hl]; simp);have h3:0<l.length:=by rw [<-h2,hl]; simp
   simp only [Q6,Ju];obtain ⟨m,hm⟩:∃ m,l.length=m+1:=⟨l.length-1,by omega⟩;rw [hm] at ih ⊢;simpa using ih
end Orr
namespace Orr
theorem Qq4 (p:List Int):(List.range p.length).map (λk=>p.getD k 0)=p:=by
 apply Xg;intro i;rw [Zq];rcases Zb i p.length with h | h
 ·rw [Jh h];simp [Qf h]
 ·rw [Q0 (by simpa using h),Q0 h]; rfl
theorem Qub {p q:List Int} (hl:p.length=q.length) (h:∀ j,j<p.length->p.getD j 0=q.getD j 0):p=q:=by
 rw [<-Qq4 p,<-Qq4 q,<-hl];exact Xv λj hj=>h j (List.mem_range.1 hj)
end Orr
namespace Orr
abbrev rl (q:Rat):List LV:=[sg q.num,mg q.num,sg (q.den:Int),mg (q.den:Int)]
theorem Eg (n d:Int):G5 [n,d]=Int.gcd d n:=by
 unfold G5;simp only [Z4,List.foldl_nil,Nat.gcd_zero_left];exact Nat.gcd_comm _ _
theorem Q5a {n d:Int} (hd:d≠0):(0:Int)<((G5 [n,d]:Nat):Int):=by
 rw [Eg];have:=Int.gcd_pos_of_ne_zero_left n hd;omega
theorem Qug (n d:Int):n % ((G5 [n,d]:Nat):Int)=0:=by
 rw [Eg]; exact Yb (Int.gcd_dvd_right ..)
theorem Quh (n d:Int):d % ((G5 [n,d]:Nat):Int)=0:=by
 rw [Eg]; exact Yb (Int.gcd_dvd_left ..)
theorem Qyn {n g:Int} (h:n % g=0):-n % g=0:=by
 exact Yb (Int.dvd_neg.2 (Int.dvd_of_emod_eq_zero h))
theorem Zbm {n d:Int} {s:Nat} (hd:d≠0) (h:Ug d<=s):Ug ((G5 [n,d]:Nat):Int)<=s:=by
 rw [Eg];refine Qd (T0 ?_) h;have:=K8 (by omega:0<d.natAbs) (show Int.gcd d n∣d.natAbs from We _ _);simpa using this
theorem Zbt {n d:Int} (hd:0<d):n / ((G5 [n,d]:Nat):Int)=(Rat.divInt n d).num/\d / ((G5 [n,d]:Nat):Int)=((Rat.divInt n d).den:Int):=by
 rw [Eg,Rat.num_divInt,Kx,if_neg (by omega),Yi hd,Ky];refine ⟨rfl,?_⟩;rw [Int.natCast_ediv,Int.natAbs_of_nonneg (by omega)]
theorem Zbs {n d:Int} (hd:d<0):-n / ((G5 [n,d]:Nat):Int)=(Rat.divInt n d).num/\-d / ((G5 [n,d]:Nat):Int)=((Rat.divInt n d).den:Int):=by
 rw [Eg,Rat.num_divInt,Kx,if_neg (by omega),Jr hd,Wq,Ky];refine ⟨rfl,?_⟩;rw [Int.natCast_ediv,Int.ofNat_natAbs_of_nonpos (by omega)]
theorem Qio (u g:Int):Ug (u / g)<=Ug u:=by
 unfold Ug;exact T0 (Int.natAbs_ediv_le_natAbs u g)
theorem Qiq {n d:Int} {s:Nat} (h:Ug n<=s):Ug (Rat.divInt n d).num<=s:=by
 rw [Rat.num_divInt];refine Qd (Qio _ _) ?_;unfold Ug;rw [Ye];refine Qd (T0 ?_) h;have:d.sign.natAbs<=1:=by rcases D4 d with ⟨_,e⟩ | ⟨_,e⟩ | ⟨_,e⟩ <;> rw [e] <;> decide
 calc d.sign.natAbs*n.natAbs<=1*n.natAbs:=Qy _ this
  _=n.natAbs:=Ws _
theorem Qip {n d:Int} {s:Nat} (h:Ug d<=s) (h1:1<=s):Ug ((Rat.divInt n d).den:Int)<=s:=by
 rw [Kx]
 split
 ·exact h1
 ·refine Qd (T0 ?_) h;exact Jo _ _
def Qs (s:Nat) (q:Rat):Prop:=Ug q.num<=s/\Ug (q.den:Int)<=s
theorem Qs.mono {s t:Nat} {q:Rat} (h:Qs s q) (ht:s<=t):Qs t q:=⟨Qd h.1 ht,Qd h.2 ht⟩
theorem Qs.divInt {s:Nat} {n d:Int} (h:Ug n<=s) (h':Ug d<=s) (h1:1<=s):Qs s (Rat.divInt n d):=⟨Qiq h,Qip h' h1⟩
theorem Zgj (q:Rat):(q.den:Int)≠0:=by have:=q.den_nz; omega
theorem den_pos (q:Rat):(0:Int)<(q.den:Int):=by have:=q.den_nz; omega
def Rj (n d:Int):Rat:=Rat.divInt n (if d=0 then 1 else d)
theorem Tf (q:Rat):Rj q.num q.den=q:=by
 unfold Rj;rw [if_neg (Zgj q)]; exact X2 q
def Fp (a b:Rat):Int:=Bb (a.num*(b.den:Int)) (b.num*(a.den:Int))
theorem S9 {a b:Rat}:Fp a b<0↔a<b:=by
 rw [Rat.lt_iff]; unfold Fp Bb;constructor
 ·intro h; split at h
  ·assumption
  ·split at h <;> omega
 ·intro h; rw [if_pos h]; decide
theorem Cn {a b:Rat}:0<Fp a b↔b<a:=by
 rw [Rat.lt_iff]; unfold Fp Bb;constructor
 ·intro h; split at h
  ·omega
  ·split at h
   ·assumption
   ·omega
 ·intro h; rw [if_neg (by omega),if_pos h]; decide
theorem C0 (a:Rat):Fp a a=0:=by unfold Fp Bb; simp
structure Crv where
 x:List Int
 y:List Int
 d:Int
abbrev cl (k:Crv):List LV:=[pl k.x,pl k.y,sg k.d,mg k.d]
def Crv.d' (k:Crv):Int:=if k.d=0 then 1 else k.d
def Crv.g (k:Crv):Int:=if k.d'<0 then -((G5 (k.d'::(trim k.x++trim k.y)):Nat):Int) else (G5 (k.d'::(trim k.x++trim k.y)):Nat)
def Crv.norm (k:Crv):Crv:=⟨trim ((trim k.x).map (· / k.g)),trim ((trim k.y).map (· / k.g)),k.d' / k.g⟩
theorem Io {l:List Int}:∀ z∈l,((G5 l:Nat):Int)∣z:=by
 have key:∀ (l:List Int) (g:Nat),(l.foldl (λg z=>Nat.gcd g z.natAbs) g∣g)/\∀ z∈l,l.foldl (λg z=>Nat.gcd g z.natAbs) g∣z.natAbs:=by
  intro l
  induction l with
  | nil=>intro g; exact ⟨Nat.dvd_refl _,by simp⟩
  |
   cons u l ih =>
   intro g;obtain ⟨h1,h2⟩:=ih (Nat.gcd g u.natAbs);refine ⟨Nat.dvd_trans h1 (We _ _),λz hz=>?_⟩;rcases Ql.1 hz with rfl | hz
   ·exact Nat.dvd_trans h1 (Nat.gcd_dvd_right _ _)
   ·exact h2 z hz
 intro z hz;have:=(key l 0).2 z hz;exact K0.2 this
theorem Crv.d'_ne (k:Crv):k.d'≠0:=by unfold Crv.d'; split <;> omega
theorem Crv.gcd_ne (k:Crv):G5 (k.d'::(trim k.x++trim k.y))≠0:=by
 intro e;have h:=Io (l:=k.d'::(trim k.x++trim k.y)) k.d' (Qx ..);rw [e] at h;exact k.d'_ne (by simpa using h)
theorem Crv.g_ne (k:Crv):k.g≠0:=by
 have h0:=k.gcd_ne;unfold Crv.g
 split <;> omega
theorem Crv.g_dvd (k:Crv):∀ z∈k.d'::(trim k.x++trim k.y),z % k.g=0:=by
 intro z hz;have h:=Io z hz;refine Yb ?_;unfold Crv.g
 split
 ·exact Int.neg_dvd.2 h
 ·exact h
theorem Crv.isz_g (k:Crv) {s:Nat} (h:Ug k.d'<=s):Ug k.g<=s:=by
 have hd:=Io (l:=k.d'::(trim k.x++trim k.y)) k.d' (Qx ..);have hle:G5 (k.d'::(trim k.x++trim k.y))<=k.d'.natAbs:=K8 (by have:=k.d'_ne; omega) (K0.1 hd);refine Qd (T0 ?_) h;unfold Crv.g
 split <;> simp <;> exact hle
structure Cs (s n:Nat) (k:Crv):Prop where
 x:Bd s k.x
 y:Bd s k.y
 d:Ug k.d<=s
 lx:k.x.length<=n
 ly:k.y.length<=n
theorem Q5t {k:Crv} {s:Nat} (h:Ug k.d<=s) (h1:1<=s):Ug k.d'<=s:=by unfold Crv.d'; split <;> first | exact h1 | exact h
theorem Qd3 {s:Nat} {p:List Int} (h:Bd s p) (g:Int):Bd s (p.map (· / g)):=λz hz=>by
 obtain ⟨u,hu,rfl⟩:=Ze.1 hz;exact Qd (Qio u g) (h u hu)
theorem Cs.norm {s n:Nat} {k:Crv} (h:Cs s n k) (h1:1<=s):Cs s n k.norm:=by
 refine ⟨Ra (Qd3 (Ra h.x) _),Ra (Qd3 (Ra h.y) _),Qd (Qio _ _) (Q5t h.d h1),?_,?_⟩
 ·refine Qd (G0 _) ?_; rw [Zm]; exact Qd (G0 _) h.lx
 ·refine Qd (G0 _) ?_; rw [Zm]; exact Qd (G0 _) h.ly
theorem Cs.mono {s n t m:Nat} {k:Crv} (h:Cs s n k) (hs:s<=t) (hn:n<=m):Cs t m k:=⟨Wx h.x hs,Wx h.y hs,Qd h.d hs,Qd h.lx hn,Qd h.ly hn⟩
def Nml (k:Crv):Prop:=Ua k.x/\Ua k.y/\0<k.d/\G5 (k.d::(k.x++k.y))=1
theorem Crv.norm_of {k:Crv} (h:Nml k):k.norm=k:=by
 obtain ⟨h1,h2,h3,h4⟩:=h;have hd:k.d'=k.d:=by unfold Crv.d'; rw [if_neg (by omega)]
 have hx:trim k.x=k.x:=h1;have hy:trim k.y=k.y:=h2;have hg:k.g=1:=by unfold Crv.g; rw [hd,hx,hy,h4,if_neg (by omega)]; rfl
 unfold Crv.norm;rw [hg,hd,hx,hy];simp [hx,hy]
theorem Qni {l:List Int} {g:Int} (hg:g≠0) (hga:g.natAbs=G5 l):G5 (l.map (· / g))=1:=by
 have key:∀ (l:List Int) (a:Nat),(∀ z∈l,g∣z)->l.foldl (λa z=>Nat.gcd a z.natAbs) (a*g.natAbs)=((l.map (· / g)).foldl (λa z=>Nat.gcd a z.natAbs) a)*g.natAbs:=by
  intro l
  induction l with
  | nil=>intro a _; rfl
  |
   cons z l ih =>
   intro a h;simp only [Zx,Z4];have hz:z.natAbs=(z / g).natAbs*g.natAbs:=by
    obtain ⟨q,rfl⟩:=h z (Qx ..);rw [Yx _ hg,Ye,Zp]
   rw [hz,Nat.gcd_mul_right];exact ih _ λu hu=>h u (Qe _ hu)
 have h:=key l 0 λz hz=>X6.1 (by rw [hga]; exact X6.2 (Io z hz))
 rw [Yn] at h;have h':G5 l=G5 (l.map (· / g))*g.natAbs:=h;rw [<-hga] at h';have hp:0<g.natAbs:=by omega
 exact Nat.eq_of_mul_eq_mul_right hp (by rw [Ws]; exact h'.symm)
theorem On {l:List Int} {g:Int} (ht:Ua l) (hg:g≠0) (hd:∀ z∈l,g∣z):Ua (l.map (· / g)):=by
 induction l with
 | nil=>rfl
 |
  cons x l ih =>
  have hne:∀ z∈x::l,z≠0->z / g≠0:=λz hz h0 h1=>by
   obtain ⟨q,rfl⟩:=hd z hz;rw [Yx _ hg] at h1;rw [h1] at h0; simp at h0
  unfold Ua at ht ih ⊢;cases hl:trim l with
  |
   nil =>
   simp only [trim,hl] at ht
   split at ht
   ·cases ht
   ·rename_i hx;injection ht with _ h2;subst h2;simp [trim,hne x (Qx ..) hx]
  |
   cons y k =>
   simp only [trim,hl] at ht;injection ht with _ h2;have hll:trim l=l:=by rw [hl]; exact h2
   have ih:=ih hll λz hz=>hd z (Qe _ hz)
   rw [Zx];have hne2:l.map (· / g)≠[]:=by rw [<-hll,hl]; simp
   cases hm:l.map (· / g) with
   | nil=>exact absurd hm hne2
   |
    cons u w =>
    rw [hm] at ih;have e:trim (x / g::u::w)=match trim (u::w) with | []=>if x / g=0 then [] else [x / g] | y::k=>x / g::y::k:=rfl
    rw [e,ih]
theorem Crv.nml (k:Crv):Nml k.norm:=by
 have hg:=k.g_ne;have hdv:∀ z∈k.d'::(trim k.x++trim k.y),k.g∣z:=λz hz=>Int.dvd_of_emod_eq_zero (k.g_dvd z hz)
 have hx:=On (g:=k.g) (Hj k.x) hg λz hz=>hdv z (by simp [hz])
 have hy:=On (g:=k.g) (Hj k.y) hg λz hz=>hdv z (by simp [hz])
 refine ⟨Hj _,Hj _,?_,?_⟩
 ·show 0<k.d' / k.g;obtain ⟨q,hq⟩:=hdv k.d' (Qx ..);have h0:=k.d'_ne;have hgc:=k.gcd_ne;have e:k.d' / k.g=q:=by rw [hq,Yx _ hg]
  rw [e];unfold Crv.g at hq hg;have hq0:q≠0:=λe=>by rw [e,Kn] at hq; exact h0 hq
  split at hq
  ·rename_i hneg;rcases Kz hq0 with h | h
   ·have:=Vx (a:=-((G5 (k.d'::(trim k.x++trim k.y)):Nat):Int)) (b:=q) (by omega) h;omega
   ·exact h
  ·rename_i hneg;rcases Kz hq0 with h | h
   ·have:=Vw (a:=((G5 (k.d'::(trim k.x++trim k.y)):Nat):Int)) (b:=q) (by omega) h;omega
   ·exact h
 ·show G5 (k.d' / k.g::(trim ((trim k.x).map (· / k.g))++trim ((trim k.y).map (· / k.g))))=1;rw [show trim ((trim k.x).map (· / k.g))=(trim k.x).map (· / k.g) from hx,show trim ((trim k.y).map (· / k.g))=(trim k.y).map (· / k.g) from hy,<-J0,<-Zx (f:=(· / k.g))];refine Qni hg ?_;unfold Crv.g
  split <;> omega
structure Pt where
 c:Crv
 id:Int
def W8 (p:Pt):List LV:=[pl p.c.x,pl p.c.y,sg p.c.d,mg p.c.d,.int .i64 p.id]
def pts (l:List Pt):LV:=.row (l.map W8)
def Lu:List Pt->Int->Nat
 | [],_=>0
 | p::l,id=>if p.id<id then Lu l id+1 else 0
def has (l:List Pt) (id:Int):Bool:=match l[Lu l id]? with
 | some p=>decide (p.id=id)
 | none=>false
theorem Qu7 (l:List Pt) (id:Int):Lu l id<=l.length:=by
 induction l with
 | nil=>exact Qm _
 | cons p l ih=>simp only [Lu]; split <;> simp <;> omega
theorem Qji:∀ {l:List Pt} {id:Int} {k:Nat},(∀ j p,j<k->l[j]? = some p->p.id<id)->(k=l.length\/∃ p,l[k]? = some p/\¬p.id<id)->Lu l id=k
 |
  [],id,k,_,h=>by
  rcases h with h | ⟨p,h,_⟩
  ·subst h; rfl
  ·simp at h
 |
  q::l,id,0,_,h=>by
  rcases h with h | ⟨p,h,h2⟩
  ·simp at h
  ·simp at h; subst h; simp [Lu,h2]
 |
  q::l,id,k+1,h1,h=>by
  have hq:=h1 0 q (by omega) rfl;simp only [Lu,hq,if_true];rw [Qji (k:=k) (λj p hj hp=>h1 (j+1) p (by omega) (by simpa using hp))];rcases h with h | ⟨p,h,h2⟩
  ·left; simpa using h
  ·right; exact ⟨p,by simpa using h,h2⟩
def put (l:List Pt) (q:Pt):List Pt:=l.take (Lu l q.id)++q::l.drop (Lu l q.id)
def Qbw (l:List Pt) (q:Pt):Int:=if has l q.id=true then 6 else if 6<=l.length then 9 else 0
def Q16 (s n:Nat) (p:Pt):Prop:=Nml p.c/\Cs s n p.c
theorem Qza (l:List Pt) (q:Pt):(put l q).length=l.length+1:=by
 have:=Qu7 l q.id;simp [put]; omega
theorem Qg2 {l:List Pt} {q p:Pt} (h:p∈put l q):p=q\/p∈l:=by
 unfold put at h;rcases Qq.1 h with h | h
 ·exact .inr (Qn h)
 ·rcases Ql.1 h with h | h
  ·exact .inl h
  ·exact .inr (Qz h)
def Lh (a b:Crv):Bool:=decide (a.x=b.x/\a.y=b.y/\a.d=b.d)
def P6 (out:List Pt) (p:Pt):List Pt:=if out.any (λq=>Lh p.c q.c)=true then out else out++[p]
def He (l:List Pt):List Pt:=l.foldl P6 []
theorem Q1u {out:List Pt} {p q:Pt} (h:q∈P6 out p):q∈out\/q=p:=by
 unfold P6 at h
 split at h
 ·exact .inl h
 ·rcases Qq.1 h with h | h
  ·exact .inl h
  ·exact .inr (by simpa using h)
theorem Q1t (out:List Pt) (p:Pt):(P6 out p).length<=out.length+1:=by
 unfold P6; split <;> simp
theorem Hp {α β:Type} (f:β->α->β) (b:β) (l:List α) {i:Nat} {x:α} (h:l[i]? = some x):(l.take (i+1)).foldl f b=f ((l.take i).foldl f b) x:=by
 rw [Yt,h]; simp [Ve]
theorem Qa7 (l:List Pt) (i:Nat):∀ q∈(l.take i).foldl P6 [],q∈l:=by
 induction i with
 | zero=>simp
 |
  succ i ih =>
  intro q hq;cases hi:l[i]? with
  |
   none =>
   rw [Qr (by have:=Xo.1 hi; omega)] at hq;rw [Qr (Xo.1 hi)] at ih;exact ih q hq
  |
   some x =>
   rw [Hp _ _ _ hi] at hq;rcases Q1u hq with h | h
   ·exact ih q h
   ·subst h; exact Qa hi
theorem Qa6 (l:List Pt) (i:Nat):((l.take i).foldl P6 []).length<=i:=by
 induction i with
 | zero=>simp
 |
  succ i ih =>
  cases hi:l[i]? with
  |
   none =>
   rw [Qr (by have:=Xo.1 hi; omega)];rw [Qr (Xo.1 hi)] at ih;omega
  |
   some x =>
   rw [Hp _ _ _ hi];have:=Q1t ((l.take i).foldl P6 []) x;omega
theorem S6 {l:List Pt} {q:Pt} (h:q∈He l):q∈l:=by
 have:=Qa7 l l.length q;rw [Q4] at this;exact this h
theorem Aa (l:List Pt):(He l).length<=l.length:=by
 have:=Qa6 l l.length;rwa [Q4] at this
def IsPt (s n:Nat) (z:List LV) (q:Pt):Prop:=∃ lx ly b l px py d,z=[.row lx,.row ly,.bool b,Zku l,.int .i64 q.id]/\IsInts lx px/\IsInts ly py/\Fc (.bool b) (Zku l) d/\Cs s n ⟨px,py,d⟩/\q.c=Crv.norm ⟨px,py,d⟩
def IsPts (s n:Nat):List (List LV)->List Pt->Prop
 | [],[]=>True
 | z::zs,q::qs=>IsPt s n z q/\IsPts s n zs qs
 | _,_=>False
theorem IsPts.len {s n:Nat}:∀ {zs:List (List LV)} {qs:List Pt},IsPts s n zs qs->zs.length=qs.length
 | [],[],_=>rfl
 | _::_,_::_,h=>by simp [h.2.len]
 | [],_::_,h=>h.elim
 | _::_,[],h=>h.elim
theorem IsPts.get {s n:Nat}:∀ {zs:List (List LV)} {qs:List Pt},IsPts s n zs qs->∀ {i:Nat} {q:Pt},qs[i]? = some q->∃ z,zs[i]? = some z/\IsPt s n z q
 | [],[],_,i,q,h=>by simp at h
 | z::zs,q::qs,h,0,r,hr=>by simp at hr; subst hr; exact ⟨z,rfl,h.1⟩
 | z::zs,q::qs,h,i+1,r,hr=>by simpa using h.2.get (i:=i) (by simpa using hr)
 | [],_::_,h,_,_,_=>h.elim
 | _::_,[],h,_,_,_=>h.elim
theorem IsPt.ok {s n:Nat} {z:List LV} {q:Pt} (h:IsPt s n z q) (h1:1<=s):Q16 s n q:=by
 obtain ⟨lx,ly,b,l,px,py,d,_,_,_,_,hc,e⟩:=h;unfold Q16;rw [e];exact ⟨Crv.nml _,hc.norm h1⟩
def Gk (p:List Int) (q:Rat):Int:=Bb (Zhq p q.num q.den) 0
abbrev qa (q:Rat):List LV:=pl [-q.num,(q.den:Int)]::(rl q++rl q)
def Hl (sgn:List Int->Int):Nat->List Int->Int
 | 0,_=>0
 | k+1,p=>if p.length=0 then 0 else if sgn p=0 then Hl sgn k (Fj p) else sgn p
theorem Ir (sgn:List Int->Int):∀ (k:Nat) (p:List Int),p.length<=k->Hl sgn k p=Hl sgn p.length p
 |
  0,p,h=>by
  have:p.length=0:=by omega
  rw [this]
 |
  k+1,p,h=>by
  cases hp:p.length with
  | zero=>simp [Hl,hp]
  |
   succ m =>
   simp only [Hl];have h1:=Bi p;rw [Ir sgn k (Fj p) (by omega),Ir sgn m (Fj p) (by omega)]
theorem Qqo (sgn:List Int->Int) {p:List Int} (h:p.length=0):Hl sgn p.length p=0:=by rw [h]; rfl
theorem Qqm (sgn:List Int->Int) {p:List Int} (h:0<p.length) (hs:sgn p≠0):Hl sgn p.length p=sgn p:=by
 obtain ⟨m,hm⟩:∃ m,p.length=m+1:=⟨p.length-1,by omega⟩;rw [hm]; simp only [Hl]; rw [if_neg (by omega),if_neg hs]
theorem Qqn (sgn:List Int->Int) {p:List Int} (h:0<p.length) (hs:sgn p=0):Hl sgn p.length p=Hl sgn (Fj p).length (Fj p):=by
 obtain ⟨m,hm⟩:∃ m,p.length=m+1:=⟨p.length-1,by omega⟩;rw [hm]; simp only [Hl]; rw [if_neg (by omega),if_pos hs];exact Ir sgn m _ (by have:=Bi p; omega)
structure Tm where
 p:List Int
 lo:Rat
 hi:Rat
abbrev ta (t:Tm):List LV:=pl t.p::(rl t.lo++rl t.hi)
abbrev tq (q:Rat):Tm:=⟨[-q.num,(q.den:Int)],q,q⟩
def Fq (sg:List Int->Int) (p:List Int):Int:=Hl sg p.length p
structure Pb (p:List Int):Prop where
 t:Ua p
 l:p.length<=64
 b:Bd 16777216 p
abbrev Qb (q:Rat):Prop:=Qs 16777216 q
abbrev Cb (k:Crv):Prop:=Cs 1048576 16 k
def Uu (a b:Crv):List Int:=M3 (Uv b.x a.d) (Uv a.x b.d)
def Ut (a b:Crv):List Int:=M3 (Uv b.y a.d) (Uv a.y b.d)
theorem Qro {a b:Crv} (ha:Cb a) (hb:Cb b):Pb (Uu a b)/\(Uu a b).length<=16/\Bd 2097153 (Uu a b):=by
 have h1:Bd 2097153 (Uu a b):=Wx (Nn (Uw hb.x ha.d) (Uw ha.x hb.d)) (by omega);have h2:(Uu a b).length<=16:=by
  refine Qd (Su _ _) ?_;have:=Un b.x a.d; have:=Un a.x b.d; have:=ha.lx; have:=hb.lx;omega
 exact ⟨⟨Ur _ _,by omega,Wx h1 (by omega)⟩,h2,h1⟩
theorem Qrm {a b:Crv} (ha:Cb a) (hb:Cb b):Pb (Ut a b)/\(Ut a b).length<=16/\Bd 2097153 (Ut a b):=by
 have h1:Bd 2097153 (Ut a b):=Wx (Nn (Uw hb.y ha.d) (Uw ha.y hb.d)) (by omega);have h2:(Ut a b).length<=16:=by
  refine Qd (Su _ _) ?_;have:=Un b.y a.d; have:=Un a.y b.d; have:=ha.ly; have:=hb.ly;omega
 exact ⟨⟨Ur _ _,by omega,Wx h1 (by omega)⟩,h2,h1⟩
def B8 (sg:List Int->Int) (a b:Pt):List (List Int)->Bool
 | []=>decide (a.id<b.id)
 | p::l=>if 0<p.length then decide (0<Fq sg p) else B8 sg a b l
def Mc (sg:List Int->Int) (a b:Pt):Bool:=B8 sg a b [Ut b.c a.c,Uu b.c a.c]
def Hk (sg:List Int->Int) (a b:Pt):Bool:=B8 sg a b [Uu a.c b.c,Ut a.c b.c]
end Orr
namespace Orr
open Go
structure Ct where
 kind:Int
 i0:Int
 i1:Int
 i2:Int
 i3:Int
 p:List Int
 want:Int
abbrev Nj (c:Ct):List LV:=[.int .i64 c.kind,.int .i64 c.i0,.int .i64 c.i1,.int .i64 c.i2,.int .i64 c.i3,pl c.p,.int .i64 c.want]
def Bz (p q:List Int):List Int:=if 0<p.length then p else q
def M6:List Int->List Int->Bool
 | x::l,y::m=>if x=y then M6 l m else decide (x<y)
 | _,_=>false
def Qqy (a b:Ct):Bool:=M6 [a.kind,a.i0,a.i1,a.i2,a.i3] [b.kind,b.i0,b.i1,b.i2,b.i3]
def Oc (out:List Ct) (c:Ct):Nat->Nat
 | 0=>0
 |
  k+1=>match out[k]? with
  | some x=>if Qqy c x=true then Oc out c k else k+1
  | none=>k+1
theorem Qy0 (out:List Ct) (c:Ct):∀ k,Oc out c k<=k
 | 0=>Qm _
 |
  k+1=>by
  simp only [Oc]
  split
  ·split
   ·exact Nat.le_succ_of_le (Qy0 out c k)
   ·exact Qm _
  ·exact Qm _
theorem Zcd {out:List Ct} {c x:Ct} {k:Nat} (hx:out[k]? = some x) (h:Qqy c x=true):Oc out c (k+1)=Oc out c k:=by
 simp only [Oc,hx,h,if_true]
theorem Q62 {out:List Ct} {c x:Ct} {k:Nat} (hx:out[k]? = some x) (h:Qqy c x=false):Oc out c (k+1)=k+1:=by
 simp [Oc,hx,h]
def Qbk (out:List Ct) (c:Ct):List Ct:=out.take (Oc out c out.length)++c::out.drop (Oc out c out.length)
theorem Q5m (out:List Ct) (c:Ct):(Qbk out c).length=out.length+1:=by
 have:=Qy0 out c out.length;simp [Qbk]; omega
theorem Q5n {out:List Ct} {c x:Ct} (h:x∈Qbk out c):x=c\/x∈out:=by
 simp only [Qbk,Qq,Ql] at h;rcases h with h | h | h
 ·exact .inr (Qn h)
 ·exact .inl h
 ·exact .inr (Qz h)
def Ui (l:List Ct):List Ct:=l.foldl Qbk []
theorem Qvu (l:List Ct) (c:Ct):Ui (l++[c])=Qbk (Ui l) c:=by simp [Ui,Ve]
theorem Qvv {l:List Ct} {i:Nat} {c:Ct} (h:l[i]? = some c):Ui (l.take (i+1))=Qbk (Ui (l.take i)) c:=by
 rw [Z0,h]; exact Qvu _ _
theorem Qk9:∀ (l acc:List Ct),(l.foldl Qbk acc).length=acc.length+l.length
 | [],acc=>by simp
 | c::l,acc=>by simp only [Z4]; rw [Qk9 l (Qbk acc c),Q5m]; simp; omega
theorem Pz (l:List Ct):(Ui l).length=l.length:=by unfold Ui; rw [Qk9]; simp
theorem Qla:∀ (l acc:List Ct) {x:Ct},x∈l.foldl Qbk acc->x∈l\/x∈acc
 | [],acc,x,h=>.inr h
 |
  c::l,acc,x,h=>by
  simp only [Z4] at h;rcases Qla l _ h with h | h
  ·exact .inl (Qe _ h)
  ·rcases Q5n h with rfl | h
   ·exact .inl (Qx ..)
   ·exact .inr h
theorem Qaf {l:List Ct} {x:Ct} (h:x∈Ui l):x∈l:=by
 rcases Qla l [] h with h | h
 ·exact h
 ·cases h
theorem Qqs {α:Type} (l:List α) (z x:α) {k m':Nat} (hk:k<=l.length) (hm:m'=l.length-k) :
 ((l++[z]).take (k+1)++((l++[z]).drop k).take m'++(l++[z]).drop (k+1+m')).set k x=l.take k++x::l.drop k:=by
 subst hm;have e1:((l++[z]).drop k).take (l.length-k)=l.drop k:=by
  rw [Kt hk,Vd (by simp),Qr (by simp)]
 have e2:(l++[z]).drop (k+1+(l.length-k))=[]:=V8 (by simp; omega);rw [e1,e2,Zw];have e3:(l++[z]).take (k+1)=(l++[z]).take k++[(l++[z])[k]'(by simp; omega)]:=by rw [List.take_succ_eq_append_getElem]
 rw [e3,Vd hk,Q8,List.set_append,if_neg (by simp; omega)];simp [Z8 hk]
def Dy (a b:Pt):List Int:=Bz (Uu a.c b.c) (Ut a.c b.c)
def Dw (a b:Pt):List Int:=Bz (Ut b.c a.c) (Uu b.c a.c)
def Av (sg:List Int->Int) (a b:Pt):Ct:={ kind:=1,i0:=a.id,i1:=b.id,i2:=0,i3:=0,p:=Dy a b,want:=Fq sg (Dy a b) }
def Nu (sg:List Int->Int) (a b:Pt):Ct:={ kind:=2,i0:=a.id,i1:=b.id,i2:=0,i3:=0,p:=Dw a b,want:=Fq sg (Dw a b) }
end Orr
namespace Orr
open Go Go.Proofs
set_option maxRecDepth 10000
abbrev pr (p:List Int):TV:=.one (pl p)
theorem Ta {p:List Int} {i:Nat} {z:Int} (h:p[i]? = some z):(p.map Gb)[i]? = some (Gb z):=Gu h
theorem Qhv (p:List Int):W0 Tryz.prog 126 [pr p] [pr (trim p)]:=by
 refine U4 Tryz.func126 rfl (ln 0 rfl rfl λhl=>?_);rw [Zm] at hl;refine go tt [] rfl trivial ?_;refine lp (S:=Nat) 0 (λL1 n=>(3,.v (.one (.int .i64 (n:Int))))::L1) (λ_=>[]) id (λn=>n<=p.length/\∀ j x,n<=j->p[j]? = some x->x=0) (p.map Gb).length ⟨by simp,λj x h1 h2=>by
  have:=(Qg.1 h2).1; simp at h1; omega⟩ rfl (λ_ _=>rfl) rfl λn ⟨h1,h2⟩=>?_
 cases n with
 | zero=>exact en tt [.f (by simp),.f rfl,.i 0] rfl (by rw [Qss h1 h2 (λh=>by omega)]; simp [pl]) (by simp [Wv])
 |
  succ n =>
  obtain ⟨x,hx⟩:=gxE (l:=p) (i:=n) (by omega);by_cases h0:x=0
  ·refine go tt [.t (by simp),.r 11 (v:=.one (.int .i64 (n:Int))) (by simp),.x (Ta hx),.c [] Nc,.t (by simp [h0]),.r 17 (v:=.one (.int .i64 (n:Int))) (by simp)] rfl (by simp [Wv]; omega) ?_;exact rd n (by simp) ⟨by omega,λj y h3 h4=>by
    rcases V4 h3 with rfl | h3
    ·rw [hx] at h4; injection h4 with h4; rw [<-h4,h0]
    ·exact h2 j y h3 h4⟩ rfl
  ·exact en tt [.t (by simp),.r 11 (v:=.one (.int .i64 (n:Int))) (by simp),.x (Ta hx),.c [] Nc,.f (by simp [h0]),.i (n+1)] rfl (by rw [Qss h1 h2 (λ_=>⟨x,hx,h0⟩)]; simp [pl,J8]) (by simp [Wv] <;> omega)
theorem Qwz (p:List Int) (k:Nat):W0 Tryz.prog 218 [pr p,.one (.int .i64 (k:Int))] [.agg (Gb (p.getD k 0))]:=by
 by_cases h:k<p.length
 ·have hx:=Qf h;have e:p.getD k 0=p[k]:=by simp [List.getD,hx]
  rw [e];exact w tt Tryz.func218 rfl [.t (by simp; omega),.x (Ta hx)] rfl rfl trivial
 ·have e:p.getD k 0=0:=by simp [List.getD,Q0 (Js h)]
  rw [e,Dx];exact w tt Tryz.func218 rfl [.f (by simp; omega)] rfl rfl trivial
def fil (f:Nat->List LV) (z:List LV) (n k:Nat):List (List LV):=(List.range n).map λi=>if i<k then f i else z
theorem Li (f:Nat->List LV) (z:List LV) (n k:Nat):(fil f z n k).length=n:=by simp [fil]
theorem Dn (f:Nat->List LV) (z:List LV) (n:Nat):List.replicate n z=fil f z n 0:=by
 refine Xg λi=>?_
 simp only [fil,Jl,Zq];by_cases h:i<n
 ·simp [h]
 ·simp [h]
theorem Am (f:Nat->List LV) (z:List LV) (n:Nat):fil f z n n=(List.range n).map f:=by
 refine Xv λi hi=>?_
 rw [if_pos (List.mem_range.1 hi)]
theorem An (f:Nat->List LV) (z:List LV) {n k:Nat} (h:k<n):(fil f z n k).set k (f k)=fil f z n (k+1):=by
 refine Xg λi=>?_
 rw [J6];simp only [fil,Zq,Zm,List.length_range,h,if_true];by_cases e:k=i
 ·subst e; simp [h]
 ·simp only [e,if_false];by_cases hi:i<n
  ·simp only [Jh hi,J5];congr 1;by_cases h2:i<k
   ·rw [if_pos h2,if_pos (by omega)]
   ·rw [if_neg h2,if_neg (by omega)]
  ·simp [Q0,hi]
theorem Qmx {n fid:Nat} {l1 l2:List LV} {g:Nat->Int} (hn:n<274877906944) (h:∀ k,k<n->W0 Tryz.prog fid [.one (.int .i64 (k:Int)),.one (.sh l1),.one (.sh l2)] [.agg (Gb (g k))]):W0 Tryz.prog 203 [.one (.int .i64 (n:Int)),.one (.fn fid [] [.sh l1,.sh l2])] [pr (Qcp n g)]:=by
 refine U4 Tryz.func203 rfl ?_;refine go tt [.i n,.i n,.r 10 (eI (b:=(n:Int)) (by simp))] rfl (by simp [Wv]; omega) ?_;rw [Dn λk=>Gb (g k)];refine lp (S:=Nat) 1 (λL1 k=>(11,.v (.one (.int .i64 (k:Int))))::L1) (λk=>[.row false 36 2 (fil (λk=>Gb (g k)) [.bool false,.nils] n k)]) (λk=>n-k) (λk=>k<=n) 0 (Qi _) rfl (λ_ _=>rfl) rfl λk hk=>?_
 by_cases hlt:k<n
 ·refine go tt [.t (by simp; omega),.c [] (h k hlt),.i k] rfl (by simp [Wv,Li]; omega) ?_;have e:=An (λk=>Gb (g k)) [.bool false,.nils] hlt;rw [e];exact rd (k+1) (by omega) hlt rfl
 ·obtain rfl:k=n:=by omega
  have e:fil (λk=>Gb (g k)) [.bool false,.nils] k k=((List.range k).map g).map Gb:=by rw [Am]; simp
  rw [e];exact en tt [.f (by simp),.c [] (Qhv _)] rfl rfl trivial
theorem Qwy {n fid:Nat} {l1:List LV} {g:Nat->Int} (hn:n<274877906944) (h:∀ k,k<n->W0 Tryz.prog fid [.one (.int .i64 (k:Int)),.one (.sh l1)] [.agg (Gb (g k))]):W0 Tryz.prog 203 [.one (.int .i64 (n:Int)),.one (.fn fid [] [.sh l1])] [pr (Qcp n g)]:=by
 refine U4 Tryz.func203 rfl ?_;refine go tt [.i n,.i n,.r 10 (eI (b:=(n:Int)) (by simp))] rfl (by simp [Wv]; omega) ?_;rw [Dn λk=>Gb (g k)];refine lp (S:=Nat) 1 (λL1 k=>(11,.v (.one (.int .i64 (k:Int))))::L1) (λk=>[.row false 36 2 (fil (λk=>Gb (g k)) [.bool false,.nils] n k)]) (λk=>n-k) (λk=>k<=n) 0 (Qi _) rfl (λ_ _=>rfl) rfl λk hk=>?_
 by_cases hlt:k<n
 ·refine go tt [.t (by simp; omega),.c [] (h k hlt),.i k] rfl (by simp [Wv,Li]; omega) ?_;have e:=An (λk=>Gb (g k)) [.bool false,.nils] hlt;rw [e];exact rd (k+1) (by omega) hlt rfl
 ·obtain rfl:k=n:=by omega
  have e:fil (λk=>Gb (g k)) [.bool false,.nils] k k=((List.range k).map g).map Gb:=by rw [Am]; simp
  rw [e];exact en tt [.f (by simp),.c [] (Qhv _)] rfl rfl trivial
theorem Zfl {p q:List Int} (k:Nat) (hp:Bd 4294967295 p) (hq:Bd 4294967295 q):W0 Tryz.prog 243 [.one (.int .i64 (k:Int)),.one (.sh [pl p]),.one (.sh [pl q])] [.agg (Gb (p.getD k 0+q.getD k 0))] :=
 w tt Tryz.func243 rfl [.c [] (Qwz p k),.c [] (Qwz q k),.c [] (Qbb (Wy _) (Wy _) (U3 hp k) (U3 hq k))] rfl rfl trivial
theorem Zfz {p q:List Int} (k:Nat) (hp:Bd 4294967295 p) (hq:Bd 4294967295 q):W0 Tryz.prog 216 [.one (.int .i64 (k:Int)),.one (.sh [pl p]),.one (.sh [pl q])] [.agg (Gb (p.getD k 0-q.getD k 0))] :=
 w tt Tryz.func216 rfl [.c [] (Qwz p k),.c [] (Qwz q k),.c [] (Q3g (Wy _) (Wy _) (U3 hp k) (U3 hq k))] rfl rfl trivial
theorem Hb {p:List Int} {k:Nat} (h:k<p.length):p[k]? = some (p.getD k 0):=by simp [List.getD,Qf h]
theorem Q28 {p:List Int} {c:Int} {k:Nat} (hk:k<p.length) (hp:Bd 4294967295 p) (hc:Ug c<=4294967295):W0 Tryz.prog 204 [.one (.int .i64 (k:Int)),.one (.sh [pl p]),.one (.sh (Gb c))] [.agg (Gb (p.getD k 0*c))] :=
 w tt Tryz.func204 rfl [.x (Ta (Hb hk)),.c [] (Pf (Wy _) (Wy _) (U3 hp k) hc)] rfl rfl trivial
theorem Zft {p:List Int} {k:Nat} (hk:k<p.length) (hp:Bd 4294967295 p):W0 Tryz.prog 276 [.one (.int .i64 (k:Int)),.one (.sh [pl p])] [.agg (Gb (-(p.getD k 0)))] :=
 w tt Tryz.func276 rfl [.x (Ta (Hb hk)),.c [] (Qhq (Wy _) (U3 hp k))] rfl rfl trivial
theorem Qz5 {p:List Int} {k:Nat} (hk:k+1<p.length) (hl:p.length<274877906944) (hp:Bd 4294967295 p):W0 Tryz.prog 248 [.one (.int .i64 (k:Int)),.one (.sh [pl p])] [.agg (Gb (p.getD (k+1) 0*((k+1:Nat):Int)))] :=
 w tt Tryz.func248 rfl [.x (Ta (Hb hk)),.r 10 (eI (b:=((k+1:Nat):Int)) (by omega)),.c [] (Qmq (by omega)),.c [] (Pf (Wy _) (Wy _) (U3 hp _) (Q00 (show k+1<274877906944 by omega)))] rfl rfl (by simp [Wv] <;> omega)
theorem Qmr {p q:List Int} (hlp:p.length<274877906944) (hlq:q.length<274877906944) (hp:Bd 4294967295 p) (hq:Bd 4294967295 q):W0 Tryz.prog 201 [pr p,pr q] [pr (Qbr p q)] :=
 w tt Tryz.func201 rfl [.r 9 (eI (b:=((max p.length q.length:Nat):Int)) (by simp; omega)),.c [] (Qmx (by omega) λk _=>Zfl k hp hq)] rfl rfl trivial
theorem Qd7 {p q:List Int} (hlp:p.length<274877906944) (hlq:q.length<274877906944) (hp:Bd 4294967295 p) (hq:Bd 4294967295 q):W0 Tryz.prog 182 [pr p,pr q] [pr (M3 p q)] :=
 w tt Tryz.func182 rfl [.r 9 (eI (b:=((max p.length q.length:Nat):Int)) (by simp; omega)),.c [] (Qmx (by omega) λk _=>Zfz k hp hq)] rfl rfl trivial
theorem Q20 {p:List Int} (hlp:p.length<274877906944) (hp:Bd 4294967295 p):W0 Tryz.prog 251 [pr p] [pr (B9 p)] :=
 w tt Tryz.func251 rfl [.r 4 (eI (b:=(p.length:Int)) (by simp)),.c [] (Qwy hlp λk hk=>Zft hk hp)] rfl rfl trivial
theorem Sl {p:List Int} {c:Int} (hlp:p.length<274877906944) (hp:Bd 4294967295 p) (hc:Ug c<=4294967295):W0 Tryz.prog 155 [pr p,.agg (Gb c)] [pr (Uv p c)] :=
 w tt Tryz.func155 rfl [.r 6 (eI (b:=(p.length:Int)) (by simp)),.c [] (Qmx hlp λk hk=>Q28 hk hp hc)] rfl rfl trivial
theorem L6 {p:List Int} (hlp:p.length<274877906944) (hp:Bd 4294967295 p):W0 Tryz.prog 213 [pr p] [pr (Fj p)] :=
 w tt Tryz.func213 rfl [.r 6 (eI (b:=((p.length-1:Nat):Int)) (by simp; omega)),.c [] (Qwy (by omega) λk hk=>Qz5 (by omega) hlp hp)] rfl rfl (by simp [Wv]; omega)
theorem Cm {ls:List (List LV)} {p:List Int} (hi:IsInts ls p) (hl:p.length<274877906944) (hs:Bd 4294967295 p):W0 Tryz.prog 122 [.one (.row ls)] [pr (trim p)]:=by
 refine U4 Tryz.func122 rfl ?_;have hlen:=hi.len;refine go tt [.i ls.length,.i ls.length] rfl (by simp [Wv]; omega) ?_;rw [Dn λk=>Gb (p.getD k 0)];refine lp (S:=Nat) 1 (λL1 k=>(11,.v (.one (.int .i64 (k:Int))))::L1) (λk=>[.row false 36 2 (fil (λk=>Gb (p.getD k 0)) [.bool false,.nils] ls.length k)]) (λk=>ls.length-k) (λk=>k<=ls.length) 0 (Qi _) rfl (λ_ _=>rfl) rfl λk hk=>?_
 by_cases hlt:k<ls.length
 ·obtain ⟨x,y,hx,hxy⟩:=hi.get (Hb (p:=p) (k:=k) (by omega));have cn:=Md hxy (U3 hs k);obtain ⟨b,l,rfl,rfl,_⟩:=hxy;refine go tt [.t (by simp; omega),.x hx,.c [] cn,.i k] rfl (by simp [Wv,Li]; omega) ?_;have e:=An (λk=>Gb (p.getD k 0)) [.bool false,.nils] hlt;rw [e];exact rd (k+1) (by omega) hlt rfl
 ·obtain rfl:k=ls.length:=by omega
  have e:fil (λk=>Gb (p.getD k 0)) [.bool false,.nils] ls.length ls.length=p.map Gb:=by
   rw [Am,hlen];refine Xg λi=>?_
   by_cases hi:i<p.length
   ·simp [Jh hi,List.getD,Qf hi]
   ·simp [Q0,hi]
  rw [e];exact en tt [.f (by simp),.c [] (Qhv _)] rfl rfl trivial
theorem Gf {p:List Int} (ht:Ua p) (hl:p.length<274877906944) (hs:Bd 4294967295 p):W0 Tryz.prog 122 [pr p] [pr p]:=by
 have:=Cm (Ga p) hl hs;rw [ht] at this; exact this
theorem Zbj {p:List Int} {i:Nat} {z:Int} (h:p[i]? = some z):(p.map λ(x:Int)=>[LV.int .i64 x])[i]? = some [.int .i64 z]:=Gu h
theorem Qwq {p:List Int} (hl:p.length<274877906944) (hr:∀ z∈p,-9223372036854775808≤z/\z≤9223372036854775807):W0 Tryz.prog 78 [.one (ids p)] [pr (trim p)]:=by
 refine U4 Tryz.func78 rfl ?_;refine go tt [.r 7 (eI (b:=(p.length:Int)) (by simp)),.i p.length,.i p.length,.r 10 (eI (b:=(p.length:Int)) (by simp))] rfl (by simp [Wv]; omega) ?_;rw [Dn λk=>Gb (p.getD k 0)];refine lp (S:=Nat) 1 (λL1 k=>(11,.v (.one (.int .i64 (k:Int))))::L1) (λk=>[.row false 36 2 (fil (λk=>Gb (p.getD k 0)) [.bool false,.nils] p.length k)]) (λk=>p.length-k) (λk=>k<=p.length) 0 (Qi _) rfl (λ_ _=>rfl) rfl λk hk=>?_
 by_cases hlt:k<p.length
 ·have hg:=Hb hlt;refine go tt [.t (by simp; omega),.x (Zbj hg),.c [] (Qmq (hr _ (Qa hg))),.i k] rfl (by simp [Wv,Li]; omega) ?_;have e:=An (λk=>Gb (p.getD k 0)) [.bool false,.nils] hlt;rw [e];exact rd (k+1) (by omega) hlt rfl
 ·obtain rfl:k=p.length:=by omega
  have e:fil (λk=>Gb (p.getD k 0)) [.bool false,.nils] p.length p.length=p.map Gb:=by
   rw [Am];refine Xg λi=>?_
   by_cases hi:i<p.length
   ·simp [Jh hi,List.getD,Qf hi]
   ·simp [Q0,hi]
  rw [e];exact en tt [.f (by simp),.c [] (Qhv _)] rfl rfl trivial
theorem Qu5 (l:List Int) (i:Nat) (z:Int):(l.map Gb).set i (Gb z)=(l.set i z).map Gb:=by rw [Ko]
theorem Qg4 (m:Nat):((List.replicate m [LV.bool false,LV.nils]).map λc=>c.map Qey)=(List.replicate m (0:Int)).map Gb:=by
 simp [Dx,Qey]
theorem Qms {p0 q:List Int} {s t:Nat} (tq:Ua q) (hlp:p0.length<137438953472) (hlq:q.length<137438953472) (hp:Bd s p0) (hq:Bd t q) (hst:s+t<=4294967000):W0 Tryz.prog 202 [pr p0,pr q] [pr (U5 (trim p0) q)]:=by
 have cp:=Cm (Ga p0) (by omega) (Wx hp (show s<=4294967295 by omega));have hp:=Ra hp;have hlp:=Z2 (G0 p0) hlp;obtain ⟨p,ep⟩:=nmE (trim p0);rw [<-ep] at cp hp hlp ⊢;have cq:=Gf tq (by omega) (Wx hq (show t<=4294967295 by omega));by_cases h0:p.length=0
 ·have e:U5 p q=[]:=by unfold U5; rw [if_pos (.inl h0)]
  rw [e];exact w tt Tryz.func202 rfl [.c [] cp,.c [] cq,.t (by simp; exact Qh h0),.t rfl] rfl rfl trivial
 by_cases h1:q.length=0
 ·have e:U5 p q=[]:=by unfold U5; rw [if_pos (.inr h1)]
  rw [e];exact w tt Tryz.func202 rfl [.c [] cp,.c [] cq,.f (by simp; intro h; subst h; simp at h0),.t (by simp; exact Qh h1)] rfl rfl trivial
 refine U4 Tryz.func202 rfl ?_;have e:U5 p q=trim (Qbm p q (List.replicate (p.length+q.length-1) 0) p.length):=by unfold U5; rw [if_neg (by omega)]
 rw [e];obtain ⟨N,hN⟩:=nmE (p.length+q.length-1);rw [<-hN];obtain ⟨o,ho⟩:=nmE (List.replicate N (0:Int));rw [<-ho];have hol:o.length=N:=by rw [ho]; simp
 have ho0:∀ m,o.getD m 0=0:=λm=>by rw [ho]; exact Dq N m
 refine go tt [.c [] cp,.c [] cq,.f (by simp; intro h; subst h; simp at h0),.f (by simp; intro h; subst h; simp at h1),.r 27 (eI (b:=(N:Int)) (by simp; omega)),.i N,.i N] rfl (by simp [Wv]; omega) ?_;refine nl 0 rfl rfl rfl ?_;rw [Qg4,<-ho];refine lp (S:=Nat) 1 (λL1 i=>(31,.v (.one (.int .i64 (i:Int))))::L1) (λi=>[.row false 36 2 ((Qbm p q o i).map Gb)]) (λi=>p.length-i) (λi=>i<=p.length) 0 (Qi _) rfl (λ_ _=>rfl) rfl λi hi=>?_
 by_cases hlt:i<p.length
 ·refine go tt [.t (by simp; omega),.x (Ta (Hb hlt))] rfl trivial ?_;refine lp (S:=Nat) 2 (λL1 k=>(38,.v (.one (.int .i64 (k:Int))))::L1) (λk=>[.row false 36 2 ((Qbn (p.getD i 0) q i (Qbm p q o i) k).map Gb),.blk 36 (Gb (p.getD i 0))]) (λk=>q.length-k) (λk=>k<=q.length) 0 (Qi _) rfl (λ_ _=>rfl) rfl λk hk=>?_
  by_cases hk2:k<q.length
  ·have hm1:Ug ((Qbn (p.getD i 0) q i (Qbm p q o i) k).getD (i+k) 0)<=4294967295:=Qd (Qaz (t:=39) (Qyk (by rw [Ek]; omega) (Qyj (λj hj=>by omega) ho0 (λi j=>Lt (U3 hp i) (U3 hq j))) (λj=>Lt (U3 hp i) (U3 hq j)) (i+k)) (Nat.lt_of_lt_of_eq (show i+1<549755813888 by omega) (by decide))) (by omega);have hm2:Ug (p.getD i 0*q.getD k 0)<=4294967295:=Qd (Fz _ _) (by have:=U3 hp i; have:=U3 hq k; omega);have hg:(Qbn (p.getD i 0) q i (Qbm p q o i) k)[i+k]? = some ((Qbn (p.getD i 0) q i (Qbm p q o i) k).getD (i+k) 0):=Hb (by rw [I3,Ek]; omega);refine go tt [.t (by simp; omega),.x (Ta (Hb hk2)),.i (i+k),.x (Ta hg),.c [] (Pf (Wy _) (Wy _) (Qd (U3 hp i) (by omega)) (Qd (U3 hq k) (by omega))),.c [] (Qbb (Wy _) (Wy _) hm1 hm2),.i (i+k)] rfl (by simp [Wv,I3,Ek] <;> omega) ?_;rw [Qu5];exact rd (k+1) (by omega) hk2 rfl
  ·obtain rfl:k=q.length:=by omega
   exact go tt [.f (by simp)] rfl (by simp [Wv]; omega) (rd (i+1) (by omega) hlt rfl)
 ·obtain rfl:i=p.length:=by omega
  exact en tt [.f (by simp),.c [] (Qhv _)] rfl rfl trivial
theorem Qd6 {p q:List Int} {s t:Nat} (tp:Ua p) (tq:Ua q) (hlp:p.length<137438953472) (hlq:q.length<137438953472) (hp:Bd s p) (hq:Bd t q) (hst:s+t<=4294967000):W0 Tryz.prog 202 [pr p,pr q] [pr (U5 p q)]:=by
 have h:=Qms tq hlp hlq hp hq hst;rw [show trim p=p from tp] at h;exact h
theorem Qgl {p q:List Int} (hlp:p.length<274877906944) (hlq:q.length<274877906944) (hp:Bd 4294967295 p) (hq:Bd 4294967295 q):W0 Tryz.prog 100 [pr p,pr q] [.one (.bool (decide (trim p=trim q)))]:=by
 refine U4 Tryz.func100 rfl ?_;have cp:=Cm (Ga p) hlp hp;have cq:=Cm (Ga q) hlq hq;have bp:=Ra hp;have bq:=Ra hq;have l1:=G0 p;have l2:=G0 q;obtain ⟨a,ha⟩:=nmE (trim p);obtain ⟨b,hb⟩:=nmE (trim q);rw [<-ha] at cp bp l1 ⊢;rw [<-hb] at cq bq l2 ⊢;by_cases hl:a.length=b.length
 ·refine go tt [.c [] cp,.c [] cq,.f (by simp; omega)] rfl trivial ?_;refine lp (S:=Nat) 0 (λL1 i=>(18,.v (.one (.int .i64 (i:Int))))::L1) (λ_=>[]) (λi=>a.length-i) (λi=>i<=a.length/\a.take i=b.take i) 0 ⟨Qi _,rfl⟩ rfl (λ_ _=>rfl) rfl λi ⟨hi,he⟩=>?_
  by_cases hlt:i<a.length
  ·have ga:=Hb hlt;have gb:=Hb (p:=b) (k:=i) (by omega);have cc:=Qd9 (Wy (a.getD i 0)) (Wy (b.getD i 0)) (U3 bp i) (U3 bq i);by_cases hz:a.getD i 0=b.getD i 0
   ·refine go tt [.t (by simp; omega),.x (Ta ga),.x (Ta gb),.c [] cc,.f (by simpa using Qm1.2 hz)] rfl (by simp [Wv]; omega) ?_;exact rd (i+1) (by omega) ⟨hlt,by rw [Yt,Yt,he,ga,gb,hz]⟩ rfl
   ·exact en tt [.t (by simp; omega),.x (Ta ga),.x (Ta gb),.c [] cc,.t (by have:=mt Qm1.1 hz; simpa using this)] rfl (by rw [decide_eq_false]; intro h; exact hz (by rw [h])) trivial
  ·obtain rfl:i=a.length:=by omega
   rw [Q4,hl,Q4] at he;exact en tt [.f (by simp)] rfl (by rw [decide_eq_true he]) trivial
 ·exact en tt [.c [] cp,.c [] cq,.t (by simp; omega)] rfl (by rw [decide_eq_false]; intro h; exact hl (by rw [h])) trivial
theorem Q23 {p:List Int} {n d:Int} {s t:Nat} (hl:p.length<274877906944) (hp:Bd s p) (hn:Ug n<=t) (hd:Ug d<=t) (hst:s+p.length*(t+1)+2*t+10<=4294967295):W0 Tryz.prog 227 [pr p,.agg (Gb n),.agg (Gb d)] [.agg (Gb (Zhq p n d))]:=by
 refine U4 Tryz.func227 rfl ?_;refine go tt [.c [] (Qmq (z:=1) (by decide)),.r 13 (eI (b:=(p.length:Int)-1-((0:Nat):Int)) (by simp))] rfl (by simp [Wv]; omega) ?_;refine nlb 3 rfl rfl rfl ?_;have e0:[LV.bool false,LV.nils].map Qey=Gb (Ce p n d 0).1:=by simp [Qey,Ce,Dx]
 rw [e0];refine lp (S:=Nat) 5 (λL1 j=>(9,.v (.one (.int .i64 ((p.length:Int)-1-(j:Int)))))::L1) (λj=>[.blk 36 (Gb n),.blk 36 (Gb d),.blk 36 [.bool false,.nils],.blk 36 (Gb (Ce p n d j).1),.blk 36 (Gb (Ce p n d j).2)]) (λj=>p.length-j) (λj=>j<=p.length) 0 (Qi _) rfl (λ_ _=>rfl) rfl λj hj=>?_
 have hv:=Qzu (k:=j) hp hn hd;have hjl:j*(t+1)<=p.length*(t+1):=Qy _ (by omega);have hjl2:j*t<=j*(t+1):=Zt _ (by omega);by_cases hlt:j<p.length
 ·have hc:=U3 hp (p.length-1-j);have hm1:Ug ((Ce p n d j).1*n)<=4294967295:=Qd (Fz _ _) (by omega);have hm2:Ug (p.getD (p.length-1-j) 0*(Ce p n d j).2)<=4294967295:=Qd (Fz _ _) (by omega);refine go tt [.t (by simp; omega),.c [] (Pf (Wy _) (Wy _) (by omega) (by omega)),.r 22 (eI (b:=((p.length-1-j:Nat):Int)) (by omega)),.x (Ta (Hb (p:=p) (k:=p.length-1-j) (by omega))),.c [] (Pf (Wy _) (Wy _) (by omega) (by omega)),.c [] (Qbb (Wy _) (Wy _) hm1 hm2),.c [] (Pf (Wy _) (Wy _) (by omega) (by omega)),.r 17 (eI (b:=(p.length:Int)-1-((j+1:Nat):Int)) (by omega))] rfl (by simp [Wv] <;> omega) ?_;exact rd (j+1) (by omega) hlt rfl
 ·obtain rfl:j=p.length:=by omega
  exact en tt [.f (by simp; omega)] rfl rfl trivial
theorem No {p:List Int} (tp:Ua p) (hl:p.length<274877906944) (hp:Bd 4294967295 p):W0 Tryz.prog 255 [pr p] [.agg (Gb (p.getD (p.length-1) 0))]:=by
 have cn:=Gf tp hl hp;by_cases h0:p=[]
 ·subst h0;exact w tt Tryz.func255 rfl [.c [] cn,.t (by simp)] rfl (by simp [Dx]) trivial
 ·have hpl:0<p.length:=Jq.2 h0;exact w tt Tryz.func255 rfl [.c [] cn,.f (by simpa using h0),.r 12 (eI (b:=((p.length-1:Nat):Int)) (by simp; omega)),.x (Ta (Hb (by omega)))] rfl rfl (by simp [Wv]; omega)
end Orr
