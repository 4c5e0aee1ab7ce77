/- Ntt L1 L2 L3 L4 L5 M1 P2 M2 PolyL RatL CrvL CrowdL PredL CertL Y1 Y2 Q1 -/
import Derived.Test.YtbnjginelkkonaaGreatPart03
import Derived.Laws.StructEq
import Derived.Test.YtbnjginelkkonaaGreatProg
set_option linter.all false
namespace Orr
open Go Go.Proofs
theorem Qqm (d:Nat) (x y:Int) (w:World):(Op.equalIn (d+1) 3 (.int .i64 x) (.int .i64 y)).run Tryz.prog w=.ok (decide (x=y)) w:=by
  simp [Op.equalIn,Tryz.runUnderlying3]
  rfl
def ti3:TI Tryz.prog:=Ti 3 Tryz.isAgg3 Tryz.sizeOf3 Tryz.underlying3 Tryz.zeroValue3 Tryz.typeInfo3 8 rfl
def ti4:TI Tryz.prog:=Ti 4 Tryz.isAgg4 Tryz.sizeOf4 Tryz.underlying4 Tryz.zeroValue4 Tryz.typeInfo4 1 rfl
def ti5:TI Tryz.prog:=Ti 5 Tryz.isAgg5 Tryz.sizeOf5 Tryz.underlying5 Tryz.zeroValue5 Tryz.typeInfo5 1 rfl
def ti9:TI Tryz.prog:=Ti 9 Tryz.isAgg9 Tryz.sizeOf9 Tryz.underlying9 Tryz.zeroValue9 Tryz.typeInfo9 16 rfl
def Q5r:TI Tryz.prog:=Ti 22 Tryz.isAgg22 Tryz.sizeOf22 Tryz.underlying22 Tryz.zeroValue22 Tryz.typeInfo22 24 rfl
def Q5s:TI Tryz.prog:=Ti 23 Tryz.isAgg23 Tryz.sizeOf23 Tryz.underlying23 Tryz.zeroValue23 Tryz.typeInfo23 8 rfl
def Q5t:TI Tryz.prog:=Ti 24 Tryz.isAgg24 Tryz.sizeOf24 Tryz.underlying24 Tryz.zeroValue24 Tryz.typeInfo24 24 rfl
def Q5u:TI Tryz.prog:=Ti 25 Tryz.isAgg25 Tryz.sizeOf25 Tryz.underlying25 Tryz.zeroValue25 Tryz.typeInfo25 24 rfl
def Q5v:TI Tryz.prog:=Ti 26 Tryz.isAgg26 Tryz.sizeOf26 Tryz.underlying26 Tryz.zeroValue26 Tryz.typeInfo26 24 rfl
def Q5w:TI Tryz.prog:=Ti 27 Tryz.isAgg27 Tryz.sizeOf27 Tryz.underlying27 Tryz.zeroValue27 Tryz.typeInfo27 24 rfl
def Q5x:TI Tryz.prog:=Do (ks:=[1,1]) (ag:=[false,false]) 29 Tryz.isAgg29 Tryz.sizeOf29 Tryz.underlying29 Tryz.zeroValue29 Tryz.typeInfo29 32 rfl ⟨Tryz.sizeOf4,Tryz.sizeOf27,trivial⟩ ⟨Tryz.isAgg4,Tryz.isAgg27,trivial⟩ rfl
def Q5y:TI Tryz.prog:=Do (ks:=[1,1,2]) (ag:=[false,false,true]) 31 Tryz.isAgg31 Tryz.sizeOf31 Tryz.underlying31 Tryz.zeroValue31 Tryz.typeInfo31 80 rfl ⟨Tryz.sizeOf26,Tryz.sizeOf26,Tryz.sizeOf29,trivial⟩ ⟨Tryz.isAgg26,Tryz.isAgg26,Tryz.isAgg29,trivial⟩ rfl
def Q5z:TI Tryz.prog:=Do (ks:=[4,1]) (ag:=[true,false]) 35 Tryz.isAgg35 Tryz.sizeOf35 Tryz.underlying35 Tryz.zeroValue35 Tryz.typeInfo35 88 rfl ⟨Tryz.sizeOf31,Tryz.sizeOf3,trivial⟩ ⟨Tryz.isAgg31,Tryz.isAgg3,trivial⟩ rfl
def Q50:TI Tryz.prog:=Ti 36 Tryz.isAgg36 Tryz.sizeOf36 Tryz.underlying36 Tryz.zeroValue36 Tryz.typeInfo36 8 rfl
def Q51:TI Tryz.prog:=Ti 37 Tryz.isAgg37 Tryz.sizeOf37 Tryz.underlying37 Tryz.zeroValue37 Tryz.typeInfo37 8 rfl
def Q52:TI Tryz.prog:=Do (ks:=[2,2]) (ag:=[true,true]) 41 Tryz.isAgg41 Tryz.sizeOf41 Tryz.underlying41 Tryz.zeroValue41 Tryz.typeInfo41 64 rfl ⟨Tryz.sizeOf29,Tryz.sizeOf29,trivial⟩ ⟨Tryz.isAgg29,Tryz.isAgg29,trivial⟩ rfl
def Q53:TI Tryz.prog:=Ti 45 Tryz.isAgg45 Tryz.sizeOf45 Tryz.underlying45 Tryz.zeroValue45 Tryz.typeInfo45 24 rfl
def Q54:TI Tryz.prog:=Do (ks:=[1,1]) (ag:=[false,false]) 47 Tryz.isAgg47 Tryz.sizeOf47 Tryz.underlying47 Tryz.zeroValue47 Tryz.typeInfo47 32 rfl ⟨Tryz.sizeOf45,Tryz.sizeOf4,trivial⟩ ⟨Tryz.isAgg45,Tryz.isAgg4,trivial⟩ rfl
def Q55:TI Tryz.prog:=Do (ks:=[2,2]) (ag:=[true,true]) 49 Tryz.isAgg49 Tryz.sizeOf49 Tryz.underlying49 Tryz.zeroValue49 Tryz.typeInfo49 64 rfl ⟨Tryz.sizeOf47,Tryz.sizeOf47,trivial⟩ ⟨Tryz.isAgg47,Tryz.isAgg47,trivial⟩ rfl
def Q56:TI Tryz.prog:=Ti 55 Tryz.isAgg55 Tryz.sizeOf55 Tryz.underlying55 Tryz.zeroValue55 Tryz.typeInfo55 8 rfl
def Q57:TI Tryz.prog:=Do (ks:=[1,4,4]) (ag:=[false,true,true]) 67 Tryz.isAgg67 Tryz.sizeOf67 Tryz.underlying67 Tryz.zeroValue67 Tryz.typeInfo67 152 rfl ⟨Tryz.sizeOf26,Tryz.sizeOf41,Tryz.sizeOf41,trivial⟩ ⟨Tryz.isAgg26,Tryz.isAgg41,Tryz.isAgg41,trivial⟩ rfl
def Q58:TI Tryz.prog:=Ti 68 Tryz.isAgg68 Tryz.sizeOf68 Tryz.underlying68 Tryz.zeroValue68 Tryz.typeInfo68 24 rfl
def Q59:TI Tryz.prog:=Do (ks:=[1,9,1,1]) (ag:=[false,true,false,false]) 70 Tryz.isAgg70 Tryz.sizeOf70 Tryz.underlying70 Tryz.zeroValue70 Tryz.typeInfo70 192 rfl ⟨Tryz.sizeOf4,Tryz.sizeOf67,Tryz.sizeOf68,Tryz.sizeOf3,trivial⟩ ⟨Tryz.isAgg4,Tryz.isAgg67,Tryz.isAgg68,Tryz.isAgg3,trivial⟩ rfl
def Q6a:TI Tryz.prog:=Do (ks:=[1]) (ag:=[false]) 72 Tryz.isAgg72 Tryz.sizeOf72 Tryz.underlying72 Tryz.zeroValue72 Tryz.typeInfo72 24 rfl ⟨Tryz.sizeOf24,trivial⟩ ⟨Tryz.isAgg24,trivial⟩ rfl
def Q6b:TI Tryz.prog:=Do (ks:=[12,1,1]) (ag:=[true,true,false]) 74 Tryz.isAgg74 Tryz.sizeOf74 Tryz.underlying74 Tryz.zeroValue74 Tryz.typeInfo74 240 rfl ⟨Tryz.sizeOf70,Tryz.sizeOf72,Tryz.sizeOf24,trivial⟩ ⟨Tryz.isAgg70,Tryz.isAgg72,Tryz.isAgg24,trivial⟩ rfl
def Q6c:TI Tryz.prog:=Ti 77 Tryz.isAgg77 Tryz.sizeOf77 Tryz.underlying77 Tryz.zeroValue77 Tryz.typeInfo77 24 rfl
def Q6d:TI Tryz.prog:=Ti 84 Tryz.isAgg84 Tryz.sizeOf84 Tryz.underlying84 Tryz.zeroValue84 Tryz.typeInfo84 24 rfl
def Q6e:TI Tryz.prog:=Do (ks:=[12,1,1,1]) (ag:=[true,true,false,false]) 86 Tryz.isAgg86 Tryz.sizeOf86 Tryz.underlying86 Tryz.zeroValue86 Tryz.typeInfo86 264 rfl ⟨Tryz.sizeOf70,Tryz.sizeOf72,Tryz.sizeOf24,Tryz.sizeOf84,trivial⟩ ⟨Tryz.isAgg70,Tryz.isAgg72,Tryz.isAgg24,Tryz.isAgg84,trivial⟩ rfl
def Q6f:TI Tryz.prog:=Ti 88 Tryz.isAgg88 Tryz.sizeOf88 Tryz.underlying88 Tryz.zeroValue88 Tryz.typeInfo88 8 rfl
def Q6g:TI Tryz.prog:=Ti 93 Tryz.isAgg93 Tryz.sizeOf93 Tryz.underlying93 Tryz.zeroValue93 Tryz.typeInfo93 24 rfl
set_option maxRecDepth 20000 in
theorem Qvs (d:Nat) (x0 x1 y0 y1:Int) (w:World):(Op.equalIn (d+1+1) 94 (.agg #[.int .i64 x0,.int .i64 x1]) (.agg #[.int .i64 y0,.int .i64 y1])).run Tryz.prog w=.ok (decide ([x0,x1]=[y0,y1])) w:=by
  rw [run_equalIn_array w (d+1) _ _ (n:=2) (e:=3) rfl rfl]
  rw [show List.range 2=[0,1] from rfl,show Tryz.prog.cellsOf 3=1 from rfl]
  simp [Op.eqItems,Go.part,Tryz.isAgg3,Qqm]
  by_cases h0:x0=y0 <;> by_cases h1:x1=y1 <;> simp [h0,h1]
theorem Qzz (a b:List Int) (ha:a.length=2) (hb:b.length=2) (w:World):(Op.equal 94 (.agg (a.map (Value.int .i64)).toArray) (.agg (b.map (Value.int .i64)).toArray)).run Tryz.prog w=.ok (decide (a=b)) w:=by
  match a,ha,b,hb with
  | [x0,x1],_,[y0,y1],_=>exact Qvs 9998 x0 x1 y0 y1 w
def Q6h:TI Tryz.prog:={ tiA 94 Tryz.isAgg94 Tryz.sizeOf94 Tryz.underlying94 Tryz.zeroValue94 Tryz.typeInfo94 16 rfl Tryz.sizeOf3 with eqn:=some 2,heq:=fun k h=>by injection h with h; subst h; exact ⟨Tryz.eqGuardType94,Qzz⟩ }
def Q6i:TI Tryz.prog:=Do (ks:=[12,1,1]) (ag:=[true,true,false]) 96 Tryz.isAgg96 Tryz.sizeOf96 Tryz.underlying96 Tryz.zeroValue96 Tryz.typeInfo96 240 rfl ⟨Tryz.sizeOf70,Tryz.sizeOf72,Tryz.sizeOf24,trivial⟩ ⟨Tryz.isAgg70,Tryz.isAgg72,Tryz.isAgg24,trivial⟩ rfl
def Q6j:TI Tryz.prog:=Ti 97 Tryz.isAgg97 Tryz.sizeOf97 Tryz.underlying97 Tryz.zeroValue97 Tryz.typeInfo97 24 rfl
def Q6k:TI Tryz.prog:=Ti 99 Tryz.isAgg99 Tryz.sizeOf99 Tryz.underlying99 Tryz.zeroValue99 Tryz.typeInfo99 24 rfl
def Q3f:TI Tryz.prog:=Ti 100 Tryz.isAgg100 Tryz.sizeOf100 Tryz.underlying100 Tryz.zeroValue100 Tryz.typeInfo100 24 rfl
def Q3g:TI Tryz.prog:=Do (ks:=[1,1,4,4]) (ag:=[false,false,true,true]) 102 Tryz.isAgg102 Tryz.sizeOf102 Tryz.underlying102 Tryz.zeroValue102 Tryz.typeInfo102 176 rfl ⟨Tryz.sizeOf99,Tryz.sizeOf100,Tryz.sizeOf49,Tryz.sizeOf49,trivial⟩ ⟨Tryz.isAgg99,Tryz.isAgg100,Tryz.isAgg49,Tryz.isAgg49,trivial⟩ rfl
def Q3h:TI Tryz.prog:=Ti 103 Tryz.isAgg103 Tryz.sizeOf103 Tryz.underlying103 Tryz.zeroValue103 Tryz.typeInfo103 24 rfl
def Q3i:TI Tryz.prog:=Ti 104 Tryz.isAgg104 Tryz.sizeOf104 Tryz.underlying104 Tryz.zeroValue104 Tryz.typeInfo104 24 rfl
def Q3j:TI Tryz.prog:=Do (ks:=[10,1,1,1]) (ag:=[true,false,false,false]) 106 Tryz.isAgg106 Tryz.sizeOf106 Tryz.underlying106 Tryz.zeroValue106 Tryz.typeInfo106 232 rfl ⟨Tryz.sizeOf102,Tryz.sizeOf103,Tryz.sizeOf3,Tryz.sizeOf104,trivial⟩ ⟨Tryz.isAgg102,Tryz.isAgg103,Tryz.isAgg3,Tryz.isAgg104,trivial⟩ rfl
def Q3k:TI Tryz.prog:=Do (ks:=[1,4,13]) (ag:=[false,true,true]) 108 Tryz.isAgg108 Tryz.sizeOf108 Tryz.underlying108 Tryz.zeroValue108 Tryz.typeInfo108 320 rfl ⟨Tryz.sizeOf97,Tryz.sizeOf49,Tryz.sizeOf106,trivial⟩ ⟨Tryz.isAgg97,Tryz.isAgg49,Tryz.isAgg106,trivial⟩ rfl
def Q3l:TI Tryz.prog:=Do (ks:=[1,1,4]) (ag:=[false,false,true]) 110 Tryz.isAgg110 Tryz.sizeOf110 Tryz.underlying110 Tryz.zeroValue110 Tryz.typeInfo110 128 rfl ⟨Tryz.sizeOf99,Tryz.sizeOf99,Tryz.sizeOf31,trivial⟩ ⟨Tryz.isAgg99,Tryz.isAgg99,Tryz.isAgg31,trivial⟩ rfl
def Q3m:TI Tryz.prog:=Do (ks:=[6,1]) (ag:=[true,false]) 112 Tryz.isAgg112 Tryz.sizeOf112 Tryz.underlying112 Tryz.zeroValue112 Tryz.typeInfo112 136 rfl ⟨Tryz.sizeOf110,Tryz.sizeOf3,trivial⟩ ⟨Tryz.isAgg110,Tryz.isAgg3,trivial⟩ rfl
def Q3n:TI Tryz.prog:=Do (ks:=[1,4,13]) (ag:=[false,true,true]) 128 Tryz.isAgg128 Tryz.sizeOf128 Tryz.underlying128 Tryz.zeroValue128 Tryz.typeInfo128 320 rfl ⟨Tryz.sizeOf97,Tryz.sizeOf49,Tryz.sizeOf106,trivial⟩ ⟨Tryz.isAgg97,Tryz.isAgg49,Tryz.isAgg106,trivial⟩ rfl
def Q3o:TI Tryz.prog:=Do (ks:=[1,4,13]) (ag:=[false,true,true]) 134 Tryz.isAgg134 Tryz.sizeOf134 Tryz.underlying134 Tryz.zeroValue134 Tryz.typeInfo134 320 rfl ⟨Tryz.sizeOf97,Tryz.sizeOf49,Tryz.sizeOf106,trivial⟩ ⟨Tryz.isAgg97,Tryz.isAgg49,Tryz.isAgg106,trivial⟩ rfl
def Q3p:TI Tryz.prog:=Ti 136 Tryz.isAgg136 Tryz.sizeOf136 Tryz.underlying136 Tryz.zeroValue136 Tryz.typeInfo136 8 rfl
set_option maxRecDepth 20000 in
theorem Qqk (d:Nat) (x0 x1 x2 x3 y0 y1 y2 y3:Int) (w:World):(Op.equalIn (d+1+1) 157 (.agg #[.int .i64 x0,.int .i64 x1,.int .i64 x2,.int .i64 x3]) (.agg #[.int .i64 y0,.int .i64 y1,.int .i64 y2,.int .i64 y3])).run Tryz.prog w=.ok (decide ([x0,x1,x2,x3]=[y0,y1,y2,y3])) w:=by
  rw [run_equalIn_array w (d+1) _ _ (n:=4) (e:=3) rfl rfl]
  rw [show List.range 4=[0,1,2,3] from rfl,show Tryz.prog.cellsOf 3=1 from rfl]
  simp [Op.eqItems,Go.part,Tryz.isAgg3,Qqm]
  by_cases h0:x0=y0 <;> by_cases h1:x1=y1 <;> by_cases h2:x2=y2 <;> by_cases h3:x3=y3 <;> simp [h0,h1,h2,h3]
def Q3q:TI Tryz.prog:=tiA 157 Tryz.isAgg157 Tryz.sizeOf157 Tryz.underlying157 Tryz.zeroValue157 Tryz.typeInfo157 32 rfl Tryz.sizeOf3
set_option maxRecDepth 20000 in
theorem Qql (d:Nat) (x x0 x1 x2 x3 y y0 y1 y2 y3:Int) (w:World):(Op.equalIn (d+1+1+1) 159 (.agg #[.int .i64 x,.int .i64 x0,.int .i64 x1,.int .i64 x2,.int .i64 x3]) (.agg #[.int .i64 y,.int .i64 y0,.int .i64 y1,.int .i64 y2,.int .i64 y3])).run Tryz.prog w=.ok (decide ([x,x0,x1,x2,x3]=[y,y0,y1,y2,y3])) w:=by
  rw [run_equalIn_struct w (d+1+1) 159 _ _ rfl Tryz.stoodInHeld159]
  have hf:(Tryz.prog.fieldsOf 159).toList=[{ name := "Kind",type:=3,offset:=0,embedded:=false,tag := "",pkgPath := "",byteOffset:=0 },{ name := "Ids",type:=157,offset:=1,embedded:=false,tag := "",pkgPath := "",byteOffset:=8 }]:=by simp [Program.fieldsOf,Tryz.underlying159]
  rw [hf]
  simp [Op.eqFields,Go.part,Tryz.isAgg3,Tryz.isAgg157,Tryz.sizeOf157,Tryz.sizeOf3,Qqm,Qqk]
  by_cases h:x=y <;> by_cases h0:x0=y0 <;> by_cases h1:x1=y1 <;> by_cases h2:x2=y2 <;> by_cases h3:x3=y3 <;> simp [h,h0,h1,h2,h3]
theorem Qvr (a b:List Int) (ha:a.length=5) (hb:b.length=5) (w:World):(Op.equal 159 (.agg (a.map (Value.int .i64)).toArray) (.agg (b.map (Value.int .i64)).toArray)).run Tryz.prog w=.ok (decide (a=b)) w:=by
  match a,ha,b,hb with
  | [x,x0,x1,x2,x3],_,[y,y0,y1,y2,y3],_=>exact Qql 9997 x x0 x1 x2 x3 y y0 y1 y2 y3 w
def Q3r:TI Tryz.prog:={ Do (ks:=[1,4]) (ag:=[false,true]) 159 Tryz.isAgg159 Tryz.sizeOf159 Tryz.underlying159 Tryz.zeroValue159 Tryz.typeInfo159 40 rfl ⟨Tryz.sizeOf3,Tryz.sizeOf157,trivial⟩ ⟨Tryz.isAgg3,Tryz.isAgg157,trivial⟩ rfl with eqn:=some 5,heq:=fun k h=>by injection h with h; subst h; exact ⟨Tryz.eqGuardType159,Qvr⟩ }
def Q3s:TI Tryz.prog:=Do (ks:=[5,1,1]) (ag:=[true,false,false]) 161 Tryz.isAgg161 Tryz.sizeOf161 Tryz.underlying161 Tryz.zeroValue161 Tryz.typeInfo161 72 rfl ⟨Tryz.sizeOf159,Tryz.sizeOf26,Tryz.sizeOf3,trivial⟩ ⟨Tryz.isAgg159,Tryz.isAgg26,Tryz.isAgg3,trivial⟩ rfl
def Q3t:TI Tryz.prog:=Do (ks:=[7,1,1,9]) (ag:=[true,false,false,true]) 164 Tryz.isAgg164 Tryz.sizeOf164 Tryz.underlying164 Tryz.zeroValue164 Tryz.typeInfo164 232 rfl ⟨Tryz.sizeOf161,Tryz.sizeOf4,Tryz.sizeOf4,Tryz.sizeOf67,trivial⟩ ⟨Tryz.isAgg161,Tryz.isAgg4,Tryz.isAgg4,Tryz.isAgg67,trivial⟩ rfl
def Q3u:TI Tryz.prog:=Ti 169 Tryz.isAgg169 Tryz.sizeOf169 Tryz.underlying169 Tryz.zeroValue169 Tryz.typeInfo169 4 rfl
def Q3v:TI Tryz.prog:=Do (ks:=[12,1,1]) (ag:=[true,true,false]) 182 Tryz.isAgg182 Tryz.sizeOf182 Tryz.underlying182 Tryz.zeroValue182 Tryz.typeInfo182 240 rfl ⟨Tryz.sizeOf70,Tryz.sizeOf72,Tryz.sizeOf24,trivial⟩ ⟨Tryz.isAgg70,Tryz.isAgg72,Tryz.isAgg24,trivial⟩ rfl
def Q3w:TI Tryz.prog:=Ti 189 Tryz.isAgg189 Tryz.sizeOf189 Tryz.underlying189 Tryz.zeroValue189 Tryz.typeInfo189 8 rfl
def Q3x:TI Tryz.prog:=Ti 192 Tryz.isAgg192 Tryz.sizeOf192 Tryz.underlying192 Tryz.zeroValue192 Tryz.typeInfo192 8 rfl
def Q3y:TI Tryz.prog:=Ti 206 Tryz.isAgg206 Tryz.sizeOf206 Tryz.underlying206 Tryz.zeroValue206 Tryz.typeInfo206 24 rfl
def Q3z:TI Tryz.prog:=tiA 212 Tryz.isAgg212 Tryz.sizeOf212 Tryz.underlying212 Tryz.zeroValue212 Tryz.typeInfo212 176 rfl Tryz.sizeOf35
def Q30:TI Tryz.prog:=Ti 252 Tryz.isAgg252 Tryz.sizeOf252 Tryz.underlying252 Tryz.zeroValue252 Tryz.typeInfo252 24 rfl
def Q31:TI Tryz.prog:=Do (ks:=[5,1,1,1,1]) (ag:=[true,false,false,false,false]) 265 Tryz.isAgg265 Tryz.sizeOf265 Tryz.underlying265 Tryz.zeroValue265 Tryz.typeInfo265 104 rfl ⟨Tryz.sizeOf159,Tryz.sizeOf99,Tryz.sizeOf3,Tryz.sizeOf104,Tryz.sizeOf4,trivial⟩ ⟨Tryz.isAgg159,Tryz.isAgg99,Tryz.isAgg3,Tryz.isAgg104,Tryz.isAgg4,trivial⟩ rfl
def Q32:TI Tryz.prog:=Ti 278 Tryz.isAgg278 Tryz.sizeOf278 Tryz.underlying278 Tryz.zeroValue278 Tryz.typeInfo278 24 rfl
def Q33:TI Tryz.prog:=Do (ks:=[1]) (ag:=[false]) 299 Tryz.isAgg299 Tryz.sizeOf299 Tryz.underlying299 Tryz.zeroValue299 Tryz.typeInfo299 24 rfl ⟨Tryz.sizeOf278,trivial⟩ ⟨Tryz.isAgg278,trivial⟩ rfl
def Q34:TI Tryz.prog:=Ti 303 Tryz.isAgg303 Tryz.sizeOf303 Tryz.underlying303 Tryz.zeroValue303 Tryz.typeInfo303 24 rfl
def Q35:TI Tryz.prog:=Ti 317 Tryz.isAgg317 Tryz.sizeOf317 Tryz.underlying317 Tryz.zeroValue317 Tryz.typeInfo317 24 rfl
def Q36:TI Tryz.prog:=tiA 320 Tryz.isAgg320 Tryz.sizeOf320 Tryz.underlying320 Tryz.zeroValue320 Tryz.typeInfo320 272 rfl Tryz.sizeOf112
def Q37:TI Tryz.prog:=Ti 350 Tryz.isAgg350 Tryz.sizeOf350 Tryz.underlying350 Tryz.zeroValue350 Tryz.typeInfo350 24 rfl
def Q38:TI Tryz.prog:=Ti 351 Tryz.isAgg351 Tryz.sizeOf351 Tryz.underlying351 Tryz.zeroValue351 Tryz.typeInfo351 24 rfl
def tt:TT Tryz.prog:=(.nd (.nd (.nd (.nd (.nd (.nd (.nd .nil ti3 .nil) ti4 .nil) ti5 (.nd .nil ti9 .nil)) Q5r (.nd (.nd .nil Q5s .nil) Q5t (.nd .nil Q5u .nil))) Q5v (.nd (.nd (.nd .nil Q5w .nil) Q5x (.nd .nil Q5y .nil)) Q5z (.nd (.nd .nil Q50 .nil) Q51 (.nd .nil Q52 .nil)))) Q53 (.nd (.nd (.nd (.nd .nil Q54 .nil) Q55 (.nd .nil Q56 .nil)) Q57 (.nd (.nd .nil Q58 .nil) Q59 (.nd .nil Q6a .nil))) Q6b (.nd (.nd (.nd .nil Q6c .nil) Q6d (.nd .nil Q6e .nil)) Q6f (.nd (.nd .nil Q6g .nil) Q6h (.nd .nil Q6i .nil))))) Q6j (.nd (.nd (.nd (.nd (.nd .nil Q6k .nil) Q3f (.nd .nil Q3g .nil)) Q3h (.nd (.nd .nil Q3i .nil) Q3j (.nd .nil Q3k .nil))) Q3l (.nd (.nd (.nd .nil Q3m .nil) Q3n (.nd .nil Q3o .nil)) Q3p (.nd (.nd .nil Q3q .nil) Q3r (.nd .nil Q3s .nil)))) Q3t (.nd (.nd (.nd (.nd .nil Q3u .nil) Q3v (.nd .nil Q3w .nil)) Q3x (.nd (.nd .nil Q3y .nil) Q3z (.nd .nil Q30 .nil))) Q31 (.nd (.nd (.nd .nil Q32 .nil) Q33 (.nd .nil Q34 .nil)) Q35 (.nd (.nd .nil Q36 .nil) Q37 (.nd .nil Q38 .nil))))))
instance:Mo Tryz.prog:=⟨rfl⟩
end Orr

namespace Orr
open Go Go.Proofs
set_option maxRecDepth 10000
def lm (l:List Nat):List (List LV):=l.map fun (x:Nat)=>[.int .u32 (x:Int)]
abbrev lr (l:List Nat):TV:=.one (.row (lm l))
theorem Qd (l:List Nat):(lm l).length=l.length:=by simp [lm]
theorem Ze {l:List Nat} {i x:Nat} (h:l[i]? = some x):(lm l)[i]? = some [.int .u32 (x:Int)]:=by simp [lm,h]
def trm:List Nat→List Nat
  | []=>[]
  |
   x::l=>match trm l with
   | []=>if x=0 then [] else [x]
   | r=>x::r
theorem Qxh {l:List Nat}:trm l=[]↔∀ x∈l,x=0:=by
  induction l with
  | nil=>simp [trm]
  |
   cons x l ih =>
   simp only [trm]
   split
   · rename_i e
     have h1:=ih.1 e
     by_cases h:x=0
     · simp [h]; exact h1
     · simp [h]
   · rename_i r hne
     simp only [reduceCtorEq,List.mem_cons,forall_eq_or_imp,false_iff,not_and]
     exact fun _ h=>hne (ih.2 h)
theorem Nf:∀ {l:List Nat} {n:Nat},n≤l.length→(∀ j,n≤j→j<l.length→l[j]? = some 0)→(n=0∨∃ x,l[n-1]? = some x∧x≠0)→l.take n=trm l
  | [],n,h,_,_=>by simp at h; subst h; rfl
  |
   x::l,0,h,hz,_=>by
   rw [List.take_zero]
   refine (Qxh.2 fun y hy=>?_).symm
   obtain ⟨j,hj⟩:=List.mem_iff_getElem?.1 hy
   have:=hz j (Nat.zero_le _) (List.getElem?_eq_some_iff.1 hj).1
   rw [hj] at this; injection this
  |
   x::l,n+1,h,hz,ht=>by
   simp only [List.length_cons,Nat.add_le_add_iff_right] at h
   have hz':∀ j,n≤j→j<l.length→l[j]? = some 0:=fun j h1 h2=>by simpa using hz (j+1) (by omega) (by simpa using h2)
   cases n with
   |
    zero =>
    have e:trm l=[]:=(Nf (n:=0) h hz' (.inl rfl)).symm
    rcases ht with h | ⟨y,h1,h2⟩
    · omega
    · simp at h1; subst h1; simp [trm,e,h2]
   |
    succ n =>
    have ih:=Nf (n:=n+1) h hz' (.inr (by rcases ht with h | ⟨y,h1,h2⟩; (· omega); exact ⟨y,by simpa using h1,h2⟩))
    simp only [List.take_succ_cons,trm]
    rw [←ih]
    cases hl:l with
    | nil=>rw [hl] at h; simp at h
    | cons y l'=>simp [List.take_succ_cons]
theorem Q3e (l:List Nat):Qg Tryz.prog 172 [lr l] [lr (trm l)]:=by
  refine X4 Tryz.func172 rfl (ln 0 rfl rfl fun hl=>?_)
  rw [Qd] at hl
  refine go tt [] rfl trivial ?_
  refine lp (S:=Nat) 0 (fun L1 n=>(3,.v (.one (.int .i64 (n:Int))))::L1) (fun _=>[]) id (fun n=>n≤l.length∧∀ j,n≤j→j<l.length→l[j]? = some 0) (lm l).length ⟨by rw [Qd]; exact Nat.le_refl _,fun j h1 h2=>by rw [Qd] at h1; omega⟩ rfl (fun _ _=>rfl) rfl fun n ⟨h1,h2⟩=>?_
  cases n with
  | zero=>exact en tt [.f (by simp),.f rfl,.i 0] rfl (by rw [←Nf h1 h2 (.inl rfl)]; simp [lm]) (by simp [Qa,Zv])
  |
   succ n =>
   obtain ⟨x,hx⟩:∃ x,l[n]? = some x:=⟨_,List.getElem?_eq_getElem (by omega)⟩
   by_cases h0:x=0
   · refine go tt [.t (by simp),.r 11 (v:=.one (.int .i64 (n:Int))) (by simp),.x (Ze hx),.t (by simp [h0]),.r 17 (v:=.one (.int .i64 (n:Int))) (by simp)] rfl (by simp [Qa,Zv]; omega) ?_
     exact rd n (by simp) ⟨by omega,fun j h3 h4=>by
         rcases Nat.eq_or_lt_of_le h3 with rfl | h3
         · rw [hx,h0]
         · exact h2 j h3 h4⟩ rfl
   · exact en tt [.t (by simp),.r 11 (v:=.one (.int .i64 (n:Int))) (by simp),.x (Ze hx),.f (by simp [h0]),.i (n+1)] rfl (by rw [←Nf h1 h2 (.inr ⟨x,hx,h0⟩)]; simp [lm]) (by simp [Qa,Zv,Qd] <;> omega)
def Sm (l:List Nat):Prop:=∀ x∈l,x<4294967296
theorem Qcz:∀ l:List Nat,Cut l (trm l).length∧l.take (trm l).length=trm l
  | []=>⟨⟨Nat.le_refl _,fun j _ h=>by simp at h,fun h=>by simp [trm] at h⟩,rfl⟩
  |
   x::l=>by
   obtain ⟨⟨h1,h2,h3⟩,h4⟩:=Qcz l
   simp only [trm]
   split
   · rename_i e
     rw [e] at h2 h3
     by_cases h:x=0
     · rw [if_pos h]
       refine ⟨⟨Nat.zero_le _,fun j _ hj=>?_,fun h=>by simp at h⟩,rfl⟩
       cases j with
       | zero=>simp [h]
       | succ j=>simpa using h2 j (Nat.zero_le _) (by simpa using hj)
     · rw [if_neg h]
       refine ⟨⟨by simp,fun j h5 hj=>?_,fun _=>⟨x,rfl,h⟩⟩,rfl⟩
       cases j with
       | zero=>simp at h5
       | succ j=>simpa using h2 j (Nat.zero_le _) (by simpa using hj)
   · rename_i r hne
     refine ⟨⟨by simp [h1],fun j h5 hj=>?_,fun _=>?_⟩,by simp [h4]⟩
     · cases j with
       | zero=>simp at h5
       | succ j=>simpa using h2 j (by simpa using h5) (by simpa using hj)
     · have hp:0<(trm l).length:=by
         cases e:trm l with
         | nil=>exact absurd e hne
         | cons=>simp
       obtain ⟨y,h5,h6⟩:=h3 hp
       refine ⟨y,?_,h6⟩
       rw [List.length_cons,show (trm l).length+1-1=((trm l).length-1)+1 from by omega]
       simpa using h5
theorem Qaq {l:List Nat} (h:Sm l):trm l=Qw (val l):=by
  obtain ⟨h1,h2⟩:=Qcz l
  refine Qrm ?_ ?_
  · rw [←h2]; exact Qvl h1 h
  · rw [←h2]; exact Qvm h1
theorem K6 (x:Nat):Sm (Qw x):=(W7 x).1
theorem X2 {x k:Nat} (h:sz x≤k):32*(Qw x).length≤k+31:=by
  have:=Qwg (W7 x)
  rw [Zk] at this; omega
theorem Su {l:List Nat} (h:Sm l):Qg Tryz.prog 172 [lr l] [lr (Qw (val l))]:=Qaq h ▸ Q3e l
theorem Qrn (l:List Nat):∀ c∈lm l,c.length=1:=fun c hc=>by
  obtain ⟨x,_,rfl⟩:=List.mem_map.1 hc; rfl
theorem S6 {l:List Nat} (h:Sm l) (hs:sz (val l)≤4294967296):Qg Tryz.prog 123 [lr l] [lr (Qw (val l))] :=
  w tt Tryz.func123 rfl [.c [] (Su h),.s (Qrn (Qw (val l)))] rfl rfl (by have:=X2 hs; simp [Qa,Zv,Qd]; omega)
theorem Nz {a:List Nat} (ha:Sm a):∃ p,Qg Tryz.prog 172 [lr a] [lr p]∧Nrm p∧val p=val a∧p.length≤a.length∧p=Qw (val a) :=
  ⟨_,Su ha,W7 _,Zk _,by rw [←Qaq ha]; exact (Qcz a).1.1,rfl⟩
theorem Qoo {a b:List Nat} (ha:Sm a) (hb:Sm b):Qg Tryz.prog 216 [lr a,lr b] [.one (.int .i64 (Nx (val a) (val b)))]:=by
  refine X4 Tryz.func216 rfl (ln 0 rfl rfl fun hl=>ln 1 rfl rfl fun hl'=>?_)
  rw [Qd] at hl hl'
  obtain ⟨p,ca,np,vp,lp',_⟩:=Nz ha
  obtain ⟨q,cb,nq,vq,lq,_⟩:=Nz hb
  rw [←vp,←vq]
  by_cases h:p.length=q.length
  · refine go tt [.c [] ca,.c [] cb,.f (by simp [Qd,h])] rfl (by simp [Qa,Zv,Qd] <;> omega) ?_
    refine lp (S:=Int) 0 (fun L1 i=>(5,.v (.one (.int .i64 i)))::L1) (fun _=>[]) (fun i=>(i+1).toNat) (fun i=>-1≤i∧i<p.length∧p.drop (i+1).toNat=q.drop (i+1).toNat) (((lm p).length:Int)-1) ⟨by omega,by simp [Qd]; omega,by simp [Qd,h]⟩ rfl (fun _ _=>rfl) rfl fun i ⟨h1,h2,h3⟩=>?_
    rcases Int.lt_or_le i 0 with hi | hi
    · obtain rfl:i=-1:=by omega
      exact en tt [.f (by decide)] rfl (by rw [Qvf]; exact congrArg val (by simpa using h3)) trivial
    · obtain ⟨k,rfl⟩:=Int.eq_ofNat_of_zero_le hi
      have e:((k:Int)+1).toNat=k+1:=by omega
      rw [e] at h3
      obtain ⟨x,hx⟩:∃ x,p[k]? = some x:=⟨_,List.getElem?_eq_getElem (by omega)⟩
      obtain ⟨y,hy⟩:∃ y,q[k]? = some y:=⟨_,List.getElem?_eq_getElem (by omega)⟩
      rcases Nat.lt_trichotomy x y with hxy | rfl | hxy
      · exact en tt [.t (by simp),.x (Ze hx),.x (Ze hy),.t (by simp; omega)] rfl (by rw [Qj5 (Qmg np.1 h3 hx hy hxy)]) (by simp [Qa,Zv,Qd] <;> omega)
      · refine go tt [.t (by simp),.x (Ze hx),.x (Ze hy),.f (by simp),.x (Ze hx),.x (Ze hy),.f (by simp)] rfl (by simp [Qa,Zv,Qd] <;> omega) ?_
        exact rd ((k:Int)-1) (by omega) ⟨by omega,by omega,by rw [show ((k:Int)-1+1).toNat=k from by omega]; exact Qm4 h3 hx hy⟩ rfl
      · exact en tt [.t (by simp),.x (Ze hx),.x (Ze hy),.f (by simp; omega),.x (Ze hx),.x (Ze hy),.t (by simp; omega)] rfl (by rw [Qj4 (Qmg nq.1 h3.symm hy hx hxy)]) (by simp [Qa,Zv,Qd] <;> omega)
  · by_cases h2:p.length<q.length
    · exact en tt [.c [] ca,.c [] cb,.t (by simp [Qd]; omega),.t (by simp [Qd]; omega)] rfl (by rw [Qj5 (Kq np nq h2)]) (by simp [Qa,Zv])
    · exact en tt [.c [] ca,.c [] cb,.t (by simp [Qd]; omega),.f (by simp [Qd]; omega)] rfl (by rw [Qj4 (Kq nq np (by omega))]) (by simp [Qa,Zv])
end Orr

namespace Orr
open Go Go.Proofs
set_option maxRecDepth 10000
theorem Pw (m:Nat):List.replicate m [LV.int .u32 0]=lm (List.replicate m 0):=by simp [lm]
theorem Vk (l:List Nat) (i x:Nat):(lm l).set i [.int .u32 (x:Int)]=lm (l.set i x):=by simp [lm,List.map_set]
theorem Kl {a b:Int} (h:a=b):TV.one (LV.int .u64 a)=.one (.int .u64 b):=h ▸ rfl
theorem Ui {a b:Int} (h:a=b):TV.one (LV.int .u32 a)=.one (.int .u32 b):=h ▸ rfl
theorem eI {a b:Int} (h:a=b):TV.one (LV.int .i64 a)=.one (.int .i64 b):=h ▸ rfl
theorem w32 (z:Int):IntKind.u32.wrap z=z % 4294967296:=by simp [IntKind.wrap,IntKind.bits,IntKind.signed]
theorem w64 (z:Int):IntKind.u64.wrap z=z % 18446744073709551616:=by simp [IntKind.wrap,IntKind.bits,IntKind.signed]
theorem Qx0 {a b:List Nat} (ha:Sm a) (hb:Sm b) (h1:sz (val a)≤4294967296) (h2:sz (val b)≤4294967296):Qg Tryz.prog 166 [lr a,lr b] [lr (Qw (val a+val b))]:=by
  refine X4 Tryz.func166 rfl ?_
  obtain ⟨p,ca,np,vp,_,ep⟩:=Nz ha
  obtain ⟨q,cb,nq,vq,_,eq⟩:=Nz hb
  have lp':=X2 h1
  have lq:=X2 h2
  rw [←ep] at lp'
  rw [←eq] at lq
  rw [←vp,←vq]
  refine go tt [.c [] ca,.c [] cb] rfl trivial ?_
  refine ct 1 (S:=List Nat×List Nat) (fun s=>[(0,.v (lr s.1)),(1,.v (lr s.2))]) (fun _=>[]) (fun s=>Nrm s.1∧Nrm s.2∧32*s.1.length≤4294967327∧s.2.length≤s.1.length∧val s.1+val s.2=val p+val q) rfl ?_ ?_
  · by_cases h:p.length<q.length
    · exact go tt [.t (by simp [Qd]; omega)] rfl trivial (rc (q,p) ⟨nq,np,lq,Nat.le_of_lt h,Nat.add_comm _ _⟩ rfl)
    · exact go tt [.f (by simp [Qd]; omega)] rfl trivial (rc (p,q) ⟨np,nq,lp',Nat.le_of_not_lt h,rfl⟩ rfl)
  · intro ⟨p',q'⟩ ⟨np,nq,hp,hq,e⟩
    dsimp only at np nq hp hq e
    rw [←e]
    clear ca cb e vp vq ep eq
    refine go tt [.i ((lm p').length+1),.i ((lm p').length+1)] rfl (by simp [Qa,Zv,Qd] <;> omega) ?_
    rw [Pw]
    refine lp (S:=Nat×List Nat×Nat) 1 (fun L1 s=>(27,.v (.one (.int .i64 (s.1:Int))))::(6,.v (.one (.int .u64 (s.2.2:Int))))::L1) (fun s=>[.row false 169 1 (lm s.2.1)]) (fun s=>p'.length-s.1)
      (fun s=>s.1≤p'.length∧s.2.1.length=p'.length+1∧Sm s.2.1∧s.2.2≤1∧val (s.2.1.take s.1)+s.2.2*4294967296^s.1=val (p'.take s.1)+val (q'.take s.1)) (0,List.replicate ((lm p').length+1) 0,0)
      ⟨Nat.zero_le _,by simp [Qd],fun x hx=>by rw [List.eq_of_mem_replicate hx]; decide,Nat.zero_le _,by simp [val]⟩ rfl (fun _ _=>rfl) rfl fun ⟨i,o,c⟩ ⟨j1,j2,j3,j4,j5⟩=>?_
    dsimp only at j1 j2 j3 j4 j5 ⊢
    by_cases hi:i<p'.length
    · obtain ⟨x,hx⟩:∃ x,p'[i]? = some x:=⟨_,List.getElem?_eq_getElem hi⟩
      have xb:=np.1 x (List.mem_of_getElem? hx)
      have fin:∀ y s,(q'[i]? = some y∨q'.length≤i∧y=0)→y<4294967296→s=x+c+y→p'.length-(i+1)<p'.length-i∧i+1≤p'.length∧(o.set i (s % 4294967296)).length=p'.length+1∧Sm (o.set i (s % 4294967296))∧s / 4294967296≤1 ∧
          val ((o.set i (s % 4294967296)).take (i+1))+s / 4294967296*4294967296^(i+1)=val (p'.take (i+1))+val (q'.take (i+1)):=fun y s hy hyb hs =>
        ⟨by omega,hi,by simp [j2],Y5 j3 i _ (by omega),by omega,Qdf (by omega) hx hy j5 hs⟩
      by_cases hi2:i<q'.length
      · obtain ⟨y,hy⟩:∃ y,q'[i]? = some y:=⟨_,List.getElem?_eq_getElem hi2⟩
        have yb:=nq.1 y (List.mem_of_getElem? hy)
        refine go tt [.t (by simp [Qd]; omega),.x (Ze hx),.t (by simp [Qd]; omega),.x (Ze hy),.w 2,.r 50 (v:=.one (.int .u32 (((x+c+y) % 4294967296:Nat):Int))) (by simp [IntKind.wrap,IntKind.bits,IntKind.signed]),.i 32,.r 52 (v:=.one (.int .u64 (((x+c+y) / 4294967296:Nat):Int))) (by simp),.i i] rfl (by simp [Qa,Zv,Qd,IntKind.bits] <;> omega) ?_
        rw [Vk]
        exact rd (i+1,o.set i ((x+c+y) % 4294967296),(x+c+y) / 4294967296) (fin y _ (.inl hy) yb rfl).1 (fin y _ (.inl hy) yb rfl).2 rfl
      · refine go tt [.t (by simp [Qd]; omega),.x (Ze hx),.f (by simp [Qd]; omega),.w 0,.r 50 (v:=.one (.int .u32 (((x+c+0) % 4294967296:Nat):Int))) (by simp [IntKind.wrap,IntKind.bits,IntKind.signed]),.i 32,.r 52 (v:=.one (.int .u64 (((x+c+0) / 4294967296:Nat):Int))) (by simp),.i i] rfl (by simp [Qa,Zv,Qd,IntKind.bits] <;> omega) ?_
        rw [Vk]
        exact rd (i+1,o.set i ((x+c+0) % 4294967296),(x+c+0) / 4294967296) (fin 0 _ (.inr ⟨by omega,rfl⟩) (by decide) rfl).1 (fin 0 _ (.inr ⟨by omega,rfl⟩) (by decide) rfl).2 rfl
    · obtain rfl:i=p'.length:=by omega
      refine go tt [.f (by simp [Qd]),.w 0,.r 59 (v:=.one (.int .u32 (c:Int))) (by simp [IntKind.wrap,IntKind.bits,IntKind.signed]; omega),.i (lm p').length] rfl (by simp [Qa,Zv,Qd,j2]) ?_
      rw [Qd,Vk]
      have e:val (o.set p'.length c)=val p'+val q':=by
        have h1:=Ho o p'.length c (by omega)
        rw [List.take_of_length_le (by simp; omega)] at h1
        rw [List.take_of_length_le (Nat.le_refl _),List.take_of_length_le hq] at j5
        rw [h1,←j5,Nat.mul_comm]
      rw [←e]
      exact en tt [.c [] (Su (Y5 j3 _ c (by omega)))] rfl rfl trivial
theorem Qds {x y:Nat}:Nx x y<0↔x<y:=by unfold Nx; split <;> (try split) <;> omega
theorem Qx4 {a b:List Nat} (ha:Sm a) (hb:Sm b) (h1:sz (val a)≤4294967296):Qg Tryz.prog 167 [lr a,lr b] (if val b≤val a then [lr (Qw (val a-val b)),.one (.bool true)] else [lr [],.one (.bool false)]):=by
  refine X4 Tryz.func167 rfl ?_
  obtain ⟨p,ca,np,vp,_,ep⟩:=Nz ha
  obtain ⟨q,cb,nq,vq,_,_⟩:=Nz hb
  have hp:=X2 h1
  rw [←ep] at hp
  rw [←vp,←vq]
  have cc:=Qoo np.1 nq.1
  by_cases hlt:val p<val q
  · rw [if_neg (by omega)]
    exact en tt [.c [] ca,.c [] cb,.c [] cc,.t (by simpa using Qds.2 hlt)] rfl rfl trivial
  rw [if_pos (by omega)]
  have hq:q.length≤p.length:=Nat.le_of_not_lt fun h=>hlt (Kq np nq h)
  refine go tt [.c [] ca,.c [] cb,.c [] cc,.f (by have:=mt Qds.1 hlt; simpa using this),.i (lm p).length,.i (lm p).length] rfl (by simp [Qa,Zv,Qd] <;> omega) ?_
  rw [Pw]
  refine lp (S:=Nat×List Nat×Nat) 1 (fun L1 s=>(24,.v (.one (.int .i64 (s.1:Int))))::(7,.v (.one (.int .u64 (s.2.2:Int))))::L1) (fun s=>[.row false 169 1 (lm s.2.1)]) (fun s=>p.length-s.1)
    (fun s=>s.1≤p.length∧s.2.1.length=p.length∧Sm s.2.1∧s.2.2≤1∧val (s.2.1.take s.1)+val (q.take s.1)=val (p.take s.1)+s.2.2*4294967296^s.1) (0,List.replicate (lm p).length 0,0)
    ⟨Nat.zero_le _,by simp [Qd],fun x hx=>by rw [List.eq_of_mem_replicate hx]; decide,Nat.zero_le _,by simp [val]⟩ rfl (fun _ _=>rfl) rfl fun ⟨i,o,c⟩ ⟨j1,j2,j3,j4,j5⟩=>?_
  dsimp only at j1 j2 j3 j4 j5 ⊢
  by_cases hi:i<p.length
  · obtain ⟨x,hx⟩:∃ x,p[i]? = some x:=⟨_,List.getElem?_eq_getElem hi⟩
    have xb:=np.1 x (List.mem_of_getElem? hx)
    have fin:∀ y s,(q[i]? = some y∨q.length≤i∧y=0)→y<4294967296→s=(x+18446744073709551616-c-y) % 18446744073709551616→p.length-(i+1)<p.length-i∧i+1≤p.length∧(o.set i (s % 4294967296)).length=p.length∧Sm (o.set i (s % 4294967296))∧s / 9223372036854775808≤1 ∧
        val ((o.set i (s % 4294967296)).take (i+1))+val (q.take (i+1))=val (p.take (i+1))+s / 9223372036854775808*4294967296^(i+1):=fun y s hy hyb hs=>by
      obtain ⟨h1,h2⟩:=Qtn (o:=o) (by omega) hx hy xb hyb j4 j5 hs
      exact ⟨by omega,hi,by simp [j2],Y5 j3 i _ (by omega),h2,h1⟩
    by_cases hi2:i<q.length
    · obtain ⟨y,hy⟩:∃ y,q[i]? = some y:=⟨_,List.getElem?_eq_getElem hi2⟩
      have yb:=nq.1 y (List.mem_of_getElem? hy)
      obtain ⟨s,hs⟩:∃ s,s=(x+18446744073709551616-c-y) % 18446744073709551616:=⟨_,rfl⟩
      refine go tt [.t (by simp [Qd]; omega),.x (Ze hx),.w 1,.r 32 (Kl (b:=(((x+18446744073709551616-c) % 18446744073709551616:Nat):Int)) (by rw [w64]; omega)),.t (by simp [Qd]; omega),.x (Ze hy),.w 1,.r 43 (Kl (b:=(s:Int)) (by rw [w64]; omega)),.w 0,.r 47 (Ui (b:=((s % 4294967296:Nat):Int)) (by rw [w32]; omega)),.i 63,.r 49 (Kl (b:=((s / 9223372036854775808:Nat):Int)) (by simp)),.i i] rfl (by simp [Qa,Zv,Qd,IntKind.bits] <;> omega) ?_
      rw [Vk]
      exact rd (i+1,o.set i (s % 4294967296),s / 9223372036854775808) (fin y _ (.inl hy) yb hs).1 (fin y _ (.inl hy) yb hs).2 rfl
    · obtain ⟨s,hs⟩:∃ s,s=(x+18446744073709551616-c-0) % 18446744073709551616:=⟨_,rfl⟩
      have hf:=fin 0 _ (.inr ⟨by omega,rfl⟩) (by decide) hs
      refine go tt [.t (by simp [Qd]; omega),.x (Ze hx),.w 1,.r 32 (Kl (b:=(s:Int)) (by rw [w64]; omega)),.f (by simp [Qd]; omega),.w 0,.r 47 (Ui (b:=((s % 4294967296:Nat):Int)) (by rw [w32]; omega)),.i 63,.r 49 (Kl (b:=((s / 9223372036854775808:Nat):Int)) (by simp)),.i i] rfl (by simp [Qa,Zv,Qd,IntKind.bits] <;> omega) ?_
      rw [Vk]
      exact rd (i+1,o.set i (s % 4294967296),s / 9223372036854775808) hf.1 hf.2 rfl
  · obtain rfl:i=p.length:=by omega
    have e:val o=val p-val q:=by
      rw [List.take_of_length_le (Nat.le_of_eq j2),List.take_of_length_le hq,List.take_of_length_le (Nat.le_refl _)] at j5
      have h1:=We o j3
      rw [j2] at h1
      rcases Nat.le_one_iff_eq_zero_or_eq_one.1 j4 with rfl | rfl <;> omega
    rw [←e]
    exact en tt [.f (by simp [Qd]),.c [] (Su j3)] rfl rfl trivial
theorem Q15 {a b:List Nat} (ha:Sm a) (hb:Sm b) (h1:sz (val a)≤4294967296) (h2:sz (val b)≤4294967296):Qg Tryz.prog 232 [lr a,lr b] [lr (Qw (val a*val b))]:=by
  refine X4 Tryz.func232 rfl ?_
  obtain ⟨p,ca,np,vp,_,ep⟩:=Nz ha
  obtain ⟨q,cb,nq,vq,_,eq⟩:=Nz hb
  have hp:=X2 h1
  have hq:=X2 h2
  rw [←ep] at hp
  rw [←eq] at hq
  rw [←vp,←vq]
  refine go tt [.c [] ca,.c [] cb,.i ((lm p).length+(lm q).length),.i ((lm p).length+(lm q).length)] rfl (by simp [Qa,Zv,Qd] <;> omega) ?_
  rw [Pw]
  refine lp (S:=Nat×List Nat) 1 (fun L1 s=>(24,.v (.one (.int .i64 (s.1:Int))))::L1) (fun s=>[.row false 169 1 (lm s.2)]) (fun s=>p.length-s.1)
    (fun s=>s.1≤p.length∧s.2.length=p.length+q.length∧Sm s.2∧(∀ j,s.1+q.length≤j→j<s.2.length→s.2[j]? = some 0)∧val s.2=val (p.take s.1)*val q) (0,List.replicate ((lm p).length+(lm q).length) 0)
    ⟨Nat.zero_le _,by simp [Qd],fun x hx=>by rw [List.eq_of_mem_replicate hx]; decide,fun j _ hj=>by rw [List.getElem?_replicate,if_pos (by simpa using hj)],by simp [val,Ce]⟩ rfl (fun _ _=>rfl) rfl fun ⟨i,o⟩ ⟨j1,j2,j3,j4,j5⟩=>?_
  dsimp only at j1 j2 j3 j4 j5 ⊢
  by_cases hi:i<p.length
  · obtain ⟨x,hx⟩:∃ x,p[i]? = some x:=⟨_,List.getElem?_eq_getElem hi⟩
    have xb:=np.1 x (List.mem_of_getElem? hx)
    refine go tt [.t (by simp [Qd]; omega),.x (Ze hx)] rfl trivial ?_
    refine lp (S:=Nat×List Nat×Nat) 1 (fun L1 s=>(31,.v (.one (.int .i64 (s.1:Int))))::(8,.v (.one (.int .u64 (s.2.2:Int))))::L1) (fun s=>[.row false 169 1 (lm s.2.1)]) (fun s=>q.length-s.1)
      (fun s=>s.1≤q.length∧s.2.1.length=p.length+q.length∧Sm s.2.1∧(∀ j,i+q.length≤j→j<s.2.1.length→s.2.1[j]? = some 0)∧s.2.2<4294967296∧val s.2.1+s.2.2*4294967296^(i+s.1)=val (p.take i)*val q+4294967296^i*x*val (q.take s.1)) (0,o,0)
      ⟨Nat.zero_le _,j2,j3,j4,by simp,by simp [val,j5]⟩ rfl (fun _ _=>rfl) rfl fun ⟨k,o',c⟩ ⟨k1,k2,k3,k4,k5,k6⟩=>?_
    dsimp only at k1 k2 k3 k4 k5 k6 ⊢
    by_cases hk:k<q.length
    · obtain ⟨y,hy⟩:∃ y,q[k]? = some y:=⟨_,List.getElem?_eq_getElem hk⟩
      have yb:=nq.1 y (List.mem_of_getElem? hy)
      obtain ⟨z,hz⟩:∃ z,o'[i+k]? = some z:=⟨_,List.getElem?_eq_getElem (by omega)⟩
      have zb:=k3 z (List.mem_of_getElem? hz)
      have hm:=Ru xb yb
      have hm2:(x:Int)*(y:Int)=((x*y:Nat):Int):=by push_cast; rfl
      obtain ⟨s,hs⟩:∃ s,s=x*y+z+c:=⟨_,rfl⟩
      refine go tt [.t (by simp [Qd]; omega),.x (Ze hy),.r 40 (Kl (b:=((x*y:Nat):Int)) (by push_cast; rfl)),.i (i+k),.x (Ze hz),.r 50 (Kl (b:=(s:Int)) (by omega)),.w 1,.r 56 (Ui (b:=((s % 4294967296:Nat):Int)) (by rw [w32]; omega)),.i 32,.r 58 (Kl (b:=((s / 4294967296:Nat):Int)) (by simp)),.i (i+k)] rfl ?_ ?_
      · simp [Qa,Zv,Qd,IntKind.bits] <;> omega
      · rw [Vk]
        exact rd (k+1,o'.set (i+k) (s % 4294967296),s / 4294967296) (show q.length-(k+1)<q.length-k by omega) ⟨hk,by simp [k2],Y5 k3 _ _ (by omega),fun j h3 h4=>by
          rw [List.getElem?_set_ne (by omega)]; exact k4 j h3 (by simpa using h4),(show s / 4294967296<4294967296 from by omega),Qrv hz hy k6 hs⟩ rfl
    · obtain rfl:k=q.length:=by omega
      by_cases hq0:0<q.length
      · refine go tt [.f (by simp [Qd]),.t (by simp [Qd]; omega),.w 1,.r 70 (Ui (b:=((c % 4294967296:Nat):Int)) (by rw [w32]; omega)),.i (i+(lm q).length)] rfl (by simp [Qa,Zv,Qd,IntKind.bits] <;> omega) ?_
        rw [Vk]
        refine rd (i+1,o'.set (i+(lm q).length) (c % 4294967296)) (show p.length-(i+1)<p.length-i by omega) ⟨hi,by simp [k2],Y5 k3 _ _ (by omega),fun j h3 h4=>?_,?_⟩ rfl
        · rw [Qd,List.getElem?_set_ne (by dsimp only at h3; omega)]
          exact k4 j (by dsimp only at h3; omega) (by simpa using h4)
        · rw [Qd]
          exact Qru (k4 _ (Nat.le_refl _) (by omega)) hx k5 rfl k6
      · have q0:q=[]:=List.eq_nil_of_length_eq_zero (by omega)
        refine go tt [.f (by simp [Qd]),.f (by simp [Qd,q0])] rfl (by simp [Qa,Zv,Qd,IntKind.bits] <;> omega) ?_
        refine rd (i+1,o') (show p.length-(i+1)<p.length-i by omega) ⟨hi,k2,k3,fun j h3 h4=>k4 j (by dsimp only at h3; omega) h4,?_⟩ rfl
        have c0:c*4294967296^(i+q.length)=0∧val o'=0:=by
          subst q0
          simp only [val,List.take_nil,Nat.mul_zero] at k6
          omega
        rw [c0.2,q0]; rfl
  · obtain rfl:i=p.length:=by omega
    rw [List.take_of_length_le (Nat.le_refl _)] at j5
    rw [←j5]
    exact en tt [.f (by simp [Qd]),.c [] (Su j3)] rfl rfl trivial
end Orr

namespace Orr
open Go Go.Proofs
set_option maxRecDepth 10000
theorem o64 {k q:Nat} (hq:q<4294967296) (hb:4294967296*k+q<18446744073709551616):orI .u64 ((4294967296*k:Nat):Int) (q:Int)=((4294967296*k+q:Nat):Int):=by
  have e1:(BitVec.ofInt 64 ((4294967296*k:Nat):Int)).toNat=4294967296*k:=by rw [BitVec.toNat_ofInt]; omega
  have e2:(BitVec.ofInt 64 (q:Int)).toNat=q:=by rw [BitVec.toNat_ofInt]; omega
  show IntKind.u64.wrap ((BitVec.ofInt 64 ((4294967296*k:Nat):Int) ||| BitVec.ofInt 64 (q:Int)).toNat:Int)=_
  rw [BitVec.toNat_or,e1,e2,Q0s hq,w64]; omega
theorem oM {k p:Nat} (hp:p<4294967296) (hb:4294967296*k+p<18446744073709551616):orI .u64 (p:Int) ((4294967296*k:Nat):Int)=((4294967296*k+p:Nat):Int):=by
  have:=o64 hp hb
  unfold orI at this ⊢
  rw [BitVec.or_comm]; exact this
theorem o32 {s k p:Nat} (hp:p<2^s) (h1:p<4294967296) (h2:2^s*k<4294967296) (hb:p+2^s*k<4294967296):orI .u32 (p:Int) ((2^s*k:Nat):Int)=((p+2^s*k:Nat):Int):=by
  have e1:(BitVec.ofInt 32 ((2^s*k:Nat):Int)).toNat=2^s*k:=by rw [BitVec.toNat_ofInt]; omega
  have e2:(BitVec.ofInt 32 (p:Int)).toNat=p:=by rw [BitVec.toNat_ofInt]; omega
  have e3:p ||| 2^s*k=p+2^s*k:=by
    have:=Nat.two_pow_add_eq_or_of_lt (i:=s) (b:=p) hp k
    rw [Nat.or_comm,←this,Nat.add_comm]
  show IntKind.u32.wrap ((BitVec.ofInt 32 (p:Int) ||| BitVec.ofInt 32 ((2^s*k:Nat):Int)).toNat:Int)=_
  rw [BitVec.toNat_or,e1,e2,e3,w32]; omega
theorem Q2h {l:List Nat} {v:Nat} (hl:Sm l) (hn:l.length<274877906944) (h0:0<v) (hv:v<4294967296):Qg Tryz.prog 219 [lr l,.one (.int .u32 (v:Int))] [lr (Qw (val l / v)),.one (.int .u32 ((val l % v:Nat):Int))]:=by
  refine X4 Tryz.func219 rfl ?_
  refine go tt [.i (lm l).length,.i (lm l).length] rfl (by simp [Qa,Zv,Qd] <;> omega) ?_
  rw [Pw]
  refine lp (S:=Int×List Nat×Nat) 1 (fun L1 s=>(8,.v (.one (.int .i64 s.1)))::(7,.v (.one (.int .u64 (s.2.2:Int))))::L1) (fun s=>[.row false 169 1 (lm s.2.1)]) (fun s=>(s.1+1).toNat)
    (fun s=>-1≤s.1∧s.1<l.length∧s.2.1.length=l.length∧Sm s.2.1∧s.2.2<v∧val (l.drop (s.1+1).toNat)=v*val (s.2.1.drop (s.1+1).toNat)+s.2.2) (((lm l).length:Int)-1,List.replicate (lm l).length 0,0)
    ⟨by simp [Qd]; omega,by simp [Qd]; omega,by simp [Qd],fun x hx=>by rw [List.eq_of_mem_replicate hx]; decide,h0,by simp [Qd,val]⟩ rfl (fun _ _=>rfl) rfl fun ⟨i,o,r⟩ ⟨j1,j2,j3,j4,j5,j6⟩=>?_
  dsimp only at j1 j2 j3 j4 j5 j6 ⊢
  rcases Int.lt_or_le i 0 with hi | hi
  · obtain rfl:i=-1:=by omega
    simp only [show ((-1:Int)+1).toNat=0 from rfl,List.drop_zero] at j6
    have e1:val l / v=val o:=by rw [j6,Nat.mul_add_div h0,Nat.div_eq_of_lt j5,Nat.add_zero]
    have e2:val l % v=r:=by rw [j6,Nat.mul_add_mod,Nat.mod_eq_of_lt j5]
    rw [e1,e2]
    exact en tt [.f (by decide),.c [] (Su j4)] rfl rfl (by simp [Qa,Zv,Qd,IntKind.bits] <;> omega)
  · obtain ⟨k,rfl⟩:=Int.eq_ofNat_of_zero_le hi
    have e:((k:Int)+1).toNat=k+1:=by omega
    rw [e] at j6
    obtain ⟨x,hx⟩:∃ x,l[k]? = some x:=⟨_,List.getElem?_eq_getElem (by omega)⟩
    have xb:=hl x (List.mem_of_getElem? hx)
    obtain ⟨s,hs⟩:∃ s,s=r*4294967296+x:=⟨_,rfl⟩
    obtain ⟨k1,k2,k3⟩:=Qr5 hx xb (show k<o.length by omega) h0 j5 j6 hs
    obtain ⟨q,hq⟩:∃ q,q=s / v:=⟨_,rfl⟩
    obtain ⟨u,hu⟩:∃ u,u=s % v:=⟨_,rfl⟩
    have hqi:(s:Int).tdiv v=(q:Int):=by rw [Int.tdiv_eq_ediv_of_nonneg (by omega),hq]; rfl
    have hui:(s:Int).tmod v=(u:Int):=by rw [Int.tmod_eq_emod_of_nonneg (by omega),hu]; rfl
    rw [←hq,←hu] at k3
    rw [←hq] at k1
    rw [←hu] at k2
    refine go tt [.t (by simp),.i 32,.r 21 (Kl (b:=((4294967296*r:Nat):Int)) (by omega)),.x (Ze hx),.r 27 (Kl (b:=(s:Int)) (by rw [o64 xb (by omega)]; omega)),
      .r 33 (Kl (b:=(q:Int)) hqi),.w 0,.r 34 (Ui (b:=((q % 4294967296:Nat):Int)) (by rw [w32]; omega)),.r 38 (Kl (b:=(u:Int)) hui),.i k] rfl (by simp [Qa,Zv,Qd,IntKind.bits,hqi] <;> omega) ?_
    rw [Vk]
    exact rd ((k:Int)-1,o.set k (q % 4294967296),u) (by dsimp only; omega) ⟨by dsimp only; omega,by dsimp only; omega,by simp [j3],Y5 j4 _ _ (by omega),k2,by dsimp only; rw [show ((k:Int)-1+1).toNat=k from by omega]; exact k3⟩ rfl
theorem P8 {i:Nat} {s:ByteArray} (h:∀ i,i<256→(s[i]?).map (·.toNat)=some (sz i)) (hi:i<256):(s[i]?).map (·.toNat)=some (sz i):=h i hi
set_option maxRecDepth 100000 in
theorem Qjl {x:Nat} (hx:x<4294967296):Qg Tryz.prog 262 [.one (.int .u32 (x:Int))] [.one (.int .i64 (sz x:Int))]:=by
  refine X4 Tryz.func262 rfl ?_
  have h31:sz x≤32:=Kc.2 (by omega)
  by_cases h1:65536≤x
  · have e1:sz x=16+sz (x / 2^16):=Na (by omega)
    obtain ⟨y,hy⟩:∃ y,y=x / 2^16:=⟨_,rfl⟩
    rw [←hy] at e1
    by_cases h2:256≤y
    · have e2:sz y=8+sz (y / 2^8):=Na (by omega)
      obtain ⟨z,hz⟩:∃ z,z=y / 2^8:=⟨_,rfl⟩
      rw [←hz] at e2
      exact en tt [.t (by simp; omega),.i 16,.r 6 (Ui (b:=(y:Int)) (by simp [hy])),.t (by simp; omega),.i 8,.r 10 (Ui (b:=(z:Int)) (by simp [hz])),.y (P8 (i:=z) (by decide) (by omega))] rfl (by rw [e1,e2]; simp; omega) (by simp [Qa,Zv,IntKind.bits] <;> omega)
    · exact en tt [.t (by simp; omega),.i 16,.r 6 (Ui (b:=(y:Int)) (by simp [hy])),.f (by simp; omega),.y (P8 (i:=y) (by decide) (by omega))] rfl (by rw [e1]; simp) (by simp [Qa,Zv,IntKind.bits] <;> omega)
  · by_cases h2:256≤x
    · have e2:sz x=8+sz (x / 2^8):=Na (by omega)
      obtain ⟨z,hz⟩:∃ z,z=x / 2^8:=⟨_,rfl⟩
      rw [←hz] at e2
      exact en tt [.f (by simp; omega),.t (by simp; omega),.i 8,.r 10 (Ui (b:=(z:Int)) (by simp [hz])),.y (P8 (i:=z) (by decide) (by omega))] rfl (by rw [e2]; simp) (by simp [Qa,Zv,IntKind.bits] <;> omega)
    · exact en tt [.f (by simp; omega),.f (by simp; omega),.y (P8 (i:=x) (by decide) (by omega))] rfl (by simp) (by simp [Qa,Zv,IntKind.bits] <;> omega)
theorem Qzg {x:Nat} (hx:x<4294967296):Qg Tryz.prog 220 [.one (.int .u32 (x:Int))] [.one (.int .i64 ((32-sz x:Nat):Int))]:=by
  have h31:sz x≤32:=Kc.2 (by omega)
  exact w tt Tryz.func220 rfl [.c [] (Qjl hx)] rfl (by simp; omega) (by simp [Qa,Zv] <;> omega)
theorem Qg1 {l:List Nat} (hl:Sm l) (hs:sz (val l)≤4294967296):Qg Tryz.prog 266 [lr l] [.one (.int .i64 (sz (val l):Int))]:=by
  refine X4 Tryz.func266 rfl ?_
  obtain ⟨p,ca,np,vp,_,ep⟩:=Nz hl
  have hp:=X2 hs
  rw [←ep] at hp
  rw [←vp] at hs ⊢
  by_cases h0:p=[]
  · subst h0
    exact en tt [.c [] ca,.t (by simp [lm])] rfl rfl (by simp [Qa,Zv])
  · have Ye:0<p.length:=List.length_pos_iff.2 h0
    obtain ⟨x,hx,hx0⟩:=np.2 h0
    have xb:=np.1 x (List.mem_of_getElem? hx)
    have e:=Qiz np hx
    have h31:sz x≤32:=Kc.2 (by omega)
    have hn:(lm p).length≠0:=by rw [Qd]; omega
    refine en tt [.c [] ca,.f (by simp [Qd]; omega),.r 15 (eI (b:=((p.length-1:Nat):Int)) (by rw [Qd]; omega)),.x (Ze hx),.c [] (Qjl xb)] rfl (by rw [e,Qd]; simp; omega) (by simp [Qa,Zv,Qd] <;> omega)
theorem Qft {s:Nat} (h:s≤31):((s:Nat):Int).tdiv 32=((0:Nat):Int):=by
  rw [Int.tdiv_eq_ediv_of_nonneg (by omega)]; omega
theorem Qsv {s:Nat} (h:s≤31):((s:Nat):Int).tmod 32=(s:Int):=Int.tmod_eq_of_lt (by omega) (by omega)
theorem Q0l {s:Nat} (h:s≤31):max 0 (min (s:Int) 65536)=(s:Int):=by omega
theorem Q2b {a:List Nat} {s:Nat} (ha:Sm a) (h1:sz (val a)≤4294967400) (hs:s≤31):Qg Tryz.prog 263 [lr a,.one (.int .i64 (s:Int))] [lr (Qw (val a*2^s))]:=by
  refine X4 Tryz.func263 rfl ?_
  obtain ⟨p,ca,np,vp,_,ep⟩:=Nz ha
  have hp:=X2 h1
  rw [←ep] at hp
  rw [←vp]
  have hq:((s:Nat):Int).tdiv 32=0:=Qft hs
  by_cases h0:p=[]
  · subst h0
    exact en tt [.c [] ca,.t (by simp [lm])] rfl (by simp [val,Zd,lm]) (by simp [Qa,Zv])
  have Ye:0<p.length:=List.length_pos_iff.2 h0
  refine go tt [.c [] ca,.r 15 (eI (b:=(s:Int)) (Q0l hs)),.f (by simp [Qd]; omega),.r 20 (eI (b:=((0:Nat):Int)) (Qft hs)),.r 22 (eI (b:=(s:Int)) (Qsv hs)),.r 28 (eI (b:=(((lm p).length+1:Nat):Int)) (by omega)),.i ((lm p).length+1),.i ((lm p).length+1)] rfl (by have e:=Qd p; simp only [Qa,Zv]; omega) ?_
  rw [Pw]
  refine lp (S:=Nat×List Nat) 1 (fun L1 s=>(32,.v (.one (.int .i64 (s.1:Int))))::L1) (fun s=>[.row false 169 1 (lm s.2)]) (fun s=>p.length-s.1)
    (fun r=>r.1≤p.length∧r.2.length=p.length+1∧Sm r.2∧(∃ z,r.2[r.1]? = some z∧z<2^s)∧val (r.2.take (r.1+1))=val (p.take r.1)*2^s) (0,List.replicate ((lm p).length+1) 0)
    ⟨Nat.zero_le _,by simp [Qd],fun x hx=>by rw [List.eq_of_mem_replicate hx]; decide,⟨0,by simp,Nat.pow_pos (by decide)⟩,by simp [val,List.replicate_succ]⟩ rfl (fun _ _=>rfl) rfl fun ⟨i,o⟩ ⟨j1,j2,j3,⟨z,hz,hzs⟩,j5⟩=>?_
  dsimp only at j1 j2 j3 hz hzs j5 ⊢
  by_cases hi:i<p.length
  · obtain ⟨x,hx⟩:∃ x,p[i]? = some x:=⟨_,List.getElem?_eq_getElem hi⟩
    have xb:=np.1 x (List.mem_of_getElem? hx)
    have zb:=j3 z (List.mem_of_getElem? hz)
    obtain ⟨k1,k2,k3,k4⟩:=Qtd hs hx xb hz hzs (by omega) j5
    have hxs:=Q04 hs xb
    have h31:2^s≤2^31:=Nat.pow_le_pow_right (by decide) hs
    have ec:(x:Int)*2^s=((x*2^s:Nat):Int):=by push_cast; rfl
    obtain ⟨m,hm⟩:∃ m,m=x*2^s:=⟨_,rfl⟩
    rw [←hm] at k1 k2 k3 k4 hxs ec
    refine go tt [.t (by simp [Qd]; omega),.x (Ze hx),.i s,.r 40 (Kl (b:=(m:Int)) ec),.i i,.x (Ze hz),.w 0,.r 52 (Ui (b:=((m % 4294967296:Nat):Int)) (by rw [w32]; omega)),.r 53 (Ui (b:=((z+m % 4294967296:Nat):Int)) (by rw [k4,o32 hzs zb (by omega) (by omega)])),.i i,
      .i 32,.r 61 (Kl (b:=((m / 2^32:Nat):Int)) (by simp)),.w 0,.r 62 (Ui (b:=((m / 2^32 % 4294967296:Nat):Int)) (by rw [w32]; omega)),.i (i+1)] rfl (by simp [Qa,Zv,Qd,IntKind.bits,ec] <;> omega) ?_
    rw [Vk,Vk]
    exact rd (i+1,(o.set i (z+m % 4294967296)).set (i+1) (m / 2^32 % 4294967296)) (show p.length-(i+1)<p.length-i by omega) ⟨hi,by simp [j2],Y5 (Y5 j3 _ _ (by omega)) _ _ (by omega),⟨_,by rw [List.getElem?_set_self (by simp; omega)],by omega⟩,k3⟩ rfl
  · obtain rfl:i=p.length:=by omega
    rw [List.take_of_length_le (by omega),List.take_of_length_le (Nat.le_refl _)] at j5
    rw [←j5]
    exact en tt [.f (by simp [Qd]),.c [] (Su j3)] rfl rfl trivial
theorem Q2c {a:List Nat} {s:Nat} (ha:Sm a) (h1:sz (val a)≤4294967400) (hs:s≤31):Qg Tryz.prog 223 [lr a,.one (.int .i64 (s:Int))] [lr (Qw (val a / 2^s))]:=by
  refine X4 Tryz.func223 rfl ?_
  obtain ⟨p,ca,np,vp,_,ep⟩:=Nz ha
  have hp:=X2 h1
  rw [←ep] at hp
  rw [←vp]
  have hq:((s:Nat):Int).tdiv 32=0:=Qft hs
  by_cases h0:p=[]
  · subst h0
    exact en tt [.c [] ca,.r 14 (eI (b:=(s:Int)) (Q0l hs)),.r 16 (eI (b:=((0:Nat):Int)) (Qft hs)),.r 18 (eI (b:=(s:Int)) (Qsv hs)),.t (by simp [lm])] rfl (by simp [val,Zd,lm]) (by simp only [Qa,Zv]; omega)
  have Ye:0<p.length:=List.length_pos_iff.2 h0
  refine go tt [.c [] ca,.r 14 (eI (b:=(s:Int)) (Q0l hs)),.r 16 (eI (b:=((0:Nat):Int)) (Qft hs)),.r 18 (eI (b:=(s:Int)) (Qsv hs)),.f (by simp [Qd]; omega),.r 27 (eI (b:=((lm p).length:Int)) (by omega)),.i (lm p).length,.i (lm p).length] rfl (by have e:=Qd p; simp only [Qa,Zv]; omega) ?_
  rw [Pw]
  refine lp (S:=Nat×List Nat) 1 (fun L1 s=>(31,.v (.one (.int .i64 (s.1:Int))))::L1) (fun s=>[.row false 169 1 (lm s.2)]) (fun s=>p.length-s.1)
    (fun r=>r.1≤p.length∧r.2.length=p.length∧Sm r.2∧val (r.2.take r.1)=val p / 2^s % 4294967296^r.1) (0,List.replicate (lm p).length 0)
    ⟨Nat.zero_le _,by simp [Qd],fun x hx=>by rw [List.eq_of_mem_replicate hx]; decide,by simp [val]; omega⟩ rfl (fun _ _=>rfl) rfl fun ⟨i,o⟩ ⟨j1,j2,j3,j5⟩=>?_
  dsimp only at j1 j2 j3 j5 ⊢
  by_cases hi:i<p.length
  · obtain ⟨x,hx⟩:∃ x,p[i]? = some x:=⟨_,List.getElem?_eq_getElem hi⟩
    have xb:=np.1 x (List.mem_of_getElem? hx)
    have fin:∀ y m,(p[i+1]? = some y∨p.length≤i+1∧y=0)→m=(x+y*2^32) / 2^s→p.length-(i+1)<p.length-i∧i+1≤p.length∧(o.set i (m % 4294967296)).length=p.length∧Sm (o.set i (m % 4294967296))∧val ((o.set i (m % 4294967296)).take (i+1))=val p / 2^s % 4294967296^(i+1):=fun y m hy hm =>
      ⟨by omega,hi,by simp [j2],Y5 j3 _ _ (by omega),by subst hm; exact Qte hs hx hy (by omega) np.1 j5⟩
    have hsp:0<2^s:=Nat.pow_pos (by decide)
    by_cases hy0:i+1<p.length
    · obtain ⟨y,hy⟩:∃ y,p[i+1]? = some y:=⟨_,List.getElem?_eq_getElem hy0⟩
      have yb:=np.1 y (List.mem_of_getElem? hy)
      obtain ⟨v,hv⟩:∃ v,v=4294967296*y+x:=⟨_,rfl⟩
      obtain ⟨m,hm⟩:∃ m,m=v / 2^s:=⟨_,rfl⟩
      have hml:m≤v:=hm ▸ Nat.div_le_self _ _
      have hf:=fin y m (.inl hy) (by rw [hm,hv]; congr 1; omega)
      refine go tt [.t (by simp [Qd]; omega),.x (Ze hx),.t (by simp [Qd]; omega),.x (Ze hy),.i 32,.r 57 (Kl (b:=((4294967296*y:Nat):Int)) (by omega)),.r 58 (Kl (b:=(v:Int)) (by rw [oM xb (by omega)]; omega)),
        .i s,.r 63 (Kl (b:=(m:Int)) (by rw [hm]; push_cast; rfl)),.w 0,.r 64 (Ui (b:=((m % 4294967296:Nat):Int)) (by rw [w32]; omega)),.i i] rfl (by simp [Qa,Zv,Qd,IntKind.bits] <;> omega) ?_
      rw [Vk]
      exact rd (i+1,o.set i (m % 4294967296)) hf.1 hf.2 rfl
    · obtain ⟨m,hm⟩:∃ m,m=x / 2^s:=⟨_,rfl⟩
      have hml:m≤x:=hm ▸ Nat.div_le_self _ _
      have hf:=fin 0 m (.inr ⟨by omega,rfl⟩) (by rw [hm]; simp)
      refine go tt [.t (by simp [Qd]; omega),.x (Ze hx),.f (by simp [Qd]; omega),
        .i s,.r 63 (Kl (b:=(m:Int)) (by rw [hm]; push_cast; rfl)),.w 0,.r 64 (Ui (b:=((m % 4294967296:Nat):Int)) (by rw [w32]; omega)),.i i] rfl (by simp [Qa,Zv,Qd,IntKind.bits] <;> omega) ?_
      rw [Vk]
      exact rd (i+1,o.set i (m % 4294967296)) hf.1 hf.2 rfl
  · obtain rfl:i=p.length:=by omega
    have hvl:=We p np.1
    rw [List.take_of_length_le (by omega),Nat.mod_eq_of_lt (Nat.lt_of_le_of_lt (Nat.div_le_self _ _) hvl)] at j5
    rw [←j5]
    exact en tt [.f (by simp [Qd,j2]),.c [] (Su j3)] rfl rfl trivial
end Orr

namespace Orr
open Go Go.Proofs
set_option maxRecDepth 10000
def dgs:Nat→Nat→List Nat
  | 0,_=>[]
  | k+1,v=>v % 4294967296::dgs k (v / 4294967296)
theorem Qp9:∀ {l:List Nat},Sm l→l=dgs l.length (val l)
  | [],_=>rfl
  |
   x::l,h=>by
   have hx:=h x (.head _)
   have ih:=Qp9 (l:=l) fun y hy=>h y (.tail _ hy)
   simp only [List.length_cons,dgs,val]
   rw [show (x+4294967296*val l) % 4294967296=x by omega,show (x+4294967296*val l) / 4294967296=val l by omega,←ih]
theorem Qhd {l:List Nat} {k v:Nat} (h:Sm l) (hk:l.length=k) (hv:val l=v):dgs k v=l:=by
  rw [←hk,←hv]; exact (Qp9 h).symm
theorem Qbh:∀ {k v:Nat},(dgs k v).length=k∧Sm (dgs k v)∧(v<4294967296^k→val (dgs k v)=v)
  | 0,v=>⟨rfl,fun x hx=>by (cases hx),fun h=>by simp at h; subst h; rfl⟩
  |
   k+1,v=>by
   obtain ⟨h1,h2,h3⟩:=Qbh (k:=k) (v:=v / 4294967296)
   refine ⟨by simp [dgs,h1],fun x hx=>?_,fun h=>?_⟩
   · rcases List.mem_cons.1 hx with rfl | hx
     · exact Nat.mod_lt _ (by decide)
     · exact h2 x hx
   · simp only [dgs,val]
     rw [h3 (by rw [Nat.pow_succ] at h; exact Nat.div_lt_of_lt_mul (by rw [Nat.mul_comm]; exact h))]
     omega
theorem Qpt {a:List Nat} {s n:Nat} (ha:Sm a) (h1:sz (val a)≤4294967400) (hs:s≤31) (hn:n<274877906944) (h0:0<n) (hv:val a*2^s<4294967296^n) :
    Xf Tryz.prog 221 [lr a,.one (.int .i64 (s:Int)),.one (.int .i64 (n:Int))] [] [.one (.orow 0 1 none)] [.row false 169 1 (lm (dgs n (val a*2^s)))]:=by
  refine X4 Tryz.func221 rfl ?_
  obtain ⟨v,hvv⟩:∃ v,v=val a*2^s:=⟨_,rfl⟩
  have cs:=Q2b ha h1 hs
  rw [←hvv] at cs hv ⊢
  have hl:(Qw v).length≤n:=by
    apply Classical.byContradiction
    intro hh
    have h2:=Ms (W7 v) (fun e=>by rw [e] at hh; simp at hh)
    rw [Zk] at h2
    have h3:4294967296^n≤4294967296^((Qw v).length-1):=Nat.pow_le_pow_right (by decide) (by omega)
    omega
  refine go tt [.i n,.i n,.c [] cs,.s (Qrn (Qw v)),.i (Qw v).length] rfl (by simp [Qa,Zv,Qd] <;> omega) ?_
  have e:List.take 0 (List.replicate n [LV.int .u32 0])++(List.take (Qw v).length (lm (Qw v))++List.drop (0+(Qw v).length) (List.replicate n [LV.int .u32 0]))=lm (dgs n v):=by
    rw [Qhd (l:=Qw v++List.replicate (n-(Qw v).length) 0) (fun x hx=>?_) (by simp; omega) (by rw [Y6,Ce,Zk]; simp)]
    · rw [List.take_zero,List.nil_append,List.take_of_length_le (by rw [Qd]; exact Nat.le_refl _)]
      simp [lm]
    · rcases List.mem_append.1 hx with hx | hx
      · exact K6 v x hx
      · rw [List.eq_of_mem_replicate hx]; decide
  rw [e]
  exact ed tt [] [0] [] rfl trivial
theorem I3 {pre x post:List Nat} {i u:Nat} (h:x[i]? = some u):(lm (pre++x++post))[pre.length+i]? = some [.int .u32 (u:Int)]:=Ze (by
  have hi:=(List.getElem?_eq_some_iff.1 h).1
  rw [List.append_assoc,List.getElem?_append_right (by omega),Nat.add_sub_cancel_left,List.getElem?_append_left hi]; exact h)
theorem Qtz {pre x post:List Nat} {i v:Nat} (h:i<x.length):(lm (pre++x++post)).set (pre.length+i) [.int .u32 (v:Int)]=lm (pre++x.set i v++post):=by
  rw [Vk,List.append_assoc,List.set_append_right _ _ (by omega),Nat.add_sub_cancel_left,List.set_append_left _ _ h,←List.append_assoc]
theorem Qu2 {pre x post ly:List Nat} {top nx xn x1 x2:Nat} (D:Dig x ly ly.length top nx xn x1 x2) (hn:ly.length<274877906944) :
    Xf Tryz.prog 222 [.one (.orow 0 1 (some (pre.length,x.length))),lr ly] [.row true 169 1 (lm (pre++x++post))] [.one (.int .u32 ((val x / val ly:Nat):Int))] [.row true 169 1 (lm (pre++dgs x.length (val x % val ly)++post))]:=by
  refine X4 Tryz.func222 rfl ?_
  have hxl:=D.hx
  have hn2:=D.hn
  have hb:=D.bnd
  obtain ⟨head,hh⟩:∃ head,head=xn*2^32+x1:=⟨_,rfl⟩
  obtain ⟨g0,hg0⟩:∃ g,g=head / top:=⟨_,rfl⟩
  obtain ⟨r0,hr0⟩:∃ r,r=head % top:=⟨_,rfl⟩
  have hst:=D.start
  rw [←hh,←hg0] at hst
  have ht0:=D.top0
  have hg0l:g0≤head:=hg0 ▸ Nat.div_le_self _ _
  have hr0l:r0<top:=hr0 ▸ Nat.mod_lt _ ht0
  have htd:(head:Int).tdiv top=(g0:Int):=by rw [Int.tdiv_eq_ediv_of_nonneg (by omega),hg0]; rfl
  have htm:(head:Int).tmod top=(r0:Int):=by rw [Int.tmod_eq_emod_of_nonneg (by omega),hr0]; rfl
  refine go tt [.r 23 (eI (b:=(ly.length:Int)) (by rw [Qd])),.r 26 (eI (b:=((ly.length-1:Nat):Int)) (by omega)),.x (Ze D.ltop),.r 32 (eI (b:=((ly.length-2:Nat):Int)) (by omega)),.x (Ze D.lnx),
    .i ly.length,.x (I3 D.xn),.i 32,.r 41 (Kl (b:=((4294967296*xn:Nat):Int)) (by omega)),.r 44 (eI (b:=((ly.length-1:Nat):Int)) (by omega)),.i (ly.length-1),.x (I3 D.x1),.r 48 (Kl (b:=(head:Int)) (by rw [o64 hb.2.2.2.1 (by omega)]; omega)),
    .r 51 (Kl (b:=(g0:Int)) htd),.r 54 (Kl (b:=(r0:Int)) htm)] rfl ?_ ?_
  · simp only [Qa,Zv,htd,IntKind.bits]; omega
  refine ct 2 (S:=Nat) (fun g=>[(0,.v (.one (.orow 0 1 (some (pre.length,x.length))))),(1,.v (lr ly)),(5,.v (.one (.int .i64 (ly.length:Int)))),(9,.v (.one (.int .u64 (g:Int))))]) (fun _=>[.row true 169 1 (lm (pre++x++post))]) (fun g=>val x / val ly≤g∧(g-1)*val ly≤val x∧g≤4294967296) rfl ?_ ?_
  · refine lp (S:=Nat×Nat) 1 (fun L1 s=>(9,.v (.one (.int .u64 (s.1:Int))))::(10,.v (.one (.int .u64 (s.2:Int))))::L1) (fun _=>[.row true 169 1 (lm (pre++x++post))]) (fun s=>4294967296-s.2)
      (fun s=>s.1*top+s.2=xn*2^32+x1∧val x / val ly≤s.1∧s.2<4294967296∧s.1<18446744073709551616) (g0,r0)
      ⟨by rw [←hh,hg0,hr0,Nat.mul_comm]; exact Nat.div_add_mod _ _,hst,by dsimp only; omega,by dsimp only; omega⟩ rfl (fun _ _=>rfl) rfl fun ⟨g,r⟩ ⟨j1,j2,j3,j4⟩=>?_
    dsimp only at j1 j2 j3 j4 ⊢
    by_cases hge:4294967296≤g
    · have hrd:=D.round j1 j2 (.inl hge)
      by_cases h2:4294967296≤r+top
      · exact go tt [.t (by simp; omega),.t rfl,.r 73 (Kl (b:=((g-1:Nat):Int)) (by omega)),.t (by simp; omega)] rfl (by simp [Qa,Zv] <;> omega) (rc (g-1) ⟨hrd.2.1,(hrd.2.2.2 h2).1,(hrd.2.2.2 h2).2⟩ rfl)
      · exact go tt [.t (by simp; omega),.t rfl,.r 73 (Kl (b:=((g-1:Nat):Int)) (by omega)),.f (by simp; omega)] rfl (by simp [Qa,Zv] <;> omega) (rd (g-1,r+top) (by dsimp only; omega) ⟨hrd.2.2.1,hrd.2.1,by dsimp only; omega,by dsimp only; omega⟩ rfl)
    · have hgn:=Ru (x:=g) (y:=nx) (by omega) hb.2.1
      by_cases hc:r*2^32+x2<g*nx
      · have hrd:=D.round j1 j2 (.inr hc)
        have e1:(g:Int)*(nx:Int)=((g*nx:Nat):Int):=by push_cast; rfl
        obtain ⟨m,hm⟩:∃ m,m=g*nx:=⟨_,rfl⟩
        rw [←hm] at e1 hgn hc
        by_cases h2:4294967296≤r+top
        · exact go tt [.f (by simp; omega),.r 60 (Kl (b:=(m:Int)) e1),.i 32,.r 62 (Kl (b:=((4294967296*r:Nat):Int)) (by omega)),.r 65 (eI (b:=((ly.length-2:Nat):Int)) (by omega)),.i (ly.length-2),.x (I3 D.x2),.r 69 (Kl (b:=((4294967296*r+x2:Nat):Int)) (o64 hb.2.2.2.2 (by omega))),.t (by simp; omega),.r 73 (Kl (b:=((g-1:Nat):Int)) (by omega)),.t (by simp; omega)] rfl (by simp only [Qa,Zv,e1,IntKind.bits]; omega) (rc (g-1) ⟨hrd.2.1,(hrd.2.2.2 h2).1,(hrd.2.2.2 h2).2⟩ rfl)
        · exact go tt [.f (by simp; omega),.r 60 (Kl (b:=(m:Int)) e1),.i 32,.r 62 (Kl (b:=((4294967296*r:Nat):Int)) (by omega)),.r 65 (eI (b:=((ly.length-2:Nat):Int)) (by omega)),.i (ly.length-2),.x (I3 D.x2),.r 69 (Kl (b:=((4294967296*r+x2:Nat):Int)) (o64 hb.2.2.2.2 (by omega))),.t (by simp; omega),.r 73 (Kl (b:=((g-1:Nat):Int)) (by omega)),.f (by simp; omega)] rfl (by simp only [Qa,Zv,e1,IntKind.bits]; omega) (rd (g-1,r+top) (by dsimp only; omega) ⟨hrd.2.2.1,hrd.2.1,by dsimp only; omega,by dsimp only; omega⟩ rfl)
      · have hf:=D.fin j1 (by omega) (by omega)
        have e1:(g:Int)*(nx:Int)=((g*nx:Nat):Int):=by push_cast; rfl
        obtain ⟨m,hm⟩:∃ m,m=g*nx:=⟨_,rfl⟩
        rw [←hm] at e1 hgn hc
        exact go tt [.f (by simp; omega),.r 60 (Kl (b:=(m:Int)) e1),.i 32,.r 62 (Kl (b:=((4294967296*r:Nat):Int)) (by omega)),.r 65 (eI (b:=((ly.length-2:Nat):Int)) (by omega)),.i (ly.length-2),.x (I3 D.x2),.r 69 (Kl (b:=((4294967296*r+x2:Nat):Int)) (o64 hb.2.2.2.2 (by omega))),.f (by simp; omega)] rfl (by simp only [Qa,Zv,e1,IntKind.bits]; omega) (rc g ⟨j2,hf,by omega⟩ rfl)
  · intro g ⟨q1,q2,q3⟩
    refine go tt [.r 80 (eI (b:=(ly.length:Int)) (by rw [Qd]))] rfl trivial ?_
    refine lp (S:=Nat×List Nat×Nat×Nat) 1 (fun L1 s=>(81,.v (.one (.int .i64 (s.1:Int))))::(11,.v (.one (.int .u64 (s.2.2.1:Int))))::(12,.v (.one (.int .u64 (s.2.2.2:Int))))::L1) (fun s=>[.row true 169 1 (lm (pre++s.2.1++post))]) (fun s=>ly.length-s.1)
      (fun s=>s.1≤ly.length∧s.2.1.length=ly.length+1∧Sm s.2.1∧s.2.2.2≤1∧s.2.2.1<4294967296∧val (s.2.1.take s.1)+g*val (ly.take s.1)=val (x.take s.1)+(s.2.2.1+s.2.2.2)*4294967296^s.1∧s.2.1.drop s.1=x.drop s.1) (0,x,0,0)
      ⟨Nat.zero_le _,hxl,D.xb,Nat.zero_le _,by simp,by simp [val],rfl⟩ rfl (fun _ _=>rfl) rfl fun ⟨i,o,cy,bw⟩ ⟨j1,j2,j3,j4,j5,j6,j7⟩=>?_
    dsimp only at j1 j2 j3 j4 j5 j6 j7 ⊢
    by_cases hi:i<ly.length
    · obtain ⟨w1,hw1⟩:∃ y,ly[i]? = some y:=⟨_,List.getElem?_eq_getElem hi⟩
      obtain ⟨u,hu⟩:∃ y,x[i]? = some y:=⟨_,List.getElem?_eq_getElem (by omega)⟩
      have wb:=D.lb w1 (List.mem_of_getElem? hw1)
      have ub:=D.xb u (List.mem_of_getElem? hu)
      have hou:=(Mb j7).trans hu
      have hgw:g*w1≤18446744069414584320:=by
        have:=Nat.mul_le_mul q3 (show w1≤4294967295 by omega)
        omega
      obtain ⟨s,hs⟩:∃ s,s=((u+18446744073709551616-(g*w1+cy) % 4294967296) % 18446744073709551616+18446744073709551616-bw) % 18446744073709551616:=⟨_,rfl⟩
      have hstep:=Qb5 (o:=o) (by omega) hu hw1 ub j4 j6 rfl hs
      have e1:(g:Int)*(w1:Int)=((g*w1:Nat):Int):=by push_cast; rfl
      obtain ⟨m,hm⟩:∃ m,m=g*w1:=⟨_,rfl⟩
      rw [←hm] at e1 hgw hs hstep
      obtain ⟨p,hp⟩:∃ p,p=m+cy:=⟨_,rfl⟩
      rw [←hp] at hs hstep
      refine go tt [.t (by simp; omega),.x (Ze hw1),.r 89 (Kl (b:=(m:Int)) e1),.r 91 (Kl (b:=(p:Int)) (by omega)),.i 32,.r 93 (Kl (b:=((p / 2^32:Nat):Int)) (by simp)),.i i,.x (I3 hou),.w 1,.r 100 (Ui (b:=((p % 4294967296:Nat):Int)) (by rw [w32]; omega)),.w 1,.r 102 (Kl (b:=(((u+18446744073709551616-p % 4294967296) % 18446744073709551616:Nat):Int)) (by rw [w64]; omega)),.w 0,.r 104 (Kl (b:=(s:Int)) (by rw [w64]; omega)),
        .w 0,.r 108 (Ui (b:=((s % 4294967296:Nat):Int)) (by rw [w32]; omega)),.i 63,.r 110 (Kl (b:=((s / 2^63:Nat):Int)) (by simp)),.i i] rfl (by simp only [Qa,Zv,e1,IntKind.bits,Qd,List.length_append]; omega) ?_
      rw [Qtz (by omega)]
      exact rd (i+1,o.set i (s % 4294967296),p / 2^32,s / 2^63) (by dsimp only; omega) ⟨hi,by simp [j2],Y5 j3 _ _ (by omega),hstep.2,by dsimp only; omega,hstep.1,Od j7⟩ rfl
    · obtain rfl:i=ly.length:=by omega
      have hon:=(Mb j7).trans D.xn
      rw [List.take_of_length_le (l:=ly) (Nat.le_refl _)] at j6
      obtain ⟨s,hs⟩:∃ s,s=((xn+18446744073709551616-cy) % 18446744073709551616+18446744073709551616-bw) % 18446744073709551616:=⟨_,rfl⟩
      obtain ⟨oa,hoa⟩:∃ oa,oa=o.set ly.length (s % 4294967296):=⟨_,rfl⟩
      have oal:oa.length=ly.length+1:=by rw [hoa,List.length_set]; exact j2
      have oab:Sm oa:=hoa ▸ Y5 j3 _ _ (by omega)
      by_cases Ip:s / 2^63=0
      · have hf:=D.fin0 j2 j5 j4 q1 j6 hs Ip
        refine go tt [.f (by simp),.i ly.length,.x (I3 hon),.w 1,.r 119 (Kl (b:=(((xn+18446744073709551616-cy) % 18446744073709551616:Nat):Int)) (by rw [w64]; omega)),.w 0,.r 121 (Kl (b:=(s:Int)) (by rw [w64]; omega)),.w 0,.r 125 (Ui (b:=((s % 4294967296:Nat):Int)) (by rw [w32]; omega)),.i ly.length,.i 63,.r 128 (Kl (b:=((s / 2^63:Nat):Int)) (by simp)),.t (by simp; omega),.w 0,.r 131 (Ui (b:=((val x / val ly:Nat):Int)) (by rw [w32]; omega))] rfl (by simp only [Qa,Zv,IntKind.bits,Qd,List.length_append]; omega) ?_
        rw [Qtz (by omega),←Qhd (l:=o.set ly.length (s % 4294967296)) (k:=x.length) (hoa ▸ oab) (by rw [←hoa,oal,hxl]) hf.2]
        exact ed tt [] [0] [] rfl trivial
      · have hf:=D.fin1 j2 j3 j5 j4 q2 j6 hs Ip
        rw [←hoa] at hf
        obtain ⟨v1,hv1⟩:∃ y,oa[ly.length]? = some y:=⟨_,List.getElem?_eq_getElem (by omega)⟩
        refine go tt [.f (by simp),.i ly.length,.x (I3 hon),.w 1,.r 119 (Kl (b:=(((xn+18446744073709551616-cy) % 18446744073709551616:Nat):Int)) (by rw [w64]; omega)),.w 0,.r 121 (Kl (b:=(s:Int)) (by rw [w64]; omega)),.w 0,.r 125 (Ui (b:=((s % 4294967296:Nat):Int)) (by rw [w32]; omega)),.i ly.length,.i 63,.r 128 (Kl (b:=((s / 2^63:Nat):Int)) (by simp)),.f (by simp; omega),.r 133 (eI (b:=(ly.length:Int)) (by rw [Qd]))] rfl (by simp only [Qa,Zv,IntKind.bits,Qd,List.length_append]; omega) ?_
        rw [Qtz (by omega),←hoa]
        refine lp (S:=Nat×List Nat×Nat) 1 (fun L1 s=>(134,.v (.one (.int .i64 (s.1:Int))))::(18,.v (.one (.int .u64 (s.2.2:Int))))::L1) (fun s=>[.row true 169 1 (lm (pre++s.2.1++post))]) (fun s=>ly.length-s.1)
          (fun s=>s.1≤ly.length∧s.2.1.length=ly.length+1∧Sm s.2.1∧s.2.2≤1∧val (s.2.1.take s.1)+s.2.2*4294967296^s.1=val (oa.take s.1)+val (ly.take s.1)∧s.2.1.drop s.1=oa.drop s.1) (0,oa,0)
          ⟨Nat.zero_le _,oal,oab,Nat.zero_le _,by simp [val],rfl⟩ rfl (fun _ _=>rfl) rfl fun ⟨j,o2,bk⟩ ⟨r1,r2,r3,r4,r5,r6⟩=>?_
        dsimp only at r1 r2 r3 r4 r5 r6 ⊢
        by_cases hj:j<ly.length
        · obtain ⟨w1,hw1⟩:∃ y,ly[j]? = some y:=⟨_,List.getElem?_eq_getElem hj⟩
          obtain ⟨u,hu⟩:∃ y,oa[j]? = some y:=⟨_,List.getElem?_eq_getElem (by omega)⟩
          have wb:=D.lb w1 (List.mem_of_getElem? hw1)
          have ub:=oab u (List.mem_of_getElem? hu)
          have hou:=(Mb r6).trans hu
          obtain ⟨m,hm⟩:∃ m,m=u+bk+w1:=⟨_,rfl⟩
          have hstep:=Qdf (o:=o2) (by omega) hu (.inl hw1) r5 hm
          refine go tt [.t (by simp; omega),.x (Ze hw1),.i j,.x (I3 hou),.r 148 (Kl (b:=(m:Int)) (by omega)),.w 0,.r 152 (Ui (b:=((m % 4294967296:Nat):Int)) (by rw [w32]; omega)),.i 32,.r 154 (Kl (b:=((m / 4294967296:Nat):Int)) (by simp)),.i j] rfl (by simp only [Qa,Zv,IntKind.bits,Qd,List.length_append]; omega) ?_
          rw [Qtz (by omega)]
          exact rd (j+1,o2.set j (m % 4294967296),m / 4294967296) (by dsimp only; omega) ⟨hj,by simp [r2],Y5 r3 _ _ (by omega),by dsimp only; omega,hstep,Od r6⟩ rfl
        · obtain rfl:j=ly.length:=by omega
          have hon2:=(Mb r6).trans hv1
          have vb:=oab v1 (List.mem_of_getElem? hv1)
          rw [List.take_of_length_le (l:=ly) (Nat.le_refl _)] at r5
          have hf2:=D.fin2 oal oab r2 r3 hv1 r4 hf.2 r5
          refine go tt [.f (by simp),.i ly.length,.x (I3 hon2),.w 1,.r 165 (Ui (b:=(((v1+bk) % 4294967296:Nat):Int)) (by rw [w32]; omega)),.i ly.length,.w 0,.r 168 (Ui (b:=((g % 4294967296:Nat):Int)) (by rw [w32]; omega)),.w 0,.r 169 (Ui (b:=((val x / val ly:Nat):Int)) (Q3c hf.1 D.qlt))] rfl (by simp only [Qa,Zv,IntKind.bits,Qd,List.length_append]; omega) ?_
          rw [Qtz (by omega),←Qhd (l:=o2.set ly.length ((v1+bk) % 4294967296)) (k:=x.length) (Y5 r3 _ _ (by omega)) (by rw [List.length_set,r2,hxl]) hf2]
          exact ed tt [] [0] [] rfl trivial
end Orr

namespace Orr
open Go Go.Proofs
set_option maxRecDepth 10000
theorem Qpd {o ly:List Nat} {lo top nx xn x1 x2:Nat} (hlo:lo+(ly.length+1)≤o.length) (D:Dig (P4 o lo ly.length) ly ly.length top nx xn x1 x2) (hn:ly.length<274877906944) :
    Xf Tryz.prog 222 [.one (.orow 0 1 (some (lo,ly.length+1))),lr ly] [.row true 169 1 (lm o)] [.one (.int .u32 ((val (P4 o lo ly.length) / val ly:Nat):Int))] [.row true 169 1 (lm (o.take lo++dgs (ly.length+1) (val (P4 o lo ly.length) % val ly)++o.drop (lo+ly.length+1)))]:=by
  have:=Qu2 (pre:=o.take lo) (post:=o.drop (lo+ly.length+1)) D hn
  have e1:(o.take lo).length=lo:=by rw [List.length_take]; omega
  have e2:=Ni (o:=o) (i:=lo) (n:=ly.length) (by omega)
  rw [e1,e2,Sk] at this
  exact this
theorem Qdl {a b:List Nat} (ha:Sm a) (hb:Sm b) (h1:sz (val a)≤4294967296) (h2:sz (val b)≤4294967296) (hy:0<val b):Qg Tryz.prog 170 [lr a,lr b] [lr (Qw (val a / val b)),lr (Qw (val a % val b)),.one (.int .i64 0)]:=by
  refine X4 Tryz.func170 rfl ?_
  obtain ⟨p,ca,np,vp,_,ep⟩:=Nz ha
  obtain ⟨q,cb,nq,vq,_,eq⟩:=Nz hb
  have hp:=X2 h1
  have hq:=X2 h2
  rw [←ep] at hp
  rw [←eq] at hq
  rw [←vp,←vq]
  rw [←vp] at h1
  rw [←vq] at h2 hy
  have q0:q≠[]:=fun e=>by rw [e] at hy; simp [val] at hy
  have qp:0<q.length:=List.length_pos_iff.2 q0
  have c1:¬((lm q).length:Int)=0:=by rw [Qd]; omega
  by_cases hlt:p.length<q.length
  · have hv:=Kq np nq hlt
    rw [Nat.div_eq_of_lt hv,Nat.mod_eq_of_lt hv,Zd]
    exact en tt [.c [] ca,.c [] cb,.f (by simpa using c1),.t (by simp [Qd]; omega),.c [] (S6 np.1 h1)] rfl rfl (by simp [Qa,Zv])
  by_cases hone:q.length=1
  · obtain ⟨y,rfl⟩:∃ y,q=[y]:=by
      match q,hone with
      | [y],_=>exact ⟨y,rfl⟩
    have yb:=nq.1 y (.head _)
    have vy:val [y]=y:=by simp [val]
    rw [vy] at hy ⊢
    have co:=Q2h np.1 (by omega) hy yb
    have sm:Sm [val p % y]:=fun z hz=>by
      simp at hz; subst hz; exact Nat.lt_trans (Nat.mod_lt _ hy) yb
    have cc:=Su sm
    rw [show val [val p % y]=val p % y from by simp [val]] at cc
    exact en tt [.c [] ca,.c [] cb,.f (by simp [lm]),.f (by simp [Qd]; omega),.t (by simp [lm]),.x (Ze (l:=[y]) (i:=0) rfl),.c [] co,.c [] cc] rfl rfl (by simp [Qa,Zv])
  · have hle:q.length≤p.length:=Nat.le_of_not_lt hlt
    obtain ⟨y1,hy1,hy10⟩:=nq.2 q0
    have y1b:=nq.1 y1 (List.mem_of_getElem? hy1)
    have hszy:=Qiz nq hy1
    have hsz1:sz y1≤32:=Kc.2 (by omega)
    have hsz0:0<sz y1:=Q1f (by omega)
    obtain ⟨s,hs⟩:∃ s,s=32-sz y1:=⟨_,rfl⟩
    have hs31:s≤31:=by omega
    have Ui:(2:Nat)^32=4294967296:=by decide
    obtain ⟨x,hx⟩:∃ x,x=val p:=⟨_,rfl⟩
    obtain ⟨y,hyv⟩:∃ y,y=val q:=⟨_,rfl⟩
    have cl:=Qzg y1b
    rw [←hs] at cl
    have hvx:val p*2^s<4294967296^(p.length+1):=by
      have h1:=We p np.1
      rw [Nat.pow_succ]
      exact Nat.lt_of_lt_of_le (Nat.mul_lt_mul_of_pos_right h1 (show 0<2^s from Nat.pow_pos (by decide))) (Nat.mul_le_mul_left _ (by rw [←Ui]; exact Nat.pow_le_pow_right (by decide) (by omega)))
    have hvy:val q*2^s<4294967296^q.length:=by
      have h1:=Aq (val q)
      rw [←Ui,←Nat.pow_mul]
      have h2:val q*2^s<2^sz (val q)*2^s:=Nat.mul_lt_mul_of_pos_right h1 (Nat.pow_pos (by decide))
      rw [←Nat.pow_add] at h2
      rw [show 32*q.length=sz (val q)+s from by omega]
      exact h2
    have cx:=Qpt np.1 (show sz (val p)≤4294967400 by omega) hs31 (show p.length+1<274877906944 by omega) (by omega) hvx
    have cy:=Qpt nq.1 (show sz (val q)≤4294967400 by omega) hs31 (show q.length<274877906944 by omega) qp hvy
    obtain ⟨hXl,hXb,hXv⟩:=Qbh (k:=p.length+1) (v:=val p*2^s)
    obtain ⟨hYl,hYb,hYv⟩:=Qbh (k:=q.length) (v:=val q*2^s)
    have hXv:=hXv hvx
    have hYv:=hYv hvy
    obtain ⟨X,hX⟩:∃ X,X=dgs (p.length+1) (val p*2^s):=⟨_,rfl⟩
    obtain ⟨Y,hY⟩:∃ Y,Y=dgs q.length (val q*2^s):=⟨_,rfl⟩
    rw [←hX] at hXl hXb hXv cx
    rw [←hY] at hYl hYb hYv cy
    have hyB:4294967296^(q.length-1)≤val q:=Ms nq q0
    have hR:=Qig hXv hYv hXl hXb hYl hYb (show 2≤q.length by omega) (We p np.1) hyB hle
    refine go tt [.c [] ca,.c [] cb,.f (by simpa using c1),.f (by simp [Qd]; omega),.f (by simp [Qd]; omega),.r 49 (eI (b:=((q.length-1:Nat):Int)) (by rw [Qd]; omega)),.x (Ze hy1),.c [] cl,.r 57 (eI (b:=((p.length+1:Nat):Int)) (by rw [Qd]; omega)),.c [0] cx,.r 62 (eI (b:=(q.length:Int)) (by rw [Qd])),.c [1] cy,.r 65 (eI (b:=(q.length:Int)) (by rw [Qd,hYl])),.r 70 (eI (b:=((p.length-q.length+1:Nat):Int)) (by rw [Qd]; omega)),.i (p.length-q.length+1),.i (p.length-q.length+1),.r 73 (eI (b:=((p.length-q.length+1:Nat):Int)) (by simp))] rfl ?_ ?_
    · simp only [Qa,Zv,IntKind.bits,Qd]
      omega
    · rw [Pw]
      refine pb 1 rfl rfl ?_
      refine lp (S:=Int×List Nat×List Nat) 3 (fun L1 s=>(13,.v (.one (.int .i64 s.1)))::L1) (fun s=>[.row false 169 1 (lm s.2.2),.gone,.row false 169 1 (lm s.2.1)]) (fun s=>(s.1+1).toNat)
        (fun s=>-1≤s.1∧s.1<p.length-q.length+1∧s.2.1.length=p.length-q.length+1∧Sm s.2.1∧Rest s.2.2 Y p.length q.length (s.1+1).toNat∧val (s.2.1.drop (s.1+1).toNat)*4294967296^(s.1+1).toNat*val Y+val s.2.2=val X) (((p.length-q.length+1:Nat):Int)-1,List.replicate (p.length-q.length+1) 0,X)
        ⟨by dsimp only; omega,by dsimp only; omega,by simp,fun x hx=>by rw [List.eq_of_mem_replicate hx]; decide,by simpa using hR,by simp [val]⟩ rfl (fun _ _=>rfl) rfl fun ⟨i,oq,ox⟩ ⟨j1,j2,j3,j4,j5,j6⟩=>?_
      dsimp only at j1 j2 j3 j4 j5 j6 ⊢
      rcases Int.lt_or_le i 0 with hi | hi
      · obtain rfl:i=-1:=by omega
        simp only [show ((-1:Int)+1).toNat=0 from rfl,List.drop_zero,Nat.pow_zero,Nat.mul_one] at j5 j6
        have hlt':val ox<val q*2^s:=by have:=j5.lt; rw [hYv] at this; simpa using this
        have hfin:=Qsw (x:=val p) (y:=val q) (s:=s) (r:=val ox) (q:=oq) hy (by rw [←hXv,←hYv]; exact j6) hlt'
        have hoxl:=j5.ol
        have hox:=Qi1 (o:=ox) (n:=q.length) (by omega) (Nat.lt_trans hlt' hvy)
        have hszm:sz (val (ox.take q.length))≤4294967400:=by
          rw [hox,hfin.2]
          have h1:=Qto (val p % val q) (2^s)
          have h2':=Yl (Nat.le_of_lt (Nat.mod_lt (val p) hy))
          have h3:sz (2^s)≤s+1:=Kc.2 (Nat.pow_lt_pow_right (by decide) (by omega))
          omega
        have cs:=Q2c (a:=ox.take q.length) (fun u hu=>j5.ob u (List.mem_of_mem_take hu)) hszm hs31
        rw [hox,hfin.2,Nat.mul_div_cancel _ (Nat.pow_pos (by decide))] at cs
        have cq:=Su j4
        rw [hfin.1] at cq
        exact en tt [.f (by decide),.p 2,.p 0,.c [] cq,.i q.length,.r 95 (v:=lr (ox.take q.length)) (by simp [lm]),.c [] cs] rfl rfl (by simp [Qa,Zv,Qd]; omega)
      · obtain ⟨k,rfl⟩:=Int.eq_ofNat_of_zero_le hi
        have e:((k:Int)+1).toNat=k+1:=by omega
        rw [e] at j5 j6
        obtain ⟨top,nx,xn,x1,x2,D⟩:=j5.dig
        have hoxl:=j5.ol
        have hm:=j5.hm
        have cd:=Qpd (o:=ox) (lo:=k) (by omega) (hYl.symm ▸ D) (by omega)
        rw [hYl] at cd
        have hwl:=Ni (o:=ox) (i:=k) (n:=q.length) (by omega)
        have hwlt:val (P4 ox k q.length) % val Y<4294967296^(q.length+1):=by
          have h3:=We (P4 ox k q.length) D.xb
          rw [hwl] at h3
          exact Nat.lt_of_le_of_lt (Nat.mod_le _ _) h3
        obtain ⟨d1,d2,d3⟩:=Qbh (k:=q.length+1) (v:=val (P4 ox k q.length) % val Y)
        have hnx:=j5.next (w':=dgs (q.length+1) (val (P4 ox k q.length) % val Y)) (d1.trans hwl.symm) d2 (d3 hwlt) (q:=oq) (by omega) j6
        have hdg:=D.qlt
        refine go tt [.t (by simp),.i k,.i (k+q.length+1),.r 87 (v:=.one (.orow 0 1 (some (k,q.length+1)))) (by rw [show k+q.length+1-k=q.length+1 by omega]),.c [0] cd,.i k] rfl ?_ ?_
        · simp only [Qa,Qd]; omega
        · rw [Vk]
          refine rd ((k:Int)-1,oq.set k (val (P4 ox k q.length) / val Y),ox.take k++dgs (q.length+1) (val (P4 ox k q.length) % val Y)++ox.drop (k+q.length+1)) (by dsimp only; omega) ⟨by dsimp only; omega,by dsimp only; omega,by simp [j3],Y5 j4 _ _ hdg,?_,?_⟩ rfl
          · dsimp only; rw [show ((k:Int)-1+1).toNat=k from by omega]; exact hnx.1
          · dsimp only; rw [show ((k:Int)-1+1).toNat=k from by omega]; exact hnx.2
end Orr

namespace Orr
open Go Go.Proofs
set_option maxRecDepth 10000
def sg (z:Int):LV:=.bool (decide (z<0))
def mg (z:Int):LV:=.row (lm (Qw z.natAbs))
abbrev Z0 (z:Int):List LV:=[sg z,mg z]
def Xg (x y:LV) (z:Int):Prop:=∃ b l,x=.bool b∧y=.row (lm l)∧Sm l∧z=Qr b (val l)
theorem Qe (z:Int):Xg (sg z) (mg z) z:=by
  refine ⟨_,_,rfl,rfl,K6 _,?_⟩
  rw [Zk]
  unfold Qr
  by_cases h:z<0 <;> simp [h] <;> omega
theorem Q0q (b:Bool) (m:Nat):[LV.bool (b && decide (0<m)),LV.row (lm (Qw m))]=Z0 (Qr b m):=by
  simp only [Z0,sg,mg,Ay,Xb]
theorem Kn {m:Nat}:0<(Qw m).length↔0<m:=by
  rcases Nat.eq_zero_or_pos m with h | h
  · subst h; rw [Zd]; simp
  · rw [W5 (by omega)]; simp [h]
theorem Jv (b:Bool) (m:Nat):Qg Tryz.prog 122 [lr (Qw m),.one (.bool b)] [.agg (Z0 (Qr b m))]:=by
  rw [←Q0q]
  have e:=Kn (m:=m)
  cases b with
  | false=>exact w tt Tryz.func122 rfl [.f rfl] rfl rfl trivial
  | true=>exact w tt Tryz.func122 rfl [.t rfl] rfl (by simp [Qd,e]) trivial
theorem Jt {b:Bool} {m:Nat} {k:Nat} (h:Qt (Qr b m)≤k):sz m≤k:=by
  unfold Qt at h; rwa [Xb] at h
theorem Wp {x y:LV} {z:Int} (hi:Xg x y z) (hs:Qt z≤4294967295):Qg Tryz.prog 116 [.agg [x,y]] [.agg (Z0 z)]:=by
  obtain ⟨b,l,rfl,rfl,hl,rfl⟩:=hi
  exact w tt Tryz.func116 rfl [.c [] (S6 hl (Nat.le_trans (Jt hs) (by decide))),.c [] (Jv _ _)] rfl rfl trivial
theorem Me (b:Bool) (m:Nat):Qr (!b) m=-(Qr b m):=by unfold Qr; cases b <;> simp
theorem L6 {x y:LV} {z:Int} (hi:Xg x y z) (hs:Qt z≤4294967295):Qg Tryz.prog 119 [.agg [x,y]] [.agg (Z0 (-z))]:=by
  obtain ⟨b,l,rfl,rfl,hl,rfl⟩:=hi
  rw [←Me]
  exact w tt Tryz.func119 rfl [.c [] (S6 hl (Nat.le_trans (Jt hs) (by decide))),.c [] (Jv _ _)] rfl rfl trivial
theorem Fb {x y x' y':LV} {z z':Int} (hi:Xg x y z) (hi':Xg x' y' z') (hs:Qt z≤4294967295) (hs':Qt z'≤4294967295):Qg Tryz.prog 182 [.agg [x,y],.agg [x',y']] [.agg (Z0 (z*z'))]:=by
  obtain ⟨b,l,rfl,rfl,hl,rfl⟩:=hi
  obtain ⟨b',l',rfl,rfl,hl',rfl⟩:=hi'
  have e:Qr b (val l)*Qr b' (val l')=Qr (b != b') (val l*val l'):=by
    unfold Qr; cases b <;> cases b' <;> simp [Int.neg_mul,Int.mul_neg]
  rw [e]
  exact w tt Tryz.func182 rfl [.c [] (Q15 hl hl' (Nat.le_trans (Jt hs) (by decide)) (Nat.le_trans (Jt hs') (by decide))),.c [] (Jv _ _)] rfl rfl trivial
theorem Eb {a b:List Nat} (ha:Sm a) (hb:Sm b) (h1:sz (val a)≤4294967296) (h:val b≤val a):Qg Tryz.prog 167 [lr a,lr b] [lr (Qw (val a-val b)),.one (.bool true)]:=by
  have:=Qx4 ha hb h1; rwa [if_pos h] at this
theorem Qo8 {a b:List Nat} (ha:Sm a) (hb:Sm b) (h1:sz (val a)≤4294967296) (h:val a<val b):Qg Tryz.prog 167 [lr a,lr b] [lr [],.one (.bool false)]:=by
  have:=Qx4 ha hb h1; rwa [if_neg (by omega)] at this
theorem S7 {x y x' y':LV} {z z':Int} (hi:Xg x y z) (hi':Xg x' y' z') (hs:Qt z≤4294967295) (hs':Qt z'≤4294967295):Qg Tryz.prog 111 [.agg [x,y],.agg [x',y']] [.agg (Z0 (z+z'))]:=by
  obtain ⟨b,l,rfl,rfl,hl,rfl⟩:=hi
  obtain ⟨b',l',rfl,rfl,hl',rfl⟩:=hi'
  have s1:=Nat.le_trans (Jt hs) (show 4294967295≤4294967296 by decide)
  have s2:=Nat.le_trans (Jt hs') (show 4294967295≤4294967296 by decide)
  by_cases hb:b=b'
  · subst hb
    have e:Qr b (val l)+Qr b (val l')=Qr b (val l+val l'):=by unfold Qr; cases b <;> simp <;> omega
    rw [e]
    exact w tt Tryz.func111 rfl [.t (by simp),.c [] (Qx0 hl hl' s1 s2),.c [] (Jv _ _)] rfl rfl trivial
  · by_cases hle:val l'≤val l
    · have e:Qr b (val l)+Qr b' (val l')=Qr b (val l-val l'):=by unfold Qr; cases b <;> cases b' <;> simp at hb ⊢ <;> omega
      rw [e]
      exact w tt Tryz.func111 rfl [.f (by simpa using hb),.c [] (Eb hl hl' s1 hle),.t rfl,.c [] (Jv _ _)] rfl rfl trivial
    · have e:Qr b (val l)+Qr b' (val l')=Qr b' (val l'-val l):=by unfold Qr; cases b <;> cases b' <;> simp at hb ⊢ <;> omega
      rw [e]
      exact w tt Tryz.func111 rfl [.f (by simpa using hb),.c [] (Qo8 hl hl' s1 (by omega)),.f rfl,.c [] (Eb hl' hl s2 (by omega)),.c [] (Jv _ _)] rfl rfl trivial
theorem Qpb {x y x' y':LV} {z z':Int} (hi:Xg x y z) (hi':Xg x' y' z') (hs:Qt z≤4294967295) (hs':Qt z'≤4294967295):Qg Tryz.prog 234 [.agg [x,y],.agg [x',y']] [.agg (Z0 (z-z'))]:=by
  obtain ⟨b',l',rfl,rfl,hl',rfl⟩:=hi'
  have hn:Xg (.bool (!b')) (.row (lm l')) (-(Qr b' (val l'))):=⟨_,_,rfl,rfl,hl',(Me _ _).symm⟩
  rw [Int.sub_eq_add_neg]
  have hi2:=hi
  obtain ⟨b,l,rfl,rfl,hl,_⟩:=hi
  exact w tt Tryz.func234 rfl [.c [] (S7 hi2 hn hs (by rw [U5]; exact hs'))] rfl rfl trivial
theorem Qpq {x y:LV} {z:Int} (hi:Xg x y z) (hs:Qt z≤4294967295):Qg Tryz.prog 242 [.agg [x,y]] [.one (.int .i64 (Int.sign z))]:=by
  obtain ⟨b,l,rfl,rfl,hl,rfl⟩:=hi
  have s1:=Nat.le_trans (Jt hs) (show 4294967295≤4294967296 by decide)
  have cb:=Qg1 hl s1
  by_cases h0:val l=0
  · have e:Qr b (val l)=0:=by unfold Qr; rw [h0]; cases b <;> simp
    rw [e]
    exact w tt Tryz.func242 rfl [.c [] cb,.t (by simp [Ik,h0])] rfl rfl trivial
  · have Ip:sz (val l)≠0:=fun h=>h0 (Ik.1 h)
    cases b
    · have e:(Qr false (val l)).sign=1:=Int.sign_eq_one_of_pos (by unfold Qr; simp; omega)
      rw [e]
      exact w tt Tryz.func242 rfl [.c [] cb,.f (by simp; omega),.f rfl] rfl rfl trivial
    · have e:(Qr true (val l)).sign=-1:=Int.sign_eq_neg_one_of_neg (by unfold Qr; simp; omega)
      rw [e]
      exact w tt Tryz.func242 rfl [.c [] cb,.f (by simp; omega),.t rfl] rfl rfl trivial
theorem Nw {x y x' y':LV} {z z':Int} (hi:Xg x y z) (hi':Xg x' y' z') (hs:Qt z≤4294967295) (hs':Qt z'≤4294967295):Qg Tryz.prog 199 [.agg [x,y],.agg [x',y']] [.one (.int .i64 (Kv z z'))]:=by
  have c1:=Qpq hi hs
  have c2:=Qpq hi' hs'
  obtain ⟨b,l,rfl,rfl,hl,hz⟩:=hi
  obtain ⟨b',l',rfl,rfl,hl',hz'⟩:=hi'
  have k1:=Ut z
  have k2:=Ut z'
  have zl:z.natAbs=val l:=by rw [hz,Xb]
  have zl':z'.natAbs=val l':=by rw [hz',Xb]
  by_cases h1:z.sign<z'.sign
  · have e:Kv z z'=-1:=by unfold Kv; rw [if_pos (by omega)]
    rw [e]
    exact w tt Tryz.func199 rfl [.c [] c1,.c [] c2,.t (by simpa using h1)] rfl rfl trivial
  · by_cases h2:z'.sign<z.sign
    · have e:Kv z z'=1:=by unfold Kv; rw [if_neg (by omega),if_pos (by omega)]
      rw [e]
      exact w tt Tryz.func199 rfl [.c [] c1,.c [] c2,.f (by simpa using h1),.t (by simpa using h2)] rfl rfl trivial
    · by_cases h3:z.sign<0
      · have e:Nx (val l') (val l)=Kv z z':=by unfold Kv Nx; rw [←zl,←zl']; split <;> split <;> (try split) <;> (try split) <;> omega
        have cc:=Qoo hl' hl
        rw [e] at cc
        exact w tt Tryz.func199 rfl [.c [] c1,.c [] c2,.f (by simpa using h1),.f (by simpa using h2),.t (by simpa using h3),.c [] cc] rfl rfl trivial
      · have e:Nx (val l) (val l')=Kv z z':=by unfold Kv Nx; rw [←zl,←zl']; split <;> split <;> (try split) <;> (try split) <;> omega
        have cc:=Qoo hl hl'
        rw [e] at cc
        exact w tt Tryz.func199 rfl [.c [] c1,.c [] c2,.f (by simpa using h1),.f (by simpa using h2),.f (by simpa using h3),.c [] cc] rfl rfl trivial
theorem Fc {z:Int}:Qg Tryz.prog 117 [.agg (Z0 z)] [.one (.bool (decide (z=0)))] :=
  w tt Tryz.func117 rfl [] rfl (by simp only [Qd]; congr 3; have:=Kn (m:=z.natAbs); rw [decide_eq_decide]; omega) trivial
theorem Qg3 {z:Int} (h1:-9223372036854775808≤z∧z≤9223372036854775807):Qg Tryz.prog 75 [.one (.int .i64 z)] [.agg (Z0 z)]:=by
  obtain ⟨m,hm⟩:∃ m,m=z.natAbs:=⟨_,rfl⟩
  have sm:Sm [m % 4294967296,m / 4294967296]:=fun x hx=>by
    simp at hx; rcases hx with rfl | rfl <;> omega
  have hv:val [m % 4294967296,m / 4294967296]=m:=by simp only [val]; omega
  have cn:=S6 sm (by rw [hv]; exact Nat.le_trans (Kc.2 (show m<2^64 by omega)) (show 64≤4294967296 by decide))
  rw [hv] at cn
  by_cases hz:z<0
  · have e:Qr true m=z:=by unfold Qr; simp; omega
    have cm:=Jv true m
    rw [e] at cm
    exact w tt Tryz.func75 rfl [.w 0,.r 5 (Kl (b:=((18446744073709551616-m:Nat):Int)) (by rw [w64]; omega)),.t (by simpa using hz),.w 0,.r 9 (Kl (b:=(m:Int)) (by rw [w64]; omega)),.w 0,.r 11 (Ui (b:=((m % 4294967296:Nat):Int)) (by rw [w32]; omega)),.i 32,.r 13 (Kl (b:=((m / 4294967296:Nat):Int)) (by simp)),.c [] cn,.r 18 (v:=.one (.bool true)) (by simp [hz]),.c [] cm] rfl rfl (by simp [Qa,IntKind.bits] <;> omega)
  · have e:Qr false m=z:=by unfold Qr; simp; omega
    have cm:=Jv false m
    rw [e] at cm
    exact w tt Tryz.func75 rfl [.w 0,.r 5 (Kl (b:=(m:Int)) (by rw [w64]; omega)),.f (by simpa using hz),.w 0,.r 11 (Ui (b:=((m % 4294967296:Nat):Int)) (by rw [w32]; omega)),.i 32,.r 13 (Kl (b:=((m / 4294967296:Nat):Int)) (by simp)),.c [] cn,.r 18 (v:=.one (.bool false)) (by simp; omega),.c [] cm] rfl rfl (by simp [Qa,IntKind.bits] <;> omega)
theorem Qg2 {m n:Nat} (h1:sz m≤4294967296) (h2:sz n≤4294967296) (hn:0<n):Qg Tryz.prog 170 [lr (Qw m),lr (Qw n)] [lr (Qw (m / n)),lr (Qw (m % n)),.one (.int .i64 0)]:=by
  have:=Qdl (K6 m) (K6 n) (by rw [Zk]; exact h1) (by rw [Zk]; exact h2) (by rw [Zk]; exact hn)
  rwa [Zk,Zk] at this
theorem Qmw {x y x' y':LV} {z z':Int} (hi:Xg x y z) (hi':Xg x' y' z') (hs:Qt z≤4294967295) (hs':Qt z'≤4294967295) (hz:z'≠0):Qg Tryz.prog 171 [.agg [x,y],.agg [x',y']] [.agg (Z0 (z / z')),.agg (Z0 (z % z')),.one (.int .i64 0)]:=by
  obtain ⟨b,l,rfl,rfl,hl,hz1⟩:=hi
  obtain ⟨b',l',rfl,rfl,hl',hz2⟩:=hi'
  have zl:z.natAbs=val l:=by rw [hz1,Xb]
  have zl':z'.natAbs=val l':=by rw [hz2,Xb]
  have s1:sz (val l)≤4294967296:=Nat.le_trans (Jt (hz1 ▸ hs)) (by decide)
  have s2:sz (val l')≤4294967296:=Nat.le_trans (Jt (hz2 ▸ hs')) (by decide)
  have hp:0<z'.natAbs:=by omega
  have e1:z=if b=true then -(z.natAbs:Int) else (z.natAbs:Int):=by rw [zl]; exact hz1
  have e2:z'=if b'=true then -(z'.natAbs:Int) else (z'.natAbs:Int):=by rw [zl']; exact hz2
  have cd:=Qdl hl hl' s1 s2 (by omega)
  rw [←zl,←zl'] at cd
  have s0:sz (z.natAbs % z'.natAbs)≤4294967296:=Nat.le_trans (Yl (Nat.le_of_lt (Nat.mod_lt _ hp))) (by rw [zl']; exact s2)
  cases b with
  |
   false =>
   obtain ⟨d1,d2⟩:=Et e2 hp e1
   rw [d1,d2]
   exact w tt Tryz.func171 rfl [.c [] cd,.f rfl,.c [] (Jv _ _),.c [] (Jv _ _),.f rfl,.f rfl] rfl rfl trivial
  |
   true =>
   by_cases h0:z.natAbs % z'.natAbs=0
   · obtain ⟨d1,d2⟩:=Dh e2 hp e1 h0
     rw [d1,d2]
     exact w tt Tryz.func171 rfl [.c [] cd,.f rfl,.c [] (Jv _ _),.c [] (Jv _ _),.t rfl,.f (by rw [h0,Zd]; rfl)] rfl rfl trivial
   · obtain ⟨d1,d2⟩:=Es e2 hp e1 (by omega)
     rw [d1,d2]
     have ca:=Qx0 (a:=Qw (z.natAbs / z'.natAbs)) (b:=[1]) (K6 _) (fun x hx=>by simp at hx; subst hx; decide) (by rw [Zk]; exact Nat.le_trans (Yl (Nat.div_le_self _ _)) (by rw [zl]; exact s1)) (by decide)
     have cs:=Eb (a:=l') (b:=Qw (z.natAbs % z'.natAbs)) hl' (K6 _) s2 (by rw [Zk,←zl']; exact Nat.le_of_lt (Nat.mod_lt _ hp))
     rw [Zk] at ca cs
     rw [←zl'] at cs
     have hl0:=Kn (m:=z.natAbs % z'.natAbs)
     exact w tt Tryz.func171 rfl [.c [] cd,.f rfl,.c [] (Jv _ _),.c [] (Jv _ _),.t rfl,.t (by simp [Qd]; omega),.c [] ca,.c [] cs,.c [] (Jv _ _),.c [] (Jv _ _)] rfl rfl trivial
theorem Ux {x y x' y':LV} {z z':Int} (hi:Xg x y z) (hi':Xg x' y' z') (hs:Qt z≤4294967295) (hs':Qt z'≤4294967295) (hz:z'≠0) (hd:z % z'=0):Qg Tryz.prog 120 [.agg [x,y],.agg [x',y']] [.agg (Z0 (z / z')),.one (.int .i64 0)]:=by
  have cd:=Qmw hi hi' hs hs' hz
  obtain ⟨b,l,rfl,rfl,_⟩:=hi
  obtain ⟨b',l',rfl,rfl,_⟩:=hi'
  exact w tt Tryz.func120 rfl [.c [] cd,.f rfl,.f (by rw [hd]; simp [Qd,Zd])] rfl rfl trivial
end Orr

namespace Orr
open Go
abbrev Q4b (l:List Nat):LV:=.row (lm l)
def Xe (l:List Int):Nat:=l.foldl (fun g z=>Nat.gcd g z.natAbs) 0
theorem Qm9 {l:List Int} {i:Nat} {z:Int} (h:l[i]? = some z):Xe (l.take (i+1))=Nat.gcd (Xe (l.take i)) z.natAbs:=by
  unfold Xe
  rw [List.take_add_one,h]
  simp [List.foldl_append]
theorem Qvu (g x:Nat):Nat.gcd x (g % x)=Nat.gcd g x:=by
  rw [Nat.gcd_comm g x,Nat.gcd_rec x g,Nat.gcd_comm]
theorem Iw (l:List Int):l.foldl (fun g z=>Nat.gcd g z.natAbs) 1=1:=by
  induction l with
  | nil=>rfl
  | cons z l ih=>simp [ih]
theorem Qqz {l:List Int} {i:Nat} (h:Xe (l.take i)=1):Xe l=1:=by
  have e:l=l.take i++l.drop i:=(List.take_append_drop i l).symm
  unfold Xe at h ⊢
  rw [e,List.foldl_append,h,Iw]
def Qq:List Int→List Int
  | []=>[]
  |
   x::l=>match Qq l with
   | []=>if x=0 then [] else [x]
   | y::k=>x::y::k
theorem Px:∀ {l:List Int},(∀ x∈l,x=0)→Qq l=[]
  | [],_=>rfl
  |
   x::l,h=>by
   have ih:=Px (l:=l) (fun y hy=>h y (List.mem_cons_of_mem _ hy))
   simp [Qq,ih,h x (List.mem_cons_self ..)]
theorem Qap:∀ {l:List Int} {m:Nat} {y:Int},(∀ j x,m<j→l[j]? = some x→x=0)→l[m]? = some y→y≠0→Qq l=l.take (m+1)
  | [],m,y,_,h,_=>by simp at h
  |
   x::l,0,y,h1,h2,h3=>by
   have h0:Qq l=[]:=Px fun z hz=>by
     obtain ⟨j,hj⟩:=List.mem_iff_getElem?.1 hz
     exact h1 (j+1) z (by omega) (by simpa using hj)
   simp at h2
   subst h2
   simp [Qq,h0,h3]
  |
   x::l,m+1,y,h1,h2,h3=>by
   have ih:=Qap (l:=l) (m:=m) (y:=y) (fun j z hj hz=>h1 (j+1) z (by omega) (by simpa using hz)) (by simpa using h2) h3
   cases hl:l with
   | nil=>subst hl; simp at h2
   |
    cons u k =>
    subst hl
    rw [List.take_succ_cons] at ih
    simp only [Qq] at ih ⊢
    rw [ih]
    simp
def Qm (l:List Int):Prop:=Qq l=l
theorem Xt:∀ (l:List Int),Qm (Qq l)
  | []=>rfl
  |
   x::l=>by
   have ih:=Xt l
   unfold Qm at ih ⊢
   cases h:Qq l with
   | nil=>by_cases hx:x=0 <;> simp [Qq,h,hx]
   |
    cons y k =>
    rw [h] at ih
    simp only [Qq,h] at ih ⊢
    rw [ih]
theorem Qf8 {l:List Int} {m:Nat} (hm:m≤l.length) (h1:∀ j x,m≤j→l[j]? = some x→x=0) (h2:0<m→∃ y,l[m-1]? = some y∧y≠0):Qq l=l.take m:=by
  rcases Nat.eq_zero_or_pos m with h0 | h0
  · subst h0
    rw [Px fun z hz=>?_]; rfl
    obtain ⟨j,hj⟩:=List.mem_iff_getElem?.1 hz
    exact h1 j z (by omega) hj
  · obtain ⟨y,hy,hy0⟩:=h2 h0
    have:=Qap (l:=l) (m:=m-1) (y:=y) (fun j x hj hx=>h1 j x (by omega) hx) hy hy0
    rwa [show m-1+1=m from by omega] at this
def IsInts:List (List LV)→List Int→Prop
  | [],[]=>True
  | x::l,z::p=>(∃ a b,x=[a,b]∧Xg a b z)∧IsInts l p
  | _,_=>False
theorem IsInts.len:∀ {l:List (List LV)} {p:List Int},IsInts l p→l.length=p.length
  | [],[],_=>rfl
  | x::l,z::p,h=>by simp [h.2.len]
  | [],_::_,h=>h.elim
  | _::_,[],h=>h.elim
theorem IsInts.get:∀ {l:List (List LV)} {p:List Int},IsInts l p→∀ {i:Nat} {z:Int},p[i]? = some z→∃ a b,l[i]? = some [a,b]∧Xg a b z
  | [],[],_,i,z,h=>by simp at h
  |
   x::l,y::p,h,0,z,hz=>by
   simp at hz; subst hz
   obtain ⟨a,b,rfl,hi⟩:=h.1
   exact ⟨a,b,rfl,hi⟩
  | x::l,y::p,h,i+1,z,hz=>by simpa using h.2.get (i:=i) (by simpa using hz)
  | [],_::_,h,_,_,_=>h.elim
  | _::_,[],h,_,_,_=>h.elim
theorem Zs:∀ (p:List Int),IsInts (p.map Z0) p
  | []=>trivial
  | z::p=>⟨⟨_,_,rfl,Qe z⟩,Zs p⟩
theorem IsInts.append:∀ {l l':List (List LV)} {p p':List Int},IsInts l p→IsInts l' p'→IsInts (l++l') (p++p')
  | [],_,[],_,_,h=>h
  | x::l,_,z::p,_,h,h'=>⟨h.1,h.2.append h'⟩
  | [],_,_::_,_,h,_=>h.elim
  | _::_,_,[],_,h,_=>h.elim
def pl (p:List Int):LV:=.row (p.map Z0)
def ids (l:List Int):LV:=.row (l.map fun (x:Int)=>[.int .i64 x])
theorem J6:Xg (.bool false) (.row []) 0:=⟨false,[],rfl,rfl,(fun x hx=>by cases hx),rfl⟩
theorem Qw7:sg 0=.bool false:=rfl
theorem Qni {z:Int}:(Qw z.natAbs).length=0↔z=0:=by
  constructor
  · intro h
    have h0:=List.eq_nil_of_length_eq_zero h
    have:=(Mt (W7 z.natAbs)).2 h0
    rw [Zk] at this; omega
  · rintro rfl; rw [show (0:Int).natAbs=0 from rfl,Zd]; rfl
theorem J0 {α β:Type} {f:α→β} {l:List α} {i:Nat} {x:α} (h:l[i]? = some x):(l.map f)[i]? = some (f x):=by rw [List.getElem?_map,h]; rfl
theorem Qyo {α:Type} {f:α→List LV} {sz:Nat} (l:List α) (h:∀ x,(f x).length=sz):∀ c∈l.map f,c.length=sz:=fun c hc=>by
  obtain ⟨x,_,rfl⟩:=List.mem_map.1 hc
  exact h x
theorem Qv8:mg 0=.row []:=by simp [mg,Zd,lm]
theorem Gf:Z0 0=[LV.bool false,LV.row []]:=by simp [Z0,Qw7,Qv8]
end Orr

namespace Orr
open Go Go.Proofs
set_option maxRecDepth 10000
theorem D5 {p:List Int} (hs:∀ z∈p,Qt z≤4294967295):sz (Xe p)≤4294967295:=by
  have key:∀ (p:List Int) (g:Nat),sz g≤4294967295→(∀ z∈p,Qt z≤4294967295)→sz (p.foldl (fun g z=>Nat.gcd g z.natAbs) g)≤4294967295:=by
    intro p
    induction p with
    | nil=>exact fun g h _=>h
    |
     cons z p ih =>
     intro g h hs
     refine ih _ ?_ fun y hy=>hs y (.tail _ hy)
     rcases Nat.eq_zero_or_pos g with h0 | h0
     · subst h0; show sz (Nat.gcd 0 z.natAbs)≤_; rw [Nat.gcd_zero_left]; exact hs z (.head _)
     · exact Nat.le_trans (Yl (Nat.gcd_le_left _ h0)) h
  exact key p 0 (by decide) hs
theorem Qos {l:List (List LV)} {p:List Int} (hi:IsInts l p) (hs:∀ z∈p,Qt z≤4294967295):Qg Tryz.prog 118 [.one (.row l)] [.agg (Z0 ((Xe p:Nat):Int))]:=by
  refine X4 Tryz.func118 rfl (ln 0 rfl rfl fun hl=>?_)
  have hlp:=hi.len
  refine go tt [.z 3,.r 3 (v:=lr (Qw (Xe (p.take 0)))) (by simp [Xe,Zd,lm])] rfl trivial ?_
  refine ct 2 (S:=Unit) (fun _=>[(2,.v (.one (.ow 0 0))),(3,.v (lr (Qw (Xe p))))]) (fun _=>[.blk 29 [.bool false,.nils],.gone]) (fun _=>True) rfl ?_ ?_
  · refine lp (S:=Nat) 1 (fun L1 i=>(12,.v (.one (.int .i64 (i:Int))))::(3,.v (lr (Qw (Xe (p.take i)))))::L1) (fun _=>[.blk 29 [.bool false,.nils]]) (fun i=>p.length-i) (fun i=>i≤p.length) 0 (Nat.zero_le _) rfl (fun _ _=>rfl) rfl fun i hip=>?_
    by_cases h:i<p.length
    · have hlt:i<l.length:=by omega
      obtain ⟨c,hc⟩:∃ c,l[i]? = some c:=⟨_,List.getElem?_eq_getElem hlt⟩
      obtain ⟨z,hz⟩:∃ z,p[i]? = some z:=⟨_,List.getElem?_eq_getElem h⟩
      obtain ⟨x,y,hc',b,r,rfl,rfl,hr,hzz⟩:=hi.get hz
      rw [hc] at hc'; injection hc' with hc'; subst hc'
      have hsz:=hs z (List.mem_of_getElem? hz)
      have hg0:sz (Xe (p.take i))≤4294967295:=D5 fun y hy=>hs y (List.mem_of_mem_take hy)
      have ezr:z.natAbs=val r:=by rw [hzz,Xb]
      have cn:=S6 hr (by rw [←ezr]; exact Nat.le_trans hsz (by decide))
      rw [←ezr] at cn
      refine go tt [.t (by simp; omega),.x hc,.c [] cn] rfl trivial ?_
      refine lp (S:=Nat×Nat) 2 (fun L1 s=>(3,.v (lr (Qw s.1)))::(6,.v (lr (Qw s.2)))::L1) (fun _=>[.blk 29 [.bool false,.nils],.blk 29 [.bool b,.row (lm r)]]) (fun s=>s.2) (fun s=>Nat.gcd s.1 s.2=Nat.gcd (Xe (p.take i)) z.natAbs∧sz s.1≤4294967295∧sz s.2≤4294967295) (Xe (p.take i),z.natAbs) ⟨rfl,hg0,hsz⟩ rfl (fun _ _=>rfl) rfl fun ⟨g,u⟩ ⟨j1,j2,j3⟩=>?_
      dsimp only at j1 j2 j3 ⊢
      have hul:=Kn (m:=u)
      by_cases hu:0<u
      · have cd:=Qg2 (m:=g) (n:=u) (by omega) (by omega) hu
        refine go tt [.t (by simp [Qd]; omega),.c [] cd] rfl trivial ?_
        exact rd (u,g % u) (Nat.mod_lt _ hu) ⟨(Qvu g u).trans j1,j3,Nat.le_trans (Yl (Nat.le_of_lt (Nat.mod_lt _ hu))) j3⟩ rfl
      · obtain rfl:u=0:=by omega
        rw [Nat.gcd_zero_right,←Qm9 hz] at j1
        subst j1
        by_cases h1:Xe (p.take (i+1))=1
        · have e1:Qw (Xe (p.take (i+1)))=[1]:=by rw [h1,W5 (by decide)]; simp [Zd]
          refine go tt [.f (by simp [Zd,lm]),.t (by rw [e1]; rfl),.x (Ze (i:=0) (x:=1) (by rw [e1]; rfl)),.t rfl] rfl trivial ?_
          exact rc () trivial (by rw [h1,Qqz h1]; rfl)
        · obtain ⟨g,hg⟩:∃ g,g=Xe (p.take (i+1)):=⟨_,rfl⟩
          rw [←hg] at h1 j2 ⊢
          by_cases h2:(Qw g).length=1
          · obtain ⟨v,hv⟩:∃ v,Qw g=[v]:=by
              match hm:Qw g,h2 with
              | [v],_=>exact ⟨v,rfl⟩
            have hv1:v≠1:=fun e=>h1 (by rw [←Zk g,hv,e]; rfl)
            refine go tt [.f (by simp [Zd,lm]),.t (by simp [Qd,h2]),.x (Ze (i:=0) (x:=v) (by rw [hv]; rfl)),.f (by simp; omega)] rfl (by simp [Qa] <;> omega) ?_
            exact rd (i+1) (by omega) h (by rw [←hg]; rfl)
          · refine go tt [.f (by simp [Zd,lm]),.f (by simp [Qd]; omega),.f rfl] rfl (by simp [Qa] <;> omega) ?_
            exact rd (i+1) (by omega) h (by rw [←hg]; rfl)
    · obtain rfl:i=p.length:=by omega
      refine go tt [.f (by simp; omega)] rfl trivial ?_
      rw [List.take_length]
      exact rc () trivial rfl
  · intro _ _
    have cn:=S6 (K6 (Xe p)) (by rw [Zk]; exact Nat.le_trans (D5 hs) (by decide))
    rw [Zk] at cn
    exact en tt [.c [] cn,.c [] (Jv false _)] rfl (by simp [Qr]) trivial
end Orr

namespace Orr
def Bd (s:Nat) (p:List Int):Prop:=∀ z∈p,Qt z≤s
theorem Ul:Qt 0=0:=rfl
theorem Qom {s:Nat} {p:List Int} (h:Bd s p) {i:Nat} {z:Int} (hz:p[i]? = some z):Qt z≤s:=h z (List.mem_of_getElem? hz)
theorem Q7 {s:Nat} {p:List Int} (h:Bd s p) (k:Nat):Qt (p.getD k 0)≤s:=by
  rw [List.getD_eq_getElem?_getD]
  cases hk:p[k]? with
  | none=>rw [Option.getD_none,Ul]; exact Nat.zero_le _
  | some z=>exact Qom h hk
theorem Qc {s t:Nat} {p:List Int} (h:Bd s p) (ht:s≤t):Bd t p:=fun z hz=>Nat.le_trans (h z hz) ht
theorem Nt {s:Nat}:Bd s []:=fun z hz=>by cases hz
theorem Qy6 {s:Nat} {n:Nat} {g:Nat→Int} (h:∀ k,k<n→Qt (g k)≤s):Bd s ((List.range n).map g):=fun z hz=>by
  obtain ⟨k,hk,rfl⟩:=List.mem_map.1 hz
  exact h k (List.mem_range.1 hk)
theorem Qga:∀ (l:List Int),∀ z∈Qq l,z∈l
  | [],z,h=>by cases h
  |
   x::l,z,h=>by
   have ih:=Qga l
   cases hl:Qq l with
   |
    nil =>
    simp only [Qq,hl] at h
    split at h
    · cases h
    · rw [List.mem_singleton] at h; rw [h]; exact List.mem_cons_self ..
   |
    cons y k =>
    simp only [Qq,hl] at h
    rcases List.mem_cons.1 h with rfl | h
    · exact List.mem_cons_self ..
    · exact List.mem_cons_of_mem _ (ih z (by rw [hl]; exact h))
theorem Xd (l:List Int):(Qq l).length≤l.length:=by
  induction l with
  | nil=>exact Nat.le_refl _
  |
   cons x l ih =>
   cases hl:Qq l with
   | nil=>simp only [Qq,hl]; split <;> simp
   | cons y k=>simp only [Qq,hl]; rw [hl] at ih; simp at ih ⊢; exact ih
theorem Jf {s:Nat} {p:List Int} (h:Bd s p):Bd s (Qq p):=fun z hz=>h z (Qga p z hz)
theorem Gt:∀ (l:List Int) (k:Nat),(Qq l).getD k 0=l.getD k 0
  | [],k=>rfl
  |
   x::l,k=>by
   have ih:=Gt l
   cases hl:Qq l with
   |
    nil =>
    rw [hl] at ih
    simp only [Qq,hl]
    split
    · rename_i hx
      cases k with
      | zero=>simp [hx]
      | succ k=>have:=ih k; simp at this ⊢; exact this
    · cases k with
      | zero=>simp
      | succ k=>have:=ih k; simp at this ⊢; exact this
   |
    cons y m =>
    rw [hl] at ih
    simp only [Qq,hl]
    cases k with
    | zero=>simp
    | succ k=>have:=ih k; simp at this ⊢; exact this
def Di (n:Nat) (g:Nat→Int):List Int:=Qq ((List.range n).map g)
theorem Q8 (n:Nat) (g:Nat→Int):Qm (Di n g):=Xt _
theorem Re (n:Nat) (g:Nat→Int):(Di n g).length≤n:=Nat.le_trans (Xd _) (by simp)
theorem Kg (n:Nat) (g:Nat→Int) (k:Nat):(Di n g).getD k 0=if k<n then g k else 0:=by
  unfold Di
  rw [Gt,List.getD_eq_getElem?_getD,List.getElem?_map]
  split
  · rename_i h; rw [List.getElem?_range h]; rfl
  · rename_i h; rw [List.getElem?_eq_none (by simpa using h)]; rfl
theorem P6 {s n:Nat} {g:Nat→Int} (h:∀ k,k<n→Qt (g k)≤s):Bd s (Di n g):=Jf (Qy6 h)
def Hj (p q:List Int):List Int:=Di (max p.length q.length) fun k=>p.getD k 0+q.getD k 0
def Wd (p q:List Int):List Int:=Di (max p.length q.length) fun k=>p.getD k 0-q.getD k 0
def Uw (p:List Int):List Int:=Di p.length fun k=>-(p.getD k 0)
def Zp (p:List Int) (c:Int):List Int:=Di p.length fun k=>p.getD k 0*c
def Zu (p:List Int):List Int:=Di (p.length-1) fun k=>p.getD (k+1) 0*((k+1:Nat):Int)
theorem Qay {s t:Nat} {p q:List Int} (h:Bd s p) (h':Bd t q):Bd (max s t+1) (Hj p q):=P6 fun k _=>Nat.le_trans (Ml _ _) (by have:=Q7 h k; have:=Q7 h' k; omega)
theorem P7 {s t:Nat} {p q:List Int} (h:Bd s p) (h':Bd t q):Bd (max s t+1) (Wd p q):=P6 fun k _=>Nat.le_trans (Qbz _ _) (by have:=Q7 h k; have:=Q7 h' k; omega)
theorem Qa0 {s:Nat} {p:List Int} (h:Bd s p):Bd s (Uw p):=P6 fun k _=>by rw [U5]; exact Q7 h k
theorem Xz {s t:Nat} {p:List Int} {c:Int} (h:Bd s p) (hc:Qt c≤t):Bd (s+t) (Zp p c):=P6 fun k _=>Nat.le_trans (Xa _ _) (by have:=Q7 h k; omega)
theorem An (p q:List Int):(Hj p q).length≤max p.length q.length:=Re _ _
theorem Ro (p q:List Int):(Wd p q).length≤max p.length q.length:=Re _ _
theorem Ap (p:List Int):(Uw p).length≤p.length:=Re _ _
theorem Xk (p:List Int) (c:Int):(Zp p c).length≤p.length:=Re _ _
theorem Ky (p:List Int):(Zu p).length≤p.length-1:=Re _ _
theorem Qkw {k t:Nat} (h:k<2^t):Qt (k:Int)≤t:=by rw [Y0]; simpa using h
theorem Qnf {k:Nat} (h:k<274877906944):Qt (k:Int)≤4294967295:=Nat.le_trans (Qkw (t:=38) (Nat.lt_of_lt_of_eq h (by decide))) (by omega)
theorem Qjh {s t:Nat} {p:List Int} (h:Bd s p) (hl:p.length≤2^t):Bd (s+t) (Zu p):=P6 fun k hk=>Nat.le_trans (Xa _ _) (by
  have:=Q7 h (k+1)
  have:=Qkw (k:=k+1) (t:=t) (by omega)
  omega)
def Pj (x:Int) (b:List Int) (i:Nat) (o:List Int):Nat→List Int
  | 0=>o
  | k+1=>(Pj x b i o k).set (i+k) ((Pj x b i o k).getD (i+k) 0+x*b.getD k 0)
def Pi (a b o:List Int):Nat→List Int
  | 0=>o
  | i+1=>Pj (a.getD i 0) b i (Pi a b o i) b.length
def Zo (a b:List Int):List Int:=if a.length=0∨b.length=0 then [] else Qq (Pi a b (List.replicate (a.length+b.length-1) 0) a.length)
theorem Rv (x:Int) (b:List Int) (i:Nat) (o:List Int) (k:Nat):(Pj x b i o k).length=o.length:=by
  induction k with
  | zero=>rfl
  | succ k ih=>simp [Pj,ih]
theorem Ge (a b o:List Int) (i:Nat):(Pi a b o i).length=o.length:=by
  induction i with
  | zero=>rfl
  | succ i ih=>simp [Pi,Rv,ih]
theorem Qq6 (l:List Int) (i m:Nat) (v:Int) (h:i<l.length):(l.set i v).getD m 0=if m=i then v else l.getD m 0:=by
  rw [List.getD_eq_getElem?_getD,List.getElem?_set,List.getD_eq_getElem?_getD]
  by_cases e:i=m
  · subst e; simp [h]
  · rw [if_neg e,if_neg (fun h=>e h.symm)]
theorem Qnl (x:Int) (b:List Int) (i:Nat) (o:List Int) (k m:Nat) (h:i+k≤o.length):(Pj x b i o k).getD m 0=if i≤m∧m<i+k then o.getD m 0+x*b.getD (m-i) 0 else o.getD m 0:=by
  induction k with
  | zero=>simp only [Pj]; rw [if_neg (by omega)]
  |
   succ k ih =>
   have ih:=ih (by omega)
   simp only [Pj]
   rw [Qq6 _ _ _ _ (by rw [Rv]; omega)]
   by_cases e:m=i+k
   · subst e
     rw [if_pos rfl,if_pos (by omega),show i+k-i=k from by omega]
     rw [ih,if_neg (by omega)]
   · rw [if_neg e,ih]
     by_cases h1:i≤m∧m<i+k
     · rw [if_pos h1,if_pos (by omega)]
     · rw [if_neg h1,if_neg (by omega)]
theorem Fj {x y:Int} {s t:Nat} (hx:Qt x≤s) (hy:Qt y≤t):(x*y).natAbs≤2^(s+t):=by
  have h:=Nat.le_trans (Xa x y) (show _≤s+t by omega)
  rw [Y0] at h; omega
theorem Qld {x:Int} {b:List Int} {i:Nat} {o:List Int} {k M:Nat} (h:i+k≤o.length) (ho:∀ m,(o.getD m 0).natAbs≤i*M) (hx:∀ j,(x*b.getD j 0).natAbs≤M) (m:Nat):((Pj x b i o k).getD m 0).natAbs≤(i+1)*M:=by
  rw [Qnl x b i o k m h,Nat.succ_mul]
  have h1:=ho m
  split
  · have h2:=hx (m-i)
    generalize i*M=q at *
    omega
  · omega
theorem Qlc {a b o:List Int} {i M:Nat} (h:∀ j,j<i→j+b.length≤o.length) (ho:∀ m,o.getD m 0=0) (hx:∀ i j,(a.getD i 0*b.getD j 0).natAbs≤M) (m:Nat):((Pi a b o i).getD m 0).natAbs≤i*M:=by
  induction i generalizing m with
  | zero=>simp only [Pi]; rw [ho]; simp
  |
   succ i ih =>
   simp only [Pi]
   exact Qld (by rw [Ge]; exact h i (by omega)) (ih fun j hj=>h j (by omega)) (hx i) m
theorem Sv {z:Int} {i s t:Nat} (h:z.natAbs≤i*2^s) (hi:i<2^t):Qt z≤s+t:=by
  rw [Y0]
  have h1:i*2^s<2^t*2^s:=Nat.mul_lt_mul_of_pos_right hi (Nat.pow_pos (by decide))
  rw [←Nat.pow_add,Nat.add_comm t s] at h1
  omega
theorem Uk (n m:Nat):(List.replicate n (0:Int)).getD m 0=0:=by
  rw [List.getD_eq_getElem?_getD,List.getElem?_replicate]; split <;> rfl
theorem Lu {s:Nat} {p:List Int} (h:∀ m,Qt (p.getD m 0)≤s):Bd s p:=fun z hz=>by
  obtain ⟨i,hi⟩:=List.mem_iff_getElem?.1 hz
  have:=h i
  rw [List.getD_eq_getElem?_getD,hi] at this
  exact this
theorem Ao (a b:List Int):(Zo a b).length≤a.length+b.length-1:=by
  unfold Zo
  split
  · simp
  · refine Nat.le_trans (Xd _) ?_
    rw [Ge]; simp
theorem Qaz {s t u:Nat} {a b:List Int} (ha:Bd s a) (hb:Bd t b) (hl:a.length<2^u):Bd (s+t+u) (Zo a b):=by
  unfold Zo
  split
  · exact Nt
  · refine Jf (Lu fun m=>?_)
    exact Sv (Qlc (M:=2^(s+t)) (fun j hj=>by simp; omega) (Uk _) (fun i j=>Fj (Q7 ha i) (Q7 hb j)) m) hl
theorem Zz (a b:List Int):Qm (Zo a b):=by
  unfold Zo
  split
  · rfl
  · exact Xt _
def Wg (a:List Int) (n d:Int):Nat→Int×Int
  | 0=>(0,1)
  | k+1=>((Wg a n d k).1*n+a.getD (a.length-1-k) 0*(Wg a n d k).2,(Wg a n d k).2*d)
def Q0u (a:List Int) (n d:Int):Int:=(Wg a n d a.length).1
theorem Qmh {a:List Int} {n d:Int} {s t k:Nat} (ha:Bd s a) (hn:Qt n≤t) (hd:Qt d≤t):Qt (Wg a n d k).1≤s+2+k*(t+1)∧Qt (Wg a n d k).2≤1+k*t:=by
  induction k with
  | zero=>exact ⟨by simp [Wg,Ul],by simp [Wg]; decide⟩
  |
   succ k ih =>
   obtain ⟨h1,h2⟩:=ih
   have h3:=Q7 ha (a.length-1-k)
   have e1:k*(t+1)=k*t+k:=by rw [Nat.mul_add,Nat.mul_one]
   rw [Nat.succ_mul,Nat.succ_mul]
   refine ⟨?_,?_⟩
   · simp only [Wg]
     refine Nat.le_trans (Ml _ _) ?_
     have h4:=Xa (Wg a n d k).1 n
     have h5:=Xa (a.getD (a.length-1-k) 0) (Wg a n d k).2
     generalize k*t=q at *
     rw [e1] at h1 ⊢
     omega
   · simp only [Wg]
     have h4:=Xa (Wg a n d k).2 d
     generalize k*t=q at *
     omega
end Orr
namespace Orr
theorem getD_some {l:List Int} {i:Nat} (h:i<l.length):l[i]? = some (l.getD i 0):=by
  rw [List.getD_eq_getElem?_getD,List.getElem?_eq_getElem h]; rfl
theorem Qbe {x y:Int}:Kv x y=0↔x=y:=by
  unfold Kv
  constructor
  · intro h
    split at h
    · omega
    · split at h <;> omega
  · rintro rfl; simp
theorem Xi {p:List Int} (h:Qm p) (h0:0<p.length):p.getD (p.length-1) 0≠0:=by
  induction p with
  | nil=>simp at h0
  |
   cons x l ih =>
   unfold Qm at h
   cases hl:Qq l with
   |
    nil =>
    simp only [Qq,hl] at h
    split at h
    · cases h
    · rename_i hx
      injection h with h1 h2
      subst h2
      simpa using hx
   |
    cons y k =>
    simp only [Qq,hl] at h
    injection h with h1 h2
    rw [←hl] at h2
    have ih:=ih h2 (by rw [←h2,hl]; simp)
    have h3:0<l.length:=by rw [←h2,hl]; simp
    simp only [List.length_cons,Nat.add_sub_cancel]
    obtain ⟨m,hm⟩:∃ m,l.length=m+1:=⟨l.length-1,by omega⟩
    rw [hm] at ih ⊢
    simpa using ih
end Orr
namespace Orr
theorem Qev (p:List Int):(List.range p.length).map (fun k=>p.getD k 0)=p:=by
  apply List.ext_getElem?
  intro i
  rw [List.getElem?_map]
  rcases Nat.lt_or_ge i p.length with h | h
  · rw [List.getElem?_range h]
    simp [List.getElem?_eq_getElem h]
  · rw [List.getElem?_eq_none (by simpa using h),List.getElem?_eq_none h]; rfl
theorem Qhh {p q:List Int} (hl:p.length=q.length) (h:∀ j,j<p.length→p.getD j 0=q.getD j 0):p=q:=by
  rw [←Qev p,←Qev q,←hl]
  exact List.map_congr_left fun j hj=>h j (List.mem_range.1 hj)
end Orr

namespace Orr
abbrev rl (q:Rat):List LV:=[sg q.num,mg q.num,sg (q.den:Int),mg (q.den:Int)]
theorem Ga (n d:Int):Xe [n,d]=Int.gcd d n:=by
  unfold Xe
  simp only [List.foldl_cons,List.foldl_nil,Nat.gcd_zero_left]
  exact Nat.gcd_comm _ _
theorem Qq0 {n d:Int} (hd:d≠0):(0:Int)<((Xe [n,d]:Nat):Int):=by
  rw [Ga]
  have:=Int.gcd_pos_of_ne_zero_left n hd
  omega
theorem Qhj (n d:Int):n % ((Xe [n,d]:Nat):Int)=0:=by
  rw [Ga]; exact Int.emod_eq_zero_of_dvd (Int.gcd_dvd_right ..)
theorem Qhk (n d:Int):d % ((Xe [n,d]:Nat):Int)=0:=by
  rw [Ga]; exact Int.emod_eq_zero_of_dvd (Int.gcd_dvd_left ..)
theorem Qlf {n g:Int} (h:n % g=0):-n % g=0:=by
  exact Int.emod_eq_zero_of_dvd (Int.dvd_neg.2 (Int.dvd_of_emod_eq_zero h))
theorem Qv0 {n d:Int} {s:Nat} (hd:d≠0) (h:Qt d≤s):Qt ((Xe [n,d]:Nat):Int)≤s:=by
  rw [Ga]
  refine Nat.le_trans (Yl ?_) h
  have:=Nat.le_of_dvd (by omega:0<d.natAbs) (show Int.gcd d n∣d.natAbs from Nat.gcd_dvd_left _ _)
  simpa using this
theorem Qv7 {n d:Int} (hd:0<d):n / ((Xe [n,d]:Nat):Int)=(Rat.divInt n d).num∧d / ((Xe [n,d]:Nat):Int)=((Rat.divInt n d).den:Int):=by
  rw [Ga,Rat.num_divInt,Rat.den_divInt,if_neg (by omega),Int.sign_eq_one_of_pos hd,Int.one_mul]
  refine ⟨rfl,?_⟩
  rw [Int.natCast_ediv,Int.natAbs_of_nonneg (by omega)]
theorem Qv6 {n d:Int} (hd:d<0):-n / ((Xe [n,d]:Nat):Int)=(Rat.divInt n d).num∧-d / ((Xe [n,d]:Nat):Int)=((Rat.divInt n d).den:Int):=by
  rw [Ga,Rat.num_divInt,Rat.den_divInt,if_neg (by omega),Int.sign_eq_neg_one_of_neg hd,Int.neg_mul,Int.one_mul]
  refine ⟨rfl,?_⟩
  rw [Int.natCast_ediv,Int.ofNat_natAbs_of_nonpos (by omega)]
theorem Af (u g:Int):Qt (u / g)≤Qt u:=by
  unfold Qt
  exact Yl (Int.natAbs_ediv_le_natAbs u g)
theorem Ah {n d:Int} {s:Nat} (h:Qt n≤s):Qt (Rat.divInt n d).num≤s:=by
  rw [Rat.num_divInt]
  refine Nat.le_trans (Af _ _) ?_
  unfold Qt
  rw [Int.natAbs_mul]
  refine Nat.le_trans (Yl ?_) h
  have:d.sign.natAbs≤1:=by rcases Ut d with ⟨_,e⟩ | ⟨_,e⟩ | ⟨_,e⟩ <;> rw [e] <;> decide
  calc d.sign.natAbs*n.natAbs≤1*n.natAbs:=Nat.mul_le_mul_right _ this
    _=n.natAbs:=Nat.one_mul _
theorem Ag {n d:Int} {s:Nat} (h:Qt d≤s) (h1:1≤s):Qt ((Rat.divInt n d).den:Int)≤s:=by
  rw [Rat.den_divInt]
  split
  · exact h1
  · refine Nat.le_trans (Yl ?_) h
    exact Nat.div_le_self _ _
def Qs (s:Nat) (q:Rat):Prop:=Qt q.num≤s∧Qt (q.den:Int)≤s
theorem Qs.mono {s t:Nat} {q:Rat} (h:Qs s q) (ht:s≤t):Qs t q:=⟨Nat.le_trans h.1 ht,Nat.le_trans h.2 ht⟩
theorem Qs.divInt {s:Nat} {n d:Int} (h:Qt n≤s) (h':Qt d≤s) (h1:1≤s):Qs s (Rat.divInt n d):=⟨Ah h,Ag h' h1⟩
theorem Qzu (q:Rat):(q.den:Int)≠0:=by have:=q.den_nz; omega
theorem den_pos (q:Rat):(0:Int)<(q.den:Int):=by have:=q.den_nz; omega
def Vv (n d:Int):Rat:=Rat.divInt n (if d=0 then 1 else d)
theorem M7 (q:Rat):Vv q.num q.den=q:=by
  unfold Vv
  rw [if_neg (Qzu q)]; exact Rat.num_divInt_den q
def Zm (a b:Rat):Int:=Kv (a.num*(b.den:Int)) (b.num*(a.den:Int))
theorem Kk {a b:Rat}:Zm a b<0↔a<b:=by
  rw [Rat.lt_iff]; unfold Zm Kv
  constructor
  · intro h; split at h
    · assumption
    · split at h <;> omega
  · intro h; rw [if_pos h]; decide
theorem Wq {a b:Rat}:0<Zm a b↔b<a:=by
  rw [Rat.lt_iff]; unfold Zm Kv
  constructor
  · intro h; split at h
    · omega
    · split at h
      · assumption
      · omega
  · intro h; rw [if_neg (by omega),if_pos h]; decide
theorem W0 (a:Rat):Zm a a=0:=by unfold Zm Kv; simp
end Orr

namespace Orr
structure Crv where
  x:List Int
  y:List Int
  d:Int
abbrev cl (k:Crv):List LV:=[pl k.x,pl k.y,sg k.d,mg k.d]
def Crv.d' (k:Crv):Int:=if k.d=0 then 1 else k.d
def Crv.g (k:Crv):Int:=if k.d'<0 then -((Xe (k.d'::(Qq k.x++Qq k.y)):Nat):Int) else (Xe (k.d'::(Qq k.x++Qq k.y)):Nat)
def Crv.norm (k:Crv):Crv:=⟨Qq ((Qq k.x).map (· / k.g)),Qq ((Qq k.y).map (· / k.g)),k.d' / k.g⟩
theorem Fz {l:List Int}:∀ z∈l,((Xe l:Nat):Int)∣z:=by
  have key:∀ (l:List Int) (g:Nat),(l.foldl (fun g z=>Nat.gcd g z.natAbs) g∣g)∧∀ z∈l,l.foldl (fun g z=>Nat.gcd g z.natAbs) g∣z.natAbs:=by
    intro l
    induction l with
    | nil=>intro g; exact ⟨Nat.dvd_refl _,by simp⟩
    |
     cons u l ih =>
     intro g
     obtain ⟨h1,h2⟩:=ih (Nat.gcd g u.natAbs)
     refine ⟨Nat.dvd_trans h1 (Nat.gcd_dvd_left _ _),fun z hz=>?_⟩
     rcases List.mem_cons.1 hz with rfl | hz
     · exact Nat.dvd_trans h1 (Nat.gcd_dvd_right _ _)
     · exact h2 z hz
  intro z hz
  have:=(key l 0).2 z hz
  exact Int.ofNat_dvd_left.2 this
theorem Crv.d'_ne (k:Crv):k.d'≠0:=by unfold Crv.d'; split <;> omega
theorem Crv.gcd_ne (k:Crv):Xe (k.d'::(Qq k.x++Qq k.y))≠0:=by
  intro e
  have h:=Fz (l:=k.d'::(Qq k.x++Qq k.y)) k.d' (List.mem_cons_self ..)
  rw [e] at h
  exact k.d'_ne (by simpa using h)
theorem Crv.g_ne (k:Crv):k.g≠0:=by
  have h0:=k.gcd_ne
  unfold Crv.g
  split <;> omega
theorem Crv.g_dvd (k:Crv):∀ z∈k.d'::(Qq k.x++Qq k.y),z % k.g=0:=by
  intro z hz
  have h:=Fz z hz
  refine Int.emod_eq_zero_of_dvd ?_
  unfold Crv.g
  split
  · exact Int.neg_dvd.2 h
  · exact h
theorem Crv.isz_g (k:Crv) {s:Nat} (h:Qt k.d'≤s):Qt k.g≤s:=by
  have hd:=Fz (l:=k.d'::(Qq k.x++Qq k.y)) k.d' (List.mem_cons_self ..)
  have hle:Xe (k.d'::(Qq k.x++Qq k.y))≤k.d'.natAbs:=Nat.le_of_dvd (by have:=k.d'_ne; omega) (Int.ofNat_dvd_left.1 hd)
  refine Nat.le_trans (Yl ?_) h
  unfold Crv.g
  split <;> simp <;> exact hle
structure Cs (s n:Nat) (k:Crv):Prop where
  x:Bd s k.x
  y:Bd s k.y
  d:Qt k.d≤s
  lx:k.x.length≤n
  ly:k.y.length≤n
theorem Qrh {k:Crv} {s:Nat} (h:Qt k.d≤s) (h1:1≤s):Qt k.d'≤s:=by unfold Crv.d'; split <;> first | exact h1 | exact h
theorem Ns {s:Nat} {p:List Int} (h:Bd s p) (g:Int):Bd s (p.map (· / g)):=fun z hz=>by
  obtain ⟨u,hu,rfl⟩:=List.mem_map.1 hz
  exact Nat.le_trans (Af u g) (h u hu)
theorem Cs.norm {s n:Nat} {k:Crv} (h:Cs s n k) (h1:1≤s):Cs s n k.norm:=by
  refine ⟨Jf (Ns (Jf h.x) _),Jf (Ns (Jf h.y) _),Nat.le_trans (Af _ _) (Qrh h.d h1),?_,?_⟩
  · refine Nat.le_trans (Xd _) ?_; rw [List.length_map]; exact Nat.le_trans (Xd _) h.lx
  · refine Nat.le_trans (Xd _) ?_; rw [List.length_map]; exact Nat.le_trans (Xd _) h.ly
theorem Cs.mono {s n t m:Nat} {k:Crv} (h:Cs s n k) (hs:s≤t) (hn:n≤m):Cs t m k:=⟨Qc h.x hs,Qc h.y hs,Nat.le_trans h.d hs,Nat.le_trans h.lx hn,Nat.le_trans h.ly hn⟩
def Nml (k:Crv):Prop:=Qm k.x∧Qm k.y∧0<k.d∧Xe (k.d::(k.x++k.y))=1
theorem Crv.norm_of {k:Crv} (h:Nml k):k.norm=k:=by
  obtain ⟨h1,h2,h3,h4⟩:=h
  have hd:k.d'=k.d:=by unfold Crv.d'; rw [if_neg (by omega)]
  have hx:Qq k.x=k.x:=h1
  have hy:Qq k.y=k.y:=h2
  have hg:k.g=1:=by unfold Crv.g; rw [hd,hx,hy,h4,if_neg (by omega)]; rfl
  unfold Crv.norm
  rw [hg,hd,hx,hy]
  simp [hx,hy]
theorem Qbs {l:List Int} {g:Int} (hg:g≠0) (hga:g.natAbs=Xe l):Xe (l.map (· / g))=1:=by
  have key:∀ (l:List Int) (a:Nat),(∀ z∈l,g∣z)→l.foldl (fun a z=>Nat.gcd a z.natAbs) (a*g.natAbs)=((l.map (· / g)).foldl (fun a z=>Nat.gcd a z.natAbs) a)*g.natAbs:=by
    intro l
    induction l with
    | nil=>intro a _; rfl
    |
     cons z l ih =>
     intro a h
     simp only [List.map_cons,List.foldl_cons]
     have hz:z.natAbs=(z / g).natAbs*g.natAbs:=by
       obtain ⟨q,rfl⟩:=h z (List.mem_cons_self ..)
       rw [Int.mul_ediv_cancel_left _ hg,Int.natAbs_mul,Nat.mul_comm]
     rw [hz,Nat.gcd_mul_right]
     exact ih _ fun u hu=>h u (List.mem_cons_of_mem _ hu)
  have h:=key l 0 fun z hz=>Int.natAbs_dvd_natAbs.1 (by rw [hga]; exact Int.natAbs_dvd_natAbs.2 (Fz z hz))
  rw [Nat.zero_mul] at h
  have h':Xe l=Xe (l.map (· / g))*g.natAbs:=h
  rw [←hga] at h'
  have hp:0<g.natAbs:=by omega
  exact Nat.eq_of_mul_eq_mul_right hp (by rw [Nat.one_mul]; exact h'.symm)
theorem Tj {l:List Int} {g:Int} (ht:Qm l) (hg:g≠0) (hd:∀ z∈l,g∣z):Qm (l.map (· / g)):=by
  induction l with
  | nil=>rfl
  |
   cons x l ih =>
   have hne:∀ z∈x::l,z≠0→z / g≠0:=fun z hz h0 h1=>by
     obtain ⟨q,rfl⟩:=hd z hz
     rw [Int.mul_ediv_cancel_left _ hg] at h1
     rw [h1] at h0; simp at h0
   unfold Qm at ht ih ⊢
   cases hl:Qq l with
   |
    nil =>
    simp only [Qq,hl] at ht
    split at ht
    · cases ht
    · rename_i hx
      injection ht with _ h2
      subst h2
      simp [Qq,hne x (List.mem_cons_self ..) hx]
   |
    cons y k =>
    simp only [Qq,hl] at ht
    injection ht with _ h2
    have hll:Qq l=l:=by rw [hl]; exact h2
    have ih:=ih hll fun z hz=>hd z (List.mem_cons_of_mem _ hz)
    rw [List.map_cons]
    have hne2:l.map (· / g)≠[]:=by rw [←hll,hl]; simp
    cases hm:l.map (· / g) with
    | nil=>exact absurd hm hne2
    |
     cons u w =>
     rw [hm] at ih
     have e:Qq (x / g::u::w)=match Qq (u::w) with | []=>if x / g=0 then [] else [x / g] | y::k=>x / g::y::k:=rfl
     rw [e,ih]
theorem Crv.nml (k:Crv):Nml k.norm:=by
  have hg:=k.g_ne
  have hdv:∀ z∈k.d'::(Qq k.x++Qq k.y),k.g∣z:=fun z hz=>Int.dvd_of_emod_eq_zero (k.g_dvd z hz)
  have hx:=Tj (g:=k.g) (Xt k.x) hg fun z hz=>hdv z (by simp [hz])
  have hy:=Tj (g:=k.g) (Xt k.y) hg fun z hz=>hdv z (by simp [hz])
  refine ⟨Xt _,Xt _,?_,?_⟩
  · show 0<k.d' / k.g
    obtain ⟨q,hq⟩:=hdv k.d' (List.mem_cons_self ..)
    have h0:=k.d'_ne
    have hgc:=k.gcd_ne
    have e:k.d' / k.g=q:=by rw [hq,Int.mul_ediv_cancel_left _ hg]
    rw [e]
    unfold Crv.g at hq hg
    have hq0:q≠0:=fun e=>by rw [e,Int.mul_zero] at hq; exact h0 hq
    split at hq
    · rename_i hneg
      rcases Int.lt_or_gt_of_ne hq0 with h | h
      · have:=Int.mul_pos_of_neg_of_neg (a:=-((Xe (k.d'::(Qq k.x++Qq k.y)):Nat):Int)) (b:=q) (by omega) h
        omega
      · exact h
    · rename_i hneg
      rcases Int.lt_or_gt_of_ne hq0 with h | h
      · have:=Int.mul_neg_of_pos_of_neg (a:=((Xe (k.d'::(Qq k.x++Qq k.y)):Nat):Int)) (b:=q) (by omega) h
        omega
      · exact h
  · show Xe (k.d' / k.g::(Qq ((Qq k.x).map (· / k.g))++Qq ((Qq k.y).map (· / k.g))))=1
    rw [show Qq ((Qq k.x).map (· / k.g))=(Qq k.x).map (· / k.g) from hx,show Qq ((Qq k.y).map (· / k.g))=(Qq k.y).map (· / k.g) from hy,←List.map_append,←List.map_cons (f:=(· / k.g))]
    refine Qbs hg ?_
    unfold Crv.g
    split <;> omega
structure Pt where
  c:Crv
  id:Int
def Zt (p:Pt):List LV:=[pl p.c.x,pl p.c.y,sg p.c.d,mg p.c.d,.int .i64 p.id]
def pts (l:List Pt):LV:=.row (l.map Zt)
end Orr

namespace Orr
def Lc:List Pt→Int→Nat
  | [],_=>0
  | p::l,id=>if p.id<id then Lc l id+1 else 0
def has (l:List Pt) (id:Int):Bool:=match l[Lc l id]? with
  | some p=>decide (p.id=id)
  | none=>false
theorem Qsh (l:List Pt) (id:Int):Lc l id≤l.length:=by
  induction l with
  | nil=>exact Nat.le_refl _
  | cons p l ih=>simp only [Lc]; split <;> simp <;> omega
theorem Qh7:∀ {l:List Pt} {id:Int} {k:Nat},(∀ j p,j<k→l[j]? = some p→p.id<id)→(k=l.length∨∃ p,l[k]? = some p∧¬p.id<id)→Lc l id=k
  |
   [],id,k,_,h=>by
   rcases h with h | ⟨p,h,_⟩
   · subst h; rfl
   · simp at h
  |
   q::l,id,0,_,h=>by
   rcases h with h | ⟨p,h,h2⟩
   · simp at h
   · simp at h; subst h; simp [Lc,h2]
  |
   q::l,id,k+1,h1,h=>by
   have hq:=h1 0 q (by omega) rfl
   simp only [Lc,hq,if_true]
   rw [Qh7 (k:=k) (fun j p hj hp=>h1 (j+1) p (by omega) (by simpa using hp))]
   rcases h with h | ⟨p,h,h2⟩
   · left; simpa using h
   · right; exact ⟨p,by simpa using h,h2⟩
def put (l:List Pt) (q:Pt):List Pt:=l.take (Lc l q.id)++q::l.drop (Lc l q.id)
def Hw (l:List Pt) (q:Pt):Int:=if has l q.id=true then 6 else if 6≤l.length then 9 else 0
def Qgp (s n:Nat) (p:Pt):Prop:=Nml p.c∧Cs s n p.c
theorem Qww (l:List Pt) (q:Pt):(put l q).length=l.length+1:=by
  have:=Qsh l q.id
  simp [put]; omega
def Vn:List Pt→List Pt→List Pt×Int
  | acc,[]=>(acc,0)
  | acc,q::qs=>if Hw acc q=0 then Vn (put acc q) qs else ([],Hw acc q)
def Wi (a b:Crv):Bool:=decide (a.x=b.x∧a.y=b.y∧a.d=b.d)
def Jk (out:List Pt) (p:Pt):List Pt:=if out.any (fun q=>Wi p.c q.c)=true then out else out++[p]
def ways (l:List Pt):List Pt:=l.foldl Jk []
theorem Qn4 {out:List Pt} {p q:Pt} (h:q∈Jk out p):q∈out∨q=p:=by
  unfold Jk at h
  split at h
  · exact .inl h
  · rcases List.mem_append.1 h with h | h
    · exact .inl h
    · exact .inr (by simpa using h)
theorem Qn3 (out:List Pt) (p:Pt):(Jk out p).length≤out.length+1:=by
  unfold Jk; split <;> simp
theorem X1 {α β:Type} (f:β→α→β) (b:β) (l:List α) {i:Nat} {x:α} (h:l[i]? = some x):(l.take (i+1)).foldl f b=f ((l.take i).foldl f b) x:=by
  rw [List.take_add_one,h]; simp [List.foldl_append]
theorem S5 (l:List Pt) (i:Nat):∀ q∈(l.take i).foldl Jk [],q∈l:=by
  induction i with
  | zero=>simp
  |
   succ i ih =>
   intro q hq
   cases hi:l[i]? with
   |
    none =>
    rw [List.take_of_length_le (by have:=List.getElem?_eq_none_iff.1 hi; omega)] at hq
    rw [List.take_of_length_le (List.getElem?_eq_none_iff.1 hi)] at ih
    exact ih q hq
   |
    some x =>
    rw [X1 _ _ _ hi] at hq
    rcases Qn4 hq with h | h
    · exact ih q h
    · subst h; exact List.mem_of_getElem? hi
theorem S4 (l:List Pt) (i:Nat):((l.take i).foldl Jk []).length≤i:=by
  induction i with
  | zero=>simp
  |
   succ i ih =>
   cases hi:l[i]? with
   |
    none =>
    rw [List.take_of_length_le (by have:=List.getElem?_eq_none_iff.1 hi; omega)]
    rw [List.take_of_length_le (List.getElem?_eq_none_iff.1 hi)] at ih
    omega
   |
    some x =>
    rw [X1 _ _ _ hi]
    have:=Qn3 ((l.take i).foldl Jk []) x
    omega
theorem Yd {l:List Pt} {q:Pt} (h:q∈ways l):q∈l:=by
  have:=S5 l l.length q
  rw [List.take_length] at this
  exact this h
theorem Im (l:List Pt):(ways l).length≤l.length:=by
  have:=S4 l l.length
  rwa [List.take_length] at this
def IsPt (s n:Nat) (z:List LV) (q:Pt):Prop:=∃ lx ly b l px py d,z=[.row lx,.row ly,.bool b,Q4b l,.int .i64 q.id]∧IsInts lx px∧IsInts ly py∧Xg (.bool b) (Q4b l) d∧Cs s n ⟨px,py,d⟩∧q.c=Crv.norm ⟨px,py,d⟩
theorem Q0b {s n:Nat} {p:Pt} (h:Qgp s n p):IsPt s n (Zt p) p:=by
  obtain ⟨b,l,h1,h2,h3,h4⟩:=Qe p.c.d
  refine ⟨_,_,decide (p.c.d<0),Qw p.c.d.natAbs,_,_,p.c.d,rfl,Zs _,Zs _,Qe _,h.2,(Crv.norm_of h.1).symm⟩
def IsPts (s n:Nat):List (List LV)→List Pt→Prop
  | [],[]=>True
  | z::zs,q::qs=>IsPt s n z q∧IsPts s n zs qs
  | _,_=>False
theorem IsPts.len {s n:Nat}:∀ {zs:List (List LV)} {qs:List Pt},IsPts s n zs qs→zs.length=qs.length
  | [],[],_=>rfl
  | _::_,_::_,h=>by simp [h.2.len]
  | [],_::_,h=>h.elim
  | _::_,[],h=>h.elim
theorem IsPts.get {s n:Nat}:∀ {zs:List (List LV)} {qs:List Pt},IsPts s n zs qs→∀ {i:Nat} {q:Pt},qs[i]? = some q→∃ z,zs[i]? = some z∧IsPt s n z q
  | [],[],_,i,q,h=>by simp at h
  | z::zs,q::qs,h,0,r,hr=>by simp at hr; subst hr; exact ⟨z,rfl,h.1⟩
  | z::zs,q::qs,h,i+1,r,hr=>by simpa using h.2.get (i:=i) (by simpa using hr)
  | [],_::_,h,_,_,_=>h.elim
  | _::_,[],h,_,_,_=>h.elim
theorem Qbx {s n:Nat}:∀ {l:List Pt},(∀ p∈l,Qgp s n p)→IsPts s n (l.map Zt) l
  | [],_=>trivial
  | p::l,h=>⟨Q0b (h p (List.mem_cons_self ..)),Qbx fun q hq=>h q (List.mem_cons_of_mem _ hq)⟩
theorem IsPt.ok {s n:Nat} {z:List LV} {q:Pt} (h:IsPt s n z q) (h1:1≤s):Qgp s n q:=by
  obtain ⟨lx,ly,b,l,px,py,d,_,_,_,_,hc,e⟩:=h
  unfold Qgp
  rw [e]
  exact ⟨Crv.nml _,hc.norm h1⟩
theorem Qnm (acc qs:List Pt) {i:Nat} {q:Pt} (hi:qs[i]? = some q) (h:Vn acc (qs.take i)=((Vn acc (qs.take i)).1,0)):Vn acc (qs.take (i+1))=if Hw (Vn acc (qs.take i)).1 q=0 then (put (Vn acc (qs.take i)).1 q,0) else ([],Hw (Vn acc (qs.take i)).1 q):=by
  induction qs generalizing acc i with
  | nil=>simp at hi
  |
   cons x qs ih =>
   cases i with
   | zero=>simp at hi; subst hi; simp [Vn]
   |
    succ i =>
    simp only [List.take_succ_cons,Vn] at h ⊢
    by_cases h0:Hw acc x=0
    · simp only [h0,if_true] at h ⊢
      exact ih (put acc x) (by simpa using hi) h
    · simp only [h0,if_false] at h
      injection h with _ h
      exact absurd h h0
theorem Qrx (acc qs:List Pt) {i:Nat} {e:Int} (he:e≠0) (h:Vn acc (qs.take i)=([],e)):Vn acc qs=([],e):=by
  induction qs generalizing acc i with
  | nil=>simp [Vn] at h; exact absurd h.2.symm he
  |
   cons x qs ih =>
   cases i with
   | zero=>simp [Vn] at h; exact absurd h.2.symm he
   |
    succ i =>
    simp only [List.take_succ_cons,Vn] at h ⊢
    by_cases h0:Hw acc x=0
    · simp only [h0,if_true] at h ⊢; exact ih _ h
    · simp only [h0,if_false] at h ⊢; exact h
end Orr

namespace Orr
def Z9 (p:List Int) (q:Rat):Int:=Kv (Q0u p q.num q.den) 0
abbrev qa (q:Rat):List LV:=pl [-q.num,(q.den:Int)]::(rl q++rl q)
def Jw (sgn:List Int→Int):Nat→List Int→Int
  | 0,_=>0
  | k+1,p=>if p.length=0 then 0 else if sgn p=0 then Jw sgn k (Zu p) else sgn p
theorem Rj (sgn:List Int→Int):∀ (k:Nat) (p:List Int),p.length≤k→Jw sgn k p=Jw sgn p.length p
  |
   0,p,h=>by
   have:p.length=0:=by omega
   rw [this]
  |
   k+1,p,h=>by
   cases hp:p.length with
   | zero=>simp [Jw,hp]
   |
    succ m =>
    simp only [Jw]
    have h1:=Ky p
    rw [Rj sgn k (Zu p) (by omega),Rj sgn m (Zu p) (by omega)]
theorem Qed (sgn:List Int→Int) {p:List Int} (h:p.length=0):Jw sgn p.length p=0:=by rw [h]; rfl
theorem Qeb (sgn:List Int→Int) {p:List Int} (h:0<p.length) (hs:sgn p≠0):Jw sgn p.length p=sgn p:=by
  obtain ⟨m,hm⟩:∃ m,p.length=m+1:=⟨p.length-1,by omega⟩
  rw [hm]; simp only [Jw]; rw [if_neg (by omega),if_neg hs]
theorem Qec (sgn:List Int→Int) {p:List Int} (h:0<p.length) (hs:sgn p=0):Jw sgn p.length p=Jw sgn (Zu p).length (Zu p):=by
  obtain ⟨m,hm⟩:∃ m,p.length=m+1:=⟨p.length-1,by omega⟩
  rw [hm]; simp only [Jw]; rw [if_neg (by omega),if_pos hs]
  exact Rj sgn m _ (by have:=Ky p; omega)
structure Tm where
  p:List Int
  lo:Rat
  hi:Rat
abbrev ta (t:Tm):List LV:=pl t.p::(rl t.lo++rl t.hi)
abbrev tq (q:Rat):Tm:=⟨[-q.num,(q.den:Int)],q,q⟩
def X5 (sg:List Int→Int) (p:List Int):Int:=Jw sg p.length p
structure Pb (p:List Int):Prop where
  t:Qm p
  l:p.length≤64
  b:Bd 16777216 p
abbrev Qb (q:Rat):Prop:=Qs 16777216 q
abbrev Cb (k:Crv):Prop:=Cs 1048576 16 k
def Jd (a b:Crv):List Int:=Wd (Zp b.x a.d) (Zp a.x b.d)
def Jg (a b:Crv):List Int:=Wd (Zp b.y a.d) (Zp a.y b.d)
def Hk (sg:List Int→Int) (a b:Pt):List (List Int)→Bool
  | []=>decide (a.id<b.id)
  | p::l=>if 0<p.length then decide (0<X5 sg p) else Hk sg a b l
def Xu (sg:List Int→Int) (a b:Pt):Bool:=Hk sg a b [Jd a.c b.c,Jg a.c b.c]
end Orr

namespace Orr
open Go
structure Ct where
  kind:Int
  i0:Int
  i1:Int
  i2:Int
  i3:Int
  p:List Int
  want:Int
abbrev Pn (c:Ct):List LV:=[.int .i64 c.kind,.int .i64 c.i0,.int .i64 c.i1,.int .i64 c.i2,.int .i64 c.i3,pl c.p,.int .i64 c.want]
def Rf (p q:List Int):List Int:=if 0<p.length then p else q
def Ka:List Int→List Int→Bool
  | x::l,y::m=>if x=y then Ka l m else decide (x<y)
  | _,_=>false
def Qeq (a b:Ct):Bool:=Ka [a.kind,a.i0,a.i1,a.i2,a.i3] [b.kind,b.i0,b.i1,b.i2,b.i3]
def R7 (out:List Ct) (c:Ct):Nat→Nat
  | 0=>0
  |
   k+1=>match out[k]? with
   | some x=>if Qeq c x=true then R7 out c k else k+1
   | none=>k+1
theorem Qlr (out:List Ct) (c:Ct):∀ k,R7 out c k≤k
  | 0=>Nat.le_refl _
  |
   k+1=>by
   simp only [R7]
   split
   · split
     · exact Nat.le_succ_of_le (Qlr out c k)
     · exact Nat.le_refl _
   · exact Nat.le_refl _
theorem Qwo {out:List Ct} {c x:Ct} {k:Nat} (hx:out[k]? = some x) (h:Qeq c x=true):R7 out c (k+1)=R7 out c k:=by
  simp only [R7,hx,h,if_true]
theorem Qsg {out:List Ct} {c x:Ct} {k:Nat} (hx:out[k]? = some x) (h:Qeq c x=false):R7 out c (k+1)=k+1:=by
  simp [R7,hx,h]
def Pg (out:List Ct) (c:Ct):List Ct:=out.take (R7 out c out.length)++c::out.drop (R7 out c out.length)
theorem Qrc (out:List Ct) (c:Ct):(Pg out c).length=out.length+1:=by
  have:=Qlr out c out.length
  simp [Pg]; omega
theorem Qrd {out:List Ct} {c x:Ct} (h:x∈Pg out c):x=c∨x∈out:=by
  simp only [Pg,List.mem_append,List.mem_cons] at h
  rcases h with h | h | h
  · exact .inr (List.mem_of_mem_take h)
  · exact .inl h
  · exact .inr (List.mem_of_mem_drop h)
def Z3 (l:List Ct):List Ct:=l.foldl Pg []
theorem Qir (l:List Ct) (c:Ct):Z3 (l++[c])=Pg (Z3 l) c:=by simp [Z3,List.foldl_append]
theorem Qis {l:List Ct} {i:Nat} {c:Ct} (h:l[i]? = some c):Z3 (l.take (i+1))=Pg (Z3 (l.take i)) c:=by
  rw [List.take_succ,h]; exact Qir _ _
theorem Oo:∀ (l acc:List Ct),(l.foldl Pg acc).length=acc.length+l.length
  | [],acc=>by simp
  | c::l,acc=>by simp only [List.foldl_cons]; rw [Oo l (Pg acc c),Qrc]; simp; omega
theorem Gp (l:List Ct):(Z3 l).length=l.length:=by unfold Z3; rw [Oo]; simp
theorem Oq:∀ (l acc:List Ct) {x:Ct},x∈l.foldl Pg acc→x∈l∨x∈acc
  | [],acc,x,h=>.inr h
  |
   c::l,acc,x,h=>by
   simp only [List.foldl_cons] at h
   rcases Oq l _ h with h | h
   · exact .inl (List.mem_cons_of_mem _ h)
   · rcases Qrd h with rfl | h
     · exact .inl (List.mem_cons_self ..)
     · exact .inr h
theorem Ca {l:List Ct} {x:Ct} (h:x∈Z3 l):x∈l:=by
  rcases Oq l [] h with h | h
  · exact h
  · cases h
theorem Qek {α:Type} (l:List α) (z x:α) {k m':Nat} (hk:k≤l.length) (hm:m'=l.length-k) :
    ((l++[z]).take (k+1)++((l++[z]).drop k).take m'++(l++[z]).drop (k+1+m')).set k x=l.take k++x::l.drop k:=by
  subst hm
  have e1:((l++[z]).drop k).take (l.length-k)=l.drop k:=by
    rw [List.drop_append_of_le_length hk,List.take_append_of_le_length (by simp),List.take_of_length_le (by simp)]
  have e2:(l++[z]).drop (k+1+(l.length-k))=[]:=List.drop_eq_nil_of_le (by simp; omega)
  rw [e1,e2,List.append_nil]
  have e3:(l++[z]).take (k+1)=(l++[z]).take k++[(l++[z])[k]'(by simp; omega)]:=by rw [List.take_succ_eq_append_getElem]
  rw [e3,List.take_append_of_le_length hk,List.append_assoc,List.set_append,if_neg (by simp; omega)]
  simp [Nat.min_eq_left hk]
def Fl (a b:Pt):List Int:=Rf (Jd a.c b.c) (Jg a.c b.c)
def Tx (sg:List Int→Int) (a b:Pt):Ct:={ kind:=1,i0:=a.id,i1:=b.id,i2:=0,i3:=0,p:=Fl a b,want:=X5 sg (Fl a b) }
end Orr

namespace Orr
open Go Go.Proofs
set_option maxRecDepth 10000
abbrev pr (p:List Int):TV:=.one (pl p)
theorem Jy {p:List Int} {i:Nat} {z:Int} (h:p[i]? = some z):(p.map Z0)[i]? = some (Z0 z):=J0 h
theorem Ed (p:List Int):Qg Tryz.prog 76 [pr p] [pr (Qq p)]:=by
  refine X4 Tryz.func76 rfl (ln 0 rfl rfl fun hl=>?_)
  rw [List.length_map] at hl
  refine go tt [] rfl trivial ?_
  refine lp (S:=Nat) 0 (fun L1 n=>(3,.v (.one (.int .i64 (n:Int))))::L1) (fun _=>[]) id (fun n=>n≤p.length∧∀ j x,n≤j→p[j]? = some x→x=0) (p.map Z0).length ⟨by simp,fun j x h1 h2=>by
    have:=(List.getElem?_eq_some_iff.1 h2).1; simp at h1; omega⟩ rfl (fun _ _=>rfl) rfl fun n ⟨h1,h2⟩=>?_
  cases n with
  | zero=>exact en tt [.f (by simp),.f rfl,.i 0] rfl (by rw [Qf8 h1 h2 (fun h=>by omega)]; simp [pl]) (by simp [Qa])
  |
   succ n =>
   obtain ⟨x,hx⟩:∃ x,p[n]? = some x:=⟨_,List.getElem?_eq_getElem (by omega)⟩
   by_cases h0:x=0
   · refine go tt [.t (by simp),.r 11 (v:=.one (.int .i64 (n:Int))) (by simp),.x (Jy hx),.c [] Fc,.t (by simp [h0]),.r 17 (v:=.one (.int .i64 (n:Int))) (by simp)] rfl (by simp [Qa]; omega) ?_
     exact rd n (by simp) ⟨by omega,fun j y h3 h4=>by
         rcases Nat.eq_or_lt_of_le h3 with rfl | h3
         · rw [hx] at h4; injection h4 with h4; rw [←h4,h0]
         · exact h2 j y h3 h4⟩ rfl
   · exact en tt [.t (by simp),.r 11 (v:=.one (.int .i64 (n:Int))) (by simp),.x (Jy hx),.c [] Fc,.f (by simp [h0]),.i (n+1)] rfl (by rw [Qf8 h1 h2 (fun _=>⟨x,hx,h0⟩)]; simp [pl,List.map_take]) (by simp [Qa] <;> omega)
theorem Qjv (p:List Int) (k:Nat):Qg Tryz.prog 112 [pr p,.one (.int .i64 (k:Int))] [.agg (Z0 (p.getD k 0))]:=by
  by_cases h:k<p.length
  · have hx:=List.getElem?_eq_getElem h
    have e:p.getD k 0=p[k]:=by simp [List.getD,hx]
    rw [e]
    exact w tt Tryz.func112 rfl [.t (by simp; omega),.x (Jy hx)] rfl rfl trivial
  · have e:p.getD k 0=0:=by simp [List.getD,List.getElem?_eq_none (Nat.le_of_not_lt h)]
    rw [e,Gf]
    exact w tt Tryz.func112 rfl [.f (by simp; omega)] rfl rfl trivial
def Io (f:Nat→List LV) (z:List LV) (n k:Nat):List (List LV):=(List.range n).map fun i=>if i<k then f i else z
theorem U4 (f:Nat→List LV) (z:List LV) (n k:Nat):(Io f z n k).length=n:=by simp [Io]
theorem Uj (f:Nat→List LV) (z:List LV) (n:Nat):List.replicate n z=Io f z n 0:=by
  refine List.ext_getElem? fun i=>?_
  simp only [Io,List.getElem?_replicate,List.getElem?_map]
  by_cases h:i<n
  · simp [h]
  · simp [h]
theorem G8 (f:Nat→List LV) (z:List LV) (n:Nat):Io f z n n=(List.range n).map f:=by
  refine List.map_congr_left fun i hi=>?_
  rw [if_pos (List.mem_range.1 hi)]
theorem G9 (f:Nat→List LV) (z:List LV) {n k:Nat} (h:k<n):(Io f z n k).set k (f k)=Io f z n (k+1):=by
  refine List.ext_getElem? fun i=>?_
  rw [List.getElem?_set]
  simp only [Io,List.getElem?_map,List.length_map,List.length_range,h,if_true]
  by_cases e:k=i
  · subst e; simp [h]
  · simp only [e,if_false]
    by_cases hi:i<n
    · simp only [List.getElem?_range hi,Option.map_some]
      congr 1
      by_cases h2:i<k
      · rw [if_pos h2,if_pos (by omega)]
      · rw [if_neg h2,if_neg (by omega)]
    · simp [List.getElem?_eq_none,hi]
theorem Qbb {n fid:Nat} {l1 l2:List LV} {g:Nat→Int} (hn:n<274877906944) (h:∀ k,k<n→Qg Tryz.prog fid [.one (.int .i64 (k:Int)),.one (.sh l1),.one (.sh l2)] [.agg (Z0 (g k))]):Qg Tryz.prog 109 [.one (.int .i64 (n:Int)),.one (.fn fid [] [.sh l1,.sh l2])] [pr (Di n g)]:=by
  refine X4 Tryz.func109 rfl ?_
  refine go tt [.i n,.i n,.r 10 (eI (b:=(n:Int)) (by simp))] rfl (by simp [Qa]; omega) ?_
  rw [Uj fun k=>Z0 (g k)]
  refine lp (S:=Nat) 1 (fun L1 k=>(11,.v (.one (.int .i64 (k:Int))))::L1) (fun k=>[.row false 29 2 (Io (fun k=>Z0 (g k)) [.bool false,.nils] n k)]) (fun k=>n-k) (fun k=>k≤n) 0 (Nat.zero_le _) rfl (fun _ _=>rfl) rfl fun k hk=>?_
  by_cases hlt:k<n
  · refine go tt [.t (by simp; omega),.c [] (h k hlt),.i k] rfl (by simp [Qa,U4]; omega) ?_
    have e:=G9 (fun k=>Z0 (g k)) [.bool false,.nils] hlt
    rw [e]
    exact rd (k+1) (by omega) hlt rfl
  · obtain rfl:k=n:=by omega
    have e:Io (fun k=>Z0 (g k)) [.bool false,.nils] k k=((List.range k).map g).map Z0:=by rw [G8]; simp
    rw [e]
    exact en tt [.f (by simp),.c [] (Ed _)] rfl rfl trivial
theorem Qjt {n fid:Nat} {l1:List LV} {g:Nat→Int} (hn:n<274877906944) (h:∀ k,k<n→Qg Tryz.prog fid [.one (.int .i64 (k:Int)),.one (.sh l1)] [.agg (Z0 (g k))]):Qg Tryz.prog 109 [.one (.int .i64 (n:Int)),.one (.fn fid [] [.sh l1])] [pr (Di n g)]:=by
  refine X4 Tryz.func109 rfl ?_
  refine go tt [.i n,.i n,.r 10 (eI (b:=(n:Int)) (by simp))] rfl (by simp [Qa]; omega) ?_
  rw [Uj fun k=>Z0 (g k)]
  refine lp (S:=Nat) 1 (fun L1 k=>(11,.v (.one (.int .i64 (k:Int))))::L1) (fun k=>[.row false 29 2 (Io (fun k=>Z0 (g k)) [.bool false,.nils] n k)]) (fun k=>n-k) (fun k=>k≤n) 0 (Nat.zero_le _) rfl (fun _ _=>rfl) rfl fun k hk=>?_
  by_cases hlt:k<n
  · refine go tt [.t (by simp; omega),.c [] (h k hlt),.i k] rfl (by simp [Qa,U4]; omega) ?_
    have e:=G9 (fun k=>Z0 (g k)) [.bool false,.nils] hlt
    rw [e]
    exact rd (k+1) (by omega) hlt rfl
  · obtain rfl:k=n:=by omega
    have e:Io (fun k=>Z0 (g k)) [.bool false,.nils] k k=((List.range k).map g).map Z0:=by rw [G8]; simp
    rw [e]
    exact en tt [.f (by simp),.c [] (Ed _)] rfl rfl trivial
theorem Qzc {p q:List Int} (k:Nat) (hp:Bd 4294967295 p) (hq:Bd 4294967295 q):Qg Tryz.prog 110 [.one (.int .i64 (k:Int)),.one (.sh [pl p]),.one (.sh [pl q])] [.agg (Z0 (p.getD k 0+q.getD k 0))] :=
  w tt Tryz.func110 rfl [.c [] (Qjv p k),.c [] (Qjv q k),.c [] (S7 (Qe _) (Qe _) (Q7 hp k) (Q7 hq k))] rfl rfl trivial
theorem Qzj {p q:List Int} (k:Nat) (hp:Bd 4294967295 p) (hq:Bd 4294967295 q):Qg Tryz.prog 233 [.one (.int .i64 (k:Int)),.one (.sh [pl p]),.one (.sh [pl q])] [.agg (Z0 (p.getD k 0-q.getD k 0))] :=
  w tt Tryz.func233 rfl [.c [] (Qjv p k),.c [] (Qjv q k),.c [] (Qpb (Qe _) (Qe _) (Q7 hp k) (Q7 hq k))] rfl rfl trivial
theorem Xo {p:List Int} {k:Nat} (h:k<p.length):p[k]? = some (p.getD k 0):=by simp [List.getD,List.getElem?_eq_getElem h]
theorem Qo6 {p:List Int} {c:Int} {k:Nat} (hk:k<p.length) (hp:Bd 4294967295 p) (hc:Qt c≤4294967295):Qg Tryz.prog 214 [.one (.int .i64 (k:Int)),.one (.sh [pl p]),.one (.sh (Z0 c))] [.agg (Z0 (p.getD k 0*c))] :=
  w tt Tryz.func214 rfl [.x (Jy (Xo hk)),.c [] (Fb (Qe _) (Qe _) (Q7 hp k) hc)] rfl rfl trivial
theorem Qzh {p:List Int} {k:Nat} (hk:k<p.length) (hp:Bd 4294967295 p):Qg Tryz.prog 299 [.one (.int .i64 (k:Int)),.one (.sh [pl p])] [.agg (Z0 (-(p.getD k 0)))] :=
  w tt Tryz.func299 rfl [.x (Jy (Xo hk)),.c [] (L6 (Qe _) (Q7 hp k))] rfl rfl trivial
theorem Qmr {p:List Int} {k:Nat} (hk:k+1<p.length) (hl:p.length<274877906944) (hp:Bd 4294967295 p):Qg Tryz.prog 269 [.one (.int .i64 (k:Int)),.one (.sh [pl p])] [.agg (Z0 (p.getD (k+1) 0*((k+1:Nat):Int)))] :=
  w tt Tryz.func269 rfl [.x (Jy (Xo hk)),.r 10 (eI (b:=((k+1:Nat):Int)) (by omega)),.c [] (Qg3 (by omega)),.c [] (Fb (Qe _) (Qe _) (Q7 hp _) (Qnf (show k+1<274877906944 by omega)))] rfl rfl (by simp [Qa] <;> omega)
theorem Qg4 {p q:List Int} (hlp:p.length<274877906944) (hlq:q.length<274877906944) (hp:Bd 4294967295 p) (hq:Bd 4294967295 q):Qg Tryz.prog 66 [pr p,pr q] [pr (Hj p q)] :=
  w tt Tryz.func66 rfl [.r 9 (eI (b:=((max p.length q.length:Nat):Int)) (by simp; omega)),.c [] (Qbb (by omega) fun k _=>Qzc k hp hq)] rfl rfl trivial
theorem L9 {p q:List Int} (hlp:p.length<274877906944) (hlq:q.length<274877906944) (hp:Bd 4294967295 p) (hq:Bd 4294967295 q):Qg Tryz.prog 184 [pr p,pr q] [pr (Wd p q)] :=
  w tt Tryz.func184 rfl [.r 9 (eI (b:=((max p.length q.length:Nat):Int)) (by simp; omega)),.c [] (Qbb (by omega) fun k _=>Qzj k hp hq)] rfl rfl trivial
theorem Qoz {p:List Int} (hlp:p.length<274877906944) (hp:Bd 4294967295 p):Qg Tryz.prog 272 [pr p] [pr (Uw p)] :=
  w tt Tryz.func272 rfl [.r 4 (eI (b:=(p.length:Int)) (by simp)),.c [] (Qjt hlp fun k hk=>Qzh hk hp)] rfl rfl trivial
theorem Fv {p:List Int} {c:Int} (hlp:p.length<274877906944) (hp:Bd 4294967295 p) (hc:Qt c≤4294967295):Qg Tryz.prog 159 [pr p,.agg (Z0 c)] [pr (Zp p c)] :=
  w tt Tryz.func159 rfl [.r 6 (eI (b:=(p.length:Int)) (by simp)),.c [] (Qbb hlp fun k hk=>Qo6 hk hp hc)] rfl rfl trivial
theorem Fu {p:List Int} (hlp:p.length<274877906944) (hp:Bd 4294967295 p):Qg Tryz.prog 229 [pr p] [pr (Zu p)] :=
  w tt Tryz.func229 rfl [.r 6 (eI (b:=((p.length-1:Nat):Int)) (by simp; omega)),.c [] (Qjt (by omega) fun k hk=>Qmr (by omega) hlp hp)] rfl rfl (by simp [Qa]; omega)
theorem Wo {ls:List (List LV)} {p:List Int} (hi:IsInts ls p) (hl:p.length<274877906944) (hs:Bd 4294967295 p):Qg Tryz.prog 115 [.one (.row ls)] [pr (Qq p)]:=by
  refine X4 Tryz.func115 rfl ?_
  have hlen:=hi.len
  refine go tt [.i ls.length,.i ls.length] rfl (by simp [Qa]; omega) ?_
  rw [Uj fun k=>Z0 (p.getD k 0)]
  refine lp (S:=Nat) 1 (fun L1 k=>(11,.v (.one (.int .i64 (k:Int))))::L1) (fun k=>[.row false 29 2 (Io (fun k=>Z0 (p.getD k 0)) [.bool false,.nils] ls.length k)]) (fun k=>ls.length-k) (fun k=>k≤ls.length) 0 (Nat.zero_le _) rfl (fun _ _=>rfl) rfl fun k hk=>?_
  by_cases hlt:k<ls.length
  · obtain ⟨x,y,hx,hxy⟩:=hi.get (Xo (p:=p) (k:=k) (by omega))
    have cn:=Wp hxy (Q7 hs k)
    obtain ⟨b,l,rfl,rfl,_⟩:=hxy
    refine go tt [.t (by simp; omega),.x hx,.c [] cn,.i k] rfl (by simp [Qa,U4]; omega) ?_
    have e:=G9 (fun k=>Z0 (p.getD k 0)) [.bool false,.nils] hlt
    rw [e]
    exact rd (k+1) (by omega) hlt rfl
  · obtain rfl:k=ls.length:=by omega
    have e:Io (fun k=>Z0 (p.getD k 0)) [.bool false,.nils] ls.length ls.length=p.map Z0:=by
      rw [G8,hlen]
      refine List.ext_getElem? fun i=>?_
      by_cases hi:i<p.length
      · simp [List.getElem?_range hi,List.getD,List.getElem?_eq_getElem hi]
      · simp [List.getElem?_eq_none,hi]
    rw [e]
    exact en tt [.f (by simp),.c [] (Ed _)] rfl rfl trivial
theorem Zx {p:List Int} (ht:Qm p) (hl:p.length<274877906944) (hs:Bd 4294967295 p):Qg Tryz.prog 115 [pr p] [pr p]:=by
  have:=Wo (Zs p) hl hs
  rw [ht] at this; exact this
theorem Qvx {p:List Int} {i:Nat} {z:Int} (h:p[i]? = some z):(p.map fun (x:Int)=>[LV.int .i64 x])[i]? = some [.int .i64 z]:=J0 h
theorem I6 {p:List Int} (hl:p.length<274877906944) (hr:∀ z∈p,-9223372036854775808≤z∧z≤9223372036854775807):Qg Tryz.prog 18 [.one (ids p)] [pr (Qq p)]:=by
  refine X4 Tryz.func18 rfl ?_
  refine go tt [.r 7 (eI (b:=(p.length:Int)) (by simp)),.i p.length,.i p.length,.r 10 (eI (b:=(p.length:Int)) (by simp))] rfl (by simp [Qa]; omega) ?_
  rw [Uj fun k=>Z0 (p.getD k 0)]
  refine lp (S:=Nat) 1 (fun L1 k=>(11,.v (.one (.int .i64 (k:Int))))::L1) (fun k=>[.row false 29 2 (Io (fun k=>Z0 (p.getD k 0)) [.bool false,.nils] p.length k)]) (fun k=>p.length-k) (fun k=>k≤p.length) 0 (Nat.zero_le _) rfl (fun _ _=>rfl) rfl fun k hk=>?_
  by_cases hlt:k<p.length
  · have hg:=Xo hlt
    refine go tt [.t (by simp; omega),.x (Qvx hg),.c [] (Qg3 (hr _ (List.mem_of_getElem? hg))),.i k] rfl (by simp [Qa,U4]; omega) ?_
    have e:=G9 (fun k=>Z0 (p.getD k 0)) [.bool false,.nils] hlt
    rw [e]
    exact rd (k+1) (by omega) hlt rfl
  · obtain rfl:k=p.length:=by omega
    have e:Io (fun k=>Z0 (p.getD k 0)) [.bool false,.nils] p.length p.length=p.map Z0:=by
      rw [G8]
      refine List.ext_getElem? fun i=>?_
      by_cases hi:i<p.length
      · simp [List.getElem?_range hi,List.getD,List.getElem?_eq_getElem hi]
      · simp [List.getElem?_eq_none,hi]
    rw [e]
    exact en tt [.f (by simp),.c [] (Ed _)] rfl rfl trivial
end Orr

namespace Orr
open Go Go.Proofs
set_option maxRecDepth 10000
theorem Qh5 (l:List Int) (i:Nat) (z:Int):(l.map Z0).set i (Z0 z)=(l.set i z).map Z0:=by rw [List.map_set]
theorem Li (m:Nat):((List.replicate m [LV.bool false,LV.nils]).map fun c=>c.map Aw)=(List.replicate m (0:Int)).map Z0:=by
  simp [Gf,Aw]
theorem Qa4 {p0 q:List Int} {s t:Nat} (tq:Qm q) (hlp:p0.length<137438953472) (hlq:q.length<137438953472) (hp:Bd s p0) (hq:Bd t q) (hst:s+t≤4294967000):Qg Tryz.prog 213 [pr p0,pr q] [pr (Zo (Qq p0) q)]:=by
  have cp:=Wo (Zs p0) (by omega) (Qc hp (show s≤4294967295 by omega))
  have hp:=Jf hp
  have hlp:=Nat.lt_of_le_of_lt (Xd p0) hlp
  obtain ⟨p,ep⟩:∃ p,p=Qq p0:=⟨_,rfl⟩
  rw [←ep] at cp hp hlp ⊢
  have cq:=Zx tq (by omega) (Qc hq (show t≤4294967295 by omega))
  by_cases h0:p.length=0
  · have e:Zo p q=[]:=by unfold Zo; rw [if_pos (.inl h0)]
    rw [e]
    exact w tt Tryz.func213 rfl [.c [] cp,.c [] cq,.t (by simp; exact List.eq_nil_of_length_eq_zero h0),.t rfl] rfl rfl trivial
  by_cases h1:q.length=0
  · have e:Zo p q=[]:=by unfold Zo; rw [if_pos (.inr h1)]
    rw [e]
    exact w tt Tryz.func213 rfl [.c [] cp,.c [] cq,.f (by simp; intro h; subst h; simp at h0),.t (by simp; exact List.eq_nil_of_length_eq_zero h1)] rfl rfl trivial
  refine X4 Tryz.func213 rfl ?_
  have e:Zo p q=Qq (Pi p q (List.replicate (p.length+q.length-1) 0) p.length):=by unfold Zo; rw [if_neg (by omega)]
  rw [e]
  obtain ⟨N,hN⟩:∃ N,N=p.length+q.length-1:=⟨_,rfl⟩
  rw [←hN]
  obtain ⟨o,ho⟩:∃ o,o=List.replicate N (0:Int):=⟨_,rfl⟩
  rw [←ho]
  have hol:o.length=N:=by rw [ho]; simp
  have ho0:∀ m,o.getD m 0=0:=fun m=>by rw [ho]; exact Uk N m
  refine go tt [.c [] cp,.c [] cq,.f (by simp; intro h; subst h; simp at h0),.f (by simp; intro h; subst h; simp at h1),.r 27 (eI (b:=(N:Int)) (by simp; omega)),.i N,.i N] rfl (by simp [Qa]; omega) ?_
  refine nl 0 rfl rfl rfl ?_
  rw [Li,←ho]
  refine lp (S:=Nat) 1 (fun L1 i=>(31,.v (.one (.int .i64 (i:Int))))::L1) (fun i=>[.row false 29 2 ((Pi p q o i).map Z0)]) (fun i=>p.length-i) (fun i=>i≤p.length) 0 (Nat.zero_le _) rfl (fun _ _=>rfl) rfl fun i hi=>?_
  by_cases hlt:i<p.length
  · refine go tt [.t (by simp; omega),.x (Jy (Xo hlt))] rfl trivial ?_
    refine lp (S:=Nat) 2 (fun L1 k=>(38,.v (.one (.int .i64 (k:Int))))::L1) (fun k=>[.row false 29 2 ((Pj (p.getD i 0) q i (Pi p q o i) k).map Z0),.blk 29 (Z0 (p.getD i 0))]) (fun k=>q.length-k) (fun k=>k≤q.length) 0 (Nat.zero_le _) rfl (fun _ _=>rfl) rfl fun k hk=>?_
    by_cases hk2:k<q.length
    · have hm1:Qt ((Pj (p.getD i 0) q i (Pi p q o i) k).getD (i+k) 0)≤4294967295:=Nat.le_trans (Sv (t:=39) (Qld (by rw [Ge]; omega) (Qlc (fun j hj=>by omega) ho0 (fun i j=>Fj (Q7 hp i) (Q7 hq j))) (fun j=>Fj (Q7 hp i) (Q7 hq j)) (i+k)) (Nat.lt_of_lt_of_eq (show i+1<549755813888 by omega) (by decide))) (by omega)
      have hm2:Qt (p.getD i 0*q.getD k 0)≤4294967295:=Nat.le_trans (Xa _ _) (by have:=Q7 hp i; have:=Q7 hq k; omega)
      have hg:(Pj (p.getD i 0) q i (Pi p q o i) k)[i+k]? = some ((Pj (p.getD i 0) q i (Pi p q o i) k).getD (i+k) 0):=Xo (by rw [Rv,Ge]; omega)
      refine go tt [.t (by simp; omega),.x (Jy (Xo hk2)),.i (i+k),.x (Jy hg),.c [] (Fb (Qe _) (Qe _) (Nat.le_trans (Q7 hp i) (by omega)) (Nat.le_trans (Q7 hq k) (by omega))),.c [] (S7 (Qe _) (Qe _) hm1 hm2),.i (i+k)] rfl (by simp [Qa,Rv,Ge] <;> omega) ?_
      rw [Qh5]
      exact rd (k+1) (by omega) hk2 rfl
    · obtain rfl:k=q.length:=by omega
      exact go tt [.f (by simp)] rfl (by simp [Qa]; omega) (rd (i+1) (by omega) hlt rfl)
  · obtain rfl:i=p.length:=by omega
    exact en tt [.f (by simp),.c [] (Ed _)] rfl rfl trivial
theorem Qoy {p q:List Int} {s t:Nat} (tp:Qm p) (tq:Qm q) (hlp:p.length<137438953472) (hlq:q.length<137438953472) (hp:Bd s p) (hq:Bd t q) (hst:s+t≤4294967000):Qg Tryz.prog 213 [pr p,pr q] [pr (Zo p q)]:=by
  have h:=Qa4 tq hlp hlq hp hq hst
  rw [show Qq p=p from tp] at h
  exact h
theorem Qa5 {p q:List Int} (hlp:p.length<274877906944) (hlq:q.length<274877906944) (hp:Bd 4294967295 p) (hq:Bd 4294967295 q):Qg Tryz.prog 224 [pr p,pr q] [.one (.bool (decide (Qq p=Qq q)))]:=by
  refine X4 Tryz.func224 rfl ?_
  have cp:=Wo (Zs p) hlp hp
  have cq:=Wo (Zs q) hlq hq
  have bp:=Jf hp
  have bq:=Jf hq
  have l1:=Xd p
  have l2:=Xd q
  obtain ⟨a,ha⟩:∃ a,a=Qq p:=⟨_,rfl⟩
  obtain ⟨b,hb⟩:∃ b,b=Qq q:=⟨_,rfl⟩
  rw [←ha] at cp bp l1 ⊢
  rw [←hb] at cq bq l2 ⊢
  by_cases hl:a.length=b.length
  · refine go tt [.c [] cp,.c [] cq,.f (by simp; omega)] rfl trivial ?_
    refine lp (S:=Nat) 0 (fun L1 i=>(18,.v (.one (.int .i64 (i:Int))))::L1) (fun _=>[]) (fun i=>a.length-i) (fun i=>i≤a.length∧a.take i=b.take i) 0 ⟨Nat.zero_le _,rfl⟩ rfl (fun _ _=>rfl) rfl fun i ⟨hi,he⟩=>?_
    by_cases hlt:i<a.length
    · have ga:=Xo hlt
      have gb:=Xo (p:=b) (k:=i) (by omega)
      have cc:=Nw (Qe (a.getD i 0)) (Qe (b.getD i 0)) (Q7 bp i) (Q7 bq i)
      by_cases hz:a.getD i 0=b.getD i 0
      · refine go tt [.t (by simp; omega),.x (Jy ga),.x (Jy gb),.c [] cc,.f (by simpa using Qbe.2 hz)] rfl (by simp [Qa]; omega) ?_
        exact rd (i+1) (by omega) ⟨hlt,by rw [List.take_add_one,List.take_add_one,he,ga,gb,hz]⟩ rfl
      · exact en tt [.t (by simp; omega),.x (Jy ga),.x (Jy gb),.c [] cc,.t (by have:=mt Qbe.1 hz; simpa using this)] rfl (by rw [decide_eq_false]; intro h; exact hz (by rw [h])) trivial
    · obtain rfl:i=a.length:=by omega
      rw [List.take_length,hl,List.take_length] at he
      exact en tt [.f (by simp)] rfl (by rw [decide_eq_true he]) trivial
  · exact en tt [.c [] cp,.c [] cq,.t (by simp; omega)] rfl (by rw [decide_eq_false]; intro h; exact hl (by rw [h])) trivial
theorem Qo1 {p:List Int} {n d:Int} {s t:Nat} (hl:p.length<274877906944) (hp:Bd s p) (hn:Qt n≤t) (hd:Qt d≤t) (hst:s+p.length*(t+1)+2*t+10≤4294967295):Qg Tryz.prog 240 [pr p,.agg (Z0 n),.agg (Z0 d)] [.agg (Z0 (Q0u p n d))]:=by
  refine X4 Tryz.func240 rfl ?_
  refine go tt [.c [] (Qg3 (z:=1) (by decide)),.r 13 (eI (b:=(p.length:Int)-1-((0:Nat):Int)) (by simp))] rfl (by simp [Qa]; omega) ?_
  refine nlb 3 rfl rfl rfl ?_
  have e0:[LV.bool false,LV.nils].map Aw=Z0 (Wg p n d 0).1:=by simp [Aw,Wg,Gf]
  rw [e0]
  refine lp (S:=Nat) 5 (fun L1 j=>(9,.v (.one (.int .i64 ((p.length:Int)-1-(j:Int)))))::L1) (fun j=>[.blk 29 (Z0 n),.blk 29 (Z0 d),.blk 29 [.bool false,.nils],.blk 29 (Z0 (Wg p n d j).1),.blk 29 (Z0 (Wg p n d j).2)]) (fun j=>p.length-j) (fun j=>j≤p.length) 0 (Nat.zero_le _) rfl (fun _ _=>rfl) rfl fun j hj=>?_
  have hv:=Qmh (k:=j) hp hn hd
  have hjl:j*(t+1)≤p.length*(t+1):=Nat.mul_le_mul_right _ (by omega)
  have hjl2:j*t≤j*(t+1):=Nat.mul_le_mul_left _ (by omega)
  by_cases hlt:j<p.length
  · have hc:=Q7 hp (p.length-1-j)
    have hm1:Qt ((Wg p n d j).1*n)≤4294967295:=Nat.le_trans (Xa _ _) (by omega)
    have hm2:Qt (p.getD (p.length-1-j) 0*(Wg p n d j).2)≤4294967295:=Nat.le_trans (Xa _ _) (by omega)
    refine go tt [.t (by simp; omega),.c [] (Fb (Qe _) (Qe _) (by omega) (by omega)),.r 22 (eI (b:=((p.length-1-j:Nat):Int)) (by omega)),.x (Jy (Xo (p:=p) (k:=p.length-1-j) (by omega))),.c [] (Fb (Qe _) (Qe _) (by omega) (by omega)),.c [] (S7 (Qe _) (Qe _) hm1 hm2),.c [] (Fb (Qe _) (Qe _) (by omega) (by omega)),.r 17 (eI (b:=(p.length:Int)-1-((j+1:Nat):Int)) (by omega))] rfl (by simp [Qa] <;> omega) ?_
    exact rd (j+1) (by omega) hlt rfl
  · obtain rfl:j=p.length:=by omega
    exact en tt [.f (by simp; omega)] rfl rfl trivial
theorem Kj {p:List Int} (tp:Qm p) (hl:p.length<274877906944) (hp:Bd 4294967295 p):Qg Tryz.prog 295 [pr p] [.agg (Z0 (p.getD (p.length-1) 0))]:=by
  have cn:=Zx tp hl hp
  by_cases h0:p=[]
  · subst h0
    exact w tt Tryz.func295 rfl [.c [] cn,.t (by simp)] rfl (by simp [Gf]) trivial
  · have Ye:0<p.length:=List.length_pos_iff.2 h0
    exact w tt Tryz.func295 rfl [.c [] cn,.f (by simpa using h0),.r 12 (eI (b:=((p.length-1:Nat):Int)) (by simp; omega)),.x (Jy (Xo (by omega)))] rfl rfl (by simp [Qa]; omega)
end Orr

namespace Orr
open Go Go.Proofs
set_option maxRecDepth 10000
theorem Qys {a b:Int} {q:Rat} (h1:a=q.num) (h2:b=(q.den:Int)):[sg a,mg a,sg b,mg b]=rl q:=by rw [h1,h2]
theorem H7 {n d:Int} (h0:d≠0) (hn:Qt n≤4294967295) (hd:Qt d≤4294967295):Qg Tryz.prog 197 [.agg (Z0 n),.agg (Z0 d)] [.agg (rl (Rat.divInt n d))]:=by
  have cg:=Qos (Zs [n,d]) (fun z hz=>by simp at hz; rcases hz with rfl | rfl <;> assumption)
  have gp:=Qq0 (n:=n) h0
  have gs:=Qv0 (n:=n) h0 hd
  have m1:=Qhj n d
  have m2:=Qhk n d
  obtain ⟨g,hg⟩:∃ g,g=((Xe [n,d]:Nat):Int):=⟨_,rfl⟩
  rw [←hg] at cg gp gs m1 m2
  by_cases hneg:d<0
  · obtain ⟨e1,e2⟩:=Qv6 (n:=n) hneg
    rw [←hg] at e1 e2
    rw [←Qys e1 e2]
    exact w tt Tryz.func197 rfl [.c [] cg,.t (by simpa using hneg),.c [] (L6 (Qe n) hn),.c [] (L6 (Qe d) hd),.c [] (Ux (Qe _) (Qe _) (by rw [U5]; exact hn) gs (by omega) (Qlf m1)),.c [] (Ux (Qe _) (Qe _) (by rw [U5]; exact hd) gs (by omega) (Qlf m2))] rfl rfl trivial
  · obtain ⟨e1,e2⟩:=Qv7 (n:=n) (d:=d) (by omega)
    rw [←hg] at e1 e2
    rw [←Qys e1 e2]
    exact w tt Tryz.func197 rfl [.c [] cg,.f (by simpa using hneg),.c [] (Ux (Qe _) (Qe _) hn gs (by omega) m1),.c [] (Ux (Qe _) (Qe _) hd gs (by omega) m2)] rfl rfl trivial
theorem Dv {x y x' y':LV} {n d:Int} (h1:Xg x y n) (h2:Xg x' y' d) (hn:Qt n≤4294967295) (hd:Qt d≤4294967295):Qg Tryz.prog 137 [.agg [x,y,x',y']] [.agg (rl (Vv n d))]:=by
  have c1:=Wp h1 hn
  have c2:=Wp h2 hd
  obtain ⟨b,l,rfl,rfl,_⟩:=h1
  obtain ⟨b',l',rfl,rfl,_⟩:=h2
  by_cases h0:d=0
  · have e:Vv n d=Rat.divInt n 1:=by unfold Vv; rw [if_pos h0]
    rw [e]
    exact w tt Tryz.func137 rfl [.c [] c2,.c [] Fc,.t (by simpa using h0),.c [] (Qg3 (z:=1) (by decide)),.c [] c1,.c [] (H7 (by decide) hn (by decide))] rfl rfl trivial
  · have e:Vv n d=Rat.divInt n d:=by unfold Vv; rw [if_neg h0]
    rw [e]
    exact w tt Tryz.func137 rfl [.c [] c2,.c [] Fc,.f (by simpa using h0),.c [] c1,.c [] (H7 h0 hn hd)] rfl rfl trivial
theorem Ee {q:Rat} (hq:Qs 4294967295 q):Qg Tryz.prog 137 [.agg (rl q)] [.agg (rl q)]:=by
  have:=Dv (Qe q.num) (Qe (q.den:Int)) hq.1 hq.2
  rwa [M7] at this
theorem Qba {a b:Rat} (ha:Qs 2147483647 a) (hb:Qs 2147483647 b):Qg Tryz.prog 198 [.agg (rl a),.agg (rl b)] [.agg (Z0 (a.num*(b.den:Int))),.agg (Z0 (b.num*(a.den:Int))),.agg (Z0 ((a.den:Int)*(b.den:Int)))] :=
  w tt Tryz.func198 rfl [.c [] (Ee (ha.mono (by decide))),.c [] (Ee (hb.mono (by decide))),.c [] (Fb (Qe _) (Qe _) (Nat.le_trans ha.1 (by decide)) (Nat.le_trans hb.2 (by decide))),.c [] (Fb (Qe _) (Qe _) (Nat.le_trans hb.1 (by decide)) (Nat.le_trans ha.2 (by decide))),.c [] (Fb (Qe _) (Qe _) (Nat.le_trans ha.2 (by decide)) (Nat.le_trans hb.2 (by decide)))] rfl rfl trivial
theorem Ud {a b:Rat} (ha:Qs 2147483647 a) (hb:Qs 2147483647 b):Qg Tryz.prog 138 [.agg (rl a),.agg (rl b)] [.one (.int .i64 (Zm a b))] :=
  w tt Tryz.func138 rfl [.c [] (Qba ha hb),.c [] (Nw (Qe _) (Qe _) (Nat.le_trans (Xa _ _) (by have:=ha.1; have:=hb.2; omega)) (Nat.le_trans (Xa _ _) (by have:=hb.1; have:=ha.2; omega)))] rfl rfl trivial
theorem Qpp {x y x' y':LV} {n d:Int} (h1:Xg x y n) (h2:Xg x' y' d) (hn:Qt n≤4294967295) (hd:Qt d≤4294967295):Qg Tryz.prog 82 [.agg [x,y,x',y'],.one (.row [])] [.agg (rl (Vv n d))]:=by
  have c1:=Dv h1 h2 hn hd
  obtain ⟨b,l,rfl,rfl,_⟩:=h1
  obtain ⟨b',l',rfl,rfl,_⟩:=h2
  refine X4 Tryz.func82 rfl ?_
  refine go tt [.c [] c1] rfl trivial ?_
  refine lp (S:=Unit) 3 (fun L1 _=>(12,.v (.one (.int .i64 0)))::L1) (fun _=>[.blk 41 [.bool b,.row (lm l),.bool b',.row (lm l')],.blk 41 [.bool false,.nils,.bool false,.nils],.blk 41 (rl (Vv n d))]) (fun _=>0) (fun _=>True) () trivial rfl (fun _ _=>rfl) rfl fun _ _=>?_
  exact en tt [.f (by simp)] rfl rfl trivial
theorem Gz {q:Rat} (hq:Qs 4294967295 q):Qg Tryz.prog 82 [.agg (rl q),.one (.row [])] [.agg (rl q)]:=by
  have:=Qpp (Qe q.num) (Qe (q.den:Int)) hq.1 hq.2
  rwa [M7] at this
theorem Qu8 {q:Rat} (hq:Qs 4294967295 q):Qg Tryz.prog 239 [.agg (rl q)] [.agg (rl q)]:=w tt Tryz.func239 rfl [.c [] (Gz hq)] rfl rfl trivial
theorem Qjn {p:List Int} {q:Rat} {s t:Nat} (tp:Qm p) (hl:p.length<274877906944) (hp:Bd s p) (hq:Qs t q) (hst:s+p.length*(t+1)+2*t+10≤4294967295):Qg Tryz.prog 192 [pr p,.agg (rl q)] [.one (.int .i64 (Z9 p q))]:=by
  have cc:=Nw (Qe (Q0u p q.num q.den)) J6 (Nat.le_trans (Qmh hp hq.1 hq.2).1 (by omega)) (by decide)
  exact w tt Tryz.func192 rfl [.c [] (Qu8 (hq.mono (by omega))),.c [] (Zx tp hl (Qc hp (by omega))),.c [] (Qo1 hl hp hq.1 hq.2 hst),.c [] cc] rfl rfl trivial
end Orr
