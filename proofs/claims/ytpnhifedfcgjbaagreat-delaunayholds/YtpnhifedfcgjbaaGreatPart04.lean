/- Ntt L1 L2 L3 L4 L5 M1 P2 M2 DigL R1 R3 PolyL RatL R2 -/
import Derived.Test.YtpnhifedfcgjbaaGreatPart02
import Derived.Laws.StructEq
import Derived.Test.YtpnhifedfcgjbaaGreatProg
import Derived.Test.YtpnhifedfcgjbaaGreatPart00
import Derived.Test.YtpnhifedfcgjbaaGreatPart03
set_option linter.all false
namespace Orr
open Go Go.Proofs
theorem Q1x (d:Nat) (x y:Int) (w:World):(Op.equalIn (d+1) 3 (.int .i64 x) (.int .i64 y)).run Tryz.prog w=.ok (decide (x=y)) w:=by
 simp [Op.equalIn,Tryz.runUnderlying3];rfl
def ti3:TI Tryz.prog:=tiO 3 Tryz.isAgg3 Tryz.sizeOf3 Tryz.underlying3 Tryz.zeroValue3 Tryz.typeInfo3 8 rfl
def ti4:TI Tryz.prog:=tiO 4 Tryz.isAgg4 Tryz.sizeOf4 Tryz.underlying4 Tryz.zeroValue4 Tryz.typeInfo4 1 rfl
def ti5:TI Tryz.prog:=tiO 5 Tryz.isAgg5 Tryz.sizeOf5 Tryz.underlying5 Tryz.zeroValue5 Tryz.typeInfo5 1 rfl
def ti9:TI Tryz.prog:=tiO 9 Tryz.isAgg9 Tryz.sizeOf9 Tryz.underlying9 Tryz.zeroValue9 Tryz.typeInfo9 16 rfl
def Zrf:TI Tryz.prog:=tiO 22 Tryz.isAgg22 Tryz.sizeOf22 Tryz.underlying22 Tryz.zeroValue22 Tryz.typeInfo22 24 rfl
def Zrg:TI Tryz.prog:=tiO 23 Tryz.isAgg23 Tryz.sizeOf23 Tryz.underlying23 Tryz.zeroValue23 Tryz.typeInfo23 8 rfl
def Zrh:TI Tryz.prog:=tiO 28 Tryz.isAgg28 Tryz.sizeOf28 Tryz.underlying28 Tryz.zeroValue28 Tryz.typeInfo28 24 rfl
def Zri:TI Tryz.prog:=tiO 29 Tryz.isAgg29 Tryz.sizeOf29 Tryz.underlying29 Tryz.zeroValue29 Tryz.typeInfo29 24 rfl
def Zrj:TI Tryz.prog:=tiO 30 Tryz.isAgg30 Tryz.sizeOf30 Tryz.underlying30 Tryz.zeroValue30 Tryz.typeInfo30 24 rfl
def Zrk:TI Tryz.prog:=tiO 31 Tryz.isAgg31 Tryz.sizeOf31 Tryz.underlying31 Tryz.zeroValue31 Tryz.typeInfo31 24 rfl
def Zrl:TI Tryz.prog:=tiS (ks:=[1,1]) (ag:=[false,false]) 33 Tryz.isAgg33 Tryz.sizeOf33 Tryz.underlying33 Tryz.zeroValue33 Tryz.typeInfo33 32 rfl ⟨Tryz.sizeOf31,Tryz.sizeOf4,trivial⟩ ⟨Tryz.isAgg31,Tryz.isAgg4,trivial⟩ rfl
def Zrm:TI Tryz.prog:=tiS (ks:=[2,2]) (ag:=[true,true]) 35 Tryz.isAgg35 Tryz.sizeOf35 Tryz.underlying35 Tryz.zeroValue35 Tryz.typeInfo35 64 rfl ⟨Tryz.sizeOf33,Tryz.sizeOf33,trivial⟩ ⟨Tryz.isAgg33,Tryz.isAgg33,trivial⟩ rfl
def Zrn:TI Tryz.prog:=tiS (ks:=[1,1,4,4]) (ag:=[false,false,true,true]) 37 Tryz.isAgg37 Tryz.sizeOf37 Tryz.underlying37 Tryz.zeroValue37 Tryz.typeInfo37 176 rfl ⟨Tryz.sizeOf28,Tryz.sizeOf29,Tryz.sizeOf35,Tryz.sizeOf35,trivial⟩ ⟨Tryz.isAgg28,Tryz.isAgg29,Tryz.isAgg35,Tryz.isAgg35,trivial⟩ rfl
def Zro:TI Tryz.prog:=tiO 39 Tryz.isAgg39 Tryz.sizeOf39 Tryz.underlying39 Tryz.zeroValue39 Tryz.typeInfo39 24 rfl
def Zrp:TI Tryz.prog:=tiO 40 Tryz.isAgg40 Tryz.sizeOf40 Tryz.underlying40 Tryz.zeroValue40 Tryz.typeInfo40 24 rfl
def Zrq:TI Tryz.prog:=tiO 41 Tryz.isAgg41 Tryz.sizeOf41 Tryz.underlying41 Tryz.zeroValue41 Tryz.typeInfo41 24 rfl
def Zrr:TI Tryz.prog:=tiS (ks:=[10,1,1,1]) (ag:=[true,false,false,false]) 43 Tryz.isAgg43 Tryz.sizeOf43 Tryz.underlying43 Tryz.zeroValue43 Tryz.typeInfo43 232 rfl ⟨Tryz.sizeOf37,Tryz.sizeOf40,Tryz.sizeOf3,Tryz.sizeOf41,trivial⟩ ⟨Tryz.isAgg37,Tryz.isAgg40,Tryz.isAgg3,Tryz.isAgg41,trivial⟩ rfl
def Zrs:TI Tryz.prog:=tiS (ks:=[1,4,13]) (ag:=[false,true,true]) 45 Tryz.isAgg45 Tryz.sizeOf45 Tryz.underlying45 Tryz.zeroValue45 Tryz.typeInfo45 320 rfl ⟨Tryz.sizeOf39,Tryz.sizeOf35,Tryz.sizeOf43,trivial⟩ ⟨Tryz.isAgg39,Tryz.isAgg35,Tryz.isAgg43,trivial⟩ rfl
def Zrt:TI Tryz.prog:=tiO 47 Tryz.isAgg47 Tryz.sizeOf47 Tryz.underlying47 Tryz.zeroValue47 Tryz.typeInfo47 24 rfl
set_option maxRecDepth 20000 in
theorem Zga (d:Nat) (x0 x1 x2 y0 y1 y2:Int) (w:World):(Op.equalIn (d+1+1) 50 (.agg #[.int .i64 x0,.int .i64 x1,.int .i64 x2]) (.agg #[.int .i64 y0,.int .i64 y1,.int .i64 y2])).run Tryz.prog w=.ok (decide ([x0,x1,x2]=[y0,y1,y2])) w:=by
 rw [run_equalIn_array w (d+1) _ _ (n:=3) (e:=3) rfl rfl];rw [show List.range 3=[0,1,2] from rfl,show Tryz.prog.cellsOf 3=1 from rfl];simp [Op.eqItems,Go.part,Tryz.isAgg3,Q1x];by_cases h0:x0=y0 <;> by_cases h1:x1=y1 <;> by_cases h2:x2=y2 <;> simp [h0,h1,h2]
theorem Qx9 (a b:List Int) (ha:a.length=3) (hb:b.length=3) (w:World):(Op.equal 50 (.agg (a.map (Value.int .i64)).toArray) (.agg (b.map (Value.int .i64)).toArray)).run Tryz.prog w=.ok (decide (a=b)) w:=by
 match a,ha,b,hb with
 | [x0,x1,x2],_,[y0,y1,y2],_=>exact Zga 9998 x0 x1 x2 y0 y1 y2 w
def Zru:TI Tryz.prog:={ tiA 50 Tryz.isAgg50 Tryz.sizeOf50 Tryz.underlying50 Tryz.zeroValue50 Tryz.typeInfo50 24 rfl Tryz.sizeOf3 with eqn:=some 3,heq:=λk h=>by injection h with h; subst h; exact ⟨Tryz.eqGuardType50,Qx9⟩ }
def Zrv:TI Tryz.prog:=tiO 51 Tryz.isAgg51 Tryz.sizeOf51 Tryz.underlying51 Tryz.zeroValue51 Tryz.typeInfo51 24 rfl
def Zrw:TI Tryz.prog:=tiO 52 Tryz.isAgg52 Tryz.sizeOf52 Tryz.underlying52 Tryz.zeroValue52 Tryz.typeInfo52 24 rfl
def Zrx:TI Tryz.prog:=tiO 53 Tryz.isAgg53 Tryz.sizeOf53 Tryz.underlying53 Tryz.zeroValue53 Tryz.typeInfo53 24 rfl
def Zry:TI Tryz.prog:=tiS (ks:=[1,1]) (ag:=[false,false]) 55 Tryz.isAgg55 Tryz.sizeOf55 Tryz.underlying55 Tryz.zeroValue55 Tryz.typeInfo55 32 rfl ⟨Tryz.sizeOf4,Tryz.sizeOf53,trivial⟩ ⟨Tryz.isAgg4,Tryz.isAgg53,trivial⟩ rfl
def Zrz:TI Tryz.prog:=tiS (ks:=[1,1,2]) (ag:=[false,false,true]) 57 Tryz.isAgg57 Tryz.sizeOf57 Tryz.underlying57 Tryz.zeroValue57 Tryz.typeInfo57 80 rfl ⟨Tryz.sizeOf52,Tryz.sizeOf52,Tryz.sizeOf55,trivial⟩ ⟨Tryz.isAgg52,Tryz.isAgg52,Tryz.isAgg55,trivial⟩ rfl
def Zr0:TI Tryz.prog:=tiS (ks:=[1,1,4]) (ag:=[false,false,true]) 59 Tryz.isAgg59 Tryz.sizeOf59 Tryz.underlying59 Tryz.zeroValue59 Tryz.typeInfo59 128 rfl ⟨Tryz.sizeOf28,Tryz.sizeOf28,Tryz.sizeOf57,trivial⟩ ⟨Tryz.isAgg28,Tryz.isAgg28,Tryz.isAgg57,trivial⟩ rfl
def Zr1:TI Tryz.prog:=tiS (ks:=[6,1]) (ag:=[true,false]) 61 Tryz.isAgg61 Tryz.sizeOf61 Tryz.underlying61 Tryz.zeroValue61 Tryz.typeInfo61 136 rfl ⟨Tryz.sizeOf59,Tryz.sizeOf3,trivial⟩ ⟨Tryz.isAgg59,Tryz.isAgg3,trivial⟩ rfl
def Zr2:TI Tryz.prog:=tiO 70 Tryz.isAgg70 Tryz.sizeOf70 Tryz.underlying70 Tryz.zeroValue70 Tryz.typeInfo70 8 rfl
def Zr3:TI Tryz.prog:=tiS (ks:=[2,2]) (ag:=[true,true]) 74 Tryz.isAgg74 Tryz.sizeOf74 Tryz.underlying74 Tryz.zeroValue74 Tryz.typeInfo74 64 rfl ⟨Tryz.sizeOf55,Tryz.sizeOf55,trivial⟩ ⟨Tryz.isAgg55,Tryz.isAgg55,trivial⟩ rfl
def Zr4:TI Tryz.prog:=tiS (ks:=[1,4,4]) (ag:=[false,true,true]) 79 Tryz.isAgg79 Tryz.sizeOf79 Tryz.underlying79 Tryz.zeroValue79 Tryz.typeInfo79 152 rfl ⟨Tryz.sizeOf52,Tryz.sizeOf74,Tryz.sizeOf74,trivial⟩ ⟨Tryz.isAgg52,Tryz.isAgg74,Tryz.isAgg74,trivial⟩ rfl
def Zr5:TI Tryz.prog:=tiO 80 Tryz.isAgg80 Tryz.sizeOf80 Tryz.underlying80 Tryz.zeroValue80 Tryz.typeInfo80 24 rfl
def Zr6:TI Tryz.prog:=tiS (ks:=[1,9,1,1]) (ag:=[false,true,false,false]) 82 Tryz.isAgg82 Tryz.sizeOf82 Tryz.underlying82 Tryz.zeroValue82 Tryz.typeInfo82 192 rfl ⟨Tryz.sizeOf4,Tryz.sizeOf79,Tryz.sizeOf80,Tryz.sizeOf3,trivial⟩ ⟨Tryz.isAgg4,Tryz.isAgg79,Tryz.isAgg80,Tryz.isAgg3,trivial⟩ rfl
def Zr7:TI Tryz.prog:=tiS (ks:=[1]) (ag:=[false]) 84 Tryz.isAgg84 Tryz.sizeOf84 Tryz.underlying84 Tryz.zeroValue84 Tryz.typeInfo84 24 rfl ⟨Tryz.sizeOf22,trivial⟩ ⟨Tryz.isAgg22,trivial⟩ rfl
def Zr8:TI Tryz.prog:=tiS (ks:=[12,1,1]) (ag:=[true,true,false]) 86 Tryz.isAgg86 Tryz.sizeOf86 Tryz.underlying86 Tryz.zeroValue86 Tryz.typeInfo86 240 rfl ⟨Tryz.sizeOf82,Tryz.sizeOf84,Tryz.sizeOf47,trivial⟩ ⟨Tryz.isAgg82,Tryz.isAgg84,Tryz.isAgg47,trivial⟩ rfl
def Zr9:TI Tryz.prog:=tiO 89 Tryz.isAgg89 Tryz.sizeOf89 Tryz.underlying89 Tryz.zeroValue89 Tryz.typeInfo89 24 rfl
set_option maxRecDepth 20000 in
theorem Zgb (d:Nat) (x0 x1 x2 x3 y0 y1 y2 y3:Int) (w:World):(Op.equalIn (d+1+1) 95 (.agg #[.int .i64 x0,.int .i64 x1,.int .i64 x2,.int .i64 x3]) (.agg #[.int .i64 y0,.int .i64 y1,.int .i64 y2,.int .i64 y3])).run Tryz.prog w=.ok (decide ([x0,x1,x2,x3]=[y0,y1,y2,y3])) w:=by
 rw [run_equalIn_array w (d+1) _ _ (n:=4) (e:=3) rfl rfl];rw [show List.range 4=[0,1,2,3] from rfl,show Tryz.prog.cellsOf 3=1 from rfl];simp [Op.eqItems,Go.part,Tryz.isAgg3,Q1x];by_cases h0:x0=y0 <;> by_cases h1:x1=y1 <;> by_cases h2:x2=y2 <;> by_cases h3:x3=y3 <;> simp [h0,h1,h2,h3]
def Zsa:TI Tryz.prog:=tiA 95 Tryz.isAgg95 Tryz.sizeOf95 Tryz.underlying95 Tryz.zeroValue95 Tryz.typeInfo95 32 rfl Tryz.sizeOf3
set_option maxRecDepth 20000 in
theorem Zgc (d:Nat) (x x0 x1 x2 x3 y y0 y1 y2 y3:Int) (w:World):(Op.equalIn (d+1+1+1) 97 (.agg #[.int .i64 x,.int .i64 x0,.int .i64 x1,.int .i64 x2,.int .i64 x3]) (.agg #[.int .i64 y,.int .i64 y0,.int .i64 y1,.int .i64 y2,.int .i64 y3])).run Tryz.prog w=.ok (decide ([x,x0,x1,x2,x3]=[y,y0,y1,y2,y3])) w:=by
 rw [run_equalIn_struct w (d+1+1) 97 _ _ rfl Tryz.stoodInHeld97];have hf:(Tryz.prog.fieldsOf 97).toList=[{ name := "Kind",type:=3,offset:=0,embedded:=false,tag := "",pkgPath := "",byteOffset:=0 },{ name := "Ids",type:=95,offset:=1,embedded:=false,tag := "",pkgPath := "",byteOffset:=8 }]:=by simp [Program.fieldsOf,Tryz.underlying97]
 rw [hf];simp [Op.eqFields,Go.part,Tryz.isAgg3,Tryz.isAgg95,Tryz.sizeOf95,Tryz.sizeOf3,Q1x,Zgb];by_cases h:x=y <;> by_cases h0:x0=y0 <;> by_cases h1:x1=y1 <;> by_cases h2:x2=y2 <;> by_cases h3:x3=y3 <;> simp [h,h0,h1,h2,h3]
theorem Zld (a b:List Int) (ha:a.length=5) (hb:b.length=5) (w:World):(Op.equal 97 (.agg (a.map (Value.int .i64)).toArray) (.agg (b.map (Value.int .i64)).toArray)).run Tryz.prog w=.ok (decide (a=b)) w:=by
 match a,ha,b,hb with
 | [x,x0,x1,x2,x3],_,[y,y0,y1,y2,y3],_=>exact Zgc 9997 x x0 x1 x2 x3 y y0 y1 y2 y3 w
def Zsb:TI Tryz.prog:={ tiS (ks:=[1,4]) (ag:=[false,true]) 97 Tryz.isAgg97 Tryz.sizeOf97 Tryz.underlying97 Tryz.zeroValue97 Tryz.typeInfo97 40 rfl ⟨Tryz.sizeOf3,Tryz.sizeOf95,trivial⟩ ⟨Tryz.isAgg3,Tryz.isAgg95,trivial⟩ rfl with eqn:=some 5,heq:=λk h=>by injection h with h; subst h; exact ⟨Tryz.eqGuardType97,Zld⟩ }
def Zsc:TI Tryz.prog:=tiS (ks:=[5,1,1]) (ag:=[true,false,false]) 99 Tryz.isAgg99 Tryz.sizeOf99 Tryz.underlying99 Tryz.zeroValue99 Tryz.typeInfo99 72 rfl ⟨Tryz.sizeOf97,Tryz.sizeOf52,Tryz.sizeOf3,trivial⟩ ⟨Tryz.isAgg97,Tryz.isAgg52,Tryz.isAgg3,trivial⟩ rfl
def Zpc:TI Tryz.prog:=tiO 103 Tryz.isAgg103 Tryz.sizeOf103 Tryz.underlying103 Tryz.zeroValue103 Tryz.typeInfo103 24 rfl
def Zpd:TI Tryz.prog:=tiS (ks:=[4,1]) (ag:=[true,false]) 114 Tryz.isAgg114 Tryz.sizeOf114 Tryz.underlying114 Tryz.zeroValue114 Tryz.typeInfo114 88 rfl ⟨Tryz.sizeOf57,Tryz.sizeOf3,trivial⟩ ⟨Tryz.isAgg57,Tryz.isAgg3,trivial⟩ rfl
def Zpe:TI Tryz.prog:=tiO 127 Tryz.isAgg127 Tryz.sizeOf127 Tryz.underlying127 Tryz.zeroValue127 Tryz.typeInfo127 24 rfl
def Zpf:TI Tryz.prog:=tiO 128 Tryz.isAgg128 Tryz.sizeOf128 Tryz.underlying128 Tryz.zeroValue128 Tryz.typeInfo128 24 rfl
def Zpg:TI Tryz.prog:=tiO 134 Tryz.isAgg134 Tryz.sizeOf134 Tryz.underlying134 Tryz.zeroValue134 Tryz.typeInfo134 24 rfl
set_option maxRecDepth 20000 in
theorem Q9m (d:Nat) (x0 x1 y0 y1:Int) (w:World):(Op.equalIn (d+1+1) 143 (.agg #[.int .i64 x0,.int .i64 x1]) (.agg #[.int .i64 y0,.int .i64 y1])).run Tryz.prog w=.ok (decide ([x0,x1]=[y0,y1])) w:=by
 rw [run_equalIn_array w (d+1) _ _ (n:=2) (e:=3) rfl rfl];rw [show List.range 2=[0,1] from rfl,show Tryz.prog.cellsOf 3=1 from rfl];simp [Op.eqItems,Go.part,Tryz.isAgg3,Q1x];by_cases h0:x0=y0 <;> by_cases h1:x1=y1 <;> simp [h0,h1]
theorem Zf9 (a b:List Int) (ha:a.length=2) (hb:b.length=2) (w:World):(Op.equal 143 (.agg (a.map (Value.int .i64)).toArray) (.agg (b.map (Value.int .i64)).toArray)).run Tryz.prog w=.ok (decide (a=b)) w:=by
 match a,ha,b,hb with
 | [x0,x1],_,[y0,y1],_=>exact Q9m 9998 x0 x1 y0 y1 w
def Zph:TI Tryz.prog:={ tiA 143 Tryz.isAgg143 Tryz.sizeOf143 Tryz.underlying143 Tryz.zeroValue143 Tryz.typeInfo143 16 rfl Tryz.sizeOf3 with eqn:=some 2,heq:=λk h=>by injection h with h; subst h; exact ⟨Tryz.eqGuardType143,Zf9⟩ }
def Zpi:TI Tryz.prog:=tiS (ks:=[7,1,1,9]) (ag:=[true,false,false,true]) 146 Tryz.isAgg146 Tryz.sizeOf146 Tryz.underlying146 Tryz.zeroValue146 Tryz.typeInfo146 232 rfl ⟨Tryz.sizeOf99,Tryz.sizeOf4,Tryz.sizeOf4,Tryz.sizeOf79,trivial⟩ ⟨Tryz.isAgg99,Tryz.isAgg4,Tryz.isAgg4,Tryz.isAgg79,trivial⟩ rfl
def Zpj:TI Tryz.prog:=tiO 152 Tryz.isAgg152 Tryz.sizeOf152 Tryz.underlying152 Tryz.zeroValue152 Tryz.typeInfo152 24 rfl
def Zpk:TI Tryz.prog:=tiS (ks:=[5,9]) (ag:=[true,true]) 157 Tryz.isAgg157 Tryz.sizeOf157 Tryz.underlying157 Tryz.zeroValue157 Tryz.typeInfo157 192 rfl ⟨Tryz.sizeOf97,Tryz.sizeOf79,trivial⟩ ⟨Tryz.isAgg97,Tryz.isAgg79,trivial⟩ rfl
def Zpl:TI Tryz.prog:=tiA 185 Tryz.isAgg185 Tryz.sizeOf185 Tryz.underlying185 Tryz.zeroValue185 Tryz.typeInfo185 48 rfl Tryz.sizeOf143
def Zpm:TI Tryz.prog:=tiO 188 Tryz.isAgg188 Tryz.sizeOf188 Tryz.underlying188 Tryz.zeroValue188 Tryz.typeInfo188 24 rfl
theorem Q4p (em:Bool) (n:Nat) (v:Int) (w:World):(Instr.checkKey em (n+1) 3 (.int .i64 v)).run Tryz.prog w=.ok () w:=by
 rw [Instr.checkKey];simp [Tryz.runUnderlying3]
theorem Qtg (em:Bool) (n:Nat) (a b c:Int) (w:World):(Instr.checkKey em (n+1+1) 50 (.agg #[.int .i64 a,.int .i64 b,.int .i64 c])).run Tryz.prog w=.ok () w:=by
 rw [Instr.checkKey];simp [Tryz.runUnderlying50];rw [show List.range' 0 3=[0,1,2] from rfl];simp [Go.part,Tryz.isAgg3,Tryz.sizeOf3,Q4p]
theorem Qhv (em:Bool) (ks:List Int) (hk:ks.length=3) (w:World):(Instr.checkKey em 10000 50 (Lm ks)).run Tryz.prog w=.ok () w:=by
 match ks,hk with
 | [a,b,c],_=>exact Qtg em 9998 a b c w
theorem Zav:MapT Tryz.prog 192 50 3 (.int .i64 0):=⟨Tryz.runUnderlying192,⟨_,Tryz.runUnderlying50,λ_ _=>rfl⟩,Qhv,λx y hx hy w=>Qx9 x y hx hy w,Tryz.zeroValue3,rfl⟩
def Zpn:TI Tryz.prog:={ tiO 192 Tryz.isAgg192 Tryz.sizeOf192 Tryz.underlying192 Tryz.zeroValue192 Tryz.typeInfo192 8 rfl with md:=some (.int .i64 0),hmd:=λd h=>by injection h with h; subst h; exact ⟨50,3,Zav⟩ }
theorem Zaw:MapT Tryz.prog 195 50 4 (.bool false):=⟨Tryz.runUnderlying195,⟨_,Tryz.runUnderlying50,λ_ _=>rfl⟩,Qhv,λx y hx hy w=>Qx9 x y hx hy w,Tryz.zeroValue4,rfl⟩
def Zpo:TI Tryz.prog:={ tiO 195 Tryz.isAgg195 Tryz.sizeOf195 Tryz.underlying195 Tryz.zeroValue195 Tryz.typeInfo195 8 rfl with md:=some (.bool false),hmd:=λd h=>by injection h with h; subst h; exact ⟨50,4,Zaw⟩ }
def Zpp:TI Tryz.prog:=tiO 217 Tryz.isAgg217 Tryz.sizeOf217 Tryz.underlying217 Tryz.zeroValue217 Tryz.typeInfo217 4 rfl
def Zpq:TI Tryz.prog:=tiS (ks:=[5,1,1,1,1]) (ag:=[true,false,false,false,false]) 227 Tryz.isAgg227 Tryz.sizeOf227 Tryz.underlying227 Tryz.zeroValue227 Tryz.typeInfo227 104 rfl ⟨Tryz.sizeOf97,Tryz.sizeOf28,Tryz.sizeOf3,Tryz.sizeOf41,Tryz.sizeOf4,trivial⟩ ⟨Tryz.isAgg97,Tryz.isAgg28,Tryz.isAgg3,Tryz.isAgg41,Tryz.isAgg4,trivial⟩ rfl
def Zpr:TI Tryz.prog:=tiO 248 Tryz.isAgg248 Tryz.sizeOf248 Tryz.underlying248 Tryz.zeroValue248 Tryz.typeInfo248 8 rfl
def Zps:TI Tryz.prog:=tiO 249 Tryz.isAgg249 Tryz.sizeOf249 Tryz.underlying249 Tryz.zeroValue249 Tryz.typeInfo249 8 rfl
def Zpt:TI Tryz.prog:=tiO 251 Tryz.isAgg251 Tryz.sizeOf251 Tryz.underlying251 Tryz.zeroValue251 Tryz.typeInfo251 24 rfl
def Zpu:TI Tryz.prog:=tiO 285 Tryz.isAgg285 Tryz.sizeOf285 Tryz.underlying285 Tryz.zeroValue285 Tryz.typeInfo285 24 rfl
def Zpv:TI Tryz.prog:=tiA 288 Tryz.isAgg288 Tryz.sizeOf288 Tryz.underlying288 Tryz.zeroValue288 Tryz.typeInfo288 272 rfl Tryz.sizeOf61
def Zpw:TI Tryz.prog:=tiO 298 Tryz.isAgg298 Tryz.sizeOf298 Tryz.underlying298 Tryz.zeroValue298 Tryz.typeInfo298 24 rfl
def Zpx:TI Tryz.prog:=tiS (ks:=[1]) (ag:=[false]) 327 Tryz.isAgg327 Tryz.sizeOf327 Tryz.underlying327 Tryz.zeroValue327 Tryz.typeInfo327 24 rfl ⟨Tryz.sizeOf251,trivial⟩ ⟨Tryz.isAgg251,trivial⟩ rfl
def tt:TT Tryz.prog:=(.nd (.nd (.nd (.nd (.nd (.nd .nil ti3 .nil) ti4 (.nd .nil ti5 .nil)) ti9 (.nd (.nd .nil Zrf .nil) Zrg (.nd .nil Zrh .nil))) Zri (.nd (.nd (.nd .nil Zrj .nil) Zrk (.nd .nil Zrl .nil)) Zrm (.nd (.nd .nil Zrn .nil) Zro (.nd .nil Zrp .nil)))) Zrq (.nd (.nd (.nd (.nd .nil Zrr .nil) Zrs (.nd .nil Zrt .nil)) Zru (.nd (.nd .nil Zrv .nil) Zrw (.nd .nil Zrx .nil))) Zry (.nd (.nd (.nd .nil Zrz .nil) Zr0 (.nd .nil Zr1 .nil)) Zr2 (.nd (.nd .nil Zr3 .nil) Zr4 .nil)))) Zr5 (.nd (.nd (.nd (.nd (.nd .nil Zr6 .nil) Zr7 (.nd .nil Zr8 .nil)) Zr9 (.nd (.nd .nil Zsa .nil) Zsb (.nd .nil Zsc .nil))) Zpc (.nd (.nd (.nd .nil Zpd .nil) Zpe (.nd .nil Zpf .nil)) Zpg (.nd (.nd .nil Zph .nil) Zpi .nil))) Zpj (.nd (.nd (.nd (.nd .nil Zpk .nil) Zpl (.nd .nil Zpm .nil)) Zpn (.nd (.nd .nil Zpo .nil) Zpp (.nd .nil Zpq .nil))) Zpr (.nd (.nd (.nd .nil Zps .nil) Zpt (.nd .nil Zpu .nil)) Zpv (.nd (.nd .nil Zpw .nil) Zpx .nil)))))
instance:Mo Tryz.prog:=⟨rfl⟩
end Orr
namespace Orr
open Go Go.Proofs
set_option maxRecDepth 10000
def lm (l:List Nat):List (List LV):=l.map λ(x:Nat)=>[.int .u32 (x:Int)]
abbrev lr (l:List Nat):TV:=.one (.row (lm l))
theorem Um (l:List Nat):(lm l).length=l.length:=by simp [lm]
theorem Fw {l:List Nat} {i x:Nat} (h:l[i]? = some x):(lm l)[i]? = some [.int .u32 (x:Int)]:=by simp [lm,h]
def trm:List Nat->List Nat
 | []=>[]
 |
  x::l=>match trm l with
  | []=>if x=0 then [] else [x]
  | r=>x::r
theorem Zio {l:List Nat}:trm l=[]↔∀ x∈l,x=0:=by
 induction l with
 | nil=>simp [trm]
 |
  cons x l ih =>
  simp only [trm]
  split
  ·rename_i e;have h1:=ih.1 e;by_cases h:x=0
   ·simp [h]; exact h1
   ·simp [h]
  ·rename_i r hne;simp only [reduceCtorEq,Qp,forall_eq_or_imp,false_iff,not_and];exact λ_ h=>hne (ih.2 h)
theorem Qfj:∀ {l:List Nat} {n:Nat},n<=l.length->(∀ j,n<=j->j<l.length->l[j]? = some 0)->(n=0\/∃ x,l[n-1]? = some x/\x≠0)->l.take n=trm l
 | [],n,h,_,_=>by simp at h; subst h; rfl
 |
  x::l,0,h,hz,_=>by
  rw [Vv];refine (Zio.2 λy hy=>?_).symm;obtain ⟨j,hj⟩:=Zh.1 hy;have:=hz j (Qh _) (Qd.1 hj).1;rw [hj] at this; injection this
 |
  x::l,n+1,h,hz,ht=>by
  simp only [Q6,Nat.add_le_add_iff_right] at h;have hz':∀ j,n<=j->j<l.length->l[j]? = some 0:=λj h1 h2=>by simpa using hz (j+1) (by omega) (by simpa using h2)
  cases n with
  |
   zero =>
   have e:trm l=[]:=(Qfj (n:=0) h hz' (.inl rfl)).symm;rcases ht with h | ⟨y,h1,h2⟩
   ·omega
   ·simp at h1; subst h1; simp [trm,e,h2]
  |
   succ n =>
   have ih:=Qfj (n:=n+1) h hz' (.inr (by rcases ht with h | ⟨y,h1,h2⟩; (· omega); exact ⟨y,by simpa using h1,h2⟩));simp only [Yt,trm];rw [<-ih];cases hl:l with
   | nil=>rw [hl] at h; simp at h
   | cons y l'=>simp [Yt]
theorem Zpb (l:List Nat):Uk Tryz.prog 220 [lr l] [lr (trm l)]:=by
 refine Gm Tryz.func220 rfl (ln 0 rfl rfl λhl=>?_);rw [Um] at hl;refine go tt [] rfl trivial ?_;refine lp (S:=Nat) 0 (λL1 n=>(3,.v (.one (.int .i64 (n:Int))))::L1) (λ_=>[]) id (λn=>n<=l.length/\∀ j,n<=j->j<l.length->l[j]? = some 0) (lm l).length ⟨by rw [Um]; exact Qm _,λj h1 h2=>by rw [Um] at h1; omega⟩ rfl (λ_ _=>rfl) rfl λn ⟨h1,h2⟩=>?_
 cases n with
 | zero=>exact en tt [.f (by simp),.f rfl,.i 0] rfl (by rw [<-Qfj h1 h2 (.inl rfl)]; simp [lm]) (by simp [Ui,G6])
 |
  succ n =>
  obtain ⟨x,hx⟩:=gxE (l:=l) (i:=n) (by omega);by_cases h0:x=0
  ·refine go tt [.t (by simp),.r 11 (v:=.one (.int .i64 (n:Int))) (by simp),.x (Fw hx),.t (by simp [h0]),.r 17 (v:=.one (.int .i64 (n:Int))) (by simp)] rfl (by simp [Ui,G6]; omega) ?_;exact rd n (by simp) ⟨by omega,λj h3 h4=>by
    rcases Vf h3 with rfl | h3
    ·rw [hx,h0]
    ·exact h2 j h3 h4⟩ rfl
  ·exact en tt [.t (by simp),.r 11 (v:=.one (.int .i64 (n:Int))) (by simp),.x (Fw hx),.f (by simp [h0]),.i (n+1)] rfl (by rw [<-Qfj h1 h2 (.inr ⟨x,hx,h0⟩)]; simp [lm]) (by simp [Ui,G6,Um] <;> omega)
def Sm (l:List Nat):Prop:=∀ x∈l,x<4294967296
theorem Qsg:∀ l:List Nat,Cut l (trm l).length/\l.take (trm l).length=trm l
 | []=>⟨⟨Qm _,λj _ h=>by simp at h,λh=>by simp [trm] at h⟩,rfl⟩
 |
  x::l=>by
  obtain ⟨⟨h1,h2,h3⟩,h4⟩:=Qsg l;simp only [trm]
  split
  ·rename_i e;rw [e] at h2 h3;by_cases h:x=0
   ·rw [if_pos h];refine ⟨⟨Qh _,λj _ hj=>?_,λh=>by simp at h⟩,rfl⟩;cases j with
    | zero=>simp [h]
    | succ j=>simpa using h2 j (Qh _) (by simpa using hj)
   ·rw [if_neg h];refine ⟨⟨by simp,λj h5 hj=>?_,λ_=>⟨x,rfl,h⟩⟩,rfl⟩;cases j with
    | zero=>simp at h5
    | succ j=>simpa using h2 j (Qh _) (by simpa using hj)
  ·rename_i r hne;refine ⟨⟨by simp [h1],λj h5 hj=>?_,λ_=>?_⟩,by simp [h4]⟩
   ·cases j with
    | zero=>simp at h5
    | succ j=>simpa using h2 j (by simpa using h5) (by simpa using hj)
   ·have hp:0<(trm l).length:=by
     cases e:trm l with
     | nil=>exact absurd e hne
     | cons=>simp
    obtain ⟨y,h5,h6⟩:=h3 hp;refine ⟨y,?_,h6⟩;rw [Q6,show (trm l).length+1-1=((trm l).length-1)+1 from by omega];simpa using h5
theorem Qpi {l:List Nat} (h:Sm l):trm l=U8 (val l):=by
 obtain ⟨h1,h2⟩:=Qsg l;refine Zaq ?_ ?_
 ·rw [<-h2]; exact Zf1 h1 h
 ·rw [<-h2]; exact Zf2 h1
theorem Cu (x:Nat):Sm (U8 x):=(By x).1
theorem Rm {x k:Nat} (h:sz x<=k):32*(U8 x).length<=k+31:=by
 have:=Zg7 (By x);rw [Fu] at this; omega
theorem Qcc {l:List Nat} (h:Sm l):Uk Tryz.prog 220 [lr l] [lr (U8 (val l))]:=Qpi h ▸ Zpb l
theorem Zas (l:List Nat):∀ c∈lm l,c.length=1:=λc hc=>by
 obtain ⟨x,_,rfl⟩:=Za.1 hc; rfl
theorem Qcs {l:List Nat} (h:Sm l) (hs:sz (val l)<=4294967296):Uk Tryz.prog 178 [lr l] [lr (U8 (val l))] :=
 w tt Tryz.func178 rfl [.c [] (Qcc h),.s (Zas (U8 (val l)))] rfl rfl (by have:=Rm hs; simp [Ui,G6,Um]; omega)
theorem Qf6 {a:List Nat} (ha:Sm a):∃ p,Uk Tryz.prog 220 [lr a] [lr p]/\Nrm p/\val p=val a/\p.length<=a.length/\p=U8 (val a) :=
 ⟨_,Qcc ha,By _,Fu _,by rw [<-Qpi ha]; exact (Qsg a).1.1,rfl⟩
theorem Q68 {a b:List Nat} (ha:Sm a) (hb:Sm b):Uk Tryz.prog 206 [lr a,lr b] [.one (.int .i64 (Ot (val a) (val b)))]:=by
 refine Gm Tryz.func206 rfl (ln 0 rfl rfl λhl=>ln 1 rfl rfl λhl'=>?_);rw [Um] at hl hl';obtain ⟨p,ca,np,vp,lp',_⟩:=Qf6 ha;obtain ⟨q,cb,nq,vq,lq,_⟩:=Qf6 hb;rw [<-vp,<-vq];by_cases h:p.length=q.length
 ·refine go tt [.c [] ca,.c [] cb,.f (by simp [Um,h])] rfl (by simp [Ui,G6,Um] <;> omega) ?_;refine lp (S:=Int) 0 (λL1 i=>(5,.v (.one (.int .i64 i)))::L1) (λ_=>[]) (λi=>(i+1).toNat) (λi=>-1<=i/\i<p.length/\p.drop (i+1).toNat=q.drop (i+1).toNat) (((lm p).length:Int)-1) ⟨by omega,by simp [Um]; omega,by simp [Um,h]⟩ rfl (λ_ _=>rfl) rfl λi ⟨h1,h2,h3⟩=>?_
  rcases K7 i 0 with hi | hi
  ·obtain rfl:i=-1:=by omega
   exact en tt [.f (by decide)] rfl (by rw [Q1h]; exact congrArg val (by simpa using h3)) trivial
  ·obtain ⟨k,rfl⟩:=Yq hi;have e:((k:Int)+1).toNat=k+1:=by omega
   rw [e] at h3;obtain ⟨x,hx⟩:=gxE (l:=p) (i:=k) (by omega);obtain ⟨y,hy⟩:=gxE (l:=q) (i:=k) (by omega);rcases Vp x y with hxy | rfl | hxy
   ·exact en tt [.t (by simp),.x (Fw hx),.x (Fw hy),.t (by simp; omega)] rfl (by rw [Qiu (Q3w np.1 h3 hx hy hxy)]) (by simp [Ui,G6,Um] <;> omega)
   ·refine go tt [.t (by simp),.x (Fw hx),.x (Fw hy),.f (by simp),.x (Fw hx),.x (Fw hy),.f (by simp)] rfl (by simp [Ui,G6,Um] <;> omega) ?_;exact rd ((k:Int)-1) (by omega) ⟨by omega,by omega,by rw [show ((k:Int)-1+1).toNat=k from by omega]; exact Q4z h3 hx hy⟩ rfl
   ·exact en tt [.t (by simp),.x (Fw hx),.x (Fw hy),.f (by simp; omega),.x (Fw hx),.x (Fw hy),.t (by simp; omega)] rfl (by rw [Qit (Q3w nq.1 h3.symm hy hx hxy)]) (by simp [Ui,G6,Um] <;> omega)
 ·by_cases h2:p.length<q.length
  ·exact en tt [.c [] ca,.c [] cb,.t (by simp [Um]; omega),.t (by simp [Um]; omega)] rfl (by rw [Qiu (Cf np nq h2)]) (by simp [Ui,G6])
  ·exact en tt [.c [] ca,.c [] cb,.t (by simp [Um]; omega),.f (by simp [Um]; omega)] rfl (by rw [Qit (Cf nq np (by omega))]) (by simp [Ui,G6])
theorem Qdl (m:Nat):List.replicate m [LV.int .u32 0]=lm (List.replicate m 0):=by simp [lm]
theorem Nk (l:List Nat) (i x:Nat):(lm l).set i [.int .u32 (x:Int)]=lm (l.set i x):=by simp [lm,Yz]
theorem B9 {a b:Int} (h:a=b):TV.one (LV.int .u64 a)=.one (.int .u64 b):=h ▸ rfl
theorem Dh {a b:Int} (h:a=b):TV.one (LV.int .u32 a)=.one (.int .u32 b):=h ▸ rfl
theorem eI {a b:Int} (h:a=b):TV.one (LV.int .i64 a)=.one (.int .i64 b):=h ▸ rfl
theorem w32 (z:Int):IntKind.u32.wrap z=z % 4294967296:=by simp [IntKind.wrap,IntKind.bits,IntKind.signed]
theorem w64 (z:Int):IntKind.u64.wrap z=z % 18446744073709551616:=by simp [IntKind.wrap,IntKind.bits,IntKind.signed]
theorem Zi4 {a b:List Nat} (ha:Sm a) (hb:Sm b) (h1:sz (val a)<=4294967296) (h2:sz (val b)<=4294967296):Uk Tryz.prog 275 [lr a,lr b] [lr (U8 (val a+val b))]:=by
 refine Gm Tryz.func275 rfl ?_;obtain ⟨p,ca,np,vp,_,ep⟩:=Qf6 ha;obtain ⟨q,cb,nq,vq,_,eq⟩:=Qf6 hb;have lp':=Rm h1;have lq:=Rm h2;rw [<-ep] at lp';rw [<-eq] at lq;rw [<-vp,<-vq];refine go tt [.c [] ca,.c [] cb] rfl trivial ?_;refine ct 1 (S:=List Nat×List Nat) (λs=>[(0,.v (lr s.1)),(1,.v (lr s.2))]) (λ_=>[]) (λs=>Nrm s.1/\Nrm s.2/\32*s.1.length<=4294967327/\s.2.length<=s.1.length/\val s.1+val s.2=val p+val q) rfl ?_ ?_
 ·by_cases h:p.length<q.length
  ·exact go tt [.t (by simp [Um]; omega)] rfl trivial (rc (q,p) ⟨nq,np,lq,Jz h,Yc _ _⟩ rfl)
  ·exact go tt [.f (by simp [Um]; omega)] rfl trivial (rc (p,q) ⟨np,nq,lp',Yv h,rfl⟩ rfl)
 ·intro ⟨p',q'⟩ ⟨np,nq,hp,hq,e⟩;dsimp only at np nq hp hq e;rw [<-e];clear ca cb e vp vq ep eq;refine go tt [.i ((lm p').length+1),.i ((lm p').length+1)] rfl (by simp [Ui,G6,Um] <;> omega) ?_;rw [Qdl];refine lp (S:=Nat×List Nat×Nat) 1 (λL1 s=>(27,.v (.one (.int .i64 (s.1:Int))))::(6,.v (.one (.int .u64 (s.2.2:Int))))::L1) (λs=>[.row false 217 1 (lm s.2.1)]) (λs=>p'.length-s.1)
   (λs=>s.1<=p'.length/\s.2.1.length=p'.length+1/\Sm s.2.1/\s.2.2<=1/\val (s.2.1.take s.1)+s.2.2*4294967296^s.1=val (p'.take s.1)+val (q'.take s.1)) (0,List.replicate ((lm p').length+1) 0,0)
   ⟨Qh _,by simp [Um],λx hx=>by rw [Zu hx]; decide,Qh _,by simp [val]⟩ rfl (λ_ _=>rfl) rfl λ⟨i,o,c⟩ ⟨j1,j2,j3,j4,j5⟩=>?_
  dsimp only at j1 j2 j3 j4 j5 ⊢;by_cases hi:i<p'.length
  ·obtain ⟨x,hx⟩:=gxE (l:=p') (i:=i) hi;have xb:=np.1 x (Qa hx);have fin:∀ y s,(q'[i]? = some y\/q'.length<=i/\y=0)->y<4294967296->s=x+c+y->p'.length-(i+1)<p'.length-i/\i+1<=p'.length/\(o.set i (s % 4294967296)).length=p'.length+1/\Sm (o.set i (s % 4294967296))/\s / 4294967296<=1 /\
    val ((o.set i (s % 4294967296)).take (i+1))+s / 4294967296*4294967296^(i+1)=val (p'.take (i+1))+val (q'.take (i+1)):=λy s hy hyb hs =>
    ⟨by omega,hi,by simp [j2],Mv j3 i _ (by omega),by omega,Qs1 (by omega) hx hy j5 hs⟩
   by_cases hi2:i<q'.length
   ·obtain ⟨y,hy⟩:=gxE (l:=q') (i:=i) hi2;have yb:=nq.1 y (Qa hy);refine go tt [.t (by simp [Um]; omega),.x (Fw hx),.t (by simp [Um]; omega),.x (Fw hy),.w 2,.r 50 (v:=.one (.int .u32 (((x+c+y) % 4294967296:Nat):Int))) (by simp [IntKind.wrap,IntKind.bits,IntKind.signed]),.i 32,.r 52 (v:=.one (.int .u64 (((x+c+y) / 4294967296:Nat):Int))) (by simp),.i i] rfl (by simp [Ui,G6,Um,IntKind.bits] <;> omega) ?_;rw [Nk];exact rd (i+1,o.set i ((x+c+y) % 4294967296),(x+c+y) / 4294967296) (fin y _ (.inl hy) yb rfl).1 (fin y _ (.inl hy) yb rfl).2 rfl
   ·refine go tt [.t (by simp [Um]; omega),.x (Fw hx),.f (by simp [Um]; omega),.w 0,.r 50 (v:=.one (.int .u32 (((x+c+0) % 4294967296:Nat):Int))) (by simp [IntKind.wrap,IntKind.bits,IntKind.signed]),.i 32,.r 52 (v:=.one (.int .u64 (((x+c+0) / 4294967296:Nat):Int))) (by simp),.i i] rfl (by simp [Ui,G6,Um,IntKind.bits] <;> omega) ?_;rw [Nk];exact rd (i+1,o.set i ((x+c+0) % 4294967296),(x+c+0) / 4294967296) (fin 0 _ (.inr ⟨by omega,rfl⟩) (by decide) rfl).1 (fin 0 _ (.inr ⟨by omega,rfl⟩) (by decide) rfl).2 rfl
  ·obtain rfl:i=p'.length:=by omega
   refine go tt [.f (by simp [Um]),.w 0,.r 59 (v:=.one (.int .u32 (c:Int))) (by simp [IntKind.wrap,IntKind.bits,IntKind.signed]; omega),.i (lm p').length] rfl (by simp [Ui,G6,Um,j2]) ?_;rw [Um,Nk];have e:val (o.set p'.length c)=val p'+val q':=by
    have h1:=Of o p'.length c (by omega);rw [Qk (by simp; omega)] at h1;rw [Qk (Qm _),Qk hq] at j5;rw [h1,<-j5,Zi]
   rw [<-e];exact en tt [.c [] (Qcc (Mv j3 _ c (by omega)))] rfl rfl trivial
theorem Qti {x y:Nat}:Ot x y<0↔x<y:=by unfold Ot; split <;> (try split) <;> omega
theorem Zi9 {a b:List Nat} (ha:Sm a) (hb:Sm b) (h1:sz (val a)<=4294967296):Uk Tryz.prog 276 [lr a,lr b] (if val b<=val a then [lr (U8 (val a-val b)),.one (.bool true)] else [lr [],.one (.bool false)]):=by
 refine Gm Tryz.func276 rfl ?_;obtain ⟨p,ca,np,vp,_,ep⟩:=Qf6 ha;obtain ⟨q,cb,nq,vq,_,_⟩:=Qf6 hb;have hp:=Rm h1;rw [<-ep] at hp;rw [<-vp,<-vq];have cc:=Q68 np.1 nq.1;by_cases hlt:val p<val q
 ·rw [if_neg (by omega)];exact en tt [.c [] ca,.c [] cb,.c [] cc,.t (by simpa using Qti.2 hlt)] rfl rfl trivial
 rw [if_pos (by omega)];have hq:q.length<=p.length:=Yv λh=>hlt (Cf np nq h)
 refine go tt [.c [] ca,.c [] cb,.c [] cc,.f (by have:=mt Qti.1 hlt; simpa using this),.i (lm p).length,.i (lm p).length] rfl (by simp [Ui,G6,Um] <;> omega) ?_;rw [Qdl];refine lp (S:=Nat×List Nat×Nat) 1 (λL1 s=>(24,.v (.one (.int .i64 (s.1:Int))))::(7,.v (.one (.int .u64 (s.2.2:Int))))::L1) (λs=>[.row false 217 1 (lm s.2.1)]) (λs=>p.length-s.1)
  (λs=>s.1<=p.length/\s.2.1.length=p.length/\Sm s.2.1/\s.2.2<=1/\val (s.2.1.take s.1)+val (q.take s.1)=val (p.take s.1)+s.2.2*4294967296^s.1) (0,List.replicate (lm p).length 0,0)
  ⟨Qh _,by simp [Um],λx hx=>by rw [Zu hx]; decide,Qh _,by simp [val]⟩ rfl (λ_ _=>rfl) rfl λ⟨i,o,c⟩ ⟨j1,j2,j3,j4,j5⟩=>?_
 dsimp only at j1 j2 j3 j4 j5 ⊢;by_cases hi:i<p.length
 ·obtain ⟨x,hx⟩:=gxE (l:=p) (i:=i) hi;have xb:=np.1 x (Qa hx);have fin:∀ y s,(q[i]? = some y\/q.length<=i/\y=0)->y<4294967296->s=(x+18446744073709551616-c-y) % 18446744073709551616->p.length-(i+1)<p.length-i/\i+1<=p.length/\(o.set i (s % 4294967296)).length=p.length/\Sm (o.set i (s % 4294967296))/\s / 9223372036854775808<=1 /\
   val ((o.set i (s % 4294967296)).take (i+1))+val (q.take (i+1))=val (p.take (i+1))+s / 9223372036854775808*4294967296^(i+1):=λy s hy hyb hs=>by
   obtain ⟨h1,h2⟩:=Zda (o:=o) (by omega) hx hy xb hyb j4 j5 hs;exact ⟨by omega,hi,by simp [j2],Mv j3 i _ (by omega),h2,h1⟩
  by_cases hi2:i<q.length
  ·obtain ⟨y,hy⟩:=gxE (l:=q) (i:=i) hi2;have yb:=nq.1 y (Qa hy);obtain ⟨s,hs⟩:=nmE ((x+18446744073709551616-c-y) % 18446744073709551616);refine go tt [.t (by simp [Um]; omega),.x (Fw hx),.w 1,.r 32 (B9 (b:=(((x+18446744073709551616-c) % 18446744073709551616:Nat):Int)) (by rw [w64]; omega)),.t (by simp [Um]; omega),.x (Fw hy),.w 1,.r 43 (B9 (b:=(s:Int)) (by rw [w64]; omega)),.w 0,.r 47 (Dh (b:=((s % 4294967296:Nat):Int)) (by rw [w32]; omega)),.i 63,.r 49 (B9 (b:=((s / 9223372036854775808:Nat):Int)) (by simp)),.i i] rfl (by simp [Ui,G6,Um,IntKind.bits] <;> omega) ?_;rw [Nk];exact rd (i+1,o.set i (s % 4294967296),s / 9223372036854775808) (fin y _ (.inl hy) yb hs).1 (fin y _ (.inl hy) yb hs).2 rfl
  ·obtain ⟨s,hs⟩:=nmE ((x+18446744073709551616-c-0) % 18446744073709551616);have hf:=fin 0 _ (.inr ⟨by omega,rfl⟩) (by decide) hs;refine go tt [.t (by simp [Um]; omega),.x (Fw hx),.w 1,.r 32 (B9 (b:=(s:Int)) (by rw [w64]; omega)),.f (by simp [Um]; omega),.w 0,.r 47 (Dh (b:=((s % 4294967296:Nat):Int)) (by rw [w32]; omega)),.i 63,.r 49 (B9 (b:=((s / 9223372036854775808:Nat):Int)) (by simp)),.i i] rfl (by simp [Ui,G6,Um,IntKind.bits] <;> omega) ?_;rw [Nk];exact rd (i+1,o.set i (s % 4294967296),s / 9223372036854775808) hf.1 hf.2 rfl
 ·obtain rfl:i=p.length:=by omega
  have e:val o=val p-val q:=by
   rw [Qk (Nat.le_of_eq j2),Qk hq,Qk (Qm _)] at j5;have h1:=C6 o j3;rw [j2] at h1;rcases Nat.le_one_iff_eq_zero_or_eq_one.1 j4 with rfl | rfl <;> omega
  rw [<-e];exact en tt [.f (by simp [Um]),.c [] (Qcc j3)] rfl rfl trivial
theorem Zns {a b:List Nat} (ha:Sm a) (hb:Sm b) (h1:sz (val a)<=4294967296) (h2:sz (val b)<=4294967296):Uk Tryz.prog 242 [lr a,lr b] [lr (U8 (val a*val b))]:=by
 refine Gm Tryz.func242 rfl ?_;obtain ⟨p,ca,np,vp,_,ep⟩:=Qf6 ha;obtain ⟨q,cb,nq,vq,_,eq⟩:=Qf6 hb;have hp:=Rm h1;have hq:=Rm h2;rw [<-ep] at hp;rw [<-eq] at hq;rw [<-vp,<-vq];refine go tt [.c [] ca,.c [] cb,.i ((lm p).length+(lm q).length),.i ((lm p).length+(lm q).length)] rfl (by simp [Ui,G6,Um] <;> omega) ?_;rw [Qdl];refine lp (S:=Nat×List Nat) 1 (λL1 s=>(24,.v (.one (.int .i64 (s.1:Int))))::L1) (λs=>[.row false 217 1 (lm s.2)]) (λs=>p.length-s.1)
  (λs=>s.1<=p.length/\s.2.length=p.length+q.length/\Sm s.2/\(∀ j,s.1+q.length<=j->j<s.2.length->s.2[j]? = some 0)/\val s.2=val (p.take s.1)*val q) (0,List.replicate ((lm p).length+(lm q).length) 0)
  ⟨Qh _,by simp [Um],λx hx=>by rw [Zu hx]; decide,λj _ hj=>by rw [J4,if_pos (by simpa using hj)],by simp [val,Qhb]⟩ rfl (λ_ _=>rfl) rfl λ⟨i,o⟩ ⟨j1,j2,j3,j4,j5⟩=>?_
 dsimp only at j1 j2 j3 j4 j5 ⊢;by_cases hi:i<p.length
 ·obtain ⟨x,hx⟩:=gxE (l:=p) (i:=i) hi;have xb:=np.1 x (Qa hx);refine go tt [.t (by simp [Um]; omega),.x (Fw hx)] rfl trivial ?_;refine lp (S:=Nat×List Nat×Nat) 1 (λL1 s=>(31,.v (.one (.int .i64 (s.1:Int))))::(8,.v (.one (.int .u64 (s.2.2:Int))))::L1) (λs=>[.row false 217 1 (lm s.2.1)]) (λs=>q.length-s.1)
   (λs=>s.1<=q.length/\s.2.1.length=p.length+q.length/\Sm s.2.1/\(∀ j,i+q.length<=j->j<s.2.1.length->s.2.1[j]? = some 0)/\s.2.2<4294967296/\val s.2.1+s.2.2*4294967296^(i+s.1)=val (p.take i)*val q+4294967296^i*x*val (q.take s.1)) (0,o,0)
   ⟨Qh _,j2,j3,j4,by simp,by simp [val,j5]⟩ rfl (λ_ _=>rfl) rfl λ⟨k,o',c⟩ ⟨k1,k2,k3,k4,k5,k6⟩=>?_
  dsimp only at k1 k2 k3 k4 k5 k6 ⊢;by_cases hk:k<q.length
  ·obtain ⟨y,hy⟩:=gxE (l:=q) (i:=k) hk;have yb:=nq.1 y (Qa hy);obtain ⟨z,hz⟩:=gxE (l:=o') (i:=i+k) (by omega);have zb:=k3 z (Qa hz);have hm:=Qan xb yb;have hm2:(x:Int)*(y:Int)=((x*y:Nat):Int):=by push_cast; rfl
   obtain ⟨s,hs⟩:=nmE (x*y+z+c);refine go tt [.t (by simp [Um]; omega),.x (Fw hy),.r 40 (B9 (b:=((x*y:Nat):Int)) (by push_cast; rfl)),.i (i+k),.x (Fw hz),.r 50 (B9 (b:=(s:Int)) (by omega)),.w 1,.r 56 (Dh (b:=((s % 4294967296:Nat):Int)) (by rw [w32]; omega)),.i 32,.r 58 (B9 (b:=((s / 4294967296:Nat):Int)) (by simp)),.i (i+k)] rfl ?_ ?_
   ·simp [Ui,G6,Um,IntKind.bits] <;> omega
   ·rw [Nk];exact rd (k+1,o'.set (i+k) (s % 4294967296),s / 4294967296) (show q.length-(k+1)<q.length-k by omega) ⟨hk,by simp [k2],Mv k3 _ _ (by omega),λj h3 h4=>by
     rw [Yk (by omega)]; exact k4 j h3 (by simpa using h4),(show s / 4294967296<4294967296 from by omega),Za1 hz hy k6 hs⟩ rfl
  ·obtain rfl:k=q.length:=by omega
   by_cases hq0:0<q.length
   ·refine go tt [.f (by simp [Um]),.t (by simp [Um]; omega),.w 1,.r 70 (Dh (b:=((c % 4294967296:Nat):Int)) (by rw [w32]; omega)),.i (i+(lm q).length)] rfl (by simp [Ui,G6,Um,IntKind.bits] <;> omega) ?_;rw [Nk];refine rd (i+1,o'.set (i+(lm q).length) (c % 4294967296)) (show p.length-(i+1)<p.length-i by omega) ⟨hi,by simp [k2],Mv k3 _ _ (by omega),λj h3 h4=>?_,?_⟩ rfl
    ·rw [Um,List.getElem?_set_ne (by dsimp only at h3; omega)];exact k4 j (by dsimp only at h3; omega) (by simpa using h4)
    ·rw [Um];exact Za0 (k4 _ (Qm _) (by omega)) hx k5 rfl k6
   ·have q0:q=[]:=Qi (by omega);refine go tt [.f (by simp [Um]),.f (by simp [Um,q0])] rfl (by simp [Ui,G6,Um,IntKind.bits] <;> omega) ?_;refine rd (i+1,o') (show p.length-(i+1)<p.length-i by omega) ⟨hi,k2,k3,λj h3 h4=>k4 j (by dsimp only at h3; omega) h4,?_⟩ rfl;have c0:c*4294967296^(i+q.length)=0/\val o'=0:=by
     subst q0;simp only [val,List.take_nil,Y0] at k6;omega
    rw [c0.2,q0]; rfl
 ·obtain rfl:i=p.length:=by omega
  rw [Qk (Qm _)] at j5;rw [<-j5];exact en tt [.f (by simp [Um]),.c [] (Qcc j3)] rfl rfl trivial
theorem o64 {k q:Nat} (hq:q<4294967296) (hb:4294967296*k+q<18446744073709551616):orI .u64 ((4294967296*k:Nat):Int) (q:Int)=((4294967296*k+q:Nat):Int):=by
 have e1:(BitVec.ofInt 64 ((4294967296*k:Nat):Int)).toNat=4294967296*k:=by rw [BitVec.toNat_ofInt]; omega
 have e2:(BitVec.ofInt 64 (q:Int)).toNat=q:=by rw [BitVec.toNat_ofInt]; omega
 show IntKind.u64.wrap ((BitVec.ofInt 64 ((4294967296*k:Nat):Int) ||| BitVec.ofInt 64 (q:Int)).toNat:Int)=_;rw [BitVec.toNat_or,e1,e2,Zl7 hq,w64]; omega
theorem oM {k p:Nat} (hp:p<4294967296) (hb:4294967296*k+p<18446744073709551616):orI .u64 (p:Int) ((4294967296*k:Nat):Int)=((4294967296*k+p:Nat):Int):=by
 have:=o64 hp hb;unfold orI at this ⊢;rw [BitVec.or_comm]; exact this
theorem o32 {s k p:Nat} (hp:p<2^s) (h1:p<4294967296) (h2:2^s*k<4294967296) (hb:p+2^s*k<4294967296):orI .u32 (p:Int) ((2^s*k:Nat):Int)=((p+2^s*k:Nat):Int):=by
 have e1:(BitVec.ofInt 32 ((2^s*k:Nat):Int)).toNat=2^s*k:=by rw [BitVec.toNat_ofInt]; omega
 have e2:(BitVec.ofInt 32 (p:Int)).toNat=p:=by rw [BitVec.toNat_ofInt]; omega
 have e3:p ||| 2^s*k=p+2^s*k:=by
  have:=Wp (i:=s) (b:=p) hp k;rw [Nat.or_comm,<-this,Yc]
 show IntKind.u32.wrap ((BitVec.ofInt 32 (p:Int) ||| BitVec.ofInt 32 ((2^s*k:Nat):Int)).toNat:Int)=_;rw [BitVec.toNat_or,e1,e2,e3,w32]; omega
theorem Zn4 {l:List Nat} {v:Nat} (hl:Sm l) (hn:l.length<274877906944) (h0:0<v) (hv:v<4294967296):Uk Tryz.prog 270 [lr l,.one (.int .u32 (v:Int))] [lr (U8 (val l / v)),.one (.int .u32 ((val l % v:Nat):Int))]:=by
 refine Gm Tryz.func270 rfl ?_;refine go tt [.i (lm l).length,.i (lm l).length] rfl (by simp [Ui,G6,Um] <;> omega) ?_;rw [Qdl];refine lp (S:=Int×List Nat×Nat) 1 (λL1 s=>(8,.v (.one (.int .i64 s.1)))::(7,.v (.one (.int .u64 (s.2.2:Int))))::L1) (λs=>[.row false 217 1 (lm s.2.1)]) (λs=>(s.1+1).toNat)
  (λs=>-1<=s.1/\s.1<l.length/\s.2.1.length=l.length/\Sm s.2.1/\s.2.2<v/\val (l.drop (s.1+1).toNat)=v*val (s.2.1.drop (s.1+1).toNat)+s.2.2) (((lm l).length:Int)-1,List.replicate (lm l).length 0,0)
  ⟨by simp [Um]; omega,by simp [Um]; omega,by simp [Um],λx hx=>by rw [Zu hx]; decide,h0,by simp [Um,val]⟩ rfl (λ_ _=>rfl) rfl λ⟨i,o,r⟩ ⟨j1,j2,j3,j4,j5,j6⟩=>?_
 dsimp only at j1 j2 j3 j4 j5 j6 ⊢;rcases K7 i 0 with hi | hi
 ·obtain rfl:i=-1:=by omega
  simp only [show ((-1:Int)+1).toNat=0 from rfl,Xs] at j6;have e1:val l / v=val o:=by rw [j6,Ua h0,V0 j5,Xy]
  have e2:val l % v=r:=by rw [j6,Ub,X9 j5]
  rw [e1,e2];exact en tt [.f (by decide),.c [] (Qcc j4)] rfl rfl (by simp [Ui,G6,Um,IntKind.bits] <;> omega)
 ·obtain ⟨k,rfl⟩:=Yq hi;have e:((k:Int)+1).toNat=k+1:=by omega
  rw [e] at j6;obtain ⟨x,hx⟩:=gxE (l:=l) (i:=k) (by omega);have xb:=hl x (Qa hx);obtain ⟨s,hs⟩:=nmE (r*4294967296+x);obtain ⟨k1,k2,k3⟩:=Zbb hx xb (show k<o.length by omega) h0 j5 j6 hs;obtain ⟨q,hq⟩:=nmE (s / v);obtain ⟨u,hu⟩:=nmE (s % v);have hqi:(s:Int).tdiv v=(q:Int):=by rw [V3 (by omega),hq]; rfl
  have hui:(s:Int).tmod v=(u:Int):=by rw [Y4 (by omega),hu]; rfl
  rw [<-hq,<-hu] at k3;rw [<-hq] at k1;rw [<-hu] at k2;refine go tt [.t (by simp),.i 32,.r 21 (B9 (b:=((4294967296*r:Nat):Int)) (by omega)),.x (Fw hx),.r 27 (B9 (b:=(s:Int)) (by rw [o64 xb (by omega)]; omega)),
   .r 33 (B9 (b:=(q:Int)) hqi),.w 0,.r 34 (Dh (b:=((q % 4294967296:Nat):Int)) (by rw [w32]; omega)),.r 38 (B9 (b:=(u:Int)) hui),.i k] rfl (by simp [Ui,G6,Um,IntKind.bits,hqi] <;> omega) ?_
  rw [Nk];exact rd ((k:Int)-1,o.set k (q % 4294967296),u) (by dsimp only; omega) ⟨by dsimp only; omega,by dsimp only; omega,by simp [j3],Mv j4 _ _ (by omega),k2,by dsimp only; rw [show ((k:Int)-1+1).toNat=k from by omega]; exact k3⟩ rfl
theorem Qdv {i:Nat} {s:ByteArray} (h:∀ i,i<256->(s[i]?).map (·.toNat)=some (sz i)) (hi:i<256):(s[i]?).map (·.toNat)=some (sz i):=h i hi
set_option maxRecDepth 100000 in
theorem Q0v {x:Nat} (hx:x<4294967296):Uk Tryz.prog 263 [.one (.int .u32 (x:Int))] [.one (.int .i64 (sz x:Int))]:=by
 refine Gm Tryz.func263 rfl ?_;have h31:sz x<=32:=M6.2 (by omega);by_cases h1:65536<=x
 ·have e1:sz x=16+sz (x / 2^16):=Qfd (by omega);obtain ⟨y,hy⟩:=nmE (x / 2^16);rw [<-hy] at e1;by_cases h2:256<=y
  ·have e2:sz y=8+sz (y / 2^8):=Qfd (by omega);obtain ⟨z,hz⟩:=nmE (y / 2^8);rw [<-hz] at e2;exact en tt [.t (by simp; omega),.i 16,.r 6 (Dh (b:=(y:Int)) (by simp [hy])),.t (by simp; omega),.i 8,.r 10 (Dh (b:=(z:Int)) (by simp [hz])),.y (Qdv (i:=z) (by decide) (by omega))] rfl (by rw [e1,e2]; simp; omega) (by simp [Ui,G6,IntKind.bits] <;> omega)
  ·exact en tt [.t (by simp; omega),.i 16,.r 6 (Dh (b:=(y:Int)) (by simp [hy])),.f (by simp; omega),.y (Qdv (i:=y) (by decide) (by omega))] rfl (by rw [e1]; simp) (by simp [Ui,G6,IntKind.bits] <;> omega)
 ·by_cases h2:256<=x
  ·have e2:sz x=8+sz (x / 2^8):=Qfd (by omega);obtain ⟨z,hz⟩:=nmE (x / 2^8);rw [<-hz] at e2;exact en tt [.f (by simp; omega),.t (by simp; omega),.i 8,.r 10 (Dh (b:=(z:Int)) (by simp [hz])),.y (Qdv (i:=z) (by decide) (by omega))] rfl (by rw [e2]; simp) (by simp [Ui,G6,IntKind.bits] <;> omega)
  ·exact en tt [.f (by simp; omega),.f (by simp; omega),.y (Qdv (i:=x) (by decide) (by omega))] rfl (by simp) (by simp [Ui,G6,IntKind.bits] <;> omega)
theorem Zkp {x:Nat} (hx:x<4294967296):Uk Tryz.prog 271 [.one (.int .u32 (x:Int))] [.one (.int .i64 ((32-sz x:Nat):Int))]:=by
 have h31:sz x<=32:=M6.2 (by omega);exact w tt Tryz.func271 rfl [.c [] (Q0v hx)] rfl (by simp; omega) (by simp [Ui,G6] <;> omega)
theorem Qw8 {l:List Nat} (hl:Sm l) (hs:sz (val l)<=4294967296):Uk Tryz.prog 225 [lr l] [.one (.int .i64 (sz (val l):Int))]:=by
 refine Gm Tryz.func225 rfl ?_;obtain ⟨p,ca,np,vp,_,ep⟩:=Qf6 hl;have hp:=Rm hs;rw [<-ep] at hp;rw [<-vp] at hs ⊢;by_cases h0:p=[]
 ·subst h0;exact en tt [.c [] ca,.t (by simp [lm])] rfl rfl (by simp [Ui,G6])
 ·have hpl:0<p.length:=Jt.2 h0;obtain ⟨x,hx,hx0⟩:=np.2 h0;have xb:=np.1 x (Qa hx);have e:=Qz8 np hx;have h31:sz x<=32:=M6.2 (by omega);have hn:(lm p).length≠0:=by rw [Um]; omega
  refine en tt [.c [] ca,.f (by simp [Um]; omega),.r 15 (eI (b:=((p.length-1:Nat):Int)) (by rw [Um]; omega)),.x (Fw hx),.c [] (Q0v xb)] rfl (by rw [e,Um]; simp; omega) (by simp [Ui,G6,Um] <;> omega)
theorem Qvx {s:Nat} (h:s<=31):((s:Nat):Int).tdiv 32=((0:Nat):Int):=by
 rw [V3 (by omega)]; omega
theorem Zb6 {s:Nat} (h:s<=31):((s:Nat):Int).tmod 32=(s:Int):=Int.tmod_eq_of_lt (by omega) (by omega)
theorem Zl1 {s:Nat} (h:s<=31):max 0 (min (s:Int) 65536)=(s:Int):=by omega
theorem Zny {a:List Nat} {s:Nat} (ha:Sm a) (h1:sz (val a)<=4294967400) (hs:s<=31):Uk Tryz.prog 289 [lr a,.one (.int .i64 (s:Int))] [lr (U8 (val a*2^s))]:=by
 refine Gm Tryz.func289 rfl ?_;obtain ⟨p,ca,np,vp,_,ep⟩:=Qf6 ha;have hp:=Rm h1;rw [<-ep] at hp;rw [<-vp];have hq:((s:Nat):Int).tdiv 32=0:=Qvx hs;by_cases h0:p=[]
 ·subst h0;exact en tt [.c [] ca,.t (by simp [lm])] rfl (by simp [val,Gd,lm]) (by simp [Ui,G6])
 have hpl:0<p.length:=Jt.2 h0;refine go tt [.c [] ca,.r 15 (eI (b:=(s:Int)) (Zl1 hs)),.f (by simp [Um]; omega),.r 20 (eI (b:=((0:Nat):Int)) (Qvx hs)),.r 22 (eI (b:=(s:Int)) (Zb6 hs)),.r 28 (eI (b:=(((lm p).length+1:Nat):Int)) (by omega)),.i ((lm p).length+1),.i ((lm p).length+1)] rfl (by have e:=Um p; simp only [Ui,G6]; omega) ?_;rw [Qdl];refine lp (S:=Nat×List Nat) 1 (λL1 s=>(32,.v (.one (.int .i64 (s.1:Int))))::L1) (λs=>[.row false 217 1 (lm s.2)]) (λs=>p.length-s.1)
  (λr=>r.1<=p.length/\r.2.length=p.length+1/\Sm r.2/\(∃ z,r.2[r.1]? = some z/\z<2^s)/\val (r.2.take (r.1+1))=val (p.take r.1)*2^s) (0,List.replicate ((lm p).length+1) 0)
  ⟨Qh _,by simp [Um],λx hx=>by rw [Zu hx]; decide,⟨0,by simp,Zy (by decide)⟩,by simp [val,Ya]⟩ rfl (λ_ _=>rfl) rfl λ⟨i,o⟩ ⟨j1,j2,j3,⟨z,hz,hzs⟩,j5⟩=>?_
 dsimp only at j1 j2 j3 hz hzs j5 ⊢;by_cases hi:i<p.length
 ·obtain ⟨x,hx⟩:=gxE (l:=p) (i:=i) hi;have xb:=np.1 x (Qa hx);have zb:=j3 z (Qa hz);obtain ⟨k1,k2,k3,k4⟩:=Zcx hs hx xb hz hzs (by omega) j5;have hxs:=Zml hs xb;have h31:2^s<=2^31:=Zq (by decide) hs;have ec:(x:Int)*2^s=((x*2^s:Nat):Int):=by push_cast; rfl
  obtain ⟨m,hm⟩:=nmE (x*2^s);rw [<-hm] at k1 k2 k3 k4 hxs ec;refine go tt [.t (by simp [Um]; omega),.x (Fw hx),.i s,.r 40 (B9 (b:=(m:Int)) ec),.i i,.x (Fw hz),.w 0,.r 52 (Dh (b:=((m % 4294967296:Nat):Int)) (by rw [w32]; omega)),.r 53 (Dh (b:=((z+m % 4294967296:Nat):Int)) (by rw [k4,o32 hzs zb (by omega) (by omega)])),.i i,
   .i 32,.r 61 (B9 (b:=((m / 2^32:Nat):Int)) (by simp)),.w 0,.r 62 (Dh (b:=((m / 2^32 % 4294967296:Nat):Int)) (by rw [w32]; omega)),.i (i+1)] rfl (by simp [Ui,G6,Um,IntKind.bits,ec] <;> omega) ?_
  rw [Nk,Nk];exact rd (i+1,(o.set i (z+m % 4294967296)).set (i+1) (m / 2^32 % 4294967296)) (show p.length-(i+1)<p.length-i by omega) ⟨hi,by simp [j2],Mv (Mv j3 _ _ (by omega)) _ _ (by omega),⟨_,by rw [Jg (by simp; omega)],by omega⟩,k3⟩ rfl
 ·obtain rfl:i=p.length:=by omega
  rw [Qk (by omega),Qk (Qm _)] at j5;rw [<-j5];exact en tt [.f (by simp [Um]),.c [] (Qcc j3)] rfl rfl trivial
theorem Znz {a:List Nat} {s:Nat} (ha:Sm a) (h1:sz (val a)<=4294967400) (hs:s<=31):Uk Tryz.prog 274 [lr a,.one (.int .i64 (s:Int))] [lr (U8 (val a / 2^s))]:=by
 refine Gm Tryz.func274 rfl ?_;obtain ⟨p,ca,np,vp,_,ep⟩:=Qf6 ha;have hp:=Rm h1;rw [<-ep] at hp;rw [<-vp];have hq:((s:Nat):Int).tdiv 32=0:=Qvx hs;by_cases h0:p=[]
 ·subst h0;exact en tt [.c [] ca,.r 14 (eI (b:=(s:Int)) (Zl1 hs)),.r 16 (eI (b:=((0:Nat):Int)) (Qvx hs)),.r 18 (eI (b:=(s:Int)) (Zb6 hs)),.t (by simp [lm])] rfl (by simp [val,Gd,lm]) (by simp only [Ui,G6]; omega)
 have hpl:0<p.length:=Jt.2 h0;refine go tt [.c [] ca,.r 14 (eI (b:=(s:Int)) (Zl1 hs)),.r 16 (eI (b:=((0:Nat):Int)) (Qvx hs)),.r 18 (eI (b:=(s:Int)) (Zb6 hs)),.f (by simp [Um]; omega),.r 27 (eI (b:=((lm p).length:Int)) (by omega)),.i (lm p).length,.i (lm p).length] rfl (by have e:=Um p; simp only [Ui,G6]; omega) ?_;rw [Qdl];refine lp (S:=Nat×List Nat) 1 (λL1 s=>(31,.v (.one (.int .i64 (s.1:Int))))::L1) (λs=>[.row false 217 1 (lm s.2)]) (λs=>p.length-s.1)
  (λr=>r.1<=p.length/\r.2.length=p.length/\Sm r.2/\val (r.2.take r.1)=val p / 2^s % 4294967296^r.1) (0,List.replicate (lm p).length 0)
  ⟨Qh _,by simp [Um],λx hx=>by rw [Zu hx]; decide,by simp [val]; omega⟩ rfl (λ_ _=>rfl) rfl λ⟨i,o⟩ ⟨j1,j2,j3,j5⟩=>?_
 dsimp only at j1 j2 j3 j5 ⊢;by_cases hi:i<p.length
 ·obtain ⟨x,hx⟩:=gxE (l:=p) (i:=i) hi;have xb:=np.1 x (Qa hx);have fin:∀ y m,(p[i+1]? = some y\/p.length<=i+1/\y=0)->m=(x+y*2^32) / 2^s->p.length-(i+1)<p.length-i/\i+1<=p.length/\(o.set i (m % 4294967296)).length=p.length/\Sm (o.set i (m % 4294967296))/\val ((o.set i (m % 4294967296)).take (i+1))=val p / 2^s % 4294967296^(i+1):=λy m hy hm =>
   ⟨by omega,hi,by simp [j2],Mv j3 _ _ (by omega),by subst hm; exact Zcy hs hx hy (by omega) np.1 j5⟩
  have hsp:0<2^s:=Zy (by decide);by_cases hy0:i+1<p.length
  ·obtain ⟨y,hy⟩:=gxE (l:=p) (i:=i+1) hy0;have yb:=np.1 y (Qa hy);obtain ⟨v,hv⟩:=nmE (4294967296*y+x);obtain ⟨m,hm⟩:=nmE (v / 2^s);have hml:m<=v:=hm ▸ J8 _ _;have hf:=fin y m (.inl hy) (by rw [hm,hv]; congr 1; omega);refine go tt [.t (by simp [Um]; omega),.x (Fw hx),.t (by simp [Um]; omega),.x (Fw hy),.i 32,.r 57 (B9 (b:=((4294967296*y:Nat):Int)) (by omega)),.r 58 (B9 (b:=(v:Int)) (by rw [oM xb (by omega)]; omega)),
    .i s,.r 63 (B9 (b:=(m:Int)) (by rw [hm]; push_cast; rfl)),.w 0,.r 64 (Dh (b:=((m % 4294967296:Nat):Int)) (by rw [w32]; omega)),.i i] rfl (by simp [Ui,G6,Um,IntKind.bits] <;> omega) ?_
   rw [Nk];exact rd (i+1,o.set i (m % 4294967296)) hf.1 hf.2 rfl
  ·obtain ⟨m,hm⟩:=nmE (x / 2^s);have hml:m<=x:=hm ▸ J8 _ _;have hf:=fin 0 m (.inr ⟨by omega,rfl⟩) (by rw [hm]; simp);refine go tt [.t (by simp [Um]; omega),.x (Fw hx),.f (by simp [Um]; omega),
    .i s,.r 63 (B9 (b:=(m:Int)) (by rw [hm]; push_cast; rfl)),.w 0,.r 64 (Dh (b:=((m % 4294967296:Nat):Int)) (by rw [w32]; omega)),.i i] rfl (by simp [Ui,G6,Um,IntKind.bits] <;> omega) ?_
   rw [Nk];exact rd (i+1,o.set i (m % 4294967296)) hf.1 hf.2 rfl
 ·obtain rfl:i=p.length:=by omega
  have hvl:=C6 p np.1;rw [Qk (by omega),X9 (Zv (J8 _ _) hvl)] at j5;rw [<-j5];exact en tt [.f (by simp [Um,j2]),.c [] (Qcc j3)] rfl rfl trivial
def dgs:Nat->Nat->List Nat
 | 0,_=>[]
 | k+1,v=>v % 4294967296::dgs k (v / 4294967296)
theorem Q9b:∀ {l:List Nat},Sm l->l=dgs l.length (val l)
 | [],_=>rfl
 |
  x::l,h=>by
  have hx:=h x (.head _);have ih:=Q9b (l:=l) λy hy=>h y (.tail _ hy)
  simp only [Q6,dgs,val];rw [show (x+4294967296*val l) % 4294967296=x by omega,show (x+4294967296*val l) / 4294967296=val l by omega,<-ih]
theorem Qx4 {l:List Nat} {k v:Nat} (h:Sm l) (hk:l.length=k) (hv:val l=v):dgs k v=l:=by
 rw [<-hk,<-hv]; exact (Q9b h).symm
theorem Qqf:∀ {k v:Nat},(dgs k v).length=k/\Sm (dgs k v)/\(v<4294967296^k->val (dgs k v)=v)
 | 0,v=>⟨rfl,λx hx=>by (cases hx),λh=>by simp at h; subst h; rfl⟩
 |
  k+1,v=>by
  obtain ⟨h1,h2,h3⟩:=Qqf (k:=k) (v:=v / 4294967296);refine ⟨by simp [dgs,h1],λx hx=>?_,λh=>?_⟩
  ·rcases Qp.1 hx with rfl | hx
   ·exact Xf _ (by decide)
   ·exact h2 x hx
  ·simp only [dgs,val];rw [h3 (by rw [Zo] at h; exact Je (by rw [Zi]; exact h))];omega
theorem Q8u {a:List Nat} {s n:Nat} (ha:Sm a) (h1:sz (val a)<=4294967400) (hs:s<=31) (hn:n<274877906944) (h0:0<n) (hv:val a*2^s<4294967296^n) :
 Ht Tryz.prog 272 [lr a,.one (.int .i64 (s:Int)),.one (.int .i64 (n:Int))] [] [.one (.orow 0 1 none)] [.row false 217 1 (lm (dgs n (val a*2^s)))]:=by
 refine Gm Tryz.func272 rfl ?_;obtain ⟨v,hvv⟩:=nmE (val a*2^s);have cs:=Zny ha h1 hs;rw [<-hvv] at cs hv ⊢;have hl:(U8 v).length<=n:=by
  apply Classical.byContradiction;intro hh;have h2:=Qem (By v) (λe=>by rw [e] at hh; simp at hh);rw [Fu] at h2;have h3:4294967296^n<=4294967296^((U8 v).length-1):=Zq (by decide) (by omega);omega
 refine go tt [.i n,.i n,.c [] cs,.s (Zas (U8 v)),.i (U8 v).length] rfl (by simp [Ui,G6,Um] <;> omega) ?_;have e:List.take 0 (List.replicate n [LV.int .u32 0])++(List.take (U8 v).length (lm (U8 v))++List.drop (0+(U8 v).length) (List.replicate n [LV.int .u32 0]))=lm (dgs n v):=by
  rw [Qx4 (l:=U8 v++List.replicate (n-(U8 v).length) 0) (λx hx=>?_) (by simp; omega) (by rw [My,Qhb,Fu]; simp)]
  ·rw [Vv,Y3,Qk (by rw [Um]; exact Qm _)];simp [lm]
  ·rcases Qw.1 hx with hx | hx
   ·exact Cu v x hx
   ·rw [Zu hx]; decide
 rw [e];exact ed tt [] [0] [] rfl trivial
theorem Qm6 {pre x post:List Nat} {i u:Nat} (h:x[i]? = some u):(lm (pre++x++post))[pre.length+i]? = some [.int .u32 (u:Int)]:=Fw (by
 have hi:=(Qd.1 h).1;rw [Zg,Xl (by omega),Jo,Zm hi]; exact h)
theorem Zdu {pre x post:List Nat} {i v:Nat} (h:i<x.length):(lm (pre++x++post)).set (pre.length+i) [.int .u32 (v:Int)]=lm (pre++x.set i v++post):=by
 rw [Nk,Zg,List.set_append_right _ _ (by omega),Jo,List.set_append_left _ _ h,<-Zg]
theorem Ze9 {pre x post ly:List Nat} {top nx xn x1 x2:Nat} (D:Dig x ly ly.length top nx xn x1 x2) (hn:ly.length<274877906944) :
 Ht Tryz.prog 273 [.one (.orow 0 1 (some (pre.length,x.length))),lr ly] [.row true 217 1 (lm (pre++x++post))] [.one (.int .u32 ((val x / val ly:Nat):Int))] [.row true 217 1 (lm (pre++dgs x.length (val x % val ly)++post))]:=by
 refine Gm Tryz.func273 rfl ?_;have hxl:=D.hx;have hn2:=D.hn;have hb:=D.bnd;obtain ⟨head,hh⟩:=nmE (xn*2^32+x1);obtain ⟨g0,hg0⟩:=nmE (head / top);obtain ⟨r0,hr0⟩:=nmE (head % top);have hst:=D.start;rw [<-hh,<-hg0] at hst;have ht0:=D.top0;have hg0l:g0<=head:=hg0 ▸ J8 _ _;have hr0l:r0<top:=hr0 ▸ Xf _ ht0;have htd:(head:Int).tdiv top=(g0:Int):=by rw [V3 (by omega),hg0]; rfl
 have htm:(head:Int).tmod top=(r0:Int):=by rw [Y4 (by omega),hr0]; rfl
 refine go tt [.r 23 (eI (b:=(ly.length:Int)) (by rw [Um])),.r 26 (eI (b:=((ly.length-1:Nat):Int)) (by omega)),.x (Fw D.ltop),.r 32 (eI (b:=((ly.length-2:Nat):Int)) (by omega)),.x (Fw D.lnx),
  .i ly.length,.x (Qm6 D.xn),.i 32,.r 41 (B9 (b:=((4294967296*xn:Nat):Int)) (by omega)),.r 44 (eI (b:=((ly.length-1:Nat):Int)) (by omega)),.i (ly.length-1),.x (Qm6 D.x1),.r 48 (B9 (b:=(head:Int)) (by rw [o64 hb.2.2.2.1 (by omega)]; omega)),
  .r 51 (B9 (b:=(g0:Int)) htd),.r 54 (B9 (b:=(r0:Int)) htm)] rfl ?_ ?_
 ·simp only [Ui,G6,htd,IntKind.bits]; omega
 refine ct 2 (S:=Nat) (λg=>[(0,.v (.one (.orow 0 1 (some (pre.length,x.length))))),(1,.v (lr ly)),(5,.v (.one (.int .i64 (ly.length:Int)))),(9,.v (.one (.int .u64 (g:Int))))]) (λ_=>[.row true 217 1 (lm (pre++x++post))]) (λg=>val x / val ly<=g/\(g-1)*val ly<=val x/\g<=4294967296) rfl ?_ ?_
 ·refine lp (S:=Nat×Nat) 1 (λL1 s=>(9,.v (.one (.int .u64 (s.1:Int))))::(10,.v (.one (.int .u64 (s.2:Int))))::L1) (λ_=>[.row true 217 1 (lm (pre++x++post))]) (λs=>4294967296-s.2)
   (λs=>s.1*top+s.2=xn*2^32+x1/\val x / val ly<=s.1/\s.2<4294967296/\s.1<18446744073709551616) (g0,r0)
   ⟨by rw [<-hh,hg0,hr0,Nat.mul_comm]; exact Nat.div_add_mod _ _,hst,by dsimp only; omega,by dsimp only; omega⟩ rfl (λ_ _=>rfl) rfl λ⟨g,r⟩ ⟨j1,j2,j3,j4⟩=>?_
  dsimp only at j1 j2 j3 j4 ⊢;by_cases hge:4294967296<=g
  ·have hrd:=D.round j1 j2 (.inl hge);by_cases h2:4294967296<=r+top
   ·exact go tt [.t (by simp; omega),.t rfl,.r 73 (B9 (b:=((g-1:Nat):Int)) (by omega)),.t (by simp; omega)] rfl (by simp [Ui,G6] <;> omega) (rc (g-1) ⟨hrd.2.1,(hrd.2.2.2 h2).1,(hrd.2.2.2 h2).2⟩ rfl)
   ·exact go tt [.t (by simp; omega),.t rfl,.r 73 (B9 (b:=((g-1:Nat):Int)) (by omega)),.f (by simp; omega)] rfl (by simp [Ui,G6] <;> omega) (rd (g-1,r+top) (by dsimp only; omega) ⟨hrd.2.2.1,hrd.2.1,by dsimp only; omega,by dsimp only; omega⟩ rfl)
  ·have hgn:=Qan (x:=g) (y:=nx) (by omega) hb.2.1;by_cases hc:r*2^32+x2<g*nx
   ·have hrd:=D.round j1 j2 (.inr hc);have e1:(g:Int)*(nx:Int)=((g*nx:Nat):Int):=by push_cast; rfl
    obtain ⟨m,hm⟩:=nmE (g*nx);rw [<-hm] at e1 hgn hc;by_cases h2:4294967296<=r+top
    ·exact go tt [.f (by simp; omega),.r 60 (B9 (b:=(m:Int)) e1),.i 32,.r 62 (B9 (b:=((4294967296*r:Nat):Int)) (by omega)),.r 65 (eI (b:=((ly.length-2:Nat):Int)) (by omega)),.i (ly.length-2),.x (Qm6 D.x2),.r 69 (B9 (b:=((4294967296*r+x2:Nat):Int)) (o64 hb.2.2.2.2 (by omega))),.t (by simp; omega),.r 73 (B9 (b:=((g-1:Nat):Int)) (by omega)),.t (by simp; omega)] rfl (by simp only [Ui,G6,e1,IntKind.bits]; omega) (rc (g-1) ⟨hrd.2.1,(hrd.2.2.2 h2).1,(hrd.2.2.2 h2).2⟩ rfl)
    ·exact go tt [.f (by simp; omega),.r 60 (B9 (b:=(m:Int)) e1),.i 32,.r 62 (B9 (b:=((4294967296*r:Nat):Int)) (by omega)),.r 65 (eI (b:=((ly.length-2:Nat):Int)) (by omega)),.i (ly.length-2),.x (Qm6 D.x2),.r 69 (B9 (b:=((4294967296*r+x2:Nat):Int)) (o64 hb.2.2.2.2 (by omega))),.t (by simp; omega),.r 73 (B9 (b:=((g-1:Nat):Int)) (by omega)),.f (by simp; omega)] rfl (by simp only [Ui,G6,e1,IntKind.bits]; omega) (rd (g-1,r+top) (by dsimp only; omega) ⟨hrd.2.2.1,hrd.2.1,by dsimp only; omega,by dsimp only; omega⟩ rfl)
   ·have hf:=D.fin j1 (by omega) (by omega);have e1:(g:Int)*(nx:Int)=((g*nx:Nat):Int):=by push_cast; rfl
    obtain ⟨m,hm⟩:=nmE (g*nx);rw [<-hm] at e1 hgn hc;exact go tt [.f (by simp; omega),.r 60 (B9 (b:=(m:Int)) e1),.i 32,.r 62 (B9 (b:=((4294967296*r:Nat):Int)) (by omega)),.r 65 (eI (b:=((ly.length-2:Nat):Int)) (by omega)),.i (ly.length-2),.x (Qm6 D.x2),.r 69 (B9 (b:=((4294967296*r+x2:Nat):Int)) (o64 hb.2.2.2.2 (by omega))),.f (by simp; omega)] rfl (by simp only [Ui,G6,e1,IntKind.bits]; omega) (rc g ⟨j2,hf,by omega⟩ rfl)
 ·intro g ⟨q1,q2,q3⟩;refine go tt [.r 80 (eI (b:=(ly.length:Int)) (by rw [Um]))] rfl trivial ?_;refine lp (S:=Nat×List Nat×Nat×Nat) 1 (λL1 s=>(81,.v (.one (.int .i64 (s.1:Int))))::(11,.v (.one (.int .u64 (s.2.2.1:Int))))::(12,.v (.one (.int .u64 (s.2.2.2:Int))))::L1) (λs=>[.row true 217 1 (lm (pre++s.2.1++post))]) (λs=>ly.length-s.1)
   (λs=>s.1<=ly.length/\s.2.1.length=ly.length+1/\Sm s.2.1/\s.2.2.2<=1/\s.2.2.1<4294967296/\val (s.2.1.take s.1)+g*val (ly.take s.1)=val (x.take s.1)+(s.2.2.1+s.2.2.2)*4294967296^s.1/\s.2.1.drop s.1=x.drop s.1) (0,x,0,0)
   ⟨Qh _,hxl,D.xb,Qh _,by simp,by simp [val],rfl⟩ rfl (λ_ _=>rfl) rfl λ⟨i,o,cy,bw⟩ ⟨j1,j2,j3,j4,j5,j6,j7⟩=>?_
  dsimp only at j1 j2 j3 j4 j5 j6 j7 ⊢;by_cases hi:i<ly.length
  ·obtain ⟨w1,hw1⟩:=gxE (l:=ly) (i:=i) hi;obtain ⟨u,hu⟩:=gxE (l:=x) (i:=i) (by omega);have wb:=D.lb w1 (Qa hw1);have ub:=D.xb u (Qa hu);have hou:=(Qd4 j7).trans hu;have hgw:g*w1<=18446744069414584320:=by
    have:=Zx q3 (show w1<=4294967295 by omega);omega
   obtain ⟨s,hs⟩:=nmE (((u+18446744073709551616-(g*w1+cy) % 4294967296) % 18446744073709551616+18446744073709551616-bw) % 18446744073709551616);have hstep:=Qrd (o:=o) (by omega) hu hw1 ub j4 j6 rfl hs;have e1:(g:Int)*(w1:Int)=((g*w1:Nat):Int):=by push_cast; rfl
   obtain ⟨m,hm⟩:=nmE (g*w1);rw [<-hm] at e1 hgw hs hstep;obtain ⟨p,hp⟩:=nmE (m+cy);rw [<-hp] at hs hstep;refine go tt [.t (by simp; omega),.x (Fw hw1),.r 89 (B9 (b:=(m:Int)) e1),.r 91 (B9 (b:=(p:Int)) (by omega)),.i 32,.r 93 (B9 (b:=((p / 2^32:Nat):Int)) (by simp)),.i i,.x (Qm6 hou),.w 1,.r 100 (Dh (b:=((p % 4294967296:Nat):Int)) (by rw [w32]; omega)),.w 1,.r 102 (B9 (b:=(((u+18446744073709551616-p % 4294967296) % 18446744073709551616:Nat):Int)) (by rw [w64]; omega)),.w 0,.r 104 (B9 (b:=(s:Int)) (by rw [w64]; omega)),
    .w 0,.r 108 (Dh (b:=((s % 4294967296:Nat):Int)) (by rw [w32]; omega)),.i 63,.r 110 (B9 (b:=((s / 2^63:Nat):Int)) (by simp)),.i i] rfl (by simp only [Ui,G6,e1,IntKind.bits,Um,Q7]; omega) ?_
   rw [Zdu (by omega)];exact rd (i+1,o.set i (s % 4294967296),p / 2^32,s / 2^63) (by dsimp only; omega) ⟨hi,by simp [j2],Mv j3 _ _ (by omega),hstep.2,by dsimp only; omega,hstep.1,Qnq j7⟩ rfl
  ·obtain rfl:i=ly.length:=by omega
   have hon:=(Qd4 j7).trans D.xn;rw [Qk (l:=ly) (Qm _)] at j6;obtain ⟨s,hs⟩:=nmE (((xn+18446744073709551616-cy) % 18446744073709551616+18446744073709551616-bw) % 18446744073709551616);obtain ⟨oa,hoa⟩:=nmE (o.set ly.length (s % 4294967296));have oal:oa.length=ly.length+1:=by rw [hoa,Jd]; exact j2
   have oab:Sm oa:=hoa ▸ Mv j3 _ _ (by omega);by_cases hs0:s / 2^63=0
   ·have hf:=D.fin0 j2 j5 j4 q1 j6 hs hs0;refine go tt [.f (by simp),.i ly.length,.x (Qm6 hon),.w 1,.r 119 (B9 (b:=(((xn+18446744073709551616-cy) % 18446744073709551616:Nat):Int)) (by rw [w64]; omega)),.w 0,.r 121 (B9 (b:=(s:Int)) (by rw [w64]; omega)),.w 0,.r 125 (Dh (b:=((s % 4294967296:Nat):Int)) (by rw [w32]; omega)),.i ly.length,.i 63,.r 128 (B9 (b:=((s / 2^63:Nat):Int)) (by simp)),.t (by simp; omega),.w 0,.r 131 (Dh (b:=((val x / val ly:Nat):Int)) (by rw [w32]; omega))] rfl (by simp only [Ui,G6,IntKind.bits,Um,Q7]; omega) ?_;rw [Zdu (by omega),<-Qx4 (l:=o.set ly.length (s % 4294967296)) (k:=x.length) (hoa ▸ oab) (by rw [<-hoa,oal,hxl]) hf.2];exact ed tt [] [0] [] rfl trivial
   ·have hf:=D.fin1 j2 j3 j5 j4 q2 j6 hs hs0;rw [<-hoa] at hf;obtain ⟨v1,hv1⟩:=gxE (l:=oa) (i:=ly.length) (by omega);refine go tt [.f (by simp),.i ly.length,.x (Qm6 hon),.w 1,.r 119 (B9 (b:=(((xn+18446744073709551616-cy) % 18446744073709551616:Nat):Int)) (by rw [w64]; omega)),.w 0,.r 121 (B9 (b:=(s:Int)) (by rw [w64]; omega)),.w 0,.r 125 (Dh (b:=((s % 4294967296:Nat):Int)) (by rw [w32]; omega)),.i ly.length,.i 63,.r 128 (B9 (b:=((s / 2^63:Nat):Int)) (by simp)),.f (by simp; omega),.r 133 (eI (b:=(ly.length:Int)) (by rw [Um]))] rfl (by simp only [Ui,G6,IntKind.bits,Um,Q7]; omega) ?_;rw [Zdu (by omega),<-hoa];refine lp (S:=Nat×List Nat×Nat) 1 (λL1 s=>(134,.v (.one (.int .i64 (s.1:Int))))::(18,.v (.one (.int .u64 (s.2.2:Int))))::L1) (λs=>[.row true 217 1 (lm (pre++s.2.1++post))]) (λs=>ly.length-s.1)
     (λs=>s.1<=ly.length/\s.2.1.length=ly.length+1/\Sm s.2.1/\s.2.2<=1/\val (s.2.1.take s.1)+s.2.2*4294967296^s.1=val (oa.take s.1)+val (ly.take s.1)/\s.2.1.drop s.1=oa.drop s.1) (0,oa,0)
     ⟨Qh _,oal,oab,Qh _,by simp [val],rfl⟩ rfl (λ_ _=>rfl) rfl λ⟨j,o2,bk⟩ ⟨r1,r2,r3,r4,r5,r6⟩=>?_
    dsimp only at r1 r2 r3 r4 r5 r6 ⊢;by_cases hj:j<ly.length
    ·obtain ⟨w1,hw1⟩:=gxE (l:=ly) (i:=j) hj;obtain ⟨u,hu⟩:=gxE (l:=oa) (i:=j) (by omega);have wb:=D.lb w1 (Qa hw1);have ub:=oab u (Qa hu);have hou:=(Qd4 r6).trans hu;obtain ⟨m,hm⟩:=nmE (u+bk+w1);have hstep:=Qs1 (o:=o2) (by omega) hu (.inl hw1) r5 hm;refine go tt [.t (by simp; omega),.x (Fw hw1),.i j,.x (Qm6 hou),.r 148 (B9 (b:=(m:Int)) (by omega)),.w 0,.r 152 (Dh (b:=((m % 4294967296:Nat):Int)) (by rw [w32]; omega)),.i 32,.r 154 (B9 (b:=((m / 4294967296:Nat):Int)) (by simp)),.i j] rfl (by simp only [Ui,G6,IntKind.bits,Um,Q7]; omega) ?_;rw [Zdu (by omega)];exact rd (j+1,o2.set j (m % 4294967296),m / 4294967296) (by dsimp only; omega) ⟨hj,by simp [r2],Mv r3 _ _ (by omega),by dsimp only; omega,hstep,Qnq r6⟩ rfl
    ·obtain rfl:j=ly.length:=by omega
     have hon2:=(Qd4 r6).trans hv1;have vb:=oab v1 (Qa hv1);rw [Qk (l:=ly) (Qm _)] at r5;have hf2:=D.fin2 oal oab r2 r3 hv1 r4 hf.2 r5;refine go tt [.f (by simp),.i ly.length,.x (Qm6 hon2),.w 1,.r 165 (Dh (b:=(((v1+bk) % 4294967296:Nat):Int)) (by rw [w32]; omega)),.i ly.length,.w 0,.r 168 (Dh (b:=((g % 4294967296:Nat):Int)) (by rw [w32]; omega)),.w 0,.r 169 (Dh (b:=((val x / val ly:Nat):Int)) (Zo9 hf.1 D.qlt))] rfl (by simp only [Ui,G6,IntKind.bits,Um,Q7]; omega) ?_;rw [Zdu (by omega),<-Qx4 (l:=o2.set ly.length ((v1+bk) % 4294967296)) (k:=x.length) (Mv r3 _ _ (by omega)) (by rw [Jd,r2,hxl]) hf2];exact ed tt [] [0] [] rfl trivial
theorem Q76 {o ly:List Nat} {lo top nx xn x1 x2:Nat} (hlo:lo+(ly.length+1)<=o.length) (D:Dig (win o lo ly.length) ly ly.length top nx xn x1 x2) (hn:ly.length<274877906944) :
 Ht Tryz.prog 273 [.one (.orow 0 1 (some (lo,ly.length+1))),lr ly] [.row true 217 1 (lm o)] [.one (.int .u32 ((val (win o lo ly.length) / val ly:Nat):Int))] [.row true 217 1 (lm (o.take lo++dgs (ly.length+1) (val (win o lo ly.length) % val ly)++o.drop (lo+ly.length+1)))]:=by
 have:=Ze9 (pre:=o.take lo) (post:=o.drop (lo+ly.length+1)) D hn;have e1:(o.take lo).length=lo:=by rw [Qx]; omega
 have e2:=Qfo (o:=o) (i:=lo) (n:=ly.length) (by omega);rw [e1,e2,Qb7] at this;exact this
theorem Qs7 {a b:List Nat} (ha:Sm a) (hb:Sm b) (h1:sz (val a)<=4294967296) (h2:sz (val b)<=4294967296) (hy:0<val b):Uk Tryz.prog 237 [lr a,lr b] [lr (U8 (val a / val b)),lr (U8 (val a % val b)),.one (.int .i64 0)]:=by
 refine Gm Tryz.func237 rfl ?_;obtain ⟨p,ca,np,vp,_,ep⟩:=Qf6 ha;obtain ⟨q,cb,nq,vq,_,eq⟩:=Qf6 hb;have hp:=Rm h1;have hq:=Rm h2;rw [<-ep] at hp;rw [<-eq] at hq;rw [<-vp,<-vq];rw [<-vp] at h1;rw [<-vq] at h2 hy;have q0:q≠[]:=λe=>by rw [e] at hy; simp [val] at hy
 have qp:0<q.length:=Jt.2 q0;have c1:¬((lm q).length:Int)=0:=by rw [Um]; omega
 by_cases hlt:p.length<q.length
 ·have hv:=Cf np nq hlt;rw [V0 hv,X9 hv,Gd];exact en tt [.c [] ca,.c [] cb,.f (by simpa using c1),.t (by simp [Um]; omega),.c [] (Qcs np.1 h1)] rfl rfl (by simp [Ui,G6])
 by_cases hone:q.length=1
 ·obtain ⟨y,rfl⟩:∃ y,q=[y]:=by
   match q,hone with
   | [y],_=>exact ⟨y,rfl⟩
  have yb:=nq.1 y (.head _);have vy:val [y]=y:=by simp [val]
  rw [vy] at hy ⊢;have co:=Zn4 np.1 (by omega) hy yb;have sm:Sm [val p % y]:=λz hz=>by
   simp at hz; subst hz; exact Nat.lt_trans (Xf _ hy) yb
  have cc:=Qcc sm;rw [show val [val p % y]=val p % y from by simp [val]] at cc;exact en tt [.c [] ca,.c [] cb,.f (by simp [lm]),.f (by simp [Um]; omega),.t (by simp [lm]),.x (Fw (l:=[y]) (i:=0) rfl),.c [] co,.c [] cc] rfl rfl (by simp [Ui,G6])
 ·have hle:q.length<=p.length:=Yv hlt;obtain ⟨y1,hy1,hy10⟩:=nq.2 q0;have y1b:=nq.1 y1 (Qa hy1);have hszy:=Qz8 nq hy1;have hsz1:sz y1<=32:=M6.2 (by omega);have hsz0:0<sz y1:=Zmv (by omega);obtain ⟨s,hs⟩:=nmE (32-sz y1);have hs31:s<=31:=by omega
  have Dh:(2:Nat)^32=4294967296:=by decide
  obtain ⟨x,hx⟩:=nmE (val p);obtain ⟨y,hyv⟩:=nmE (val q);have cl:=Zkp y1b;rw [<-hs] at cl;have hvx:val p*2^s<4294967296^(p.length+1):=by
   have h1:=C6 p np.1;rw [Zo];exact Xo (Xz h1 (show 0<2^s from Zy (by decide))) (Zj _ (by rw [<-Dh]; exact Zq (by decide) (by omega)))
  have hvy:val q*2^s<4294967296^q.length:=by
   have h1:=Qej (val q);rw [<-Dh,<-Uh];have h2:val q*2^s<2^sz (val q)*2^s:=Xz h1 (Zy (by decide));rw [<-Xh] at h2;rw [show 32*q.length=sz (val q)+s from by omega];exact h2
  have cx:=Q8u np.1 (show sz (val p)<=4294967400 by omega) hs31 (show p.length+1<274877906944 by omega) (by omega) hvx;have cy:=Q8u nq.1 (show sz (val q)<=4294967400 by omega) hs31 (show q.length<274877906944 by omega) qp hvy;obtain ⟨hXl,hXb,hXv⟩:=Qqf (k:=p.length+1) (v:=val p*2^s);obtain ⟨hYl,hYb,hYv⟩:=Qqf (k:=q.length) (v:=val q*2^s);have hXv:=hXv hvx;have hYv:=hYv hvy;obtain ⟨X,hX⟩:=nmE (dgs (p.length+1) (val p*2^s));obtain ⟨Y,hY⟩:=nmE (dgs q.length (val q*2^s));rw [<-hX] at hXl hXb hXv cx;rw [<-hY] at hYl hYb hYv cy;have hyB:4294967296^(q.length-1)<=val q:=Qem nq q0;have hR:=Qzn hXv hYv hXl hXb hYl hYb (show 2<=q.length by omega) (C6 p np.1) hyB hle;refine go tt [.c [] ca,.c [] cb,.f (by simpa using c1),.f (by simp [Um]; omega),.f (by simp [Um]; omega),.r 49 (eI (b:=((q.length-1:Nat):Int)) (by rw [Um]; omega)),.x (Fw hy1),.c [] cl,.r 57 (eI (b:=((p.length+1:Nat):Int)) (by rw [Um]; omega)),.c [0] cx,.r 62 (eI (b:=(q.length:Int)) (by rw [Um])),.c [1] cy,.r 65 (eI (b:=(q.length:Int)) (by rw [Um,hYl])),.r 70 (eI (b:=((p.length-q.length+1:Nat):Int)) (by rw [Um]; omega)),.i (p.length-q.length+1),.i (p.length-q.length+1),.r 73 (eI (b:=((p.length-q.length+1:Nat):Int)) (by simp))] rfl ?_ ?_
  ·simp only [Ui,G6,IntKind.bits,Um];omega
  ·rw [Qdl];refine pb 1 rfl rfl ?_;refine lp (S:=Int×List Nat×List Nat) 3 (λL1 s=>(13,.v (.one (.int .i64 s.1)))::L1) (λs=>[.row false 217 1 (lm s.2.2),.gone,.row false 217 1 (lm s.2.1)]) (λs=>(s.1+1).toNat)
    (λs=>-1<=s.1/\s.1<p.length-q.length+1/\s.2.1.length=p.length-q.length+1/\Sm s.2.1/\Rest s.2.2 Y p.length q.length (s.1+1).toNat/\val (s.2.1.drop (s.1+1).toNat)*4294967296^(s.1+1).toNat*val Y+val s.2.2=val X) (((p.length-q.length+1:Nat):Int)-1,List.replicate (p.length-q.length+1) 0,X)
    ⟨by dsimp only; omega,by dsimp only; omega,by simp,λx hx=>by rw [List.eq_of_mem_replicate hx]; decide,by simpa using hR,by simp [val]⟩ rfl (λ_ _=>rfl) rfl λ⟨i,oq,ox⟩ ⟨j1,j2,j3,j4,j5,j6⟩=>?_
   dsimp only at j1 j2 j3 j4 j5 j6 ⊢;rcases K7 i 0 with hi | hi
   ·obtain rfl:i=-1:=by omega
    simp only [show ((-1:Int)+1).toNat=0 from rfl,Xs,Y8,Yy] at j5 j6;have hlt':val ox<val q*2^s:=by have:=j5.lt; rw [hYv] at this; simpa using this
    have hfin:=Zb7 (x:=val p) (y:=val q) (s:=s) (r:=val ox) (q:=oq) hy (by rw [<-hXv,<-hYv]; exact j6) hlt';have hoxl:=j5.ol;have hox:=Q0a (o:=ox) (n:=q.length) (by omega) (Nat.lt_trans hlt' hvy);have hszm:sz (val (ox.take q.length))<=4294967400:=by
     rw [hox,hfin.2];have h1:=Zdb (val p % val q) (2^s);have h2':=Hy (Jz (Xf (val p) hy));have h3:sz (2^s)<=s+1:=M6.2 (Nat.pow_lt_pow_right (by decide) (by omega));omega
    have cs:=Znz (a:=ox.take q.length) (λu hu=>j5.ob u (Qn hu)) hszm hs31;rw [hox,hfin.2,Nat.mul_div_cancel _ (Zy (by decide))] at cs;have cq:=Qcc j4;rw [hfin.1] at cq;exact en tt [.f (by decide),.p 2,.p 0,.c [] cq,.i q.length,.r 95 (v:=lr (ox.take q.length)) (by simp [lm]),.c [] cs] rfl rfl (by simp [Ui,G6,Um]; omega)
   ·obtain ⟨k,rfl⟩:=Yq hi;have e:((k:Int)+1).toNat=k+1:=by omega
    rw [e] at j5 j6;obtain ⟨top,nx,xn,x1,x2,D⟩:=j5.dig;have hoxl:=j5.ol;have hm:=j5.hm;have cd:=Q76 (o:=ox) (lo:=k) (by omega) (hYl.symm ▸ D) (by omega);rw [hYl] at cd;have hwl:=Qfo (o:=ox) (i:=k) (n:=q.length) (by omega);have hwlt:val (win ox k q.length) % val Y<4294967296^(q.length+1):=by
     have h3:=C6 (win ox k q.length) D.xb;rw [hwl] at h3;exact Zv (Nat.mod_le _ _) h3
    obtain ⟨d1,d2,d3⟩:=Qqf (k:=q.length+1) (v:=val (win ox k q.length) % val Y);have hnx:=j5.next (w':=dgs (q.length+1) (val (win ox k q.length) % val Y)) (d1.trans hwl.symm) d2 (d3 hwlt) (q:=oq) (by omega) j6;have hdg:=D.qlt;refine go tt [.t (by simp),.i k,.i (k+q.length+1),.r 87 (v:=.one (.orow 0 1 (some (k,q.length+1)))) (by rw [show k+q.length+1-k=q.length+1 by omega]),.c [0] cd,.i k] rfl ?_ ?_
    ·simp only [Ui,Um]; omega
    ·rw [Nk];refine rd ((k:Int)-1,oq.set k (val (win ox k q.length) / val Y),ox.take k++dgs (q.length+1) (val (win ox k q.length) % val Y)++ox.drop (k+q.length+1)) (by dsimp only; omega) ⟨by dsimp only; omega,by dsimp only; omega,by simp [j3],Mv j4 _ _ hdg,?_,?_⟩ rfl
     ·dsimp only; rw [show ((k:Int)-1+1).toNat=k from by omega]; exact hnx.1
     ·dsimp only; rw [show ((k:Int)-1+1).toNat=k from by omega]; exact hnx.2
def sg (z:Int):LV:=.bool (decide (z<0))
def mg (z:Int):LV:=.row (lm (U8 z.natAbs))
abbrev Gk (z:Int):List LV:=[sg z,mg z]
def Hu (x y:LV) (z:Int):Prop:=∃ b l,x=.bool b/\y=.row (lm l)/\Sm l/\z=Us b (val l)
theorem Ul (z:Int):Hu (sg z) (mg z) z:=by
 refine ⟨_,_,rfl,rfl,Cu _,?_⟩;rw [Fu];unfold Us;by_cases h:z<0 <;> simp [h] <;> omega
theorem Zl5 (b:Bool) (m:Nat):[LV.bool (b && decide (0<m)),LV.row (lm (U8 m))]=Gk (Us b m):=by
 simp only [Gk,sg,mg,Qlk,Hp]
theorem Cd {m:Nat}:0<(U8 m).length↔0<m:=by
 rcases Qz m with h | h
 ·subst h; rw [Gd]; simp
 ·rw [Dv (by omega)]; simp [h]
theorem So (b:Bool) (m:Nat):Uk Tryz.prog 177 [lr (U8 m),.one (.bool b)] [.agg (Gk (Us b m))]:=by
 rw [<-Zl5];have e:=Cd (m:=m);cases b with
 | false=>exact w tt Tryz.func177 rfl [.f rfl] rfl rfl trivial
 | true=>exact w tt Tryz.func177 rfl [.t rfl] rfl (by simp [Um,e]) trivial
theorem Sj {b:Bool} {m:Nat} {k:Nat} (h:Uv (Us b m)<=k):sz m<=k:=by
 unfold Uv at h; rwa [Hp] at h
theorem Dd {x y:LV} {z:Int} (hi:Hu x y z) (hs:Uv z<=4294967295):Uk Tryz.prog 129 [.agg [x,y]] [.agg (Gk z)]:=by
 obtain ⟨b,l,rfl,rfl,hl,rfl⟩:=hi;exact w tt Tryz.func129 rfl [.c [] (Qcs hl (Qc (Sj hs) (by decide))),.c [] (So _ _)] rfl rfl trivial
theorem Qd8 (b:Bool) (m:Nat):Us (!b) m=-(Us b m):=by unfold Us; cases b <;> simp
theorem Qjz {x y:LV} {z:Int} (hi:Hu x y z) (hs:Uv z<=4294967295):Uk Tryz.prog 128 [.agg [x,y]] [.agg (Gk (-z))]:=by
 obtain ⟨b,l,rfl,rfl,hl,rfl⟩:=hi;rw [<-Qd8];exact w tt Tryz.func128 rfl [.c [] (Qcs hl (Qc (Sj hs) (by decide))),.c [] (So _ _)] rfl rfl trivial
theorem D8 {x y x' y':LV} {z z':Int} (hi:Hu x y z) (hi':Hu x' y' z') (hs:Uv z<=4294967295) (hs':Uv z'<=4294967295):Uk Tryz.prog 204 [.agg [x,y],.agg [x',y']] [.agg (Gk (z*z'))]:=by
 obtain ⟨b,l,rfl,rfl,hl,rfl⟩:=hi;obtain ⟨b',l',rfl,rfl,hl',rfl⟩:=hi';have e:Us b (val l)*Us b' (val l')=Us (b != b') (val l*val l'):=by
  unfold Us; cases b <;> cases b' <;> simp [Int.neg_mul,Int.mul_neg]
 rw [e];exact w tt Tryz.func204 rfl [.c [] (Zns hl hl' (Qc (Sj hs) (by decide)) (Qc (Sj hs') (by decide))),.c [] (So _ _)] rfl rfl trivial
theorem Qj2 {a b:List Nat} (ha:Sm a) (hb:Sm b) (h1:sz (val a)<=4294967296) (h:val b<=val a):Uk Tryz.prog 276 [lr a,lr b] [lr (U8 (val a-val b)),.one (.bool true)]:=by
 have:=Zi9 ha hb h1; rwa [if_pos h] at this
theorem Q7z {a b:List Nat} (ha:Sm a) (hb:Sm b) (h1:sz (val a)<=4294967296) (h:val a<val b):Uk Tryz.prog 276 [lr a,lr b] [lr [],.one (.bool false)]:=by
 have:=Zi9 ha hb h1; rwa [if_neg (by omega)] at this
theorem Qct {x y x' y':LV} {z z':Int} (hi:Hu x y z) (hi':Hu x' y' z') (hs:Uv z<=4294967295) (hs':Uv z'<=4294967295):Uk Tryz.prog 239 [.agg [x,y],.agg [x',y']] [.agg (Gk (z+z'))]:=by
 obtain ⟨b,l,rfl,rfl,hl,rfl⟩:=hi;obtain ⟨b',l',rfl,rfl,hl',rfl⟩:=hi';have s1:=Qc (Sj hs) (show 4294967295<=4294967296 by decide);have s2:=Qc (Sj hs') (show 4294967295<=4294967296 by decide);by_cases hb:b=b'
 ·subst hb;have e:Us b (val l)+Us b (val l')=Us b (val l+val l'):=by unfold Us; cases b <;> simp <;> omega
  rw [e];exact w tt Tryz.func239 rfl [.t (by simp),.c [] (Zi4 hl hl' s1 s2),.c [] (So _ _)] rfl rfl trivial
 ·by_cases hle:val l'<=val l
  ·have e:Us b (val l)+Us b' (val l')=Us b (val l-val l'):=by unfold Us; cases b <;> cases b' <;> simp at hb ⊢ <;> omega
   rw [e];exact w tt Tryz.func239 rfl [.f (by simpa using hb),.c [] (Qj2 hl hl' s1 hle),.t rfl,.c [] (So _ _)] rfl rfl trivial
  ·have e:Us b (val l)+Us b' (val l')=Us b' (val l'-val l):=by unfold Us; cases b <;> cases b' <;> simp at hb ⊢ <;> omega
   rw [e];exact w tt Tryz.func239 rfl [.f (by simpa using hb),.c [] (Q7z hl hl' s1 (by omega)),.f rfl,.c [] (Qj2 hl' hl s2 (by omega)),.c [] (So _ _)] rfl rfl trivial
theorem Q74 {x y x' y':LV} {z z':Int} (hi:Hu x y z) (hi':Hu x' y' z') (hs:Uv z<=4294967295) (hs':Uv z'<=4294967295):Uk Tryz.prog 227 [.agg [x,y],.agg [x',y']] [.agg (Gk (z-z'))]:=by
 obtain ⟨b',l',rfl,rfl,hl',rfl⟩:=hi';have hn:Hu (.bool (!b')) (.row (lm l')) (-(Us b' (val l'))):=⟨_,_,rfl,rfl,hl',(Qd8 _ _).symm⟩;rw [Int.sub_eq_add_neg];have hi2:=hi;obtain ⟨b,l,rfl,rfl,hl,_⟩:=hi;exact w tt Tryz.func227 rfl [.c [] (Qct hi2 hn hs (by rw [Gg]; exact hs'))] rfl rfl trivial
theorem Q8r {x y:LV} {z:Int} (hi:Hu x y z) (hs:Uv z<=4294967295):Uk Tryz.prog 205 [.agg [x,y]] [.one (.int .i64 (Int.sign z))]:=by
 obtain ⟨b,l,rfl,rfl,hl,rfl⟩:=hi;have s1:=Qc (Sj hs) (show 4294967295<=4294967296 by decide);have cb:=Qw8 hl s1;by_cases h0:val l=0
 ·have e:Us b (val l)=0:=by unfold Us; rw [h0]; cases b <;> simp
  rw [e];exact w tt Tryz.func205 rfl [.c [] cb,.t (by simp [Qmf,h0])] rfl rfl trivial
 ·have hs0:sz (val l)≠0:=λh=>h0 (Qmf.1 h)
  cases b
  ·have e:(Us false (val l)).sign=1:=Int.sign_eq_one_of_pos (by unfold Us; simp; omega);rw [e];exact w tt Tryz.func205 rfl [.c [] cb,.f (by simp; omega),.f rfl] rfl rfl trivial
  ·have e:(Us true (val l)).sign=-1:=Int.sign_eq_neg_one_of_neg (by unfold Us; simp; omega);rw [e];exact w tt Tryz.func205 rfl [.c [] cb,.f (by simp; omega),.t rfl] rfl rfl trivial
theorem Qf2 {x y x' y':LV} {z z':Int} (hi:Hu x y z) (hi':Hu x' y' z') (hs:Uv z<=4294967295) (hs':Uv z'<=4294967295):Uk Tryz.prog 165 [.agg [x,y],.agg [x',y']] [.one (.int .i64 (Na z z'))]:=by
 have c1:=Q8r hi hs;have c2:=Q8r hi' hs';obtain ⟨b,l,rfl,rfl,hl,hz⟩:=hi;obtain ⟨b',l',rfl,rfl,hl',hz'⟩:=hi';have k1:=Lx z;have k2:=Lx z';have zl:z.natAbs=val l:=by rw [hz,Hp]
 have zl':z'.natAbs=val l':=by rw [hz',Hp]
 by_cases h1:z.sign<z'.sign
 ·have e:Na z z'=-1:=by unfold Na; rw [if_pos (by omega)]
  rw [e];exact w tt Tryz.func165 rfl [.c [] c1,.c [] c2,.t (by simpa using h1)] rfl rfl trivial
 ·by_cases h2:z'.sign<z.sign
  ·have e:Na z z'=1:=by unfold Na; rw [if_neg (by omega),if_pos (by omega)]
   rw [e];exact w tt Tryz.func165 rfl [.c [] c1,.c [] c2,.f (by simpa using h1),.t (by simpa using h2)] rfl rfl trivial
  ·by_cases h3:z.sign<0
   ·have e:Ot (val l') (val l)=Na z z':=by unfold Na Ot; rw [<-zl,<-zl']; split <;> split <;> (try split) <;> (try split) <;> omega
    have cc:=Q68 hl' hl;rw [e] at cc;exact w tt Tryz.func165 rfl [.c [] c1,.c [] c2,.f (by simpa using h1),.f (by simpa using h2),.t (by simpa using h3),.c [] cc] rfl rfl trivial
   ·have e:Ot (val l) (val l')=Na z z':=by unfold Na Ot; rw [<-zl,<-zl']; split <;> split <;> (try split) <;> (try split) <;> omega
    have cc:=Q68 hl hl';rw [e] at cc;exact w tt Tryz.func165 rfl [.c [] c1,.c [] c2,.f (by simpa using h1),.f (by simpa using h2),.f (by simpa using h3),.c [] cc] rfl rfl trivial
theorem Ex {z:Int}:Uk Tryz.prog 162 [.agg (Gk z)] [.one (.bool (decide (z=0)))] :=
 w tt Tryz.func162 rfl [] rfl (by simp only [Um]; congr 3; have:=Cd (m:=z.natAbs); rw [decide_eq_decide]; omega) trivial
theorem Qxd {z:Int} (h1:-9223372036854775808<=z/\z<=9223372036854775807):Uk Tryz.prog 130 [.one (.int .i64 z)] [.agg (Gk z)]:=by
 obtain ⟨m,hm⟩:=nmE (z.natAbs);have sm:Sm [m % 4294967296,m / 4294967296]:=λx hx=>by
  simp at hx; rcases hx with rfl | rfl <;> omega
 have hv:val [m % 4294967296,m / 4294967296]=m:=by simp only [val]; omega
 have cn:=Qcs sm (by rw [hv]; exact Qc (M6.2 (show m<2^64 by omega)) (show 64<=4294967296 by decide));rw [hv] at cn;by_cases hz:z<0
 ·have e:Us true m=z:=by unfold Us; simp; omega
  have cm:=So true m;rw [e] at cm;exact w tt Tryz.func130 rfl [.w 0,.r 5 (B9 (b:=((18446744073709551616-m:Nat):Int)) (by rw [w64]; omega)),.t (by simpa using hz),.w 0,.r 9 (B9 (b:=(m:Int)) (by rw [w64]; omega)),.w 0,.r 11 (Dh (b:=((m % 4294967296:Nat):Int)) (by rw [w32]; omega)),.i 32,.r 13 (B9 (b:=((m / 4294967296:Nat):Int)) (by simp)),.c [] cn,.r 18 (v:=.one (.bool true)) (by simp [hz]),.c [] cm] rfl rfl (by simp [Ui,IntKind.bits] <;> omega)
 ·have e:Us false m=z:=by unfold Us; simp; omega
  have cm:=So false m;rw [e] at cm;exact w tt Tryz.func130 rfl [.w 0,.r 5 (B9 (b:=(m:Int)) (by rw [w64]; omega)),.f (by simpa using hz),.w 0,.r 11 (Dh (b:=((m % 4294967296:Nat):Int)) (by rw [w32]; omega)),.i 32,.r 13 (B9 (b:=((m / 4294967296:Nat):Int)) (by simp)),.c [] cn,.r 18 (v:=.one (.bool false)) (by simp; omega),.c [] cm] rfl rfl (by simp [Ui,IntKind.bits] <;> omega)
theorem Qxa {m n:Nat} (h1:sz m<=4294967296) (h2:sz n<=4294967296) (hn:0<n):Uk Tryz.prog 237 [lr (U8 m),lr (U8 n)] [lr (U8 (m / n)),lr (U8 (m % n)),.one (.int .i64 0)]:=by
 have:=Qs7 (Cu m) (Cu n) (by rw [Fu]; exact h1) (by rw [Fu]; exact h2) (by rw [Fu]; exact hn);rwa [Fu,Fu] at this
theorem Q4f {x y x' y':LV} {z z':Int} (hi:Hu x y z) (hi':Hu x' y' z') (hs:Uv z<=4294967295) (hs':Uv z'<=4294967295) (hz:z'≠0):Uk Tryz.prog 238 [.agg [x,y],.agg [x',y']] [.agg (Gk (z / z')),.agg (Gk (z % z')),.one (.int .i64 0)]:=by
 obtain ⟨b,l,rfl,rfl,hl,hz1⟩:=hi;obtain ⟨b',l',rfl,rfl,hl',hz2⟩:=hi';have zl:z.natAbs=val l:=by rw [hz1,Hp]
 have zl':z'.natAbs=val l':=by rw [hz2,Hp]
 have s1:sz (val l)<=4294967296:=Qc (Sj (hz1 ▸ hs)) (by decide);have s2:sz (val l')<=4294967296:=Qc (Sj (hz2 ▸ hs')) (by decide);have hp:0<z'.natAbs:=by omega
 have e1:z=if b=true then -(z.natAbs:Int) else (z.natAbs:Int):=by rw [zl]; exact hz1
 have e2:z'=if b'=true then -(z'.natAbs:Int) else (z'.natAbs:Int):=by rw [zl']; exact hz2
 have cd:=Qs7 hl hl' s1 s2 (by omega);rw [<-zl,<-zl'] at cd;have s0:sz (z.natAbs % z'.natAbs)<=4294967296:=Qc (Hy (Jz (Xf _ hp))) (by rw [zl']; exact s2);cases b with
 |
  false =>
  obtain ⟨d1,d2⟩:=Qki e2 hp e1;rw [d1,d2];exact w tt Tryz.func238 rfl [.c [] cd,.f rfl,.c [] (So _ _),.c [] (So _ _),.f rfl,.f rfl] rfl rfl trivial
 |
  true =>
  by_cases h0:z.natAbs % z'.natAbs=0
  ·obtain ⟨d1,d2⟩:=Qif e2 hp e1 h0;rw [d1,d2];exact w tt Tryz.func238 rfl [.c [] cd,.f rfl,.c [] (So _ _),.c [] (So _ _),.t rfl,.f (by rw [h0,Gd]; rfl)] rfl rfl trivial
  ·obtain ⟨d1,d2⟩:=Qkh e2 hp e1 (by omega);rw [d1,d2];have ca:=Zi4 (a:=U8 (z.natAbs / z'.natAbs)) (b:=[1]) (Cu _) (λx hx=>by simp at hx; subst hx; decide) (by rw [Fu]; exact Qc (Hy (J8 _ _)) (by rw [zl]; exact s1)) (by decide);have cs:=Qj2 (a:=l') (b:=U8 (z.natAbs % z'.natAbs)) hl' (Cu _) s2 (by rw [Fu,<-zl']; exact Jz (Xf _ hp));rw [Fu] at ca cs;rw [<-zl'] at cs;have hl0:=Cd (m:=z.natAbs % z'.natAbs);exact w tt Tryz.func238 rfl [.c [] cd,.f rfl,.c [] (So _ _),.c [] (So _ _),.t rfl,.t (by simp [Um]; omega),.c [] ca,.c [] cs,.c [] (So _ _),.c [] (So _ _)] rfl rfl trivial
theorem Ec {x y x' y':LV} {z z':Int} (hi:Hu x y z) (hi':Hu x' y' z') (hs:Uv z<=4294967295) (hs':Uv z'<=4294967295) (hz:z'≠0) (hd:z % z'=0):Uk Tryz.prog 198 [.agg [x,y],.agg [x',y']] [.agg (Gk (z / z')),.one (.int .i64 0)]:=by
 have cd:=Q4f hi hi' hs hs' hz;obtain ⟨b,l,rfl,rfl,_⟩:=hi;obtain ⟨b',l',rfl,rfl,_⟩:=hi';exact w tt Tryz.func198 rfl [.c [] cd,.f rfl,.f (by rw [hd]; simp [Um,Gd])] rfl rfl trivial
end Orr
namespace Orr
open Go
abbrev Zm1 (l:List Nat):LV:=.row (lm l)
def Gz (l:List Int):Nat:=l.foldl (λg z=>Nat.gcd g z.natAbs) 0
theorem Qgg {l:List Int} {i:Nat} {z:Int} (h:l[i]? = some z):Gz (l.take (i+1))=Nat.gcd (Gz (l.take i)) z.natAbs:=by
 unfold Gz;rw [Ym,h];simp [Y6]
theorem Zgg (g x:Nat):Nat.gcd x (g % x)=Nat.gcd g x:=by
 rw [Wc g x,Nat.gcd_rec x g,Wc]
theorem Qmx (l:List Int):l.foldl (λg z=>Nat.gcd g z.natAbs) 1=1:=by
 induction l with
 | nil=>rfl
 | cons z l ih=>simp [ih]
theorem Q95 {l:List Int} {i:Nat} (h:Gz (l.take i)=1):Gz l=1:=by
 have e:l=l.take i++l.drop i:=(Ze i l).symm;unfold Gz at h ⊢;rw [e,Y6,h,Qmx]
def trim:List Int->List Int
 | []=>[]
 |
  x::l=>match trim l with
  | []=>if x=0 then [] else [x]
  | y::k=>x::y::k
theorem Qdn:∀ {l:List Int},(∀ x∈l,x=0)->trim l=[]
 | [],_=>rfl
 |
  x::l,h=>by
  have ih:=Qdn (l:=l) (λy hy=>h y (Qj _ hy));simp [trim,ih,h x (Qr ..)]
theorem Qph:∀ {l:List Int} {m:Nat} {y:Int},(∀ j x,m<j->l[j]? = some x->x=0)->l[m]? = some y->y≠0->trim l=l.take (m+1)
 | [],m,y,_,h,_=>by simp at h
 |
  x::l,0,y,h1,h2,h3=>by
  have h0:trim l=[]:=Qdn λz hz=>by
   obtain ⟨j,hj⟩:=Zh.1 hz;exact h1 (j+1) z (by omega) (by simpa using hj)
  simp at h2;subst h2;simp [trim,h0,h3]
 |
  x::l,m+1,y,h1,h2,h3=>by
  have ih:=Qph (l:=l) (m:=m) (y:=y) (λj z hj hz=>h1 (j+1) z (by omega) (by simpa using hz)) (by simpa using h2) h3;cases hl:l with
  | nil=>subst hl; simp at h2
  |
   cons u k =>
   subst hl;rw [Yt] at ih;simp only [trim] at ih ⊢;rw [ih];simp
def Uo (l:List Int):Prop:=trim l=l
theorem Ha:∀ (l:List Int),Uo (trim l)
 | []=>rfl
 |
  x::l=>by
  have ih:=Ha l;unfold Uo at ih ⊢;cases h:trim l with
  | nil=>by_cases hx:x=0 <;> simp [trim,h,hx]
  |
   cons y k =>
   rw [h] at ih;simp only [trim,h] at ih ⊢;rw [ih]
theorem Qwe {l:List Int} {m:Nat} (hm:m<=l.length) (h1:∀ j x,m<=j->l[j]? = some x->x=0) (h2:0<m->∃ y,l[m-1]? = some y/\y≠0):trim l=l.take m:=by
 rcases Qz m with h0 | h0
 ·subst h0;rw [Qdn λz hz=>?_]; rfl;obtain ⟨j,hj⟩:=Zh.1 hz;exact h1 j z (by omega) hj
 ·obtain ⟨y,hy,hy0⟩:=h2 h0;have:=Qph (l:=l) (m:=m-1) (y:=y) (λj x hj hx=>h1 j x (by omega) hx) hy hy0;rwa [show m-1+1=m from by omega] at this
def IsInts:List (List LV)->List Int->Prop
 | [],[]=>True
 | x::l,z::p=>(∃ a b,x=[a,b]/\Hu a b z)/\IsInts l p
 | _,_=>False
theorem IsInts.len:∀ {l:List (List LV)} {p:List Int},IsInts l p->l.length=p.length
 | [],[],_=>rfl
 | x::l,z::p,h=>by simp [h.2.len]
 | [],_::_,h=>h.elim
 | _::_,[],h=>h.elim
theorem IsInts.get:∀ {l:List (List LV)} {p:List Int},IsInts l p->∀ {i:Nat} {z:Int},p[i]? = some z->∃ a b,l[i]? = some [a,b]/\Hu a b z
 | [],[],_,i,z,h=>by simp at h
 |
  x::l,y::p,h,0,z,hz=>by
  simp at hz; subst hz;obtain ⟨a,b,rfl,hi⟩:=h.1;exact ⟨a,b,rfl,hi⟩
 | x::l,y::p,h,i+1,z,hz=>by simpa using h.2.get (i:=i) (by simpa using hz)
 | [],_::_,h,_,_,_=>h.elim
 | _::_,[],h,_,_,_=>h.elim
theorem Gw:∀ (p:List Int),IsInts (p.map Gk) p
 | []=>trivial
 | z::p=>⟨⟨_,_,rfl,Ul z⟩,Gw p⟩
theorem IsInts.append:∀ {l l':List (List LV)} {p p':List Int},IsInts l p->IsInts l' p'->IsInts (l++l') (p++p')
 | [],_,[],_,_,h=>h
 | x::l,_,z::p,_,h,h'=>⟨h.1,h.2.append h'⟩
 | [],_,_::_,_,h,_=>h.elim
 | _::_,_,[],_,h,_=>h.elim
def pl (p:List Int):LV:=.row (p.map Gk)
def ids (l:List Int):LV:=.row (l.map λ(x:Int)=>[.int .i64 x])
theorem Bw:Hu (.bool false) (.row []) 0:=⟨false,[],rfl,rfl,(λx hx=>by cases hx),rfl⟩
theorem Zh7:sg 0=.bool false:=rfl
theorem Q5d {z:Int}:(U8 z.natAbs).length=0↔z=0:=by
 constructor
 ·intro h;have h0:=Qi h;have:=(Qen (By z.natAbs)).2 h0;rw [Fu] at this; omega
 ·rintro rfl; rw [show (0:Int).natAbs=0 from rfl,Gd]; rfl
theorem Gh {α β:Type} {f:α->β} {l:List α} {i:Nat} {x:α} (h:l[i]? = some x):(l.map f)[i]? = some (f x):=by rw [Q9,h]; rfl
theorem Zju {α:Type} {f:α->List LV} {sz:Nat} (l:List α) (h:∀ x,(f x).length=sz):∀ c∈l.map f,c.length=sz:=λc hc=>by
 obtain ⟨x,_,rfl⟩:=Za.1 hc;exact h x
theorem Zgy:mg 0=.row []:=by simp [mg,Gd,lm]
theorem Lp:Gk 0=[LV.bool false,LV.row []]:=by simp [Gk,Zh7,Zgy]
end Orr
namespace Orr
open Go Go.Proofs
set_option maxRecDepth 10000
theorem Qi1 {p:List Int} (hs:∀ z∈p,Uv z≤4294967295):sz (Gz p)≤4294967295:=by
 have key:∀ (p:List Int) (g:Nat),sz g≤4294967295->(∀ z∈p,Uv z≤4294967295)->sz (p.foldl (λg z=>Nat.gcd g z.natAbs) g)≤4294967295:=by
  intro p
  induction p with
  | nil=>exact λg h _=>h
  |
   cons z p ih =>
   intro g h hs;refine ih _ ?_ λy hy=>hs y (.tail _ hy)
   rcases Qz g with h0 | h0
   ·subst h0; show sz (Nat.gcd 0 z.natAbs)<=_; rw [Nat.gcd_zero_left]; exact hs z (.head _)
   ·exact Qc (Hy (Nat.gcd_le_left _ h0)) h
 exact key p 0 (by decide) hs
theorem Q7g {l:List (List LV)} {p:List Int} (hi:IsInts l p) (hs:∀ z∈p,Uv z≤4294967295):Uk Tryz.prog 197 [.one (.row l)] [.agg (Gk ((Gz p:Nat):Int))]:=by
 refine Gm Tryz.func197 rfl (ln 0 rfl rfl λhl=>?_);have hlp:=hi.len;refine go tt [.z 3,.r 3 (v:=lr (U8 (Gz (p.take 0)))) (by simp [Gz,Gd,lm])] rfl trivial ?_;refine ct 2 (S:=Unit) (λ_=>[(2,.v (.one (.ow 0 0))),(3,.v (lr (U8 (Gz p))))]) (λ_=>[.blk 55 [.bool false,.nils],.gone]) (λ_=>True) rfl ?_ ?_
 ·refine lp (S:=Nat) 1 (λL1 i=>(12,.v (.one (.int .i64 (i:Int))))::(3,.v (lr (U8 (Gz (p.take i)))))::L1) (λ_=>[.blk 55 [.bool false,.nils]]) (λi=>p.length-i) (λi=>i<=p.length) 0 (Qh _) rfl (λ_ _=>rfl) rfl λi hip=>?_
  by_cases h:i<p.length
  ·have hlt:i<l.length:=by omega
   obtain ⟨c,hc⟩:=gxE (l:=l) (i:=i) hlt;obtain ⟨z,hz⟩:=gxE (l:=p) (i:=i) h;obtain ⟨x,y,hc',b,r,rfl,rfl,hr,hzz⟩:=hi.get hz;rw [hc] at hc'; injection hc' with hc'; subst hc'
   have hsz:=hs z (Qa hz);have hg0:sz (Gz (p.take i))<=4294967295:=Qi1 λy hy=>hs y (Qn hy)
   have ezr:z.natAbs=val r:=by rw [hzz,Hp]
   have cn:=Qcs hr (by rw [<-ezr]; exact Qc hsz (by decide));rw [<-ezr] at cn;refine go tt [.t (by simp; omega),.x hc,.c [] cn] rfl trivial ?_;refine lp (S:=Nat×Nat) 2 (λL1 s=>(3,.v (lr (U8 s.1)))::(6,.v (lr (U8 s.2)))::L1) (λ_=>[.blk 55 [.bool false,.nils],.blk 55 [.bool b,.row (lm r)]]) (λs=>s.2) (λs=>Nat.gcd s.1 s.2=Nat.gcd (Gz (p.take i)) z.natAbs/\sz s.1<=4294967295/\sz s.2<=4294967295) (Gz (p.take i),z.natAbs) ⟨rfl,hg0,hsz⟩ rfl (λ_ _=>rfl) rfl λ⟨g,u⟩ ⟨j1,j2,j3⟩=>?_
   dsimp only at j1 j2 j3 ⊢;have hul:=Cd (m:=u);by_cases hu:0<u
   ·have cd:=Qxa (m:=g) (n:=u) (by omega) (by omega) hu;refine go tt [.t (by simp [Um]; omega),.c [] cd] rfl trivial ?_;exact rd (u,g % u) (Xf _ hu) ⟨(Zgg g u).trans j1,j3,Qc (Hy (Jz (Xf _ hu))) j3⟩ rfl
   ·obtain rfl:u=0:=by omega
    rw [Nat.gcd_zero_right,<-Qgg hz] at j1;subst j1;by_cases h1:Gz (p.take (i+1))=1
    ·have e1:U8 (Gz (p.take (i+1)))=[1]:=by rw [h1,Dv (by decide)]; simp [Gd]
     refine go tt [.f (by simp [Gd,lm]),.t (by rw [e1]; rfl),.x (Fw (i:=0) (x:=1) (by rw [e1]; rfl)),.t rfl] rfl trivial ?_;exact rc () trivial (by rw [h1,Q95 h1]; rfl)
    ·obtain ⟨g,hg⟩:=nmE (Gz (p.take (i+1)));rw [<-hg] at h1 j2 ⊢;by_cases h2:(U8 g).length=1
     ·obtain ⟨v,hv⟩:∃ v,U8 g=[v]:=by
       match hm:U8 g,h2 with
       | [v],_=>exact ⟨v,rfl⟩
      have hv1:v≠1:=λe=>h1 (by rw [<-Fu g,hv,e]; rfl)
      refine go tt [.f (by simp [Gd,lm]),.t (by simp [Um,h2]),.x (Fw (i:=0) (x:=v) (by rw [hv]; rfl)),.f (by simp; omega)] rfl (by simp [Ui] <;> omega) ?_;exact rd (i+1) (by omega) h (by rw [<-hg]; rfl)
     ·refine go tt [.f (by simp [Gd,lm]),.f (by simp [Um]; omega),.f rfl] rfl (by simp [Ui] <;> omega) ?_;exact rd (i+1) (by omega) h (by rw [<-hg]; rfl)
  ·obtain rfl:i=p.length:=by omega
   refine go tt [.f (by simp; omega)] rfl trivial ?_;rw [Q4];exact rc () trivial rfl
 ·intro _ _;have cn:=Qcs (Cu (Gz p)) (by rw [Fu]; exact Qc (Qi1 hs) (by decide));rw [Fu] at cn;exact en tt [.c [] cn,.c [] (So false _)] rfl (by simp [Us]) trivial
end Orr
namespace Orr
open Go
def H5:List Nat->Nat
 | []=>0
 | x::l=>x+10000*H5 l
def Dg (l:List Nat):Prop:=∀ x∈l,x<10000
def Fb (x:Nat):List Nat:=if h:x=0 then [] else (x % 10000)::Fb (x / 10000)
termination_by x
decreasing_by omega
theorem Gl:Fb 0=[]:=by unfold Fb; simp
theorem Iq {x:Nat} (h:x≠0):Fb x=(x % 10000)::Fb (x / 10000):=by rw [Fb]; simp [h]
theorem Hi (x:Nat):H5 (Fb x)=x:=by
 induction x using Nat.strongRecOn with
 |
  _ x ih =>
  rcases Qz x with h | h
  ·subst h; rw [Gl]; rfl
  ·rw [Iq (by omega)];simp only [H5];rw [ih _ (by omega)]; omega
theorem Ng (x:Nat):Dg (Fb x):=by
 induction x using Nat.strongRecOn with
 |
  _ x ih =>
  rcases Qz x with h | h
  ·subst h; rw [Gl]; intro y hy; cases hy
  ·rw [Iq (by omega)];intro y hy;rcases Qp.1 hy with rfl | hy
   ·omega
   ·exact ih _ (by omega) y hy
theorem Qd2 {x:Nat}:(Fb x).length=0↔x=0:=by
 constructor
 ·intro h;have h0:=Qi h;have:=Hi x;rw [h0] at this;exact this.symm
 ·rintro rfl; rw [Gl]; rfl
theorem Ej {x:Nat} (h:x≠0):(Fb (x / 10000)).length+1=(Fb x).length:=by rw [Iq h]; rfl
theorem Q4u {x:Nat} (h:x<1000000000000):(Fb x).length<=3:=by
 by_cases h0:x=0
 ·subst h0; rw [Gl]; exact Qh _
 ·have h1:=Ej h0;by_cases h2:x / 10000=0
  ·rw [h2,Gl] at h1; simp at h1; omega
  ·have h3:=Ej h2;by_cases h4:x / 10000 / 10000=0
   ·rw [h4,Gl] at h3; simp at h3; omega
   ·have h5:=Ej h4;have h6:x / 10000 / 10000 / 10000=0:=by omega
    rw [h6,Gl] at h5; simp at h5; omega
theorem Po (x:Nat):(Fb x).length<=sz x:=by
 induction x using Nat.strongRecOn with
 |
  _ x ih =>
  by_cases h0:x=0
  ·subst h0; rw [Gl]; exact Qh _
  ·have h1:=Ej h0;have h2:=ih (x / 10000) (by omega);have h3:sz (x / 10000)+1<=sz x:=by
    have h4:x<2^sz x:=Qej x;rcases hs:sz x with _ | k
    ·rw [hs] at h4; simp at h4; omega
    ·rw [hs] at h4;have:sz (x / 10000)<=k:=M6.2 (by rw [Zo] at h4; omega);omega
   omega
theorem T0 (a b:List Nat):H5 (a++b)=H5 a+10000^a.length*H5 b:=by
 induction a with
 | nil=>simp [H5]
 |
  cons x a ih =>
  simp only [Xm,H5,ih,Q6,Zo];rw [Xu,<-Xq,Zi 10000 (10000^a.length)]; omega
theorem Rp {l:List Nat} {i x:Nat} (h:l[i]? = some x):H5 (l.take (i+1))=H5 (l.take i)+10000^i*x:=by
 have hi:=(Qd.1 h).1;rw [show l.take (i+1)=l.take i++[x] by rw [Zw,h]; rfl,T0,Qx,Zt (by omega)];simp [H5]
theorem Qkn:∀ {l:List Nat},Dg l->H5 l<10000^l.length
 | [],_=>by simp [H5]
 |
  x::l,h=>by
  have h1:=h x (Qr ..);have h2:=Qkn (l:=l) λy hy=>h y (Qj _ hy)
  simp only [H5,Q6,Zo]; omega
theorem Qko:∀ {l:List Nat},(∀ x∈l,x=0)->H5 l=0
 | [],_=>rfl
 |
  x::l,h=>by
  have h1:=h x (Qr ..);have h2:=Qko (l:=l) λy hy=>h y (Qj _ hy)
  simp [H5,h1,h2]
theorem Dg.take {l:List Nat} (h:Dg l) (k:Nat):Dg (l.take k):=λx hx=>h x (Qn hx)
theorem Dg.snoc {l:List Nat} (h:Dg l) {x:Nat} (hx:x<10000):Dg (l++[x]):=by
 intro y hy;rcases Qw.1 hy with hy | hy
 ·exact h y hy
 ·rw [Ql.1 hy]; exact hx
theorem Dg.nil:Dg []:=λx h=>by cases h
theorem Qx3:∀ {l:List Nat},Dg l->(∀ x,l[l.length-1]? = some x->x≠0)->l=Fb (H5 l)
 | [],_,_=>by rw [H5,Gl]
 |
  x::l,h,hl=>by
  have h1:=h x (Qr ..);have h2:l=Fb (H5 l):=Qx3 (λy hy=>h y (Qj _ hy)) λy hy=>hl y (by
   rcases l with _ | ⟨z,t⟩
   ·simp at hy
   ·simpa using hy)
  have h3:x+10000*H5 l≠0:=by
   intro e;have hx:x=0:=by omega
   have hd:H5 l=0:=by omega
   rw [hd,Gl] at h2;subst h2;exact hl x rfl hx
  simp only [H5];rw [Iq h3,show (x+10000*H5 l) % 10000=x by omega,show (x+10000*H5 l) / 10000=H5 l by omega,<-h2]
theorem Qtu {l:List Nat} {m:Nat} (hd:Dg l) (hm:m<=l.length) (h1:∀ j x,m<=j->l[j]? = some x->x=0) (h2:0<m->∃ y,l[m-1]? = some y/\y≠0):l.take m=Fb (H5 l):=by
 have e:H5 l=H5 (l.take m):=by
  conv=>lhs; rw [<-Ze m l,T0]
  rw [Qko (l:=l.drop m) λx hx=>?_]
  ·omega
  ·obtain ⟨j,hj⟩:=Zh.1 hx;rw [Xd] at hj;exact h1 (m+j) x (by omega) hj
 rw [e];refine Qx3 (hd.take m) λx hx=>?_
 have hl:(l.take m).length=m:=by rw [Qx]; omega
 rw [hl] at hx;rcases Qz m with h0 | h0
 ·subst h0; simp at hx
 ·obtain ⟨y,hy,hy0⟩:=h2 h0;rw [List.getElem?_take_of_lt (by omega),hy] at hx;injection hx with hx; rw [<-hx]; exact hy0
theorem Qno {o c i d m P V:Nat} (hP:P=10000^i) (h:o+c*P=V):o+P*((c+d*m) % 10000)+(c+d*m) / 10000*(P*10000)=V+P*d*m:=by
 have e:=Xk (c+d*m) 10000;generalize (c+d*m) / 10000=q at *;generalize (c+d*m) % 10000=r at *;have e2:P*(c+d*m)=P*(10000*q+r):=by rw [e]
 grind
theorem O7 {x y:Nat} (h:x<=y):(Fb x).length<=(Fb y).length:=by
 induction y using Nat.strongRecOn generalizing x with
 |
  _ y ih =>
  by_cases h0:x=0
  ·subst h0; rw [Gl]; exact Qh _
  ·have h1:=Ej h0;have h2:=Ej (x:=y) (by omega);have:=ih (y / 10000) (by omega) (x:=x / 10000) (Nat.div_le_div_right h);omega
theorem Q4t {n x:Nat} (h:10000^n<=x):n+1<=(Fb x).length:=by
 have h1:=Qkn (Ng x);rw [Hi] at h1;have h2:n<(Fb x).length:=(Nat.pow_lt_pow_iff_right (by decide)).1 (Zv h h1);omega
theorem Qts {x y:Nat} (h:(Fb x).length<(Fb y).length):x<y:=by
 rcases Zb x y with h1 | h1
 ·exact h1
 ·have:=O7 h1; omega
theorem Q4v {k y:Nat} (h:y<10000^k):(Fb y).length<=k:=by
 induction k generalizing y with
 |
  zero =>
  have:y=0:=by simpa using h
  subst this; rw [Gl]; exact Qm _
 |
  succ k ih =>
  by_cases hy0:y=0
  ·subst hy0; rw [Gl]; exact Qh _
  ·have h8:=Ej hy0;have:=ih (y:=y / 10000) (by rw [Zo] at h; omega);omega
theorem Q87 {o:List Nat} (h:Dg o) (hl:o.length<=(Fb (H5 o)).length):o=Fb (H5 o):=by
 refine Qx3 h λx hx h0=>?_
 subst h0;have hne:0<o.length:=by
  rcases o with _ | ⟨a,o⟩
  ·simp at hx
  ·simp
 have h1:H5 o=H5 (o.take (o.length-1)):=by
  have:=Rp hx;rw [show o.length-1+1=o.length by omega,Q4] at this;omega
 have h2:=Qkn (h.take (o.length-1));rw [<-h1,Qx,Zt (by omega)] at h2;have:=Q4v h2;omega
theorem Qaa {l:List Nat} {j d:Nat} (h:l[j]? = some d):H5 (l.drop j)=d+10000*H5 (l.drop (j+1)):=by
 obtain ⟨hj,he⟩:=Qd.1 h;rw [Zl hj,he]; rfl
theorem Qf7 {l:List Nat} {j y:Nat} (h:j<l.length):(l.set j y).drop j=y::l.drop (j+1):=by
 rw [Zl (by simpa using h)];simp only [List.getElem_set_self];rw [List.drop_set_of_lt (by omega)]
theorem Dg.set {l:List Nat} (h:Dg l) {j y:Nat} (hy:y<10000):Dg (l.set j y):=by
 intro x hx;rcases Yi hx with hx | rfl
 ·exact h x hx
 ·exact hy
theorem Dg.zeros (n:Nat):Dg (List.replicate n 0):=by
 intro x hx; rw [Zu hx]; decide
theorem Qtw {V kd d:Nat} (hk:0<kd):(d+10000*V) / kd=(V % kd*10000+d) / kd+10000*(V / kd)/\(d+10000*V) % kd=(V % kd*10000+d) % kd/\(d<10000->(V % kd*10000+d) / kd<10000):=by
 have e:=Xk V kd;have e2:d+10000*V=(V % kd*10000+d)+kd*(10000*(V / kd)):=by
  conv=>lhs; rw [<-e]
  grind
 refine ⟨?_,?_,λhd=>?_⟩
 ·rw [e2,Wb _ _ hk]
 ·rw [e2,Kc]
 ·have:=Xf V hk;exact (Vw hk).2 (by grind)
theorem Qix (l:List Nat) (j:Nat) (h:j<=l.length):H5 l=H5 (l.take j)+10000^j*H5 (l.drop j):=by
 conv=>lhs; rw [<-Ze j l,T0]
 rw [Qx,Zt h]
theorem Qkg {a b:List Nat} {j d e:Nat} (ha:Dg a) (hd:a[j]? = some d) (he:b[j]? = some e) (hs:a.drop (j+1)=b.drop (j+1)) (h:d<e):H5 a<H5 b:=by
 have h1:=(Qd.1 hd).1;have h2:=(Qd.1 he).1;rw [Qix a j (by omega),Qix b j (by omega),Qaa hd,Qaa he,hs];have h3:=Qkn (ha.take j);rw [Qx,Zt (by omega)] at h3;generalize 10000^j=P at *;have h4:P*(d+10000*H5 (b.drop (j+1)))+P<=P*(e+10000*H5 (b.drop (j+1))):=by
  rw [<-Kj]; exact Zj _ (by omega)
 omega
def dl (l:List Nat):LV:=.row (l.map λ(x:Nat)=>[.int .i64 (x:Int)])
theorem Ho (l:List Nat):(l.map λ(x:Nat)=>[LV.int .i64 (x:Int)]).length=l.length:=by simp
theorem Fv {l:List Nat} {i x:Nat} (h:l[i]? = some x):(l.map λ(x:Nat)=>[LV.int .i64 (x:Int)])[i]? = some [.int .i64 (x:Int)]:=by rw [Q9,h]; rfl
abbrev nd (x:Nat):LV:=dl (Fb x)
end Orr
namespace Orr
open Go Go.Proofs
set_option maxRecDepth 10000
abbrev M4 (l:List Nat):List (List LV):=l.map λ(x:Nat)=>[.int .i64 (x:Int)]
theorem Zla (l:List Nat):∀ c∈M4 l,c.length=1:=λc hc=>by obtain ⟨x,_,rfl⟩:=Za.1 hc; rfl
theorem Qf4 {l:List Nat} (hd:Dg l):Uk Tryz.prog 145 [.one (.row (M4 l))] [.one (nd (H5 l))]:=by
 refine Gm Tryz.func145 rfl (ln 0 rfl rfl λhl=>?_);rw [Q8] at hl;refine go tt [] rfl trivial ?_;refine lp (S:=Nat) 0 (λL1 n=>(3,.v (.one (.int .i64 (n:Int))))::L1) (λ_=>[]) id (λn=>n<=l.length/\∀ j x,n<=j->l[j]? = some x->x=0) (M4 l).length ⟨by simp,λj x h1 h2=>by
  have:=(Qd.1 h2).1; simp at h1; omega⟩ rfl (λ_ _=>rfl) rfl λn ⟨h1,h2⟩=>?_
 cases n with
 | zero=>exact en tt [.g 8 false (by simp),.f rfl,.i 0] rfl (by have:=Qtu hd h1 h2 (λh=>by omega); unfold nd; rw [<-this]; simp [dl]) (by simp [Ui])
 |
  succ n =>
  obtain ⟨x,hx⟩:=gxE (l:=l) (i:=n) (by omega);by_cases h0:x=0
  ·refine go tt [.g 8 true (by simp),.r 11 (v:=.one (.int .i64 (n:Int))) (by simp),.x (Fv hx),.t (by simp [h0]),.r 17 (v:=.one (.int .i64 (n:Int))) (by simp)] rfl (by simp [Ui]; omega) ?_;exact rd n (by simp) ⟨by omega,λj y h3 h4=>by
    rcases Vf h3 with rfl | h3
    ·rw [hx] at h4; injection h4 with h4; rw [<-h4,h0]
    ·exact h2 j y h3 h4⟩ rfl
  ·exact en tt [.g 8 true (by simp),.r 11 (v:=.one (.int .i64 (n:Int))) (by simp),.x (Fv hx),.f (by simp [h0]),.i (n+1)] rfl (by have:=Qtu hd h1 h2 (λ_=>⟨x,hx,h0⟩); unfold nd; rw [<-this]; simp [dl,List.map_take]) (by simp [Ui] <;> omega)
theorem Q1b {x kd:Nat} (hxs:sz x<=100000000) (hk:0<kd/\kd<=65536):Uk Tryz.prog 144 [.one (nd x),.one (.int .i64 (kd:Int))] [.one (nd (x / kd)),.one (.int .i64 ((x % kd:Nat):Int))]:=by
 have hln:=Qc (Po x) hxs;obtain ⟨l,hl⟩:=nmE (Fb x);have hx:H5 l=x:=by rw [hl,Hi]
 have hd:Dg l:=by rw [hl]; exact Ng x
 show Uk Tryz.prog 144 [.one (.row (M4 (Fb x))),.one (.int .i64 (kd:Int))] _;rw [<-hl] at hln ⊢;rw [<-hx];have hll:=Ho l;refine Gm Tryz.func144 rfl ?_;refine go tt [.i (M4 l).length,.i (M4 l).length] rfl (by simp [Ui]; omega) ?_;rw [hll,show List.replicate l.length [LV.int .i64 0]=M4 (List.replicate l.length 0) from by simp [M4]];refine lp (S:=Nat×List Nat×Nat) 1 (λL1 s=>(8,.v (.one (.int .i64 ((s.1:Int)-1))))::(7,.v (.one (.int .i64 (s.2.2:Int))))::L1) (λs=>[.row false 3 1 (M4 s.2.1)]) (λs=>s.1) (λs=>s.1<=l.length/\s.2.1.length=l.length/\Dg s.2.1/\H5 (s.2.1.drop s.1)=H5 (l.drop s.1) / kd/\s.2.2=H5 (l.drop s.1) % kd) (l.length,List.replicate l.length 0,0) ⟨Qm _,by simp,Dg.zeros _,by simp [H5],by simp [H5]⟩ rfl (λ_ _=>rfl) rfl λ⟨k,o,R⟩ ⟨j1,j2,j3,j4,hR⟩=>?_
 dsimp only at j1 j2 j3 j4 hR ⊢;cases k with
 |
  zero =>
  have cc:=Qf4 j3;rw [Xs,Xs] at j4;rw [j4] at cc;exact en tt [.f (by simp),.c [] cc] rfl (by rw [hR,Xs]) trivial
 |
  succ k =>
  obtain ⟨d,hdk⟩:=gxE (l:=l) (i:=k) (by omega);have hd0:=hd d (Qa hdk);have hdd:=Qaa hdk;obtain ⟨s1,s2,s3⟩:=Qtw (V:=H5 (l.drop (k+1))) (kd:=kd) (d:=d) hk.1;rw [<-hdd] at s1 s2;have hr:=Xf (H5 (l.drop (k+1))) hk.1;rw [<-hR] at s1 s2 s3 hr;have e:((k+1:Nat):Int)-1=(k:Int):=by omega
  have htd:((R:Int)*10000+(d:Int)).tdiv (kd:Int)=(((R*10000+d) / kd:Nat):Int):=rfl;have hle:=J8 (R*10000+d) kd;have htb:0<=((R:Int)*10000+(d:Int)).tdiv (kd:Int)/\((R:Int)*10000+(d:Int)).tdiv (kd:Int)<=655369999:=by
   rw [htd]; revert hle; generalize (R*10000+d) / kd=Q; intro hle; omega
  rw [e];refine go tt [.t (by simp),.x (Fv hdk),.r 26 (eI (b:=((R*10000+d:Nat):Int)) (by omega)),.r 31 (eI (b:=(((R*10000+d) / kd:Nat):Int)) (by rfl)),.i k,.r 35 (eI (b:=(((R*10000+d) % kd:Nat):Int)) (by rfl))] rfl (by simp [Ui]; omega) ?_;exact rd (k,o.set k ((R*10000+d) / kd),(R*10000+d) % kd) (by dsimp only; omega) ⟨by dsimp only; omega,by simp [j2],j3.set (s3 hd0),by dsimp only; rw [Qf7 (by omega)]; simp only [H5]; rw [j4,s1],by dsimp only; exact s2.symm⟩ (by simp [M4,List.map_set]; rfl)
theorem Zmu (x k:Nat):sz (x / k)<=sz x:=Hy (J8 _ _)
theorem Qyp {x y:Nat} {o:List Nat} (h:U8 x=o++U8 y) (h0:y≠0):U8 x=(o++[y % 4294967296])++U8 (y / 4294967296):=by
 rw [h,Dv h0]; simp
theorem Zgu (o:List Nat) (z:Nat):lm (o++[z])=lm o++[[.int .u32 (z:Int)]]:=by simp [lm]
theorem Zn0 {x:Nat} (hx:sz x<=100000000):Uk Tryz.prog 82 [.one (nd x)] [lr (U8 x)]:=by
 have hlx:=Rm hx;refine Gm Tryz.func82 rfl ?_;refine go tt [.o 3 217 1] rfl trivial ?_;refine lp (S:=Nat×List Nat) 1 (λL1 s=>(0,.v (.one (nd s.1)))::(3,.v (.one (.orow 0 1 none)))::L1) (λs=>[.row false 217 1 (lm s.2)]) (λs=>s.1) (λs=>U8 x=s.2++U8 s.1/\s.1<=x) (x,[]) ⟨rfl,Qm _⟩ rfl (λ_ _=>rfl) rfl λ⟨y,o⟩ ⟨j1,j2⟩=>?_
 dsimp only at j1 j2 ⊢;by_cases h0:y=0
 ·subst h0;rw [Gd,Xi] at j1;rw [j1];exact en tt [.f (by simp [Gl])] rfl rfl trivial
 ·have hs:=Qyp j1 h0;have hsy:sz y<=100000000:=Qc (Hy j2) hx;have c1:=Q1b (x:=y) (kd:=65536) hsy (by decide);have c2:=Q1b (x:=y / 65536) (kd:=65536) (Qc (Zmu _ _) hsy) (by decide);have hl:(Fb y).length≠0:=λh=>h0 (Qd2.1 h)
  have ol:o.length<=(U8 x).length:=by rw [j1]; simp
  have e:y / 65536 % 65536*65536+y % 65536=y % 4294967296:=by omega
  have e2:y / 65536 / 65536=y / 4294967296:=by omega
  refine go tt [.t (by simp; omega),.c [] c1,.c [] c2,.r 26 (Dh (b:=((y % 4294967296:Nat):Int)) (by omega)),.s (sz:=1) (l:=[[.int .u32 ((y % 4294967296:Nat):Int)]]) (λc hc=>by rw [Ql.1 hc]; rfl)] rfl (by simp [Ui,Um]; omega) ?_;rw [<-e2] at hs;exact rd (y / 65536 / 65536,o++[y % 4294967296]) (by dsimp only; omega) ⟨hs,by dsimp only; omega⟩ (by rw [Zgu]; rfl)
abbrev ri (z:Int):List LV:=[nd z.natAbs,sg z]
theorem Zo2 (b:Bool) (m:Nat):[nd m,LV.bool (b && decide (0<m))]=ri (Us b m):=by
 simp only [ri,sg,Hp,Qlk]
theorem Zl2 (x:Nat):(0<(Fb x).length)↔0<x:=by
 have:=Qd2 (x:=x); omega
theorem Ed (b:Bool) (m:Nat):Uk Tryz.prog 83 [.one (nd m),.one (.bool b)] [.agg (ri (Us b m))]:=by
 rw [<-Zo2];have e:=Zl2 m;cases b with
 | false=>exact w tt Tryz.func83 rfl [.g 7 false rfl] rfl rfl trivial
 | true=>exact w tt Tryz.func83 rfl [.g 7 true rfl] rfl (by simp [e]) trivial
theorem Mg {z:Int}:Uk Tryz.prog 99 [.agg (ri z)] [.one (.bool (decide (z=0)))] :=
 w tt Tryz.func99 rfl [] rfl (by have h:=Qd2 (x:=z.natAbs); simp only [Ho]; congr 3; rw [decide_eq_decide]; omega) trivial
theorem Ii {z:Int}:Uk Tryz.prog 98 [.agg (ri z)] [.agg (ri (-z))]:=by
 have h:=Ed (!decide (z<0)) z.natAbs;have e:Us (!decide (z<0)) z.natAbs=-z:=by unfold Us; by_cases h:z<0 <;> simp [h] <;> omega
 rw [e] at h;exact w tt Tryz.func98 rfl [.c [] h] rfl rfl trivial
theorem Q70 {z:Int} (hz:Uv z<=100000000):Uk Tryz.prog 35 [.agg (ri z)] [.agg (Gk z)] :=
 w tt Tryz.func35 rfl [.c [] (Zn0 hz)] rfl rfl trivial
theorem eBo {a b:Bool} (h:a=b):TV.one (LV.bool a)=.one (.bool b):=h ▸ rfl
theorem El (l:List Nat) (x:Nat):M4 (l++[x])=M4 l++[[.int .i64 (x:Int)]]:=by simp [M4]
theorem Qtt {x y:Nat} {o:List Nat} (h:Fb x=o++Fb y) (h0:y≠0):Fb x=(o++[y % 10000])++Fb (y / 10000):=by
 rw [h,Iq h0]; simp
theorem Zkw {b:Bool} {x:Nat} (hx:x<=4000000000000000000) (hb:b=true->0<x):Uk Tryz.prog 38 [.one (.int .i64 (Us b x))] [.agg (ri (Us b x))]:=by
 have hl:(Fb x).length<=100:=by
  have:=Po x;have h2:sz x<=64:=M6.2 (by omega);omega
 have hm:=Ed b x;refine Gm Tryz.func38 rfl ?_;cases b with
 |
  false =>
  show AK Tryz.prog _ _ _ (Qcb 0 [.one (.int .i64 (x:Int))]) [];refine go tt [.f (by simp <;> omega),.r 3 (eBo (b:=false) (by simp)),.f rfl,.o 4 3 1] rfl trivial ?_;refine lp (S:=Nat×List Nat) 2 (λL1 s=>(0,.v (.one (.int .i64 (s.1:Int))))::(4,.v (.one (.orow 1 1 none)))::L1) (λs=>[.blk 33 [.nils,.bool false],.row false 3 1 (M4 s.2)]) (λs=>s.1) (λs=>Fb x=s.2++Fb s.1/\s.1<=x) (x,[]) ⟨rfl,Qm _⟩ rfl (λ_ _=>rfl) rfl λ⟨y,o⟩ ⟨j1,j2⟩=>?_
  dsimp only at j1 j2 ⊢;by_cases h0:y=0
  ·subst h0;rw [Gl,Xi] at j1;rw [<-j1];exact en tt [.f (by simp),.c [] hm] rfl rfl trivial
  ·have hs:=Qtt j1 h0;have ol:o.length<=(Fb x).length:=by rw [j1]; simp
   refine go tt [.t (by simp; omega),.r 18 (eI (b:=((y % 10000:Nat):Int)) (by rfl)),.s (sz:=1) (l:=[[.int .i64 ((y % 10000:Nat):Int)]]) (λc hc=>by rw [Ql.1 hc]; rfl),.r 22 (eI (b:=((y / 10000:Nat):Int)) (by rfl))] rfl (by simp [Ui,Ho]; omega) ?_;exact rd (y / 10000,o++[y % 10000]) (by dsimp only; omega) ⟨hs,by dsimp only; omega⟩ (by rw [El]; rfl)
 |
  true =>
  show AK Tryz.prog _ _ _ (Qcb 0 [.one (.int .i64 (-(x:Int)))]) [];refine go tt [.f (by simp <;> omega),.r 3 (eBo (b:=true) (by simpa using hb rfl)),.t rfl,.r 0 (eI (b:=(x:Int)) (by omega)),.o 4 3 1] rfl (by simp [Ui]; omega) ?_;refine lp (S:=Nat×List Nat) 2 (λL1 s=>(0,.v (.one (.int .i64 (s.1:Int))))::(4,.v (.one (.orow 1 1 none)))::L1) (λs=>[.blk 33 [.nils,.bool false],.row false 3 1 (M4 s.2)]) (λs=>s.1) (λs=>Fb x=s.2++Fb s.1/\s.1<=x) (x,[]) ⟨rfl,Qm _⟩ rfl (λ_ _=>rfl) rfl λ⟨y,o⟩ ⟨j1,j2⟩=>?_
  dsimp only at j1 j2 ⊢;by_cases h0:y=0
  ·subst h0;rw [Gl,Xi] at j1;rw [<-j1];exact en tt [.f (by simp),.c [] hm] rfl rfl trivial
  ·have hs:=Qtt j1 h0;have ol:o.length<=(Fb x).length:=by rw [j1]; simp
   refine go tt [.t (by simp; omega),.r 18 (eI (b:=((y % 10000:Nat):Int)) (by rfl)),.s (sz:=1) (l:=[[.int .i64 ((y % 10000:Nat):Int)]]) (λc hc=>by rw [Ql.1 hc]; rfl),.r 22 (eI (b:=((y / 10000:Nat):Int)) (by rfl))] rfl (by simp [Ui,Ho]; omega) ?_;exact rd (y / 10000,o++[y % 10000]) (by dsimp only; omega) ⟨hs,by dsimp only; omega⟩ (by rw [El]; rfl)
theorem C7 {n:Int} (hn:-4000000000000000000<=n/\n<=4000000000000000000):Uk Tryz.prog 38 [.one (.int .i64 n)] [.agg (ri n)]:=by
 have e:Us (decide (n<0)) n.natAbs=n:=by unfold Us; by_cases h:n<0 <;> simp [h] <;> omega
 have h:=Zkw (b:=decide (n<0)) (x:=n.natAbs) (by omega) (λh=>by have:=of_decide_eq_true h; omega);rwa [e] at h
theorem Qcy (x:Nat):(M4 (Fb x)).length=(Fb x).length:=Ho _
theorem Qy1 (z:Int):∀ c∈[[LV.int .i64 z]],c.length=1:=λc hc=>by rw [Ql.1 hc]; rfl
theorem Zn7 {x:Nat} (h:x<=1000000000):(Fb x).length<=3:=Q4u (by omega)
theorem tdn (n:Nat):((n:Nat):Int).tdiv 10000=((n / 10000:Nat):Int):=rfl
theorem Qdm (n:Nat):((n:Nat):Int).tdiv 2=((n / 2:Nat):Int):=rfl
theorem Qdz {x mu c0:Nat} (hx:sz x<=100000000) (hmu:mu<=65536) (hc:c0<=1000000000):Uk Tryz.prog 146 [.one (nd x),.one (.int .i64 (mu:Int)),.one (.int .i64 (c0:Int))] [.one (nd (x*mu+c0))]:=by
 have hxl:=Qc (Po x) hx;have hll:=Qcy x;show Uk Tryz.prog 146 [.one (.row (M4 (Fb x))),.one (.int .i64 (mu:Int)),.one (.int .i64 (c0:Int))] _;refine Gm Tryz.func146 rfl ?_;refine go tt [.r 11 (eI (b:=(((Fb x).length+2:Nat):Int)) (by rw [hll]; omega)),.i 0,.i ((Fb x).length+2)] rfl (by simp [Ui]; omega) ?_;refine lp (S:=Nat×Nat×List Nat) 1 (λL1 s=>(8,.v (.one (.int .i64 (s.1:Int))))::(7,.v (.one (.orow 0 1 none)))::(2,.v (.one (.int .i64 (s.2.1:Int))))::L1.filter (λx=>x.1 != 12)) (λs=>[.row false 3 1 (M4 s.2.2)]) (λs=>((Fb x).length-s.1)*4+(Fb s.2.1).length) (λs=>Dg s.2.2/\s.2.2.length=s.1/\H5 s.2.2+s.2.1*10000^s.1=H5 ((Fb x).take s.1)*mu+c0/\(s.1<=(Fb x).length\/s.1+(Fb s.2.1).length<=(Fb x).length+3)/\s.2.1<=1000000000) (0,c0,[]) ⟨Dg.nil,rfl,by simp [H5],.inl (Qh _),hc⟩ rfl (λ_ _=>rfl) rfl λs hs=>?_
 obtain ⟨i,c,o⟩:=s;obtain ⟨hp0,hp1,hp2,hp3,hp4⟩:=hs;dsimp only at hp0 hp1 hp2 hp3 hp4 ⊢;have hcl:=Zn7 (x:=c) hp4;by_cases h1:i<(Fb x).length
 ·obtain ⟨d,hd⟩:=gxE (l:=(Fb x)) (i:=i) h1;have hd9:=Ng x d (Qa hd);have hdm:d*mu<=9999*65536:=Zx (by omega) hmu;have hc3:=Zn7 (x:=(c+d*mu) / 10000) (by omega);have hol:(M4 o).length=i:=by rw [Ho,hp1]
  refine go tt [.g 17 true (decide_eq_true (by omega)),.t rfl,.t (decide_eq_true (by omega)),.x (Fv hd),.r 33 (eI (b:=((d*mu:Nat):Int)) (by simp)),.r 34 (eI (b:=((c+d*mu:Nat):Int)) (by omega)),.r 37 (eI (b:=(((c+d*mu) % 10000:Nat):Int)) (by rfl)),.s (sz:=1) (Qy1 _),.r 41 (eI (b:=(((c+d*mu) / 10000:Nat):Int)) (by rfl))] rfl (by simp [Ui,hol,tdn,Qdm,-Int.natCast_add,-Int.natCast_mul]; omega) ?_;exact rd (i+1,(c+d*mu) / 10000,o++[(c+d*mu) % 10000]) (by dsimp only; omega) ⟨hp0.snoc (Nat.mod_lt _ (by decide)),by dsimp only; rw [List.length_append]; show o.length+1=_; omega,by
   dsimp only;rw [T0,Rp hd,hp1,Nat.pow_succ]; simp only [H5,Nat.mul_zero,Nat.add_zero]; have:=Qno (d:=d) (m:=mu) rfl hp2; rw [this]; grind,.inl (by dsimp only; omega),by dsimp only; omega⟩ (by rw [El]; rfl)
 ·by_cases h2:0<c
  ·have hdc:=Ej (x:=c) (by omega);have hol:(M4 o).length=i:=by rw [Ho,hp1]
   refine go tt [.g 17 false (decide_eq_false (by omega)),.t (decide_eq_true (by omega)),.f (decide_eq_false (by omega)),.r 37 (eI (b:=((c % 10000:Nat):Int)) (by rfl)),.s (sz:=1) (Qy1 _),.r 41 (eI (b:=((c / 10000:Nat):Int)) (by rfl))] rfl (by simp [Ui,hol,tdn,Qdm,-Int.natCast_add]; omega) ?_;exact rd (i+1,c / 10000,o++[c % 10000]) (by dsimp only; omega) ⟨hp0.snoc (Nat.mod_lt _ (by decide)),by dsimp only; rw [List.length_append]; show o.length+1=_; omega,by
    dsimp only;rw [T0,hp1,Nat.pow_succ]; simp only [H5,Nat.mul_zero,Nat.add_zero]; have:=Qno (d:=0) (m:=mu) rfl hp2; simp only [Nat.zero_mul,Nat.mul_zero,Nat.add_zero] at this; rw [this,List.take_of_length_le (by omega),List.take_of_length_le (by omega)],.inr (by dsimp only; omega),by dsimp only; omega⟩ (by rw [El]; rfl)
  ·have cc:=Qf4 hp0;rw [show H5 o=x*mu+c0 from by
    have h:=hp2; rw [Qk (by omega),Hi,show c=0 by omega] at h; omega] at cc
   exact en tt [.g 17 false (decide_eq_false (by omega)),.f (decide_eq_false (by omega)),.c [] cc] rfl rfl trivial
theorem Q6c {l:List Nat} {j d:Nat} (h:l[j]? = some d):val (l.drop j)=d+4294967296*val (l.drop (j+1)):=by
 have hi:=(Qd.1 h).1;rw [Zl hi,(Qd.1 h).2]; rfl
theorem Qic:∀ (l:List Nat) (j:Nat),val (l.drop j)<=val l
 | l,0=>Qm _
 | [],j+1=>by simp
 |
  x::l,j+1=>by
  have:=Qic l j;rw [List.drop_succ_cons]; simp only [val]; omega
theorem Zeu {l:List Nat} (hu:∀ u∈l,u<4294967296) (hl:l.length≤1099511627776) (hx:sz (val l)≤100000000):Uk Tryz.prog 85 [lr l] [.one (nd (val l))]:=by
 have hll:=Um l;show Uk Tryz.prog 85 [.one (.row (lm l))] _;refine Gm Tryz.func85 rfl ?_;refine go tt [.z 3,.r 7 (eI (b:=((l.length:Nat):Int)-1) (by rw [hll]))] rfl (by simp [Ui]; omega) ?_;refine lp (S:=Nat×List Nat) 0 (λL1 s=>(4,.v (.one (.int .i64 ((s.1:Int)-1))))::(3,.v (.one (.row (M4 s.2))))::L1) (λ_=>[]) (λs=>s.1) (λs=>s.1<=l.length/\s.2=Fb (val (l.drop s.1))) (l.length,[]) ⟨Nat.le_refl _,by dsimp only; rw [List.drop_eq_nil_of_le (Nat.le_refl _)]; show []=Fb 0; rw [Gl]⟩ rfl (λ_ _=>rfl) rfl λs hs=>?_
 obtain ⟨j,o⟩:=s;obtain ⟨hj,ho⟩:=hs;dsimp only at hj ho ⊢;subst ho;cases j with
 | zero=>exact en tt [.f (by simp)] rfl (by rw [Xs]; rfl) trivial
 |
  succ j =>
  obtain ⟨d,hd⟩:=gxE (l:=l) (i:=j) (by omega);have hd9:=hu d (Qa hd);have hdd:=Q6c hd;have hle:=Qic l j;have hs2:sz (val (l.drop (j+1))*65536+d / 65536)<=100000000:=Qc (Hy (by omega)) hx;have hs1:sz (val (l.drop (j+1)))<=100000000:=Qc (Hy (by omega)) hx;have c1:=Qdz (x:=val (l.drop (j+1))) (mu:=65536) (c0:=d / 65536) hs1 (by omega) (by omega);have c2:=Qdz (x:=val (l.drop (j+1))*65536+d / 65536) (mu:=65536) (c0:=d % 65536) hs2 (by omega) (by omega);have ej:((j+1:Nat):Int)-1=(j:Int):=by omega
  have e2:(val (l.drop (j+1))*65536+d / 65536)*65536+d % 65536=val (l.drop j):=by rw [hdd]; omega
  rw [e2] at c2;rw [ej];refine go tt [.t (decide_eq_true (by omega)),.x (Fw hd),.r 17 (Dh (b:=((d / 65536:Nat):Int)) (by rfl)),.c [] c1,.x (Fw hd),.r 25 (Dh (b:=((d % 65536:Nat):Int)) (by rfl)),.c [] c2] rfl (by simp [Ui,IntKind.bits]; omega) ?_;exact rd (j,Fb (val (l.drop j))) (by dsimp only; omega) ⟨by dsimp only; omega,rfl⟩ rfl
theorem Qw9 {x y:Nat} (hx:sz x<=200000000) (hy:sz y<=200000000):Uk Tryz.prog 186 [.one (nd x),.one (nd y)] [.one (.int .i64 (Ot x y))]:=by
 have hxl:=Qc (Po x) hx;have hyl:=Qc (Po y) hy;have lx:=Qcy x;have ly:=Qcy y;show Uk Tryz.prog 186 [.one (.row (M4 (Fb x))),.one (.row (M4 (Fb y)))] _;refine Gm Tryz.func186 rfl ?_;by_cases hl:(Fb x).length=(Fb y).length
 ·refine go tt [.f (by simp; omega),.r 18 (eI (b:=((Fb x).length:Int)-1) (by rw [lx]))] rfl (by simp [Ui]; omega) ?_;refine lp (S:=Nat) 0 (λL1 j=>(5,.v (.one (.int .i64 ((j:Int)-1))))::L1) (λ_=>[]) (λj=>j) (λj=>j<=(Fb x).length/\(Fb x).drop j=(Fb y).drop j) (Fb x).length ⟨Qm _,by rw [Yx (Qm _),Yx (by omega)]⟩ rfl (λ_ _=>rfl) rfl λj hs=>?_
  obtain ⟨hj,hp⟩:=hs;cases j with
  |
   zero =>
   have hxy:x=y:=by rw [Xs,Xs] at hp; rw [<-Hi x,<-Hi y,hp]
   exact en tt [.f (by simp)] rfl (by rw [Q1h hxy]) trivial
  |
   succ j =>
   obtain ⟨d,hd⟩:=gxE (l:=(Fb x)) (i:=j) (by omega);obtain ⟨e,he⟩:=gxE (l:=(Fb y)) (i:=j) (by omega);have ej:((j+1:Nat):Int)-1=(j:Int):=by omega
   rw [ej];by_cases h2:d=e
   ·refine go tt [.t (decide_eq_true (by omega)),.x (Fv hd),.x (Fv he),.f (by simp [h2])] rfl (by simp [Ui]; omega) ?_;exact rd j (by omega) ⟨by omega,by rw [Zl (by omega:j<(Fb x).length),Zl (by omega:j<(Fb y).length),hp,(Qd.1 hd).2,(Qd.1 he).2,h2]⟩ rfl
   ·by_cases h3:d<e
    ·have hxy:=Qkg (Ng x) hd he hp h3;rw [Hi,Hi] at hxy;exact en tt [.t (decide_eq_true (by omega)),.x (Fv hd),.x (Fv he),.t (by simp; omega),.x (Fv hd),.x (Fv he),.t (decide_eq_true (by omega))] rfl (by rw [Qiu hxy]) trivial
    ·have hxy:=Qkg (Ng y) he hd hp.symm (by omega);rw [Hi,Hi] at hxy;exact en tt [.t (decide_eq_true (by omega)),.x (Fv hd),.x (Fv he),.t (by simp; omega),.x (Fv hd),.x (Fv he),.f (decide_eq_false (by omega))] rfl (by rw [Qit hxy]) trivial
 ·by_cases hlt:(Fb x).length<(Fb y).length
  ·exact en tt [.t (by simp; omega),.t (decide_eq_true (by omega))] rfl (by rw [Qiu (Qts hlt)]) trivial
  ·exact en tt [.t (by simp; omega),.f (decide_eq_false (by omega))] rfl (by rw [Qit (Qts (by omega))]) trivial
theorem Qbj {o c s P V:Nat} (h:o+c*P=V):o+P*((c+s) % 10000)+(c+s) / 10000*(P*10000)=V+P*s:=by
 have e:=Xk (c+s) 10000;generalize (c+s) / 10000=q at *;generalize (c+s) % 10000=r at *;have e2:P*(c+s)=P*(10000*q+r):=by rw [e]
 grind
theorem Aj {l:List Nat} {i:Nat} (h:l.length<=i):H5 (l.take (i+1))=H5 (l.take i):=by rw [Qk (by omega),Qk h]
theorem Q1v {l:List Nat} {p v u:Nat} (h:l[p]? = some v):H5 (l.set p u)+10000^p*v=H5 l+10000^p*u:=by
 have hp:=(Qd.1 h).1;rw [Qix (l.set p u) p (by rw [Jd]; omega),Qix l p (by omega),Qaa h,Qf7 hp,List.take_set_of_le (Qm _)];simp only [H5];generalize 10000^p=P;grind
theorem Em {l:List Nat} {p u:Nat} (h:p<l.length):H5 ((l.set p u).take (p+1))=H5 (l.take p)+10000^p*u:=by
 rw [Rp (l:=l.set p u) (i:=p) (x:=u) (by simp [h]),List.take_set_of_le (Qm _)]
structure AddI (x y:Nat) (s:Nat×Nat×List Nat):Prop where
 d:Dg s.2.2
 l:s.2.2.length=s.1
 v:H5 s.2.2+s.2.1*10000^s.1=H5 ((Fb x).take s.1)+H5 ((Fb y).take s.1)
 c:s.2.1<=1
 b:s.1<=max (Fb x).length (Fb y).length\/s.1=max (Fb x).length (Fb y).length+1/\10000^(max (Fb x).length (Fb y).length)<=x+y/\s.2.1=0
theorem Zkm {x y:Nat} (hx:sz x<=200000000) (hy:sz y<=200000000):Uk Tryz.prog 185 [.one (nd x),.one (nd y)] [.one (nd (x+y))]:=by
 have hxl:=Qc (Po x) hx;have hyl:=Qc (Po y) hy;have lx:=Qcy x;have ly:=Qcy y;show Uk Tryz.prog 185 [.one (.row (M4 (Fb x))),.one (.row (M4 (Fb y)))] _;refine Gm Tryz.func185 rfl ?_;refine go tt [.o 5 3 1] rfl trivial ?_;refine lp (S:=Nat×Nat×List Nat) 1 (λL1 s=>(7,.v (.one (.int .i64 (s.1:Int))))::(6,.v (.one (.int .i64 (s.2.1:Int))))::(5,.v (.one (.orow 0 1 none)))::L1) (λs=>[.row false 3 1 (M4 s.2.2)]) (λs=>(max (Fb x).length (Fb y).length-s.1)*2+s.2.1) (AddI x y) (0,0,[]) ⟨Dg.nil,rfl,by simp [H5],by decide,.inl (Qh _)⟩ rfl (λ_ _=>rfl) rfl λs hs=>?_
 obtain ⟨i,c,o⟩:=s;obtain ⟨hp0,hp1,hp2,hp3,hp4⟩:=hs;dsimp only at hp0 hp1 hp2 hp3 hp4 ⊢;have hol:(M4 o).length=i:=by rw [Ho,hp1]
 by_cases h1:i<(Fb x).length
 ·obtain ⟨d,hd⟩:=gxE (l:=(Fb x)) (i:=i) h1;have hd9:=Ng x d (Qa hd);by_cases h2:i<(Fb y).length
  ·obtain ⟨e,he⟩:=gxE (l:=(Fb y)) (i:=i) h2;have he9:=Ng y e (Qa he);refine go tt [.g 12 true (decide_eq_true (by omega)),.g 18 true rfl,.t rfl,.t (decide_eq_true (by omega)),.x (Fv hd),.r 33 (eI (b:=((c+d:Nat):Int)) (by omega)),.t (decide_eq_true (by omega)),.x (Fv he),.r 43 (eI (b:=((c+(d+e):Nat):Int)) (by omega)),.r 46 (eI (b:=(((c+(d+e)) % 10000:Nat):Int)) (by rfl)),.s (sz:=1) (Qy1 _),.r 50 (eI (b:=(((c+(d+e)) / 10000:Nat):Int)) (by rfl))] rfl (by simp [Ui,hol,tdn,Qdm,-Int.natCast_add]; omega) ?_;exact rd (i+1,(c+(d+e)) / 10000,o++[(c+(d+e)) % 10000]) (by dsimp only; omega) ⟨hp0.snoc (Nat.mod_lt _ (by decide)),by dsimp only; rw [List.length_append]; show o.length+1=_; omega,by
    dsimp only;rw [T0,hp1,Nat.pow_succ]; simp only [H5,Nat.mul_zero,Nat.add_zero]; have:=Qbj (s:=d+e) hp2; rw [this,Rp hd,Rp he]; grind,by dsimp only; omega,.inl (by dsimp only; omega)⟩ (by rw [El]; rfl)
  ·refine go tt [.g 12 true (decide_eq_true (by omega)),.g 18 true rfl,.t rfl,.t (decide_eq_true (by omega)),.x (Fv hd),.r 33 (eI (b:=((c+d:Nat):Int)) (by omega)),.f (decide_eq_false (by omega)),.r 46 (eI (b:=(((c+d) % 10000:Nat):Int)) (by rfl)),.s (sz:=1) (Qy1 _),.r 50 (eI (b:=(((c+d) / 10000:Nat):Int)) (by rfl))] rfl (by simp [Ui,hol,tdn,Qdm,-Int.natCast_add]; omega) ?_;exact rd (i+1,(c+d) / 10000,o++[(c+d) % 10000]) (by dsimp only; omega) ⟨hp0.snoc (Nat.mod_lt _ (by decide)),by dsimp only; rw [List.length_append]; show o.length+1=_; omega,by
    dsimp only;rw [T0,hp1,Nat.pow_succ]; simp only [H5,Nat.mul_zero,Nat.add_zero]; have:=Qbj (s:=d) hp2; rw [this,Rp hd,Aj (l:=Fb y) (by omega)]; grind,by dsimp only; omega,.inl (by dsimp only; omega)⟩ (by rw [El]; rfl)
 ·by_cases h2:i<(Fb y).length
  ·obtain ⟨e,he⟩:=gxE (l:=(Fb y)) (i:=i) h2;have he9:=Ng y e (Qa he);refine go tt [.g 12 false (decide_eq_false (by omega)),.g 18 true (decide_eq_true (by omega)),.t rfl,.f (decide_eq_false (by omega)),.t (decide_eq_true (by omega)),.x (Fv he),.r 43 (eI (b:=((c+e:Nat):Int)) (by omega)),.r 46 (eI (b:=(((c+e) % 10000:Nat):Int)) (by rfl)),.s (sz:=1) (Qy1 _),.r 50 (eI (b:=(((c+e) / 10000:Nat):Int)) (by rfl))] rfl (by simp [Ui,hol,tdn,Qdm,-Int.natCast_add]; omega) ?_;exact rd (i+1,(c+e) / 10000,o++[(c+e) % 10000]) (by dsimp only; omega) ⟨hp0.snoc (Nat.mod_lt _ (by decide)),by dsimp only; rw [List.length_append]; show o.length+1=_; omega,by
    dsimp only;rw [T0,hp1,Nat.pow_succ]; simp only [H5,Nat.mul_zero,Nat.add_zero]; have:=Qbj (s:=e) hp2; rw [this,Rp he,Aj (l:=Fb x) (by omega)]; grind,by dsimp only; omega,.inl (by dsimp only; omega)⟩ (by rw [El]; rfl)
  ·by_cases h3:0<c
   ·refine go tt [.g 12 false (decide_eq_false (by omega)),.g 18 false (decide_eq_false (by omega)),.t (decide_eq_true (by omega)),.f (decide_eq_false (by omega)),.f (decide_eq_false (by omega)),.r 46 (eI (b:=((c % 10000:Nat):Int)) (by rfl)),.s (sz:=1) (Qy1 _),.r 50 (eI (b:=((c / 10000:Nat):Int)) (by rfl))] rfl (by simp [Ui,hol,tdn,Qdm,-Int.natCast_add]; omega) ?_;exact rd (i+1,c / 10000,o++[c % 10000]) (by dsimp only; omega) ⟨hp0.snoc (Nat.mod_lt _ (by decide)),by dsimp only; rw [List.length_append]; show o.length+1=_; omega,by
     dsimp only;rw [T0,hp1,Nat.pow_succ]; simp only [H5,Nat.mul_zero,Nat.add_zero]; have:=Qbj (s:=0) hp2; rw [Nat.add_zero,Nat.mul_zero,Nat.add_zero] at this; rw [this,Aj (l:=Fb y) (by omega),Aj (l:=Fb x) (by omega)],by dsimp only; omega,.inr ⟨by dsimp only; omega,by
      have h:=hp2; rw [List.take_of_length_le (by omega),List.take_of_length_le (by omega),Hi,Hi,show c=1 by omega,Nat.one_mul,show i=(max (Fb x).length (Fb y).length) by omega] at h; omega,by dsimp only; omega⟩⟩ (by rw [El]; rfl)
   ·have hv:H5 o=x+y:=by
     have h:=hp2;rw [Qk (by omega),Qk (by omega),Hi,Hi,show c=0 by omega] at h;omega
    have hfin:o=Fb (x+y):=by
     have h:=Q87 (o:=o) hp0;rw [hv] at h;refine h ?_;have m1:=O7 (x:=x) (y:=x+y) (by omega);have m2:=O7 (x:=y) (y:=x+y) (by omega);rcases hp4 with hb | ⟨_,hb,_⟩
     ·omega
     ·have:=Q4t hb; omega
    exact en tt [.g 12 false (decide_eq_false (by omega)),.g 18 false (decide_eq_false (by omega)),.f (decide_eq_false (by omega))] rfl (by rw [hfin]; rfl) trivial
theorem Qbk {o b a c P u d e c':Nat} (h:o+b=a+c*P) (hs:u+e+c=d+10000*c'):(o+P*u)+(b+P*e)=(a+P*d)+c'*(P*10000):=by
 have e2:P*(u+e+c)=P*(d+10000*c'):=by rw [hs]
 grind
theorem Is (o:List Nat) (i u:Nat):M4 (o.set i u)=(M4 o).set i [.int .i64 (u:Int)]:=by simp [M4,Yz]
theorem Qxj {x y:Nat} (hx:sz x<=200000000) (hy:sz y<=200000000) (hyx:y<=x):Uk Tryz.prog 187 [.one (nd x),.one (nd y)] [.one (nd (x-y))]:=by
 have hxl:=Qc (Po x) hx;have hyl:=Qc (Po y) hy;have lx:=Qcy x;have ly:=Qcy y;have hmy:=O7 hyx;show Uk Tryz.prog 187 [.one (.row (M4 (Fb x))),.one (.row (M4 (Fb y)))] _;refine Gm Tryz.func187 rfl ?_;refine go tt [.i (M4 (Fb x)).length,.i (M4 (Fb x)).length] rfl (by simp [Ui]; omega) ?_;rw [lx,show List.replicate (Fb x).length [LV.int .i64 0]=M4 (List.replicate (Fb x).length 0) from by simp [M4]];refine lp (S:=Nat×Nat×List Nat) 1 (λL1 s=>(14,.v (.one (.int .i64 (s.1:Int))))::(6,.v (.one (.int .i64 (s.2.1:Int))))::L1) (λs=>[.row false 3 1 (M4 s.2.2)]) (λs=>(Fb x).length-s.1) (λs=>s.1<=(Fb x).length/\s.2.2.length=(Fb x).length/\Dg s.2.2/\H5 (s.2.2.take s.1)+H5 ((Fb y).take s.1)=H5 ((Fb x).take s.1)+s.2.1*10000^s.1/\s.2.1<=1) (0,0,List.replicate (Fb x).length 0) ⟨Qh _,Jj ..,Dg.zeros _,by simp [H5],Qh _⟩ rfl (λ_ _=>rfl) rfl λs hs=>?_
 obtain ⟨i,c,o⟩:=s;obtain ⟨hp0,hp1,hp2,hp3,hp4⟩:=hs;dsimp only at hp0 hp1 hp2 hp3 hp4 ⊢;have hol:(M4 o).length=(Fb x).length:=by rw [Ho,hp1]
 by_cases h1:i<(Fb x).length
 ·obtain ⟨d,hd⟩:=gxE (l:=(Fb x)) (i:=i) h1;have hd9:=Ng x d (Qa hd);by_cases h2:i<(Fb y).length
  ·obtain ⟨e,he⟩:=gxE (l:=(Fb y)) (i:=i) h2;have he9:=Ng y e (Qa he);by_cases h3:d<c+e
   ·refine go tt [.t (decide_eq_true (by omega)),.x (Fv hd),.t (decide_eq_true (by omega)),.x (Fv he),.t (decide_eq_true (by omega)),.r 36 (eI (b:=((d+10000-c-e:Nat):Int)) (by omega)),.i i] rfl (by simp [Ui,hol,tdn,Qdm,-Int.natCast_add]; omega) ?_;exact rd (i+1,1,o.set i (d+10000-c-e)) (by dsimp only; omega) ⟨by dsimp only; omega,by dsimp only; rw [List.length_set]; exact hp1,hp2.set (by omega),by
     dsimp only;rw [Em (by omega),Rp hd,Rp he,Nat.pow_succ]; exact Qbk hp3 (u:=d+10000-c-e) (d:=d) (e:=e) (c':=1) (by omega),by dsimp only; omega⟩ (by rw [Is]; rfl)
   ·refine go tt [.t (decide_eq_true (by omega)),.x (Fv hd),.t (decide_eq_true (by omega)),.x (Fv he),.r 32 (eI (b:=((d-c-e:Nat):Int)) (by omega)),.f (decide_eq_false (by omega)),.i i] rfl (by simp [Ui,hol,tdn,Qdm,-Int.natCast_add]; omega) ?_;exact rd (i+1,0,o.set i (d-c-e)) (by dsimp only; omega) ⟨by dsimp only; omega,by dsimp only; rw [List.length_set]; exact hp1,hp2.set (by omega),by
     dsimp only;rw [Em (by omega),Rp hd,Rp he,Nat.pow_succ]; exact Qbk hp3 (u:=d-c-e) (d:=d) (e:=e) (c':=0) (by omega),by dsimp only; omega⟩ (by rw [Is]; rfl)
  ·have hy0:H5 ((Fb y).take (i+1))=H5 ((Fb y).take i)+10000^i*0:=by rw [Aj (by omega),Y0,Xy]
   by_cases h3:d<c
   ·refine go tt [.t (decide_eq_true (by omega)),.x (Fv hd),.f (decide_eq_false (by omega)),.t (decide_eq_true (by omega)),.r 36 (eI (b:=((d+10000-c:Nat):Int)) (by omega)),.i i] rfl (by simp [Ui,hol,tdn,Qdm,-Int.natCast_add]; omega) ?_;exact rd (i+1,1,o.set i (d+10000-c)) (by dsimp only; omega) ⟨by dsimp only; omega,by dsimp only; rw [List.length_set]; exact hp1,hp2.set (by omega),by
     dsimp only;rw [Em (by omega),Rp hd,hy0,Nat.pow_succ]; exact Qbk hp3 (u:=d+10000-c) (d:=d) (e:=0) (c':=1) (by omega),by dsimp only; omega⟩ (by rw [Is]; rfl)
   ·refine go tt [.t (decide_eq_true (by omega)),.x (Fv hd),.r 22 (eI (b:=((d-c:Nat):Int)) (by omega)),.f (decide_eq_false (by omega)),.f (decide_eq_false (by omega)),.i i] rfl (by simp [Ui,hol,tdn,Qdm,-Int.natCast_add]; omega) ?_;exact rd (i+1,0,o.set i (d-c)) (by dsimp only; omega) ⟨by dsimp only; omega,by dsimp only; rw [List.length_set]; exact hp1,hp2.set (by omega),by
     dsimp only;rw [Em (by omega),Rp hd,hy0,Nat.pow_succ]; exact Qbk hp3 (u:=d-c) (d:=d) (e:=0) (c':=0) (by omega),by dsimp only; omega⟩ (by rw [Is]; rfl)
 ·have hi:i=(Fb x).length:=by omega
  have hv:H5 o=x-y:=by
   have h:=hp3;rw [Qk (by omega),Qk (by omega),Qk (by omega),Hi,Hi] at h;have hlt:=Qkn hp2;rw [hp1,<-hi] at hlt;have hc0:c=0:=by
    rcases Qz c with h0 | h0
    ·exact h0
    ·exfalso;have:c=1:=by omega
     rw [this,Ug] at h; omega
   rw [hc0] at h; omega
  have cc:=Qf4 hp2;rw [hv] at cc;exact en tt [.f (decide_eq_false (by omega)),.c [] cc] rfl rfl trivial
theorem Qkj {o o2 c P u v s V:Nat} (h:o+c*P=V) (hs:o2+P*v=o+P*u) {q:Nat} (hu:u+10000*q=v+c+s):o2+q*(P*10000)=V+P*s:=by
 have e2:P*(u+10000*q)=P*(v+c+s):=by rw [hu]
 grind
theorem Zn8 (S:Nat):S % 10000+10000*(S / 10000)=S:=W9 S 10000
structure MulI (x y i d:Nat) (s:Nat×Nat×List Nat):Prop where
 l:s.2.2.length=(Fb x).length+(Fb y).length
 dg:Dg s.2.2
 v:H5 s.2.2+s.2.1*10000^(i+s.1)=H5 ((Fb x).take i)*y+10000^i*d*H5 ((Fb y).take s.1)
 c:s.2.1<10000
 b:s.1<=(Fb y).length/\(∀ j v,i+(Fb y).length<=j->s.2.2[j]? = some v->v=0)\/s.1=(Fb y).length+1/\s.2.1=0/\∀ j v,i+(Fb y).length+1<=j->s.2.2[j]? = some v->v=0
theorem Zkq {x y:Nat} (hx:sz x<=200000000) (hy:sz y<=200000000):Uk Tryz.prog 84 [.one (nd x),.one (nd y)] [.one (nd (x*y))]:=by
 have hxl:=Qc (Po x) hx;have hyl:=Qc (Po y) hy;have lx:=Qcy x;have ly:=Qcy y;show Uk Tryz.prog 84 [.one (.row (M4 (Fb x))),.one (.row (M4 (Fb y)))] _;refine Gm Tryz.func84 rfl ?_;refine go tt [.r 14 (eI (b:=(((Fb x).length+(Fb y).length:Nat):Int)) (by rw [lx,ly]; omega)),.i ((Fb x).length+(Fb y).length),.i ((Fb x).length+(Fb y).length)] rfl (by simp [Ui]; omega) ?_;rw [show List.replicate ((Fb x).length+(Fb y).length) [LV.int .i64 0]=M4 (List.replicate ((Fb x).length+(Fb y).length) 0) from by simp [M4]];refine lp (S:=Nat×List Nat) 1 (λL1 s=>(18,.v (.one (.int .i64 (s.1:Int))))::L1) (λs=>[.row false 3 1 (M4 s.2)]) (λs=>(Fb x).length-s.1) (λs=>s.1<=(Fb x).length/\s.2.length=(Fb x).length+(Fb y).length/\Dg s.2/\H5 s.2=H5 ((Fb x).take s.1)*y/\∀ j v,s.1+(Fb y).length<=j->s.2[j]? = some v->v=0) (0,List.replicate ((Fb x).length+(Fb y).length) 0) ⟨Qh _,Jj ..,Dg.zeros _,by rw [Qko (λx hx=>Zu hx)]; simp [H5],λj v _ hv=>Zu (Qa hv)⟩ rfl (λ_ _=>rfl) rfl λs hs=>?_
 obtain ⟨i,o⟩:=s;obtain ⟨hp0,hp1,hp2,hp3,hp4⟩:=hs;dsimp only at hp0 hp1 hp2 hp3 hp4 ⊢;by_cases h1:i<(Fb x).length
 ·obtain ⟨d,hd⟩:=gxE (l:=(Fb x)) (i:=i) h1;have hd9:=Ng x d (Qa hd);refine go tt [.t (decide_eq_true (by omega))] rfl trivial ?_;refine lp (S:=Nat×Nat×List Nat) 1 (λL1 s=>(8,.v (.one (.int .i64 (s.1:Int))))::(7,.v (.one (.int .i64 (s.2.1:Int))))::L1) (λs=>[.row false 3 1 (M4 s.2.2)]) (λs=>((Fb y).length-s.1)*2+min s.2.1 1) (MulI x y i d) (0,0,o) ⟨hp1,hp2,by dsimp only; rw [hp3]; simp [H5],by show 0<10000; decide,.inl ⟨Nat.zero_le _,hp4⟩⟩ rfl (λ_ _=>rfl) rfl λs hs=>?_
  obtain ⟨k,c,o2⟩:=s;obtain ⟨hq0,hq1,hq2,hq3,hq4⟩:=hs;dsimp only at hq0 hq1 hq2 hq3 hq4 ⊢;have hol:(M4 o2).length=(Fb x).length+(Fb y).length:=by rw [Ho,hq0]
  by_cases h2:k<(Fb y).length
  ·obtain ⟨e,he⟩:=gxE (l:=(Fb y)) (i:=k) h2;have he9:=Ng y e (Qa he);have hde:d*e<=9999*9999:=Zx (by omega) (by omega);obtain ⟨v,hoi⟩:=gxE (l:=o2) (i:=i+k) (by omega);have hv9:=hq1 v (Qa hoi);refine go tt [.g 25 true (decide_eq_true (by omega)),.t rfl,.r 34 (eI (b:=((i+k:Nat):Int)) (by omega)),.i (i+k),.x (Fv hoi),.r 38 (eI (b:=((v+c:Nat):Int)) (by omega)),.t (decide_eq_true (by omega)),.x (Fv hd),.x (Fv he),.r 52 (eI (b:=((d*e:Nat):Int)) (by simp)),.r 53 (eI (b:=((v+c+d*e:Nat):Int)) (by omega)),.r 57 (eI (b:=((i+k:Nat):Int)) (by omega)),.r 59 (eI (b:=(((v+c+d*e) % 10000:Nat):Int)) (by rfl)),.i (i+k),.r 62 (eI (b:=(((v+c+d*e) / 10000:Nat):Int)) (by rfl))] rfl (by simp [Ui,hol,tdn,Qdm,-Int.natCast_add,-Int.natCast_mul]; omega) ?_;exact rd (k+1,(v+c+d*e) / 10000,o2.set (i+k) ((v+c+d*e) % 10000)) (by dsimp only; omega) ⟨by dsimp only; rw [List.length_set]; exact hq0,hq1.set (Nat.mod_lt _ (by decide)),by
    dsimp only;rw [<-Nat.add_assoc i k 1,Nat.pow_succ]; have:=Qkj hq2 (Q1v hoi (u:=((v+c)+(d*e)) % 10000)) (s:=d*e) (q:=((v+c)+(d*e)) / 10000) (by rw [Zn8]); rw [this,Rp he,Nat.pow_add]; grind,by dsimp only; omega,.inl ⟨by dsimp only; omega,λj w hj hw=>(by
     dsimp only at hw;rcases hq4 with ⟨_,h⟩ | ⟨_,_,h⟩ <;> (rw [Yk (by omega)] at hw; exact h j w (by omega) hw))⟩⟩ (by rw [Is]; rfl)
  ·by_cases h3:0<c
   ·have hk:k=(Fb y).length:=by omega
    have hz:∀ j v,i+(Fb y).length<=j->o2[j]? = some v->v=0:=by
     rcases hq4 with ⟨_,h⟩ | ⟨_,h,_⟩
     ·exact h
     ·omega
    obtain ⟨v,hoi⟩:=gxE (l:=o2) (i:=i+k) (by omega);have hv0:v=0:=hz (i+k) v (by omega) hoi;have hv9:=hq1 v (Qa hoi);refine go tt [.g 25 false (decide_eq_false (by omega)),.t (decide_eq_true (by omega)),.r 34 (eI (b:=((i+k:Nat):Int)) (by omega)),.i (i+k),.x (Fv hoi),.r 38 (eI (b:=((v+c:Nat):Int)) (by omega)),.f (decide_eq_false (by omega)),.r 57 (eI (b:=((i+k:Nat):Int)) (by omega)),.r 59 (eI (b:=(((v+c) % 10000:Nat):Int)) (by rfl)),.i (i+k),.r 62 (eI (b:=(((v+c) / 10000:Nat):Int)) (by rfl))] rfl (by simp [Ui,hol,tdn,Qdm,-Int.natCast_add]; omega) ?_;exact rd (k+1,(v+c) / 10000,o2.set (i+k) ((v+c) % 10000)) (by dsimp only; omega) ⟨by dsimp only; rw [List.length_set]; exact hq0,hq1.set (Nat.mod_lt _ (by decide)),by
     dsimp only;rw [<-Nat.add_assoc i k 1,Nat.pow_succ]; have:=Qkj hq2 (Q1v hoi (u:=(v+c) % 10000)) (s:=0) (q:=(v+c) / 10000) (by rw [Zn8]; rfl); rw [this,Nat.mul_zero,Nat.add_zero,Aj (by omega)],by dsimp only; omega,.inr ⟨by dsimp only; omega,by dsimp only; omega,λj w hj hw=>(by
      dsimp only at hw;rw [Yk (by omega)] at hw; exact hz j w (by omega) hw)⟩⟩ (by rw [Is]; rfl)
   ·refine go tt [.g 25 false (decide_eq_false (by omega)),.f (decide_eq_false (by omega))] rfl (by simp [Ui]; omega) ?_;exact rd (i+1,o2) (by dsimp only; omega) ⟨by dsimp only; omega,hq0,hq1,by
     dsimp only;rw [Rp hd,Js]; have h:=hq2; rw [show c=0 by omega,Qk (l:=Fb y) (i:=k) (by omega),Hi] at h; rw [Ye,Xy] at h; exact h,by
     dsimp only;rcases hq4 with ⟨_,h⟩ | ⟨_,_,h⟩
     ·exact λj w hj hw=>h j w (by omega) hw
     ·exact λj w hj hw=>h j w (by omega) hw⟩ rfl
 ·have hv:H5 o=x*y:=by rw [hp3,Qk (by omega),Hi]
  have cc:=Qf4 hp2;rw [hv] at cc;exact en tt [.f (decide_eq_false (by omega)),.c [] cc] rfl rfl trivial
theorem Q1j {x y:Nat}:Ot x y<=0↔x<=y:=by
 unfold Ot;constructor
 ·intro h; split at h
  ·omega
  ·split at h <;> omega
 ·intro h; split
  ·omega
  ·split <;> omega
theorem Q4y {R y lo:Nat} (h1:y*lo<=R) (h2:R<y*(lo+1)):R / y=lo/\R % y=R-y*lo:=by
 have hy:0<y:=by
  rcases Qz y with h | h
  ·subst h; simp at h2
  ·exact h
 have e:R / y=lo:=Nat.div_eq_of_lt_le (by rw [Zi]; exact h1) (by rw [Zi]; exact h2);refine ⟨e,?_⟩;have:=Xk R y;rw [e] at this; omega
theorem Zdc {R y:Nat} (h:R<y*10000):sz R<=sz y+14:=by
 refine M6.2 (Xo h ?_);have:=Qej y;rw [Xh];have e:(2:Nat)^14=16384:=by decide
 rw [e]; exact Zx (by omega) (by decide)
theorem Q56 (y:Nat):sz (y*10000)<=sz y+14:=by
 refine M6.2 ?_;have:=Qej y;rw [Xh];have e:(2:Nat)^14=16384:=by decide
 rw [e]; omega
theorem Q7b {x y:Nat} (hx:sz x<=90000000) (hy:sz y<=90000000) (hy0:0<y):Uk Tryz.prog 154 [.one (nd x),.one (nd y)] [.one (nd (x / y)),.one (nd (x % y))]:=by
 have hxl:=Qc (Po x) hx;have hyl:=Qc (Po y) hy;have lx:=Qcy x;show Uk Tryz.prog 154 [.one (.row (M4 (Fb x))),.one (nd y)] _;refine Gm Tryz.func154 rfl ?_;refine go tt [.i (M4 (Fb x)).length,.i (M4 (Fb x)).length,.z 7,.r 17 (eI (b:=((Fb x).length:Int)-1) (by rw [lx]))] rfl (by simp [Ui]; omega) ?_;rw [lx,show List.replicate (Fb x).length [LV.int .i64 0]=M4 (List.replicate (Fb x).length 0) from by simp [M4]];refine lp (S:=Nat×List Nat×List Nat) 1 (λL1 s=>(8,.v (.one (.int .i64 ((s.1:Int)-1))))::(7,.v (.one (.row (M4 s.2.1))))::L1) (λs=>[.row false 3 1 (M4 s.2.2)]) (λs=>s.1) (λs=>s.1<=(Fb x).length/\s.2.2.length=(Fb x).length/\Dg s.2.2/\H5 (s.2.2.drop s.1)=H5 ((Fb x).drop s.1) / y/\s.2.1=Fb (H5 ((Fb x).drop s.1) % y)) ((Fb x).length,[],List.replicate (Fb x).length 0) ⟨Nat.le_refl _,List.length_replicate ..,Dg.zeros _,by dsimp only; rw [List.drop_eq_nil_of_le (by simp),List.drop_eq_nil_of_le (Nat.le_refl _)]; simp [H5],by dsimp only; rw [List.drop_eq_nil_of_le (Nat.le_refl _)]; simp [H5,Gl]⟩ rfl (λ_ _=>rfl) rfl λs hs=>?_
 obtain ⟨j,R,o⟩:=s;obtain ⟨hp0,hp1,hp2,hp3,hp4⟩:=hs;dsimp only at hp0 hp1 hp2 hp3 hp4 ⊢;cases j with
 |
  zero =>
  have cc:=Qf4 hp2;rw [Xs,Xs,Hi] at hp3;rw [Xs,Hi] at hp4;rw [hp3] at cc;exact en tt [.f (by simp),.c [] cc] rfl (by rw [hp4]; rfl) trivial
 |
  succ j =>
  obtain ⟨d,hd⟩:=gxE (l:=(Fb x)) (i:=j) (by omega);have hd9:=Ng x d (Qa hd);have hdd:=Qaa hd;obtain ⟨hq1,hq2,hq3⟩:=Qtw (V:=H5 ((Fb x).drop (j+1))) (kd:=y) (d:=d) hy0;rw [<-hdd] at hq1 hq2;have hq3:=hq3 hd9;obtain ⟨rr,hrr0⟩:=nmE (H5 ((Fb x).drop (j+1)) % y);have hrr:rr<y:=by rw [hrr0]; exact Xf _ hy0
  rw [<-hrr0] at hp4 hq1 hq2 hq3;subst hp4;have hrl:(Fb rr).length<=(Fb y).length:=O7 (by omega);have hR:rr*10000+d<y*10000:=by omega
  have hRs:=Zdc hR;have hdv:Dg (d::Fb rr):=λz hz=>by
   rcases Qp.1 hz with rfl | hz
   ·exact hd9
   ·exact Ng rr z hz
  have cc:=Qf4 hdv;rw [show H5 (d::Fb rr)=rr*10000+d from by simp only [H5]; rw [Hi]; omega] at cc;have hol:(M4 o).length=(Fb x).length:=by rw [Ho,hp1]
  have hrrl:=Ho (Fb rr);have ej:((j+1:Nat):Int)-1=(j:Int):=by omega
  rw [ej];refine go tt [.t (decide_eq_true (by omega)),.x (Fv hd),.lo,.s (sz:=1) (Zla (Fb rr)),.c [] cc] rfl (by simp [Ui,Qcy]; omega) ?_;refine lp (S:=Nat×Nat) 2 (λL1 s=>(9,.v (.one (.int .i64 (s.1:Int))))::(10,.v (.one (.int .i64 (s.2:Int))))::L1) (λ_=>[.row false 3 1 (M4 o),.gone]) (λs=>s.2-s.1) (λs=>s.1<=s.2/\s.2<=9999/\y*s.1<=rr*10000+d/\rr*10000+d<y*(s.2+1)) (0,9999) ⟨by decide,by decide,by dsimp only; omega,by dsimp only; omega⟩ rfl (λ_ _=>rfl) rfl λs hs=>?_
  obtain ⟨lo,hi⟩:=s;obtain ⟨hb0,hb1,hb2,hb3⟩:=hs;dsimp only at hb0 hb1 hb2 hb3 ⊢;by_cases h2:lo<hi
  ·obtain ⟨m,hm⟩:=nmE ((lo+hi+1) / 2);have hym:y*m<=y*10000:=Zj y (by omega);have c1:=Qdz (x:=y) (mu:=m) (c0:=0) (by omega) (by omega) (by omega);have c2:=Qw9 (x:=y*m+0) (y:=rr*10000+d) (Qc (Hy (show _<=y*10000 by omega)) (Qc (Q56 y) (by omega))) (by omega);by_cases h3:y*m+0<=rr*10000+d
   ·refine go tt [.t (decide_eq_true (by omega)),.r 35 (eI (b:=((lo+hi:Nat):Int)) (by omega)),.r 36 (eI (b:=((lo+hi+1:Nat):Int)) (by omega)),.r 37 (eI (b:=(m:Int)) (by rw [hm]; rfl)),.c [] c1,.c [] c2,.t (decide_eq_true (Q1j.2 h3))] rfl (by simp [Ui,Qdm,-Int.natCast_add]; omega) ?_;exact rd (m,hi) (by dsimp only; omega) ⟨by dsimp only; omega,hb1,by dsimp only; omega,hb3⟩ rfl
   ·refine go tt [.t (decide_eq_true (by omega)),.r 35 (eI (b:=((lo+hi:Nat):Int)) (by omega)),.r 36 (eI (b:=((lo+hi+1:Nat):Int)) (by omega)),.r 37 (eI (b:=(m:Int)) (by rw [hm]; rfl)),.c [] c1,.c [] c2,.f (decide_eq_false λh=>h3 (Q1j.1 h)),.r 46 (eI (b:=((m-1:Nat):Int)) (by omega))] rfl (by simp [Ui,Qdm,-Int.natCast_add]; omega) ?_;exact rd (lo,m-1) (by dsimp only; omega) ⟨by dsimp only; omega,by dsimp only; omega,hb2,by dsimp only; rw [show m-1+1=m by omega]; omega⟩ rfl
  ·have hlh:lo=hi:=by omega
   have hfd:=Q4y hb2 (by rw [hlh]; exact hb3);have c1:=Qdz (x:=y) (mu:=lo) (c0:=0) (by omega) (by omega) (by omega);have c2:=Qxj (x:=rr*10000+d) (y:=y*lo+0) (by omega) (Qc (Hy (show _<=rr*10000+d by omega)) (by omega)) (by omega);rw [show rr*10000+d-(y*lo+0)=H5 ((Fb x).drop j) % y from by rw [hq2,hfd.2]; omega] at c2;refine go tt [.f (decide_eq_false (by omega)),.i j,.c [] c1,.c [] c2] rfl (by simp [Ui,hol,tdn,Qdm,-Int.natCast_add]; omega) ?_;exact rd (j,Fb (H5 ((Fb x).drop j) % y),o.set j lo) (by dsimp only; omega) ⟨by dsimp only; omega,by dsimp only; rw [List.length_set]; exact hp1,hp2.set (by omega),by
    dsimp only;rw [Qf7 (by omega)]; simp only [H5]; rw [hp3,hq1,hfd.1],rfl⟩ (by rw [Is]; rfl)
end Orr
namespace Orr
def Bd (s:Nat) (p:List Int):Prop:=∀ z∈p,Uv z≤s
theorem P8:Uv 0=0:=rfl
theorem Q63 {s:Nat} {p:List Int} (h:Bd s p) {i:Nat} {z:Int} (hz:p[i]? = some z):Uv z<=s:=h z (Qa hz)
theorem Uw {s:Nat} {p:List Int} (h:Bd s p) (k:Nat):Uv (p.getD k 0)<=s:=by
 rw [Qg];cases hk:p[k]? with
 | none=>rw [Kv,P8]; exact Qh _
 | some z=>exact Q63 h hk
theorem Uj {s t:Nat} {p:List Int} (h:Bd s p) (ht:s<=t):Bd t p:=λz hz=>Qc (h z hz) ht
theorem O2 {s:Nat}:Bd s []:=λz hz=>by cases hz
theorem Zkf {s:Nat} {n:Nat} {g:Nat->Int} (h:∀ k,k<n->Uv (g k)<=s):Bd s ((List.range n).map g):=λz hz=>by
 obtain ⟨k,hk,rfl⟩:=Za.1 hz;exact h k (Kk.1 hk)
theorem Qwf:∀ (l:List Int),∀ z∈trim l,z∈l
 | [],z,h=>by cases h
 |
  x::l,z,h=>by
  have ih:=Qwf l;cases hl:trim l with
  |
   nil =>
   simp only [trim,hl] at h
   split at h
   ·cases h
   ·rw [Ql] at h; rw [h]; exact Qr ..
  |
   cons y k =>
   simp only [trim,hl] at h;rcases Qp.1 h with rfl | h
   ·exact Qr ..
   ·exact Qj _ (ih z (by rw [hl]; exact h))
theorem He (l:List Int):(trim l).length<=l.length:=by
 induction l with
 | nil=>exact Qm _
 |
  cons x l ih =>
  cases hl:trim l with
  | nil=>simp only [trim,hl]; split <;> simp
  | cons y k=>simp only [trim,hl]; rw [hl] at ih; simp at ih ⊢; exact ih
theorem Ru {s:Nat} {p:List Int} (h:Bd s p):Bd s (trim p):=λz hz=>h z (Qwf p z hz)
theorem A8:∀ (l:List Int) (k:Nat),(trim l).getD k 0=l.getD k 0
 | [],k=>rfl
 |
  x::l,k=>by
  have ih:=A8 l;cases hl:trim l with
  |
   nil =>
   rw [hl] at ih;simp only [trim,hl]
   split
   ·rename_i hx;cases k with
    | zero=>simp [hx]
    | succ k=>have:=ih k; simp at this ⊢; exact this
   ·cases k with
    | zero=>simp
    | succ k=>have:=ih k; simp at this ⊢; exact this
  |
   cons y m =>
   rw [hl] at ih;simp only [trim,hl];cases k with
   | zero=>simp
   | succ k=>have:=ih k; simp at this ⊢; exact this
def Pp (n:Nat) (g:Nat->Int):List Int:=trim ((List.range n).map g)
theorem U3 (n:Nat) (g:Nat->Int):Uo (Pp n g):=Ha _
theorem Ld (n:Nat) (g:Nat->Int):(Pp n g).length<=n:=Qc (He _) (by simp)
theorem Ry (n:Nat) (g:Nat->Int) (k:Nat):(Pp n g).getD k 0=if k<n then g k else 0:=by
 unfold Pp;rw [A8,Qg,Q9]
 split
 ·rename_i h; rw [List.getElem?_range h]; rfl
 ·rename_i h; rw [List.getElem?_eq_none (by simpa using h)]; rfl
theorem Ie {s n:Nat} {g:Nat->Int} (h:∀ k,k<n->Uv (g k)<=s):Bd s (Pp n g):=Ru (Zkf h)
def L9 (p q:List Int):List Int:=Pp (max p.length q.length) λk=>p.getD k 0+q.getD k 0
def Tx (p q:List Int):List Int:=Pp (max p.length q.length) λk=>p.getD k 0-q.getD k 0
def Se (p:List Int):List Int:=Pp p.length λk=>-(p.getD k 0)
def Ff (p:List Int) (c:Int):List Int:=Pp p.length λk=>p.getD k 0*c
def Fe (p:List Int):List Int:=Pp (p.length-1) λk=>p.getD (k+1) 0*((k+1:Nat):Int)
theorem Qdt {s t:Nat} {p q:List Int} (h:Bd s p) (h':Bd t q):Bd (max s t+1) (L9 p q):=Ie λk _=>Qc (I3 _ _) (by have:=Uw h k; have:=Uw h' k; omega)
theorem Qpu {s t:Nat} {p q:List Int} (h:Bd s p) (h':Bd t q):Bd (max s t+1) (Tx p q):=Ie λk _=>Qc (Qi2 _ _) (by have:=Uw h k; have:=Uw h' k; omega)
theorem If {s:Nat} {p:List Int} (h:Bd s p):Bd s (Se p):=Ie λk _=>by rw [Gg]; exact Uw h k
theorem Bq {s t:Nat} {p:List Int} {c:Int} (h:Bd s p) (hc:Uv c<=t):Bd (s+t) (Ff p c):=Ie λk _=>Qc (U6 _ _) (by have:=Uw h k; omega)
theorem Qah (p q:List Int):(L9 p q).length<=max p.length q.length:=Ld _ _
theorem Qeg (p q:List Int):(Tx p q).length<=max p.length q.length:=Ld _ _
theorem Nj (p:List Int):(Se p).length<=p.length:=Ld _ _
theorem Mq (p:List Int) (c:Int):(Ff p c).length<=p.length:=Ld _ _
theorem Tr (p:List Int):(Fe p).length<=p.length-1:=Ld _ _
theorem Qqz {k t:Nat} (h:k<2^t):Uv (k:Int)<=t:=by rw [Rr]; simpa using h
theorem Q5a {k:Nat} (h:k<274877906944):Uv (k:Int)<=4294967295:=Qc (Qqz (t:=38) (Ki h (by decide))) (by omega)
theorem Qip {s t:Nat} {p:List Int} (h:Bd s p) (hl:p.length<=2^t):Bd (s+t) (Fe p):=Ie λk hk=>Qc (U6 _ _) (by
 have:=Uw h (k+1);have:=Qqz (k:=k+1) (t:=t) (by omega);omega)
def Ar (x:Int) (b:List Int) (i:Nat) (o:List Int):Nat->List Int
 | 0=>o
 | k+1=>(Ar x b i o k).set (i+k) ((Ar x b i o k).getD (i+k) 0+x*b.getD k 0)
def Cx (a b o:List Int):Nat->List Int
 | 0=>o
 | i+1=>Ar (a.getD i 0) b i (Cx a b o i) b.length
def U5 (a b:List Int):List Int:=if a.length=0\/b.length=0 then [] else trim (Cx a b (List.replicate (a.length+b.length-1) 0) a.length)
theorem As (x:Int) (b:List Int) (i:Nat) (o:List Int) (k:Nat):(Ar x b i o k).length=o.length:=by
 induction k with
 | zero=>rfl
 | succ k ih=>simp [Ar,ih]
theorem Cn (a b o:List Int) (i:Nat):(Cx a b o i).length=o.length:=by
 induction i with
 | zero=>rfl
 | succ i ih=>simp [Cx,As,ih]
theorem Zac (l:List Int) (i m:Nat) (v:Int) (h:i<l.length):(l.set i v).getD m 0=if m=i then v else l.getD m 0:=by
 rw [Qg,J6,Qg];by_cases e:i=m
 ·subst e; simp [h]
 ·rw [if_neg e,if_neg (λh=>e h.symm)]
theorem Qok (x:Int) (b:List Int) (i:Nat) (o:List Int) (k m:Nat) (h:i+k<=o.length):(Ar x b i o k).getD m 0=if i<=m/\m<i+k then o.getD m 0+x*b.getD (m-i) 0 else o.getD m 0:=by
 induction k with
 | zero=>simp only [Ar]; rw [if_neg (by omega)]
 |
  succ k ih =>
  have ih:=ih (by omega);simp only [Ar];rw [Zac _ _ _ _ (by rw [As]; omega)];by_cases e:m=i+k
  ·subst e;rw [if_pos rfl,if_pos (by omega),show i+k-i=k from by omega];rw [ih,if_neg (by omega)]
  ·rw [if_neg e,ih];by_cases h1:i<=m/\m<i+k
   ·rw [if_pos h1,if_pos (by omega)]
   ·rw [if_neg h1,if_neg (by omega)]
theorem P9 {x y:Int} {s t:Nat} (hx:Uv x<=s) (hy:Uv y<=t):(x*y).natAbs<=2^(s+t):=by
 have h:=Qc (U6 x y) (show _<=s+t by omega);rw [Rr] at h; omega
theorem Qrc {x:Int} {b:List Int} {i:Nat} {o:List Int} {k M:Nat} (h:i+k<=o.length) (ho:∀ m,(o.getD m 0).natAbs<=i*M) (hx:∀ j,(x*b.getD j 0).natAbs<=M) (m:Nat):((Ar x b i o k).getD m 0).natAbs<=(i+1)*M:=by
 rw [Qok x b i o k m h,Xc];have h1:=ho m
 split
 ·have h2:=hx (m-i);generalize i*M=q at *;omega
 ·omega
theorem Qrb {a b o:List Int} {i M:Nat} (h:∀ j,j<i->j+b.length<=o.length) (ho:∀ m,o.getD m 0=0) (hx:∀ i j,(a.getD i 0*b.getD j 0).natAbs<=M) (m:Nat):((Cx a b o i).getD m 0).natAbs<=i*M:=by
 induction i generalizing m with
 | zero=>simp only [Cx]; rw [ho]; simp
 |
  succ i ih =>
  simp only [Cx];exact Qrc (by rw [Cn]; exact h i (by omega)) (ih λj hj=>h j (by omega)) (hx i) m
theorem E5 {z:Int} {i s t:Nat} (h:z.natAbs<=i*2^s) (hi:i<2^t):Uv z<=s+t:=by
 rw [Rr];have h1:i*2^s<2^t*2^s:=Xz hi (Zy (by decide));rw [<-Xh,Yc t s] at h1;omega
theorem Rq (n m:Nat):(List.replicate n (0:Int)).getD m 0=0:=by
 rw [Qg,J4]; split <;> rfl
theorem Qjq {s:Nat} {p:List Int} (h:∀ m,Uv (p.getD m 0)<=s):Bd s p:=λz hz=>by
 obtain ⟨i,hi⟩:=Zh.1 hz;have:=h i;rw [Qg,hi] at this;exact this
theorem H8 (a b:List Int):(U5 a b).length<=a.length+b.length-1:=by
 unfold U5
 split
 ·simp
 ·refine Qc (He _) ?_;rw [Cn]; simp
theorem To {s t u:Nat} {a b:List Int} (ha:Bd s a) (hb:Bd t b) (hl:a.length<2^u):Bd (s+t+u) (U5 a b):=by
 unfold U5
 split
 ·exact O2
 ·refine Ru (Qjq λm=>?_);exact E5 (Qrb (M:=2^(s+t)) (λj hj=>by simp; omega) (Rq _) (λi j=>P9 (Uw ha i) (Uw hb j)) m) hl
theorem Gu (a b:List Int):Uo (U5 a b):=by
 unfold U5
 split
 ·rfl
 ·exact Ha _
def Pj (a:List Int) (n d:Int):Nat->Int×Int
 | 0=>(0,1)
 | k+1=>((Pj a n d k).1*n+a.getD (a.length-1-k) 0*(Pj a n d k).2,(Pj a n d k).2*d)
def Zhp (a:List Int) (n d:Int):Int:=(Pj a n d a.length).1
theorem Qsm {a:List Int} {n d:Int} {s t k:Nat} (ha:Bd s a) (hn:Uv n<=t) (hd:Uv d<=t):Uv (Pj a n d k).1<=s+2+k*(t+1)/\Uv (Pj a n d k).2<=1+k*t:=by
 induction k with
 | zero=>exact ⟨by simp [Pj,P8],by simp [Pj]; decide⟩
 |
  succ k ih =>
  obtain ⟨h1,h2⟩:=ih;have h3:=Uw ha (a.length-1-k);have e1:k*(t+1)=k*t+k:=by rw [Xu,Yy]
  rw [Xc,Xc];refine ⟨?_,?_⟩
  ·simp only [Pj];refine Qc (I3 _ _) ?_;have h4:=U6 (Pj a n d k).1 n;have h5:=U6 (a.getD (a.length-1-k) 0) (Pj a n d k).2;generalize k*t=q at *;rw [e1] at h1 ⊢;omega
  ·simp only [Pj];have h4:=U6 (Pj a n d k).2 d;generalize k*t=q at *;omega
end Orr
namespace Orr
theorem Qgi {l:List Int} {i:Nat} (h:i<l.length):l[i]? = some (l.getD i 0):=by
 rw [Qg,Qe h]; rfl
theorem Qqb {x y:Int}:Na x y=0↔x=y:=by
 unfold Na;constructor
 ·intro h
  split at h
  ·omega
  ·split at h <;> omega
 ·rintro rfl; simp
theorem Gv {p:List Int} (h:Uo p) (h0:0<p.length):p.getD (p.length-1) 0≠0:=by
 induction p with
 | nil=>simp at h0
 |
  cons x l ih =>
  unfold Uo at h;cases hl:trim l with
  |
   nil =>
   simp only [trim,hl] at h
   split at h
   ·cases h
   ·rename_i hx;injection h with h1 h2;subst h2;simpa using hx
  |
   cons y k =>
   simp only [trim,hl] at h;injection h with h1 h2;rw [<-hl] at h2;have ih:=ih h2 (by rw [<-h2,hl]; simp);have h3:0<l.length:=by rw [<-h2,hl]; simp
   simp only [Q6,Yh];obtain ⟨m,hm⟩:∃ m,l.length=m+1:=⟨l.length-1,by omega⟩;rw [hm] at ih ⊢;simpa using ih
end Orr
namespace Orr
theorem Qle (p:List Int):(List.range p.length).map (λk=>p.getD k 0)=p:=by
 apply Xt;intro i;rw [Q9];rcases Zb i p.length with h | h
 ·rw [X3 h];simp [Qe h]
 ·rw [Qt (by simpa using h),Qt h]; rfl
theorem Qkr {p q:List Int} (hl:p.length=q.length) (h:∀ j,j<p.length->p.getD j 0=q.getD j 0):p=q:=by
 rw [<-Qle p,<-Qle q,<-hl];exact Ju λj hj=>h j (Kk.1 hj)
end Orr
namespace Orr
abbrev rl (q:Rat):List LV:=[sg q.num,mg q.num,sg (q.den:Int),mg (q.den:Int)]
theorem Nh (n d:Int):Gz [n,d]=Int.gcd d n:=by
 unfold Gz;simp only [Xe,List.foldl_nil,Nat.gcd_zero_left];exact Wc _ _
theorem Qt7 {n d:Int} (hd:d≠0):(0:Int)<((Gz [n,d]:Nat):Int):=by
 rw [Nh];have:=Int.gcd_pos_of_ne_zero_left n hd;omega
theorem Qk2 (n d:Int):n % ((Gz [n,d]:Nat):Int)=0:=by
 rw [Nh]; exact J1 (Vo ..)
theorem Qk3 (n d:Int):d % ((Gz [n,d]:Nat):Int)=0:=by
 rw [Nh]; exact J1 (Wz ..)
theorem Q2u {n g:Int} (h:n % g=0):-n % g=0:=by
 exact J1 (Int.dvd_neg.2 (Yp h))
theorem Q2c {n d:Int} {s:Nat} (hd:d≠0) (h:Uv d<=s):Uv ((Gz [n,d]:Nat):Int)<=s:=by
 rw [Nh];refine Qc (Hy ?_) h;have:=V6 (by omega:0<d.natAbs) (show Int.gcd d n∣d.natAbs from Kt _ _);simpa using this
theorem Qq7 {n d:Int} (hd:0<d):n / ((Gz [n,d]:Nat):Int)=(Rat.divInt n d).num/\d / ((Gz [n,d]:Nat):Int)=((Rat.divInt n d).den:Int):=by
 rw [Nh,Rat.num_divInt,Wj,if_neg (by omega),Jf hd,Yw];refine ⟨rfl,?_⟩;rw [Int.natCast_ediv,Int.natAbs_of_nonneg (by omega)]
theorem Zgw {n d:Int} (hd:d<0):-n / ((Gz [n,d]:Nat):Int)=(Rat.divInt n d).num/\-d / ((Gz [n,d]:Nat):Int)=((Rat.divInt n d).den:Int):=by
 rw [Nh,Rat.num_divInt,Wj,if_neg (by omega),X4 hd,Vj,Yw];refine ⟨rfl,?_⟩;rw [Int.natCast_ediv,Int.ofNat_natAbs_of_nonpos (by omega)]
theorem Qaf (u g:Int):Uv (u / g)<=Uv u:=by
 unfold Uv;exact Hy (Int.natAbs_ediv_le_natAbs u g)
theorem Qk9 {n d:Int} {s:Nat} (h:Uv n<=s):Uv (Rat.divInt n d).num<=s:=by
 rw [Rat.num_divInt];refine Qc (Qaf _ _) ?_;unfold Uv;rw [J0];refine Qc (Hy ?_) h;have:d.sign.natAbs<=1:=by rcases Lx d with ⟨_,e⟩ | ⟨_,e⟩ | ⟨_,e⟩ <;> rw [e] <;> decide
 calc d.sign.natAbs*n.natAbs<=1*n.natAbs:=Qy _ this
  _=n.natAbs:=Ug _
theorem Qk8 {n d:Int} {s:Nat} (h:Uv d<=s) (h1:1<=s):Uv ((Rat.divInt n d).den:Int)<=s:=by
 rw [Wj]
 split
 ·exact h1
 ·refine Qc (Hy ?_) h;exact J8 _ _
def Qs (s:Nat) (q:Rat):Prop:=Uv q.num<=s/\Uv (q.den:Int)<=s
theorem Qs.mono {s t:Nat} {q:Rat} (h:Qs s q) (ht:s<=t):Qs t q:=⟨Qc h.1 ht,Qc h.2 ht⟩
theorem Qs.divInt {s:Nat} {n d:Int} (h:Uv n<=s) (h':Uv d<=s) (h1:1<=s):Qs s (Rat.divInt n d):=⟨Qk9 h,Qk8 h' h1⟩
theorem Mm (q:Rat):(q.den:Int)≠0:=by have:=q.den_nz; omega
theorem den_pos (q:Rat):(0:Int)<(q.den:Int):=by have:=q.den_nz; omega
def Gb (n d:Int):Rat:=Rat.divInt n (if d=0 then 1 else d)
theorem I9 (q:Rat):Gb q.num q.den=q:=by
 unfold Gb;rw [if_neg (Mm q)]; exact Zs q
def Fi (a b:Rat):Int:=Na (a.num*(b.den:Int)) (b.num*(a.den:Int))
theorem B8 {a b:Rat}:Fi a b<0↔a<b:=by
 rw [Rat.lt_iff]; unfold Fi Na;constructor
 ·intro h; split at h
  ·assumption
  ·split at h <;> omega
 ·intro h; rw [if_pos h]; decide
theorem Pn {a b:Rat}:0<Fi a b↔b<a:=by
 rw [Rat.lt_iff]; unfold Fi Na;constructor
 ·intro h; split at h
  ·omega
  ·split at h
   ·assumption
   ·omega
 ·intro h; rw [if_neg (by omega),if_pos h]; decide
theorem Bt (a:Rat):Fi a a=0:=by unfold Fi Na; simp
end Orr
namespace Orr
open Go Go.Proofs
set_option maxRecDepth 10000
abbrev fr (q:Rat):List LV:=ri q.num++ri (q.den:Int)
theorem Ek:Fb 1=[1]:=by rw [Iq (by decide)]; rw [Gl]
theorem P6 {n:Int}:Uk Tryz.prog 48 [.agg (ri n),.agg (ri 1)] [.agg (fr (n:Rat))]:=by
 have h0:(M4 (Fb (1:Int).natAbs))[0]? = some [LV.int .i64 1]:=by rw [show (1:Int).natAbs=1 from rfl,Ek]; rfl
 have h1:decide (((M4 (Fb (1:Int).natAbs)).length:Int)=1)=true:=by rw [show (1:Int).natAbs=1 from rfl,Ek]; rfl
 exact w tt Tryz.func48 rfl [.c [] (Mg (z:=1)),.f rfl,.f rfl,.g 19 true h1,.x h0,.t rfl] rfl rfl trivial
theorem Qj0 {n:Int} (hn:-4000000000000000000<=n/\n<=4000000000000000000):Uk Tryz.prog 17 [.one (.int .i64 n),.one (.int .i64 1)] [.agg (fr (n:Rat))] :=
 w tt Tryz.func17 rfl [.c [] (C7 hn),.c [] (C7 (n:=1) (by decide)),.c [] P6] rfl rfl trivial
theorem Q71 {q:Rat} (hq:Qs 100000000 q):Uk Tryz.prog 19 [.agg (fr q)] [.agg (rl q)] :=
 w tt Tryz.func19 rfl [.c [] (Q70 hq.1),.c [] (Q70 hq.2)] rfl rfl trivial
end Orr
