/- Ntt L1 L2 L3 L4 L5 M1 P2 M2 DigL R1 R3 PolyL RatL R2 -/
import Derived.Test.YtpnhifedfcgjbaaGreatPart02
import Derived.Laws.StructEq
import Derived.Test.YtpnhifedfcgjbaaGreatProg
import Derived.Test.YtpnhifedfcgjbaaGreatPart00
import Derived.Test.YtpnhifedfcgjbaaGreatPart03
set_option linter.all false
namespace Orr
open Go Go.Proofs
theorem Qzp (d:Nat) (x y:Int) (w:World):(Op.equalIn (d+1) 3 (.int .i64 x) (.int .i64 y)).run Tryz.prog w=.ok (decide (x=y)) w:=by
 simp [Op.equalIn,Tryz.runUnderlying3];rfl
def ti3:TI Tryz.prog:=tiO 3 Tryz.isAgg3 Tryz.sizeOf3 Tryz.underlying3 Tryz.zeroValue3 Tryz.typeInfo3 8 rfl
def ti4:TI Tryz.prog:=tiO 4 Tryz.isAgg4 Tryz.sizeOf4 Tryz.underlying4 Tryz.zeroValue4 Tryz.typeInfo4 1 rfl
def ti5:TI Tryz.prog:=tiO 5 Tryz.isAgg5 Tryz.sizeOf5 Tryz.underlying5 Tryz.zeroValue5 Tryz.typeInfo5 1 rfl
def ti9:TI Tryz.prog:=tiO 9 Tryz.isAgg9 Tryz.sizeOf9 Tryz.underlying9 Tryz.zeroValue9 Tryz.typeInfo9 16 rfl
def Zon:TI Tryz.prog:=tiO 22 Tryz.isAgg22 Tryz.sizeOf22 Tryz.underlying22 Tryz.zeroValue22 Tryz.typeInfo22 24 rfl
def Zoo:TI Tryz.prog:=tiO 23 Tryz.isAgg23 Tryz.sizeOf23 Tryz.underlying23 Tryz.zeroValue23 Tryz.typeInfo23 8 rfl
def Zop:TI Tryz.prog:=tiO 28 Tryz.isAgg28 Tryz.sizeOf28 Tryz.underlying28 Tryz.zeroValue28 Tryz.typeInfo28 24 rfl
def Zoq:TI Tryz.prog:=tiO 29 Tryz.isAgg29 Tryz.sizeOf29 Tryz.underlying29 Tryz.zeroValue29 Tryz.typeInfo29 24 rfl
def Zor:TI Tryz.prog:=tiO 30 Tryz.isAgg30 Tryz.sizeOf30 Tryz.underlying30 Tryz.zeroValue30 Tryz.typeInfo30 24 rfl
def Zos:TI Tryz.prog:=tiO 31 Tryz.isAgg31 Tryz.sizeOf31 Tryz.underlying31 Tryz.zeroValue31 Tryz.typeInfo31 24 rfl
def Zot:TI Tryz.prog:=tiS (ks:=[1,1]) (ag:=[false,false]) 33 Tryz.isAgg33 Tryz.sizeOf33 Tryz.underlying33 Tryz.zeroValue33 Tryz.typeInfo33 32 rfl ⟨Tryz.sizeOf31,Tryz.sizeOf4,trivial⟩ ⟨Tryz.isAgg31,Tryz.isAgg4,trivial⟩ rfl
def Zou:TI Tryz.prog:=tiS (ks:=[2,2]) (ag:=[true,true]) 35 Tryz.isAgg35 Tryz.sizeOf35 Tryz.underlying35 Tryz.zeroValue35 Tryz.typeInfo35 64 rfl ⟨Tryz.sizeOf33,Tryz.sizeOf33,trivial⟩ ⟨Tryz.isAgg33,Tryz.isAgg33,trivial⟩ rfl
def Zov:TI Tryz.prog:=tiS (ks:=[1,1,4,4]) (ag:=[false,false,true,true]) 37 Tryz.isAgg37 Tryz.sizeOf37 Tryz.underlying37 Tryz.zeroValue37 Tryz.typeInfo37 176 rfl ⟨Tryz.sizeOf28,Tryz.sizeOf29,Tryz.sizeOf35,Tryz.sizeOf35,trivial⟩ ⟨Tryz.isAgg28,Tryz.isAgg29,Tryz.isAgg35,Tryz.isAgg35,trivial⟩ rfl
def Zow:TI Tryz.prog:=tiO 39 Tryz.isAgg39 Tryz.sizeOf39 Tryz.underlying39 Tryz.zeroValue39 Tryz.typeInfo39 24 rfl
def Zox:TI Tryz.prog:=tiO 40 Tryz.isAgg40 Tryz.sizeOf40 Tryz.underlying40 Tryz.zeroValue40 Tryz.typeInfo40 24 rfl
def Zoy:TI Tryz.prog:=tiO 41 Tryz.isAgg41 Tryz.sizeOf41 Tryz.underlying41 Tryz.zeroValue41 Tryz.typeInfo41 24 rfl
def Zoz:TI Tryz.prog:=tiS (ks:=[10,1,1,1]) (ag:=[true,false,false,false]) 43 Tryz.isAgg43 Tryz.sizeOf43 Tryz.underlying43 Tryz.zeroValue43 Tryz.typeInfo43 232 rfl ⟨Tryz.sizeOf37,Tryz.sizeOf40,Tryz.sizeOf3,Tryz.sizeOf41,trivial⟩ ⟨Tryz.isAgg37,Tryz.isAgg40,Tryz.isAgg3,Tryz.isAgg41,trivial⟩ rfl
def Zo0:TI Tryz.prog:=tiS (ks:=[1,4,13]) (ag:=[false,true,true]) 45 Tryz.isAgg45 Tryz.sizeOf45 Tryz.underlying45 Tryz.zeroValue45 Tryz.typeInfo45 320 rfl ⟨Tryz.sizeOf39,Tryz.sizeOf35,Tryz.sizeOf43,trivial⟩ ⟨Tryz.isAgg39,Tryz.isAgg35,Tryz.isAgg43,trivial⟩ rfl
def Zo1:TI Tryz.prog:=tiO 47 Tryz.isAgg47 Tryz.sizeOf47 Tryz.underlying47 Tryz.zeroValue47 Tryz.typeInfo47 24 rfl
set_option maxRecDepth 20000 in
theorem Zde (d:Nat) (x0 x1 x2 y0 y1 y2:Int) (w:World):(Op.equalIn (d+1+1) 50 (.agg #[.int .i64 x0,.int .i64 x1,.int .i64 x2]) (.agg #[.int .i64 y0,.int .i64 y1,.int .i64 y2])).run Tryz.prog w=.ok (decide ([x0,x1,x2]=[y0,y1,y2])) w:=by
 rw [run_equalIn_array w (d+1) _ _ (n:=3) (e:=3) rfl rfl];rw [show List.range 3=[0,1,2] from rfl,show Tryz.prog.cellsOf 3=1 from rfl];simp [Op.eqItems,Go.part,Tryz.isAgg3,Qzp];by_cases h0:x0=y0 <;> by_cases h1:x1=y1 <;> by_cases h2:x2=y2 <;> simp [h0,h1,h2]
theorem Qv7 (a b:List Int) (ha:a.length=3) (hb:b.length=3) (w:World):(Op.equal 50 (.agg (a.map (Value.int .i64)).toArray) (.agg (b.map (Value.int .i64)).toArray)).run Tryz.prog w=.ok (decide (a=b)) w:=by
 match a,ha,b,hb with
 | [x0,x1,x2],_,[y0,y1,y2],_=>exact Zde 9998 x0 x1 x2 y0 y1 y2 w
def Zo2:TI Tryz.prog:={ tiA 50 Tryz.isAgg50 Tryz.sizeOf50 Tryz.underlying50 Tryz.zeroValue50 Tryz.typeInfo50 24 rfl Tryz.sizeOf3 with eqn:=some 3,heq:=λk h=>by injection h with h; subst h; exact ⟨Tryz.eqGuardType50,Qv7⟩ }
def Zo3:TI Tryz.prog:=tiO 51 Tryz.isAgg51 Tryz.sizeOf51 Tryz.underlying51 Tryz.zeroValue51 Tryz.typeInfo51 24 rfl
def Zo4:TI Tryz.prog:=tiO 52 Tryz.isAgg52 Tryz.sizeOf52 Tryz.underlying52 Tryz.zeroValue52 Tryz.typeInfo52 24 rfl
def Zo5:TI Tryz.prog:=tiO 53 Tryz.isAgg53 Tryz.sizeOf53 Tryz.underlying53 Tryz.zeroValue53 Tryz.typeInfo53 24 rfl
def Zo6:TI Tryz.prog:=tiS (ks:=[1,1]) (ag:=[false,false]) 55 Tryz.isAgg55 Tryz.sizeOf55 Tryz.underlying55 Tryz.zeroValue55 Tryz.typeInfo55 32 rfl ⟨Tryz.sizeOf4,Tryz.sizeOf53,trivial⟩ ⟨Tryz.isAgg4,Tryz.isAgg53,trivial⟩ rfl
def Zo7:TI Tryz.prog:=tiS (ks:=[1,1,2]) (ag:=[false,false,true]) 57 Tryz.isAgg57 Tryz.sizeOf57 Tryz.underlying57 Tryz.zeroValue57 Tryz.typeInfo57 80 rfl ⟨Tryz.sizeOf52,Tryz.sizeOf52,Tryz.sizeOf55,trivial⟩ ⟨Tryz.isAgg52,Tryz.isAgg52,Tryz.isAgg55,trivial⟩ rfl
def Zo8:TI Tryz.prog:=tiS (ks:=[1,1,4]) (ag:=[false,false,true]) 59 Tryz.isAgg59 Tryz.sizeOf59 Tryz.underlying59 Tryz.zeroValue59 Tryz.typeInfo59 128 rfl ⟨Tryz.sizeOf28,Tryz.sizeOf28,Tryz.sizeOf57,trivial⟩ ⟨Tryz.isAgg28,Tryz.isAgg28,Tryz.isAgg57,trivial⟩ rfl
def Zo9:TI Tryz.prog:=tiS (ks:=[6,1]) (ag:=[true,false]) 61 Tryz.isAgg61 Tryz.sizeOf61 Tryz.underlying61 Tryz.zeroValue61 Tryz.typeInfo61 136 rfl ⟨Tryz.sizeOf59,Tryz.sizeOf3,trivial⟩ ⟨Tryz.isAgg59,Tryz.isAgg3,trivial⟩ rfl
def Zpa:TI Tryz.prog:=tiO 70 Tryz.isAgg70 Tryz.sizeOf70 Tryz.underlying70 Tryz.zeroValue70 Tryz.typeInfo70 8 rfl
def Zpb:TI Tryz.prog:=tiS (ks:=[2,2]) (ag:=[true,true]) 74 Tryz.isAgg74 Tryz.sizeOf74 Tryz.underlying74 Tryz.zeroValue74 Tryz.typeInfo74 64 rfl ⟨Tryz.sizeOf55,Tryz.sizeOf55,trivial⟩ ⟨Tryz.isAgg55,Tryz.isAgg55,trivial⟩ rfl
def Zpc:TI Tryz.prog:=tiS (ks:=[1,4,4]) (ag:=[false,true,true]) 79 Tryz.isAgg79 Tryz.sizeOf79 Tryz.underlying79 Tryz.zeroValue79 Tryz.typeInfo79 152 rfl ⟨Tryz.sizeOf52,Tryz.sizeOf74,Tryz.sizeOf74,trivial⟩ ⟨Tryz.isAgg52,Tryz.isAgg74,Tryz.isAgg74,trivial⟩ rfl
def Zpd:TI Tryz.prog:=tiO 80 Tryz.isAgg80 Tryz.sizeOf80 Tryz.underlying80 Tryz.zeroValue80 Tryz.typeInfo80 24 rfl
def Zpe:TI Tryz.prog:=tiS (ks:=[1,9,1,1]) (ag:=[false,true,false,false]) 82 Tryz.isAgg82 Tryz.sizeOf82 Tryz.underlying82 Tryz.zeroValue82 Tryz.typeInfo82 192 rfl ⟨Tryz.sizeOf4,Tryz.sizeOf79,Tryz.sizeOf80,Tryz.sizeOf3,trivial⟩ ⟨Tryz.isAgg4,Tryz.isAgg79,Tryz.isAgg80,Tryz.isAgg3,trivial⟩ rfl
def Zpf:TI Tryz.prog:=tiS (ks:=[1]) (ag:=[false]) 84 Tryz.isAgg84 Tryz.sizeOf84 Tryz.underlying84 Tryz.zeroValue84 Tryz.typeInfo84 24 rfl ⟨Tryz.sizeOf22,trivial⟩ ⟨Tryz.isAgg22,trivial⟩ rfl
def Zpg:TI Tryz.prog:=tiS (ks:=[12,1,1]) (ag:=[true,true,false]) 86 Tryz.isAgg86 Tryz.sizeOf86 Tryz.underlying86 Tryz.zeroValue86 Tryz.typeInfo86 240 rfl ⟨Tryz.sizeOf82,Tryz.sizeOf84,Tryz.sizeOf47,trivial⟩ ⟨Tryz.isAgg82,Tryz.isAgg84,Tryz.isAgg47,trivial⟩ rfl
def Zph:TI Tryz.prog:=tiO 89 Tryz.isAgg89 Tryz.sizeOf89 Tryz.underlying89 Tryz.zeroValue89 Tryz.typeInfo89 24 rfl
set_option maxRecDepth 20000 in
theorem Zdf (d:Nat) (x0 x1 x2 x3 y0 y1 y2 y3:Int) (w:World):(Op.equalIn (d+1+1) 95 (.agg #[.int .i64 x0,.int .i64 x1,.int .i64 x2,.int .i64 x3]) (.agg #[.int .i64 y0,.int .i64 y1,.int .i64 y2,.int .i64 y3])).run Tryz.prog w=.ok (decide ([x0,x1,x2,x3]=[y0,y1,y2,y3])) w:=by
 rw [run_equalIn_array w (d+1) _ _ (n:=4) (e:=3) rfl rfl];rw [show List.range 4=[0,1,2,3] from rfl,show Tryz.prog.cellsOf 3=1 from rfl];simp [Op.eqItems,Go.part,Tryz.isAgg3,Qzp];by_cases h0:x0=y0 <;> by_cases h1:x1=y1 <;> by_cases h2:x2=y2 <;> by_cases h3:x3=y3 <;> simp [h0,h1,h2,h3]
def Zpi:TI Tryz.prog:=tiA 95 Tryz.isAgg95 Tryz.sizeOf95 Tryz.underlying95 Tryz.zeroValue95 Tryz.typeInfo95 32 rfl Tryz.sizeOf3
set_option maxRecDepth 20000 in
theorem Zdg (d:Nat) (x x0 x1 x2 x3 y y0 y1 y2 y3:Int) (w:World):(Op.equalIn (d+1+1+1) 97 (.agg #[.int .i64 x,.int .i64 x0,.int .i64 x1,.int .i64 x2,.int .i64 x3]) (.agg #[.int .i64 y,.int .i64 y0,.int .i64 y1,.int .i64 y2,.int .i64 y3])).run Tryz.prog w=.ok (decide ([x,x0,x1,x2,x3]=[y,y0,y1,y2,y3])) w:=by
 rw [run_equalIn_struct w (d+1+1) 97 _ _ rfl Tryz.stoodInHeld97];have hf:(Tryz.prog.fieldsOf 97).toList=[{ name := "Kind",type:=3,offset:=0,embedded:=false,tag := "",pkgPath := "",byteOffset:=0 },{ name := "Ids",type:=95,offset:=1,embedded:=false,tag := "",pkgPath := "",byteOffset:=8 }]:=by simp [Program.fieldsOf,Tryz.underlying97]
 rw [hf];simp [Op.eqFields,Go.part,Tryz.isAgg3,Tryz.isAgg95,Tryz.sizeOf95,Tryz.sizeOf3,Qzp,Zdf];by_cases h:x=y <;> by_cases h0:x0=y0 <;> by_cases h1:x1=y1 <;> by_cases h2:x2=y2 <;> by_cases h3:x3=y3 <;> simp [h,h0,h1,h2,h3]
theorem Zih (a b:List Int) (ha:a.length=5) (hb:b.length=5) (w:World):(Op.equal 97 (.agg (a.map (Value.int .i64)).toArray) (.agg (b.map (Value.int .i64)).toArray)).run Tryz.prog w=.ok (decide (a=b)) w:=by
 match a,ha,b,hb with
 | [x,x0,x1,x2,x3],_,[y,y0,y1,y2,y3],_=>exact Zdg 9997 x x0 x1 x2 x3 y y0 y1 y2 y3 w
def Zpj:TI Tryz.prog:={ tiS (ks:=[1,4]) (ag:=[false,true]) 97 Tryz.isAgg97 Tryz.sizeOf97 Tryz.underlying97 Tryz.zeroValue97 Tryz.typeInfo97 40 rfl ⟨Tryz.sizeOf3,Tryz.sizeOf95,trivial⟩ ⟨Tryz.isAgg3,Tryz.isAgg95,trivial⟩ rfl with eqn:=some 5,heq:=λk h=>by injection h with h; subst h; exact ⟨Tryz.eqGuardType97,Zih⟩ }
def Zpk:TI Tryz.prog:=tiS (ks:=[5,1,1]) (ag:=[true,false,false]) 99 Tryz.isAgg99 Tryz.sizeOf99 Tryz.underlying99 Tryz.zeroValue99 Tryz.typeInfo99 72 rfl ⟨Tryz.sizeOf97,Tryz.sizeOf52,Tryz.sizeOf3,trivial⟩ ⟨Tryz.isAgg97,Tryz.isAgg52,Tryz.isAgg3,trivial⟩ rfl
def Zmh:TI Tryz.prog:=tiO 103 Tryz.isAgg103 Tryz.sizeOf103 Tryz.underlying103 Tryz.zeroValue103 Tryz.typeInfo103 24 rfl
def Zmi:TI Tryz.prog:=tiS (ks:=[4,1]) (ag:=[true,false]) 114 Tryz.isAgg114 Tryz.sizeOf114 Tryz.underlying114 Tryz.zeroValue114 Tryz.typeInfo114 88 rfl ⟨Tryz.sizeOf57,Tryz.sizeOf3,trivial⟩ ⟨Tryz.isAgg57,Tryz.isAgg3,trivial⟩ rfl
def Zmj:TI Tryz.prog:=tiO 127 Tryz.isAgg127 Tryz.sizeOf127 Tryz.underlying127 Tryz.zeroValue127 Tryz.typeInfo127 24 rfl
def Zmk:TI Tryz.prog:=tiO 128 Tryz.isAgg128 Tryz.sizeOf128 Tryz.underlying128 Tryz.zeroValue128 Tryz.typeInfo128 24 rfl
def Zml:TI Tryz.prog:=tiO 134 Tryz.isAgg134 Tryz.sizeOf134 Tryz.underlying134 Tryz.zeroValue134 Tryz.typeInfo134 24 rfl
set_option maxRecDepth 20000 in
theorem Q61 (d:Nat) (x0 x1 y0 y1:Int) (w:World):(Op.equalIn (d+1+1) 143 (.agg #[.int .i64 x0,.int .i64 x1]) (.agg #[.int .i64 y0,.int .i64 y1])).run Tryz.prog w=.ok (decide ([x0,x1]=[y0,y1])) w:=by
 rw [run_equalIn_array w (d+1) _ _ (n:=2) (e:=3) rfl rfl];rw [show List.range 2=[0,1] from rfl,show Tryz.prog.cellsOf 3=1 from rfl];simp [Op.eqItems,Go.part,Tryz.isAgg3,Qzp];by_cases h0:x0=y0 <;> by_cases h1:x1=y1 <;> simp [h0,h1]
theorem Zdd (a b:List Int) (ha:a.length=2) (hb:b.length=2) (w:World):(Op.equal 143 (.agg (a.map (Value.int .i64)).toArray) (.agg (b.map (Value.int .i64)).toArray)).run Tryz.prog w=.ok (decide (a=b)) w:=by
 match a,ha,b,hb with
 | [x0,x1],_,[y0,y1],_=>exact Q61 9998 x0 x1 y0 y1 w
def Zmm:TI Tryz.prog:={ tiA 143 Tryz.isAgg143 Tryz.sizeOf143 Tryz.underlying143 Tryz.zeroValue143 Tryz.typeInfo143 16 rfl Tryz.sizeOf3 with eqn:=some 2,heq:=λk h=>by injection h with h; subst h; exact ⟨Tryz.eqGuardType143,Zdd⟩ }
def Zmn:TI Tryz.prog:=tiS (ks:=[7,1,1,9]) (ag:=[true,false,false,true]) 146 Tryz.isAgg146 Tryz.sizeOf146 Tryz.underlying146 Tryz.zeroValue146 Tryz.typeInfo146 232 rfl ⟨Tryz.sizeOf99,Tryz.sizeOf4,Tryz.sizeOf4,Tryz.sizeOf79,trivial⟩ ⟨Tryz.isAgg99,Tryz.isAgg4,Tryz.isAgg4,Tryz.isAgg79,trivial⟩ rfl
def Zmo:TI Tryz.prog:=tiO 152 Tryz.isAgg152 Tryz.sizeOf152 Tryz.underlying152 Tryz.zeroValue152 Tryz.typeInfo152 24 rfl
def Zmp:TI Tryz.prog:=tiS (ks:=[5,9]) (ag:=[true,true]) 157 Tryz.isAgg157 Tryz.sizeOf157 Tryz.underlying157 Tryz.zeroValue157 Tryz.typeInfo157 192 rfl ⟨Tryz.sizeOf97,Tryz.sizeOf79,trivial⟩ ⟨Tryz.isAgg97,Tryz.isAgg79,trivial⟩ rfl
def Zmq:TI Tryz.prog:=tiA 185 Tryz.isAgg185 Tryz.sizeOf185 Tryz.underlying185 Tryz.zeroValue185 Tryz.typeInfo185 48 rfl Tryz.sizeOf143
def Zmr:TI Tryz.prog:=tiO 188 Tryz.isAgg188 Tryz.sizeOf188 Tryz.underlying188 Tryz.zeroValue188 Tryz.typeInfo188 24 rfl
theorem Q2e (em:Bool) (n:Nat) (v:Int) (w:World):(Instr.checkKey em (n+1) 3 (.int .i64 v)).run Tryz.prog w=.ok () w:=by
 rw [Instr.checkKey];simp [Tryz.runUnderlying3]
theorem Qrj (em:Bool) (n:Nat) (a b c:Int) (w:World):(Instr.checkKey em (n+1+1) 50 (.agg #[.int .i64 a,.int .i64 b,.int .i64 c])).run Tryz.prog w=.ok () w:=by
 rw [Instr.checkKey];simp [Tryz.runUnderlying50];rw [show List.range' 0 3=[0,1,2] from rfl];simp [Go.part,Tryz.isAgg3,Tryz.sizeOf3,Q2e]
theorem Qgk (em:Bool) (ks:List Int) (hk:ks.length=3) (w:World):(Instr.checkKey em 10000 50 (Dx ks)).run Tryz.prog w=.ok () w:=by
 match ks,hk with
 | [a,b,c],_=>exact Qrj em 9998 a b c w
theorem Q79:MapT Tryz.prog 192 50 3 (.int .i64 0):=⟨Tryz.runUnderlying192,⟨_,Tryz.runUnderlying50,λ_ _=>rfl⟩,Qgk,λx y hx hy w=>Qv7 x y hx hy w,Tryz.zeroValue3,rfl⟩
def Zms:TI Tryz.prog:={ tiO 192 Tryz.isAgg192 Tryz.sizeOf192 Tryz.underlying192 Tryz.zeroValue192 Tryz.typeInfo192 8 rfl with md:=some (.int .i64 0),hmd:=λd h=>by injection h with h; subst h; exact ⟨50,3,Q79⟩ }
theorem Q8a:MapT Tryz.prog 195 50 4 (.bool false):=⟨Tryz.runUnderlying195,⟨_,Tryz.runUnderlying50,λ_ _=>rfl⟩,Qgk,λx y hx hy w=>Qv7 x y hx hy w,Tryz.zeroValue4,rfl⟩
def Zmt:TI Tryz.prog:={ tiO 195 Tryz.isAgg195 Tryz.sizeOf195 Tryz.underlying195 Tryz.zeroValue195 Tryz.typeInfo195 8 rfl with md:=some (.bool false),hmd:=λd h=>by injection h with h; subst h; exact ⟨50,4,Q8a⟩ }
def Zmu:TI Tryz.prog:=tiO 217 Tryz.isAgg217 Tryz.sizeOf217 Tryz.underlying217 Tryz.zeroValue217 Tryz.typeInfo217 4 rfl
def Zmv:TI Tryz.prog:=tiS (ks:=[5,1,1,1,1]) (ag:=[true,false,false,false,false]) 227 Tryz.isAgg227 Tryz.sizeOf227 Tryz.underlying227 Tryz.zeroValue227 Tryz.typeInfo227 104 rfl ⟨Tryz.sizeOf97,Tryz.sizeOf28,Tryz.sizeOf3,Tryz.sizeOf41,Tryz.sizeOf4,trivial⟩ ⟨Tryz.isAgg97,Tryz.isAgg28,Tryz.isAgg3,Tryz.isAgg41,Tryz.isAgg4,trivial⟩ rfl
def Zmw:TI Tryz.prog:=tiO 248 Tryz.isAgg248 Tryz.sizeOf248 Tryz.underlying248 Tryz.zeroValue248 Tryz.typeInfo248 8 rfl
def Zmx:TI Tryz.prog:=tiO 249 Tryz.isAgg249 Tryz.sizeOf249 Tryz.underlying249 Tryz.zeroValue249 Tryz.typeInfo249 8 rfl
def Zmy:TI Tryz.prog:=tiO 251 Tryz.isAgg251 Tryz.sizeOf251 Tryz.underlying251 Tryz.zeroValue251 Tryz.typeInfo251 24 rfl
def Zmz:TI Tryz.prog:=tiO 285 Tryz.isAgg285 Tryz.sizeOf285 Tryz.underlying285 Tryz.zeroValue285 Tryz.typeInfo285 24 rfl
def Zm0:TI Tryz.prog:=tiA 288 Tryz.isAgg288 Tryz.sizeOf288 Tryz.underlying288 Tryz.zeroValue288 Tryz.typeInfo288 272 rfl Tryz.sizeOf61
def Zm1:TI Tryz.prog:=tiO 298 Tryz.isAgg298 Tryz.sizeOf298 Tryz.underlying298 Tryz.zeroValue298 Tryz.typeInfo298 24 rfl
def Zm2:TI Tryz.prog:=tiS (ks:=[1]) (ag:=[false]) 327 Tryz.isAgg327 Tryz.sizeOf327 Tryz.underlying327 Tryz.zeroValue327 Tryz.typeInfo327 24 rfl ⟨Tryz.sizeOf251,trivial⟩ ⟨Tryz.isAgg251,trivial⟩ rfl
def tt:TT Tryz.prog:=(.nd (.nd (.nd (.nd (.nd (.nd .nil ti3 .nil) ti4 (.nd .nil ti5 .nil)) ti9 (.nd (.nd .nil Zon .nil) Zoo (.nd .nil Zop .nil))) Zoq (.nd (.nd (.nd .nil Zor .nil) Zos (.nd .nil Zot .nil)) Zou (.nd (.nd .nil Zov .nil) Zow (.nd .nil Zox .nil)))) Zoy (.nd (.nd (.nd (.nd .nil Zoz .nil) Zo0 (.nd .nil Zo1 .nil)) Zo2 (.nd (.nd .nil Zo3 .nil) Zo4 (.nd .nil Zo5 .nil))) Zo6 (.nd (.nd (.nd .nil Zo7 .nil) Zo8 (.nd .nil Zo9 .nil)) Zpa (.nd (.nd .nil Zpb .nil) Zpc .nil)))) Zpd (.nd (.nd (.nd (.nd (.nd .nil Zpe .nil) Zpf (.nd .nil Zpg .nil)) Zph (.nd (.nd .nil Zpi .nil) Zpj (.nd .nil Zpk .nil))) Zmh (.nd (.nd (.nd .nil Zmi .nil) Zmj (.nd .nil Zmk .nil)) Zml (.nd (.nd .nil Zmm .nil) Zmn .nil))) Zmo (.nd (.nd (.nd (.nd .nil Zmp .nil) Zmq (.nd .nil Zmr .nil)) Zms (.nd (.nd .nil Zmt .nil) Zmu (.nd .nil Zmv .nil))) Zmw (.nd (.nd (.nd .nil Zmx .nil) Zmy (.nd .nil Zmz .nil)) Zm0 (.nd (.nd .nil Zm1 .nil) Zm2 .nil)))))
instance:Mo Tryz.prog:=⟨rfl⟩
end Orr
namespace Orr
open Go Go.Proofs
set_option maxRecDepth 10000
def lm (l:List Nat):List (List LV):=l.map λ(x:Nat)=>[.int .u32 (x:Int)]
abbrev lr (l:List Nat):TV:=.one (.row (lm l))
theorem Uj (l:List Nat):(lm l).length=l.length:=by simp [lm]
theorem Fp {l:List Nat} {i x:Nat} (h:l[i]? = some x):(lm l)[i]? = some [.int .u32 (x:Int)]:=by simp [lm,h]
def trm:List Nat->List Nat
 | []=>[]
 |
  x::l=>match trm l with
  | []=>if x=0 then [] else [x]
  | r=>x::r
theorem Zfu {l:List Nat}:trm l=[]↔∀ x∈l,x=0:=by
 induction l with
 | nil=>simp [trm]
 |
  cons x l ih =>
  simp only [trm]
  split
  ·rename_i e;have h1:=ih.1 e;by_cases h:x=0
   ·simp [h]; exact h1
   ·simp [h]
  ·rename_i r hne;simp only [reduceCtorEq,Qo,forall_eq_or_imp,false_iff,not_and];exact λ_ h=>hne (ih.2 h)
theorem Qed:∀ {l:List Nat} {n:Nat},n<=l.length->(∀ j,n<=j->j<l.length->l[j]? = some 0)->(n=0\/∃ x,l[n-1]? = some x/\x≠0)->l.take n=trm l
 | [],n,h,_,_=>by simp at h; subst h; rfl
 |
  x::l,0,h,hz,_=>by
  rw [Vr];refine (Zfu.2 λy hy=>?_).symm;obtain ⟨j,hj⟩:=Zh.1 hy;have:=hz j (Qg _) (Qc.1 hj).1;rw [hj] at this; injection this
 |
  x::l,n+1,h,hz,ht=>by
  simp only [Q7,Nat.add_le_add_iff_right] at h;have hz':∀ j,n<=j->j<l.length->l[j]? = some 0:=λj h1 h2=>by simpa using hz (j+1) (by omega) (by simpa using h2)
  cases n with
  |
   zero =>
   have e:trm l=[]:=(Qed (n:=0) h hz' (.inl rfl)).symm;rcases ht with h | ⟨y,h1,h2⟩
   ·omega
   ·simp at h1; subst h1; simp [trm,e,h2]
  |
   succ n =>
   have ih:=Qed (n:=n+1) h hz' (.inr (by rcases ht with h | ⟨y,h1,h2⟩; (· omega); exact ⟨y,by simpa using h1,h2⟩));simp only [Yj,trm];rw [<-ih];cases hl:l with
   | nil=>rw [hl] at h; simp at h
   | cons y l'=>simp [Yj]
theorem Zmg (l:List Nat):Uh Tryz.prog 220 [lr l] [lr (trm l)]:=by
 refine Ha Tryz.func220 rfl (ln 0 rfl rfl λhl=>?_);rw [Uj] at hl;refine go tt [] rfl trivial ?_;refine lp (S:=Nat) 0 (λL1 n=>(3,.v (.one (.int .i64 (n:Int))))::L1) (λ_=>[]) id (λn=>n<=l.length/\∀ j,n<=j->j<l.length->l[j]? = some 0) (lm l).length ⟨by rw [Uj]; exact Qm _,λj h1 h2=>by rw [Uj] at h1; omega⟩ rfl (λ_ _=>rfl) rfl λn ⟨h1,h2⟩=>?_
 cases n with
 | zero=>exact en tt [.f (by simp),.f rfl,.i 0] rfl (by rw [<-Qed h1 h2 (.inl rfl)]; simp [lm]) (by simp [Uf,Gq])
 |
  succ n =>
  obtain ⟨x,hx⟩:=gxE (l:=l) (i:=n) (by omega);by_cases h0:x=0
  ·refine go tt [.t (by simp),.r 11 (v:=.one (.int .i64 (n:Int))) (by simp),.x (Fp hx),.t (by simp [h0]),.r 17 (v:=.one (.int .i64 (n:Int))) (by simp)] rfl (by simp [Uf,Gq]; omega) ?_;exact rd n (by simp) ⟨by omega,λj h3 h4=>by
    rcases Vg h3 with rfl | h3
    ·rw [hx,h0]
    ·exact h2 j h3 h4⟩ rfl
  ·exact en tt [.t (by simp),.r 11 (v:=.one (.int .i64 (n:Int))) (by simp),.x (Fp hx),.f (by simp [h0]),.i (n+1)] rfl (by rw [<-Qed h1 h2 (.inr ⟨x,hx,h0⟩)]; simp [lm]) (by simp [Uf,Gq,Uj] <;> omega)
def Sm (l:List Nat):Prop:=∀ x∈l,x<4294967296
theorem Qql:∀ l:List Nat,Cut l (trm l).length/\l.take (trm l).length=trm l
 | []=>⟨⟨Qm _,λj _ h=>by simp at h,λh=>by simp [trm] at h⟩,rfl⟩
 |
  x::l=>by
  obtain ⟨⟨h1,h2,h3⟩,h4⟩:=Qql l;simp only [trm]
  split
  ·rename_i e;rw [e] at h2 h3;by_cases h:x=0
   ·rw [if_pos h];refine ⟨⟨Qg _,λj _ hj=>?_,λh=>by simp at h⟩,rfl⟩;cases j with
    | zero=>simp [h]
    | succ j=>simpa using h2 j (Qg _) (by simpa using hj)
   ·rw [if_neg h];refine ⟨⟨by simp,λj h5 hj=>?_,λ_=>⟨x,rfl,h⟩⟩,rfl⟩;cases j with
    | zero=>simp at h5
    | succ j=>simpa using h2 j (Qg _) (by simpa using hj)
  ·rename_i r hne;refine ⟨⟨by simp [h1],λj h5 hj=>?_,λ_=>?_⟩,by simp [h4]⟩
   ·cases j with
    | zero=>simp at h5
    | succ j=>simpa using h2 j (by simpa using h5) (by simpa using hj)
   ·have hp:0<(trm l).length:=by
     cases e:trm l with
     | nil=>exact absurd e hne
     | cons=>simp
    obtain ⟨y,h5,h6⟩:=h3 hp;refine ⟨y,?_,h6⟩;rw [Q7,show (trm l).length+1-1=((trm l).length-1)+1 from by omega];simpa using h5
theorem Qns {l:List Nat} (h:Sm l):trm l=U3 (val l):=by
 obtain ⟨h1,h2⟩:=Qql l;refine Q75 ?_ ?_
 ·rw [<-h2]; exact Zc6 h1 h
 ·rw [<-h2]; exact Zc7 h1
theorem By (x:Nat):Sm (U3 x):=(Da x).1
theorem H9 {x k:Nat} (h:sz x<=k):32*(U3 x).length<=k+31:=by
 have:=Zea (Da x);rw [Fv] at this; omega
theorem Qbf {l:List Nat} (h:Sm l):Uh Tryz.prog 220 [lr l] [lr (U3 (val l))]:=Qns h ▸ Zmg l
theorem Q76 (l:List Nat):∀ c∈lm l,c.length=1:=λc hc=>by
 obtain ⟨x,_,rfl⟩:=Zi.1 hc; rfl
theorem Qev {l:List Nat} (h:Sm l) (hs:sz (val l)<=4294967296):Uh Tryz.prog 178 [lr l] [lr (U3 (val l))] :=
 w tt Tryz.func178 rfl [.c [] (Qbf h),.s (Q76 (U3 (val l)))] rfl rfl (by have:=H9 hs; simp [Uf,Gq,Uj]; omega)
theorem Qe0 {a:List Nat} (ha:Sm a):∃ p,Uh Tryz.prog 220 [lr a] [lr p]/\Nrm p/\val p=val a/\p.length<=a.length/\p=U3 (val a) :=
 ⟨_,Qbf ha,Da _,Fv _,by rw [<-Qns ha]; exact (Qql a).1.1,rfl⟩
theorem Q4x {a b:List Nat} (ha:Sm a) (hb:Sm b):Uh Tryz.prog 206 [lr a,lr b] [.one (.int .i64 (Ip (val a) (val b)))]:=by
 refine Ha Tryz.func206 rfl (ln 0 rfl rfl λhl=>ln 1 rfl rfl λhl'=>?_);rw [Uj] at hl hl';obtain ⟨p,ca,np,vp,lp',_⟩:=Qe0 ha;obtain ⟨q,cb,nq,vq,lq,_⟩:=Qe0 hb;rw [<-vp,<-vq];by_cases h:p.length=q.length
 ·refine go tt [.c [] ca,.c [] cb,.f (by simp [Uj,h])] rfl (by simp [Uf,Gq,Uj] <;> omega) ?_;refine lp (S:=Int) 0 (λL1 i=>(5,.v (.one (.int .i64 i)))::L1) (λ_=>[]) (λi=>(i+1).toNat) (λi=>-1<=i/\i<p.length/\p.drop (i+1).toNat=q.drop (i+1).toNat) (((lm p).length:Int)-1) ⟨by omega,by simp [Uj]; omega,by simp [Uj,h]⟩ rfl (λ_ _=>rfl) rfl λi ⟨h1,h2,h3⟩=>?_
  rcases Ky i 0 with hi | hi
  ·obtain rfl:i=-1:=by omega
   exact en tt [.f (by decide)] rfl (by rw [Qy9]; exact congrArg val (by simpa using h3)) trivial
  ·obtain ⟨k,rfl⟩:=Yi hi;have e:((k:Int)+1).toNat=k+1:=by omega
   rw [e] at h3;obtain ⟨x,hx⟩:=gxE (l:=p) (i:=k) (by omega);obtain ⟨y,hy⟩:=gxE (l:=q) (i:=k) (by omega);rcases Vp x y with hxy | rfl | hxy
   ·exact en tt [.t (by simp),.x (Fp hx),.x (Fp hy),.t (by simp; omega)] rfl (by rw [Qhg (Q1o np.1 h3 hx hy hxy)]) (by simp [Uf,Gq,Uj] <;> omega)
   ·refine go tt [.t (by simp),.x (Fp hx),.x (Fp hy),.f (by simp),.x (Fp hx),.x (Fp hy),.f (by simp)] rfl (by simp [Uf,Gq,Uj] <;> omega) ?_;exact rd ((k:Int)-1) (by omega) ⟨by omega,by omega,by rw [show ((k:Int)-1+1).toNat=k from by omega]; exact Q2p h3 hx hy⟩ rfl
   ·exact en tt [.t (by simp),.x (Fp hx),.x (Fp hy),.f (by simp; omega),.x (Fp hx),.x (Fp hy),.t (by simp; omega)] rfl (by rw [Qhf (Q1o nq.1 h3.symm hy hx hxy)]) (by simp [Uf,Gq,Uj] <;> omega)
 ·by_cases h2:p.length<q.length
  ·exact en tt [.c [] ca,.c [] cb,.t (by simp [Uj]; omega),.t (by simp [Uj]; omega)] rfl (by rw [Qhg (Bi np nq h2)]) (by simp [Uf,Gq])
  ·exact en tt [.c [] ca,.c [] cb,.t (by simp [Uj]; omega),.f (by simp [Uj]; omega)] rfl (by rw [Qhf (Bi nq np (by omega))]) (by simp [Uf,Gq])
theorem Qce (m:Nat):List.replicate m [LV.int .u32 0]=lm (List.replicate m 0):=by simp [lm]
theorem M5 (l:List Nat) (i x:Nat):(lm l).set i [.int .u32 (x:Int)]=lm (l.set i x):=by simp [lm,Yo]
theorem Bb {a b:Int} (h:a=b):TV.one (LV.int .u64 a)=.one (.int .u64 b):=h ▸ rfl
theorem Cm {a b:Int} (h:a=b):TV.one (LV.int .u32 a)=.one (.int .u32 b):=h ▸ rfl
theorem eI {a b:Int} (h:a=b):TV.one (LV.int .i64 a)=.one (.int .i64 b):=h ▸ rfl
theorem w32 (z:Int):IntKind.u32.wrap z=z % 4294967296:=by simp [IntKind.wrap,IntKind.bits,IntKind.signed]
theorem w64 (z:Int):IntKind.u64.wrap z=z % 18446744073709551616:=by simp [IntKind.wrap,IntKind.bits,IntKind.signed]
theorem Zga {a b:List Nat} (ha:Sm a) (hb:Sm b) (h1:sz (val a)<=4294967296) (h2:sz (val b)<=4294967296):Uh Tryz.prog 275 [lr a,lr b] [lr (U3 (val a+val b))]:=by
 refine Ha Tryz.func275 rfl ?_;obtain ⟨p,ca,np,vp,_,ep⟩:=Qe0 ha;obtain ⟨q,cb,nq,vq,_,eq⟩:=Qe0 hb;have lp':=H9 h1;have lq:=H9 h2;rw [<-ep] at lp';rw [<-eq] at lq;rw [<-vp,<-vq];refine go tt [.c [] ca,.c [] cb] rfl trivial ?_;refine ct 1 (S:=List Nat×List Nat) (λs=>[(0,.v (lr s.1)),(1,.v (lr s.2))]) (λ_=>[]) (λs=>Nrm s.1/\Nrm s.2/\32*s.1.length<=4294967327/\s.2.length<=s.1.length/\val s.1+val s.2=val p+val q) rfl ?_ ?_
 ·by_cases h:p.length<q.length
  ·exact go tt [.t (by simp [Uj]; omega)] rfl trivial (rc (q,p) ⟨nq,np,lq,Jo h,J1 _ _⟩ rfl)
  ·exact go tt [.f (by simp [Uj]; omega)] rfl trivial (rc (p,q) ⟨np,nq,lp',Y6 h,rfl⟩ rfl)
 ·intro ⟨p',q'⟩ ⟨np,nq,hp,hq,e⟩;dsimp only at np nq hp hq e;rw [<-e];clear ca cb e vp vq ep eq;refine go tt [.i ((lm p').length+1),.i ((lm p').length+1)] rfl (by simp [Uf,Gq,Uj] <;> omega) ?_;rw [Qce];refine lp (S:=Nat×List Nat×Nat) 1 (λL1 s=>(27,.v (.one (.int .i64 (s.1:Int))))::(6,.v (.one (.int .u64 (s.2.2:Int))))::L1) (λs=>[.row false 217 1 (lm s.2.1)]) (λs=>p'.length-s.1)
   (λs=>s.1<=p'.length/\s.2.1.length=p'.length+1/\Sm s.2.1/\s.2.2<=1/\val (s.2.1.take s.1)+s.2.2*4294967296^s.1=val (p'.take s.1)+val (q'.take s.1)) (0,List.replicate ((lm p').length+1) 0,0)
   ⟨Qg _,by simp [Uj],λx hx=>by rw [Zs hx]; decide,Qg _,by simp [val]⟩ rfl (λ_ _=>rfl) rfl λ⟨i,o,c⟩ ⟨j1,j2,j3,j4,j5⟩=>?_
  dsimp only at j1 j2 j3 j4 j5 ⊢;by_cases hi:i<p'.length
  ·obtain ⟨x,hx⟩:=gxE (l:=p') (i:=i) hi;have xb:=np.1 x (Qa hx);have fin:∀ y s,(q'[i]? = some y\/q'.length<=i/\y=0)->y<4294967296->s=x+c+y->p'.length-(i+1)<p'.length-i/\i+1<=p'.length/\(o.set i (s % 4294967296)).length=p'.length+1/\Sm (o.set i (s % 4294967296))/\s / 4294967296<=1 /\
    val ((o.set i (s % 4294967296)).take (i+1))+s / 4294967296*4294967296^(i+1)=val (p'.take (i+1))+val (q'.take (i+1)):=λy s hy hyb hs =>
    ⟨by omega,hi,by simp [j2],Mh j3 i _ (by omega),by omega,Qq7 (by omega) hx hy j5 hs⟩
   by_cases hi2:i<q'.length
   ·obtain ⟨y,hy⟩:=gxE (l:=q') (i:=i) hi2;have yb:=nq.1 y (Qa hy);refine go tt [.t (by simp [Uj]; omega),.x (Fp hx),.t (by simp [Uj]; omega),.x (Fp hy),.w 2,.r 50 (v:=.one (.int .u32 (((x+c+y) % 4294967296:Nat):Int))) (by simp [IntKind.wrap,IntKind.bits,IntKind.signed]),.i 32,.r 52 (v:=.one (.int .u64 (((x+c+y) / 4294967296:Nat):Int))) (by simp),.i i] rfl (by simp [Uf,Gq,Uj,IntKind.bits] <;> omega) ?_;rw [M5];exact rd (i+1,o.set i ((x+c+y) % 4294967296),(x+c+y) / 4294967296) (fin y _ (.inl hy) yb rfl).1 (fin y _ (.inl hy) yb rfl).2 rfl
   ·refine go tt [.t (by simp [Uj]; omega),.x (Fp hx),.f (by simp [Uj]; omega),.w 0,.r 50 (v:=.one (.int .u32 (((x+c+0) % 4294967296:Nat):Int))) (by simp [IntKind.wrap,IntKind.bits,IntKind.signed]),.i 32,.r 52 (v:=.one (.int .u64 (((x+c+0) / 4294967296:Nat):Int))) (by simp),.i i] rfl (by simp [Uf,Gq,Uj,IntKind.bits] <;> omega) ?_;rw [M5];exact rd (i+1,o.set i ((x+c+0) % 4294967296),(x+c+0) / 4294967296) (fin 0 _ (.inr ⟨by omega,rfl⟩) (by decide) rfl).1 (fin 0 _ (.inr ⟨by omega,rfl⟩) (by decide) rfl).2 rfl
  ·obtain rfl:i=p'.length:=by omega
   refine go tt [.f (by simp [Uj]),.w 0,.r 59 (v:=.one (.int .u32 (c:Int))) (by simp [IntKind.wrap,IntKind.bits,IntKind.signed]; omega),.i (lm p').length] rfl (by simp [Uf,Gq,Uj,j2]) ?_;rw [Uj,M5];have e:val (o.set p'.length c)=val p'+val q':=by
    have h1:=Ig o p'.length c (by omega);rw [Qj (by simp; omega)] at h1;rw [Qj (Qm _),Qj hq] at j5;rw [h1,<-j5,Zj]
   rw [<-e];exact en tt [.c [] (Qbf (Mh j3 _ c (by omega)))] rfl rfl trivial
theorem Qrl {x y:Nat}:Ip x y<0↔x<y:=by unfold Ip; split <;> (try split) <;> omega
theorem Zgc {a b:List Nat} (ha:Sm a) (hb:Sm b) (h1:sz (val a)<=4294967296):Uh Tryz.prog 276 [lr a,lr b] (if val b<=val a then [lr (U3 (val a-val b)),.one (.bool true)] else [lr [],.one (.bool false)]):=by
 refine Ha Tryz.func276 rfl ?_;obtain ⟨p,ca,np,vp,_,ep⟩:=Qe0 ha;obtain ⟨q,cb,nq,vq,_,_⟩:=Qe0 hb;have hp:=H9 h1;rw [<-ep] at hp;rw [<-vp,<-vq];have cc:=Q4x np.1 nq.1;by_cases hlt:val p<val q
 ·rw [if_neg (by omega)];exact en tt [.c [] ca,.c [] cb,.c [] cc,.t (by simpa using Qrl.2 hlt)] rfl rfl trivial
 rw [if_pos (by omega)];have hq:q.length<=p.length:=Y6 λh=>hlt (Bi np nq h)
 refine go tt [.c [] ca,.c [] cb,.c [] cc,.f (by have:=mt Qrl.1 hlt; simpa using this),.i (lm p).length,.i (lm p).length] rfl (by simp [Uf,Gq,Uj] <;> omega) ?_;rw [Qce];refine lp (S:=Nat×List Nat×Nat) 1 (λL1 s=>(24,.v (.one (.int .i64 (s.1:Int))))::(7,.v (.one (.int .u64 (s.2.2:Int))))::L1) (λs=>[.row false 217 1 (lm s.2.1)]) (λs=>p.length-s.1)
  (λs=>s.1<=p.length/\s.2.1.length=p.length/\Sm s.2.1/\s.2.2<=1/\val (s.2.1.take s.1)+val (q.take s.1)=val (p.take s.1)+s.2.2*4294967296^s.1) (0,List.replicate (lm p).length 0,0)
  ⟨Qg _,by simp [Uj],λx hx=>by rw [Zs hx]; decide,Qg _,by simp [val]⟩ rfl (λ_ _=>rfl) rfl λ⟨i,o,c⟩ ⟨j1,j2,j3,j4,j5⟩=>?_
 dsimp only at j1 j2 j3 j4 j5 ⊢;by_cases hi:i<p.length
 ·obtain ⟨x,hx⟩:=gxE (l:=p) (i:=i) hi;have xb:=np.1 x (Qa hx);have fin:∀ y s,(q[i]? = some y\/q.length<=i/\y=0)->y<4294967296->s=(x+18446744073709551616-c-y) % 18446744073709551616->p.length-(i+1)<p.length-i/\i+1<=p.length/\(o.set i (s % 4294967296)).length=p.length/\Sm (o.set i (s % 4294967296))/\s / 9223372036854775808<=1 /\
   val ((o.set i (s % 4294967296)).take (i+1))+val (q.take (i+1))=val (p.take (i+1))+s / 9223372036854775808*4294967296^(i+1):=λy s hy hyb hs=>by
   obtain ⟨h1,h2⟩:=Zan (o:=o) (by omega) hx hy xb hyb j4 j5 hs;exact ⟨by omega,hi,by simp [j2],Mh j3 i _ (by omega),h2,h1⟩
  by_cases hi2:i<q.length
  ·obtain ⟨y,hy⟩:=gxE (l:=q) (i:=i) hi2;have yb:=nq.1 y (Qa hy);obtain ⟨s,hs⟩:=nmE ((x+18446744073709551616-c-y) % 18446744073709551616);refine go tt [.t (by simp [Uj]; omega),.x (Fp hx),.w 1,.r 32 (Bb (b:=(((x+18446744073709551616-c) % 18446744073709551616:Nat):Int)) (by rw [w64]; omega)),.t (by simp [Uj]; omega),.x (Fp hy),.w 1,.r 43 (Bb (b:=(s:Int)) (by rw [w64]; omega)),.w 0,.r 47 (Cm (b:=((s % 4294967296:Nat):Int)) (by rw [w32]; omega)),.i 63,.r 49 (Bb (b:=((s / 9223372036854775808:Nat):Int)) (by simp)),.i i] rfl (by simp [Uf,Gq,Uj,IntKind.bits] <;> omega) ?_;rw [M5];exact rd (i+1,o.set i (s % 4294967296),s / 9223372036854775808) (fin y _ (.inl hy) yb hs).1 (fin y _ (.inl hy) yb hs).2 rfl
  ·obtain ⟨s,hs⟩:=nmE ((x+18446744073709551616-c-0) % 18446744073709551616);have hf:=fin 0 _ (.inr ⟨by omega,rfl⟩) (by decide) hs;refine go tt [.t (by simp [Uj]; omega),.x (Fp hx),.w 1,.r 32 (Bb (b:=(s:Int)) (by rw [w64]; omega)),.f (by simp [Uj]; omega),.w 0,.r 47 (Cm (b:=((s % 4294967296:Nat):Int)) (by rw [w32]; omega)),.i 63,.r 49 (Bb (b:=((s / 9223372036854775808:Nat):Int)) (by simp)),.i i] rfl (by simp [Uf,Gq,Uj,IntKind.bits] <;> omega) ?_;rw [M5];exact rd (i+1,o.set i (s % 4294967296),s / 9223372036854775808) hf.1 hf.2 rfl
 ·obtain rfl:i=p.length:=by omega
  have e:val o=val p-val q:=by
   rw [Qj (Nat.le_of_eq j2),Qj hq,Qj (Qm _)] at j5;have h1:=Cc o j3;rw [j2] at h1;rcases Nat.le_one_iff_eq_zero_or_eq_one.1 j4 with rfl | rfl <;> omega
  rw [<-e];exact en tt [.f (by simp [Uj]),.c [] (Qbf j3)] rfl rfl trivial
theorem Zkz {a b:List Nat} (ha:Sm a) (hb:Sm b) (h1:sz (val a)<=4294967296) (h2:sz (val b)<=4294967296):Uh Tryz.prog 242 [lr a,lr b] [lr (U3 (val a*val b))]:=by
 refine Ha Tryz.func242 rfl ?_;obtain ⟨p,ca,np,vp,_,ep⟩:=Qe0 ha;obtain ⟨q,cb,nq,vq,_,eq⟩:=Qe0 hb;have hp:=H9 h1;have hq:=H9 h2;rw [<-ep] at hp;rw [<-eq] at hq;rw [<-vp,<-vq];refine go tt [.c [] ca,.c [] cb,.i ((lm p).length+(lm q).length),.i ((lm p).length+(lm q).length)] rfl (by simp [Uf,Gq,Uj] <;> omega) ?_;rw [Qce];refine lp (S:=Nat×List Nat) 1 (λL1 s=>(24,.v (.one (.int .i64 (s.1:Int))))::L1) (λs=>[.row false 217 1 (lm s.2)]) (λs=>p.length-s.1)
  (λs=>s.1<=p.length/\s.2.length=p.length+q.length/\Sm s.2/\(∀ j,s.1+q.length<=j->j<s.2.length->s.2[j]? = some 0)/\val s.2=val (p.take s.1)*val q) (0,List.replicate ((lm p).length+(lm q).length) 0)
  ⟨Qg _,by simp [Uj],λx hx=>by rw [Zs hx]; decide,λj _ hj=>by rw [Js,if_pos (by simpa using hj)],by simp [val,Qf0]⟩ rfl (λ_ _=>rfl) rfl λ⟨i,o⟩ ⟨j1,j2,j3,j4,j5⟩=>?_
 dsimp only at j1 j2 j3 j4 j5 ⊢;by_cases hi:i<p.length
 ·obtain ⟨x,hx⟩:=gxE (l:=p) (i:=i) hi;have xb:=np.1 x (Qa hx);refine go tt [.t (by simp [Uj]; omega),.x (Fp hx)] rfl trivial ?_;refine lp (S:=Nat×List Nat×Nat) 1 (λL1 s=>(31,.v (.one (.int .i64 (s.1:Int))))::(8,.v (.one (.int .u64 (s.2.2:Int))))::L1) (λs=>[.row false 217 1 (lm s.2.1)]) (λs=>q.length-s.1)
   (λs=>s.1<=q.length/\s.2.1.length=p.length+q.length/\Sm s.2.1/\(∀ j,i+q.length<=j->j<s.2.1.length->s.2.1[j]? = some 0)/\s.2.2<4294967296/\val s.2.1+s.2.2*4294967296^(i+s.1)=val (p.take i)*val q+4294967296^i*x*val (q.take s.1)) (0,o,0)
   ⟨Qg _,j2,j3,j4,by simp,by simp [val,j5]⟩ rfl (λ_ _=>rfl) rfl λ⟨k,o',c⟩ ⟨k1,k2,k3,k4,k5,k6⟩=>?_
  dsimp only at k1 k2 k3 k4 k5 k6 ⊢;by_cases hk:k<q.length
  ·obtain ⟨y,hy⟩:=gxE (l:=q) (i:=k) hk;have yb:=nq.1 y (Qa hy);obtain ⟨z,hz⟩:=gxE (l:=o') (i:=i+k) (by omega);have zb:=k3 z (Qa hz);have hm:=Oi xb yb;have hm2:(x:Int)*(y:Int)=((x*y:Nat):Int):=by push_cast; rfl
   obtain ⟨s,hs⟩:=nmE (x*y+z+c);refine go tt [.t (by simp [Uj]; omega),.x (Fp hy),.r 40 (Bb (b:=((x*y:Nat):Int)) (by push_cast; rfl)),.i (i+k),.x (Fp hz),.r 50 (Bb (b:=(s:Int)) (by omega)),.w 1,.r 56 (Cm (b:=((s % 4294967296:Nat):Int)) (by rw [w32]; omega)),.i 32,.r 58 (Bb (b:=((s / 4294967296:Nat):Int)) (by simp)),.i (i+k)] rfl ?_ ?_
   ·simp [Uf,Gq,Uj,IntKind.bits] <;> omega
   ·rw [M5];exact rd (k+1,o'.set (i+k) (s % 4294967296),s / 4294967296) (show q.length-(k+1)<q.length-k by omega) ⟨hk,by simp [k2],Mh k3 _ _ (by omega),λj h3 h4=>by
     rw [Yc (by omega)]; exact k4 j h3 (by simpa using h4),(show s / 4294967296<4294967296 from by omega),Q8f hz hy k6 hs⟩ rfl
  ·obtain rfl:k=q.length:=by omega
   by_cases hq0:0<q.length
   ·refine go tt [.f (by simp [Uj]),.t (by simp [Uj]; omega),.w 1,.r 70 (Cm (b:=((c % 4294967296:Nat):Int)) (by rw [w32]; omega)),.i (i+(lm q).length)] rfl (by simp [Uf,Gq,Uj,IntKind.bits] <;> omega) ?_;rw [M5];refine rd (i+1,o'.set (i+(lm q).length) (c % 4294967296)) (show p.length-(i+1)<p.length-i by omega) ⟨hi,by simp [k2],Mh k3 _ _ (by omega),λj h3 h4=>?_,?_⟩ rfl
    ·rw [Uj,List.getElem?_set_ne (by dsimp only at h3; omega)];exact k4 j (by dsimp only at h3; omega) (by simpa using h4)
    ·rw [Uj];exact Q8e (k4 _ (Qm _) (by omega)) hx k5 rfl k6
   ·have q0:q=[]:=Qi (by omega);refine go tt [.f (by simp [Uj]),.f (by simp [Uj,q0])] rfl (by simp [Uf,Gq,Uj,IntKind.bits] <;> omega) ?_;refine rd (i+1,o') (show p.length-(i+1)<p.length-i by omega) ⟨hi,k2,k3,λj h3 h4=>k4 j (by dsimp only at h3; omega) h4,?_⟩ rfl;have c0:c*4294967296^(i+q.length)=0/\val o'=0:=by
     subst q0;simp only [val,List.take_nil,Yq] at k6;omega
    rw [c0.2,q0]; rfl
 ·obtain rfl:i=p.length:=by omega
  rw [Qj (Qm _)] at j5;rw [<-j5];exact en tt [.f (by simp [Uj]),.c [] (Qbf j3)] rfl rfl trivial
theorem o64 {k q:Nat} (hq:q<4294967296) (hb:4294967296*k+q<18446744073709551616):orI .u64 ((4294967296*k:Nat):Int) (q:Int)=((4294967296*k+q:Nat):Int):=by
 have e1:(BitVec.ofInt 64 ((4294967296*k:Nat):Int)).toNat=4294967296*k:=by rw [BitVec.toNat_ofInt]; omega
 have e2:(BitVec.ofInt 64 (q:Int)).toNat=q:=by rw [BitVec.toNat_ofInt]; omega
 show IntKind.u64.wrap ((BitVec.ofInt 64 ((4294967296*k:Nat):Int) ||| BitVec.ofInt 64 (q:Int)).toNat:Int)=_;rw [BitVec.toNat_or,e1,e2,Zja hq,w64]; omega
theorem oM {k p:Nat} (hp:p<4294967296) (hb:4294967296*k+p<18446744073709551616):orI .u64 (p:Int) ((4294967296*k:Nat):Int)=((4294967296*k+p:Nat):Int):=by
 have:=o64 hp hb;unfold orI at this ⊢;rw [BitVec.or_comm]; exact this
theorem o32 {s k p:Nat} (hp:p<2^s) (h1:p<4294967296) (h2:2^s*k<4294967296) (hb:p+2^s*k<4294967296):orI .u32 (p:Int) ((2^s*k:Nat):Int)=((p+2^s*k:Nat):Int):=by
 have e1:(BitVec.ofInt 32 ((2^s*k:Nat):Int)).toNat=2^s*k:=by rw [BitVec.toNat_ofInt]; omega
 have e2:(BitVec.ofInt 32 (p:Int)).toNat=p:=by rw [BitVec.toNat_ofInt]; omega
 have e3:p ||| 2^s*k=p+2^s*k:=by
  have:=Wm (i:=s) (b:=p) hp k;rw [Nat.or_comm,<-this,J1]
 show IntKind.u32.wrap ((BitVec.ofInt 32 (p:Int) ||| BitVec.ofInt 32 ((2^s*k:Nat):Int)).toNat:Int)=_;rw [BitVec.toNat_or,e1,e2,e3,w32]; omega
theorem Zld {l:List Nat} {v:Nat} (hl:Sm l) (hn:l.length<274877906944) (h0:0<v) (hv:v<4294967296):Uh Tryz.prog 270 [lr l,.one (.int .u32 (v:Int))] [lr (U3 (val l / v)),.one (.int .u32 ((val l % v:Nat):Int))]:=by
 refine Ha Tryz.func270 rfl ?_;refine go tt [.i (lm l).length,.i (lm l).length] rfl (by simp [Uf,Gq,Uj] <;> omega) ?_;rw [Qce];refine lp (S:=Int×List Nat×Nat) 1 (λL1 s=>(8,.v (.one (.int .i64 s.1)))::(7,.v (.one (.int .u64 (s.2.2:Int))))::L1) (λs=>[.row false 217 1 (lm s.2.1)]) (λs=>(s.1+1).toNat)
  (λs=>-1<=s.1/\s.1<l.length/\s.2.1.length=l.length/\Sm s.2.1/\s.2.2<v/\val (l.drop (s.1+1).toNat)=v*val (s.2.1.drop (s.1+1).toNat)+s.2.2) (((lm l).length:Int)-1,List.replicate (lm l).length 0,0)
  ⟨by simp [Uj]; omega,by simp [Uj]; omega,by simp [Uj],λx hx=>by rw [Zs hx]; decide,h0,by simp [Uj,val]⟩ rfl (λ_ _=>rfl) rfl λ⟨i,o,r⟩ ⟨j1,j2,j3,j4,j5,j6⟩=>?_
 dsimp only at j1 j2 j3 j4 j5 j6 ⊢;rcases Ky i 0 with hi | hi
 ·obtain rfl:i=-1:=by omega
  simp only [show ((-1:Int)+1).toNat=0 from rfl,Xl] at j6;have e1:val l / v=val o:=by rw [j6,W9 h0,Vw j5,Xu]
  have e2:val l % v=r:=by rw [j6,Ua,X4 j5]
  rw [e1,e2];exact en tt [.f (by decide),.c [] (Qbf j4)] rfl rfl (by simp [Uf,Gq,Uj,IntKind.bits] <;> omega)
 ·obtain ⟨k,rfl⟩:=Yi hi;have e:((k:Int)+1).toNat=k+1:=by omega
  rw [e] at j6;obtain ⟨x,hx⟩:=gxE (l:=l) (i:=k) (by omega);have xb:=hl x (Qa hx);obtain ⟨s,hs⟩:=nmE (r*4294967296+x);obtain ⟨k1,k2,k3⟩:=Q8o hx xb (show k<o.length by omega) h0 j5 j6 hs;obtain ⟨q,hq⟩:=nmE (s / v);obtain ⟨u,hu⟩:=nmE (s % v);have hqi:(s:Int).tdiv v=(q:Int):=by rw [Vy (by omega),hq]; rfl
  have hui:(s:Int).tmod v=(u:Int):=by rw [Yu (by omega),hu]; rfl
  rw [<-hq,<-hu] at k3;rw [<-hq] at k1;rw [<-hu] at k2;refine go tt [.t (by simp),.i 32,.r 21 (Bb (b:=((4294967296*r:Nat):Int)) (by omega)),.x (Fp hx),.r 27 (Bb (b:=(s:Int)) (by rw [o64 xb (by omega)]; omega)),
   .r 33 (Bb (b:=(q:Int)) hqi),.w 0,.r 34 (Cm (b:=((q % 4294967296:Nat):Int)) (by rw [w32]; omega)),.r 38 (Bb (b:=(u:Int)) hui),.i k] rfl (by simp [Uf,Gq,Uj,IntKind.bits,hqi] <;> omega) ?_
  rw [M5];exact rd ((k:Int)-1,o.set k (q % 4294967296),u) (by dsimp only; omega) ⟨by dsimp only; omega,by dsimp only; omega,by simp [j3],Mh j4 _ _ (by omega),k2,by dsimp only; rw [show ((k:Int)-1+1).toNat=k from by omega]; exact k3⟩ rfl
theorem Qcq {i:Nat} {s:ByteArray} (h:∀ i,i<256->(s[i]?).map (·.toNat)=some (sz i)) (hi:i<256):(s[i]?).map (·.toNat)=some (sz i):=h i hi
set_option maxRecDepth 100000 in
theorem Qyn {x:Nat} (hx:x<4294967296):Uh Tryz.prog 263 [.one (.int .u32 (x:Int))] [.one (.int .i64 (sz x:Int))]:=by
 refine Ha Tryz.func263 rfl ?_;have h31:sz x<=32:=Mp.2 (by omega);by_cases h1:65536<=x
 ·have e1:sz x=16+sz (x / 2^16):=Qd7 (by omega);obtain ⟨y,hy⟩:=nmE (x / 2^16);rw [<-hy] at e1;by_cases h2:256<=y
  ·have e2:sz y=8+sz (y / 2^8):=Qd7 (by omega);obtain ⟨z,hz⟩:=nmE (y / 2^8);rw [<-hz] at e2;exact en tt [.t (by simp; omega),.i 16,.r 6 (Cm (b:=(y:Int)) (by simp [hy])),.t (by simp; omega),.i 8,.r 10 (Cm (b:=(z:Int)) (by simp [hz])),.y (Qcq (i:=z) (by decide) (by omega))] rfl (by rw [e1,e2]; simp; omega) (by simp [Uf,Gq,IntKind.bits] <;> omega)
  ·exact en tt [.t (by simp; omega),.i 16,.r 6 (Cm (b:=(y:Int)) (by simp [hy])),.f (by simp; omega),.y (Qcq (i:=y) (by decide) (by omega))] rfl (by rw [e1]; simp) (by simp [Uf,Gq,IntKind.bits] <;> omega)
 ·by_cases h2:256<=x
  ·have e2:sz x=8+sz (x / 2^8):=Qd7 (by omega);obtain ⟨z,hz⟩:=nmE (x / 2^8);rw [<-hz] at e2;exact en tt [.f (by simp; omega),.t (by simp; omega),.i 8,.r 10 (Cm (b:=(z:Int)) (by simp [hz])),.y (Qcq (i:=z) (by decide) (by omega))] rfl (by rw [e2]; simp) (by simp [Uf,Gq,IntKind.bits] <;> omega)
  ·exact en tt [.f (by simp; omega),.f (by simp; omega),.y (Qcq (i:=x) (by decide) (by omega))] rfl (by simp) (by simp [Uf,Gq,IntKind.bits] <;> omega)
theorem Zhq {x:Nat} (hx:x<4294967296):Uh Tryz.prog 271 [.one (.int .u32 (x:Int))] [.one (.int .i64 ((32-sz x:Nat):Int))]:=by
 have h31:sz x<=32:=Mp.2 (by omega);exact w tt Tryz.func271 rfl [.c [] (Qyn hx)] rfl (by simp; omega) (by simp [Uf,Gq] <;> omega)
theorem Qu9 {l:List Nat} (hl:Sm l) (hs:sz (val l)<=4294967296):Uh Tryz.prog 225 [lr l] [.one (.int .i64 (sz (val l):Int))]:=by
 refine Ha Tryz.func225 rfl ?_;obtain ⟨p,ca,np,vp,_,ep⟩:=Qe0 hl;have hp:=H9 hs;rw [<-ep] at hp;rw [<-vp] at hs ⊢;by_cases h0:p=[]
 ·subst h0;exact en tt [.c [] ca,.t (by simp [lm])] rfl rfl (by simp [Uf,Gq])
 ·have hpl:0<p.length:=Jz.2 h0;obtain ⟨x,hx,hx0⟩:=np.2 h0;have xb:=np.1 x (Qa hx);have e:=Qx0 np hx;have h31:sz x<=32:=Mp.2 (by omega);have hn:(lm p).length≠0:=by rw [Uj]; omega
  refine en tt [.c [] ca,.f (by simp [Uj]; omega),.r 15 (eI (b:=((p.length-1:Nat):Int)) (by rw [Uj]; omega)),.x (Fp hx),.c [] (Qyn xb)] rfl (by rw [e,Uj]; simp; omega) (by simp [Uf,Gq,Uj] <;> omega)
theorem Qtr {s:Nat} (h:s<=31):((s:Nat):Int).tdiv 32=((0:Nat):Int):=by
 rw [Vy (by omega)]; omega
theorem Q9o {s:Nat} (h:s<=31):((s:Nat):Int).tmod 32=(s:Int):=Int.tmod_eq_of_lt (by omega) (by omega)
theorem Zi4 {s:Nat} (h:s<=31):max 0 (min (s:Int) 65536)=(s:Int):=by omega
theorem Zk5 {a:List Nat} {s:Nat} (ha:Sm a) (h1:sz (val a)<=4294967400) (hs:s<=31):Uh Tryz.prog 289 [lr a,.one (.int .i64 (s:Int))] [lr (U3 (val a*2^s))]:=by
 refine Ha Tryz.func289 rfl ?_;obtain ⟨p,ca,np,vp,_,ep⟩:=Qe0 ha;have hp:=H9 h1;rw [<-ep] at hp;rw [<-vp];have hq:((s:Nat):Int).tdiv 32=0:=Qtr hs;by_cases h0:p=[]
 ·subst h0;exact en tt [.c [] ca,.t (by simp [lm])] rfl (by simp [val,Gf,lm]) (by simp [Uf,Gq])
 have hpl:0<p.length:=Jz.2 h0;refine go tt [.c [] ca,.r 15 (eI (b:=(s:Int)) (Zi4 hs)),.f (by simp [Uj]; omega),.r 20 (eI (b:=((0:Nat):Int)) (Qtr hs)),.r 22 (eI (b:=(s:Int)) (Q9o hs)),.r 28 (eI (b:=(((lm p).length+1:Nat):Int)) (by omega)),.i ((lm p).length+1),.i ((lm p).length+1)] rfl (by have e:=Uj p; simp only [Uf,Gq]; omega) ?_;rw [Qce];refine lp (S:=Nat×List Nat) 1 (λL1 s=>(32,.v (.one (.int .i64 (s.1:Int))))::L1) (λs=>[.row false 217 1 (lm s.2)]) (λs=>p.length-s.1)
  (λr=>r.1<=p.length/\r.2.length=p.length+1/\Sm r.2/\(∃ z,r.2[r.1]? = some z/\z<2^s)/\val (r.2.take (r.1+1))=val (p.take r.1)*2^s) (0,List.replicate ((lm p).length+1) 0)
  ⟨Qg _,by simp [Uj],λx hx=>by rw [Zs hx]; decide,⟨0,by simp,Zx (by decide)⟩,by simp [val,J0]⟩ rfl (λ_ _=>rfl) rfl λ⟨i,o⟩ ⟨j1,j2,j3,⟨z,hz,hzs⟩,j5⟩=>?_
 dsimp only at j1 j2 j3 hz hzs j5 ⊢;by_cases hi:i<p.length
 ·obtain ⟨x,hx⟩:=gxE (l:=p) (i:=i) hi;have xb:=np.1 x (Qa hx);have zb:=j3 z (Qa hz);obtain ⟨k1,k2,k3,k4⟩:=Zab hs hx xb hz hzs (by omega) j5;have hxs:=Zjp hs xb;have h31:2^s<=2^31:=Zq (by decide) hs;have ec:(x:Int)*2^s=((x*2^s:Nat):Int):=by push_cast; rfl
  obtain ⟨m,hm⟩:=nmE (x*2^s);rw [<-hm] at k1 k2 k3 k4 hxs ec;refine go tt [.t (by simp [Uj]; omega),.x (Fp hx),.i s,.r 40 (Bb (b:=(m:Int)) ec),.i i,.x (Fp hz),.w 0,.r 52 (Cm (b:=((m % 4294967296:Nat):Int)) (by rw [w32]; omega)),.r 53 (Cm (b:=((z+m % 4294967296:Nat):Int)) (by rw [k4,o32 hzs zb (by omega) (by omega)])),.i i,
   .i 32,.r 61 (Bb (b:=((m / 2^32:Nat):Int)) (by simp)),.w 0,.r 62 (Cm (b:=((m / 2^32 % 4294967296:Nat):Int)) (by rw [w32]; omega)),.i (i+1)] rfl (by simp [Uf,Gq,Uj,IntKind.bits,ec] <;> omega) ?_
  rw [M5,M5];exact rd (i+1,(o.set i (z+m % 4294967296)).set (i+1) (m / 2^32 % 4294967296)) (show p.length-(i+1)<p.length-i by omega) ⟨hi,by simp [j2],Mh (Mh j3 _ _ (by omega)) _ _ (by omega),⟨_,by rw [X7 (by simp; omega)],by omega⟩,k3⟩ rfl
 ·obtain rfl:i=p.length:=by omega
  rw [Qj (by omega),Qj (Qm _)] at j5;rw [<-j5];exact en tt [.f (by simp [Uj]),.c [] (Qbf j3)] rfl rfl trivial
theorem Zk6 {a:List Nat} {s:Nat} (ha:Sm a) (h1:sz (val a)<=4294967400) (hs:s<=31):Uh Tryz.prog 274 [lr a,.one (.int .i64 (s:Int))] [lr (U3 (val a / 2^s))]:=by
 refine Ha Tryz.func274 rfl ?_;obtain ⟨p,ca,np,vp,_,ep⟩:=Qe0 ha;have hp:=H9 h1;rw [<-ep] at hp;rw [<-vp];have hq:((s:Nat):Int).tdiv 32=0:=Qtr hs;by_cases h0:p=[]
 ·subst h0;exact en tt [.c [] ca,.r 14 (eI (b:=(s:Int)) (Zi4 hs)),.r 16 (eI (b:=((0:Nat):Int)) (Qtr hs)),.r 18 (eI (b:=(s:Int)) (Q9o hs)),.t (by simp [lm])] rfl (by simp [val,Gf,lm]) (by simp only [Uf,Gq]; omega)
 have hpl:0<p.length:=Jz.2 h0;refine go tt [.c [] ca,.r 14 (eI (b:=(s:Int)) (Zi4 hs)),.r 16 (eI (b:=((0:Nat):Int)) (Qtr hs)),.r 18 (eI (b:=(s:Int)) (Q9o hs)),.f (by simp [Uj]; omega),.r 27 (eI (b:=((lm p).length:Int)) (by omega)),.i (lm p).length,.i (lm p).length] rfl (by have e:=Uj p; simp only [Uf,Gq]; omega) ?_;rw [Qce];refine lp (S:=Nat×List Nat) 1 (λL1 s=>(31,.v (.one (.int .i64 (s.1:Int))))::L1) (λs=>[.row false 217 1 (lm s.2)]) (λs=>p.length-s.1)
  (λr=>r.1<=p.length/\r.2.length=p.length/\Sm r.2/\val (r.2.take r.1)=val p / 2^s % 4294967296^r.1) (0,List.replicate (lm p).length 0)
  ⟨Qg _,by simp [Uj],λx hx=>by rw [Zs hx]; decide,by simp [val]; omega⟩ rfl (λ_ _=>rfl) rfl λ⟨i,o⟩ ⟨j1,j2,j3,j5⟩=>?_
 dsimp only at j1 j2 j3 j5 ⊢;by_cases hi:i<p.length
 ·obtain ⟨x,hx⟩:=gxE (l:=p) (i:=i) hi;have xb:=np.1 x (Qa hx);have fin:∀ y m,(p[i+1]? = some y\/p.length<=i+1/\y=0)->m=(x+y*2^32) / 2^s->p.length-(i+1)<p.length-i/\i+1<=p.length/\(o.set i (m % 4294967296)).length=p.length/\Sm (o.set i (m % 4294967296))/\val ((o.set i (m % 4294967296)).take (i+1))=val p / 2^s % 4294967296^(i+1):=λy m hy hm =>
   ⟨by omega,hi,by simp [j2],Mh j3 _ _ (by omega),by subst hm; exact Zac hs hx hy (by omega) np.1 j5⟩
  have hsp:0<2^s:=Zx (by decide);by_cases hy0:i+1<p.length
  ·obtain ⟨y,hy⟩:=gxE (l:=p) (i:=i+1) hy0;have yb:=np.1 y (Qa hy);obtain ⟨v,hv⟩:=nmE (4294967296*y+x);obtain ⟨m,hm⟩:=nmE (v / 2^s);have hml:m<=v:=hm ▸ Jx _ _;have hf:=fin y m (.inl hy) (by rw [hm,hv]; congr 1; omega);refine go tt [.t (by simp [Uj]; omega),.x (Fp hx),.t (by simp [Uj]; omega),.x (Fp hy),.i 32,.r 57 (Bb (b:=((4294967296*y:Nat):Int)) (by omega)),.r 58 (Bb (b:=(v:Int)) (by rw [oM xb (by omega)]; omega)),
    .i s,.r 63 (Bb (b:=(m:Int)) (by rw [hm]; push_cast; rfl)),.w 0,.r 64 (Cm (b:=((m % 4294967296:Nat):Int)) (by rw [w32]; omega)),.i i] rfl (by simp [Uf,Gq,Uj,IntKind.bits] <;> omega) ?_
   rw [M5];exact rd (i+1,o.set i (m % 4294967296)) hf.1 hf.2 rfl
  ·obtain ⟨m,hm⟩:=nmE (x / 2^s);have hml:m<=x:=hm ▸ Jx _ _;have hf:=fin 0 m (.inr ⟨by omega,rfl⟩) (by rw [hm]; simp);refine go tt [.t (by simp [Uj]; omega),.x (Fp hx),.f (by simp [Uj]; omega),
    .i s,.r 63 (Bb (b:=(m:Int)) (by rw [hm]; push_cast; rfl)),.w 0,.r 64 (Cm (b:=((m % 4294967296:Nat):Int)) (by rw [w32]; omega)),.i i] rfl (by simp [Uf,Gq,Uj,IntKind.bits] <;> omega) ?_
   rw [M5];exact rd (i+1,o.set i (m % 4294967296)) hf.1 hf.2 rfl
 ·obtain rfl:i=p.length:=by omega
  have hvl:=Cc p np.1;rw [Qj (by omega),X4 (Zz (Jx _ _) hvl)] at j5;rw [<-j5];exact en tt [.f (by simp [Uj,j2]),.c [] (Qbf j3)] rfl rfl trivial
def dgs:Nat->Nat->List Nat
 | 0,_=>[]
 | k+1,v=>v % 4294967296::dgs k (v / 4294967296)
theorem Q6r:∀ {l:List Nat},Sm l->l=dgs l.length (val l)
 | [],_=>rfl
 |
  x::l,h=>by
  have hx:=h x (.head _);have ih:=Q6r (l:=l) λy hy=>h y (.tail _ hy)
  simp only [Q7,dgs,val];rw [show (x+4294967296*val l) % 4294967296=x by omega,show (x+4294967296*val l) / 4294967296=val l by omega,<-ih]
theorem Qv2 {l:List Nat} {k v:Nat} (h:Sm l) (hk:l.length=k) (hv:val l=v):dgs k v=l:=by
 rw [<-hk,<-hv]; exact (Q6r h).symm
theorem Qon:∀ {k v:Nat},(dgs k v).length=k/\Sm (dgs k v)/\(v<4294967296^k->val (dgs k v)=v)
 | 0,v=>⟨rfl,λx hx=>by (cases hx),λh=>by simp at h; subst h; rfl⟩
 |
  k+1,v=>by
  obtain ⟨h1,h2,h3⟩:=Qon (k:=k) (v:=v / 4294967296);refine ⟨by simp [dgs,h1],λx hx=>?_,λh=>?_⟩
  ·rcases Qo.1 hx with rfl | hx
   ·exact Xd _ (by decide)
   ·exact h2 x hx
  ·simp only [dgs,val];rw [h3 (by rw [Zm] at h; exact X6 (by rw [Zj]; exact h))];omega
theorem Q57 {a:List Nat} {s n:Nat} (ha:Sm a) (h1:sz (val a)<=4294967400) (hs:s<=31) (hn:n<274877906944) (h0:0<n) (hv:val a*2^s<4294967296^n) :
 Mv Tryz.prog 272 [lr a,.one (.int .i64 (s:Int)),.one (.int .i64 (n:Int))] [] [.one (.orow 0 1 none)] [.row false 217 1 (lm (dgs n (val a*2^s)))]:=by
 refine Ha Tryz.func272 rfl ?_;obtain ⟨v,hvv⟩:=nmE (val a*2^s);have cs:=Zk5 ha h1 hs;rw [<-hvv] at cs hv ⊢;have hl:(U3 v).length<=n:=by
  apply Classical.byContradiction;intro hh;have h2:=Qdi (Da v) (λe=>by rw [e] at hh; simp at hh);rw [Fv] at h2;have h3:4294967296^n<=4294967296^((U3 v).length-1):=Zq (by decide) (by omega);omega
 refine go tt [.i n,.i n,.c [] cs,.s (Q76 (U3 v)),.i (U3 v).length] rfl (by simp [Uf,Gq,Uj] <;> omega) ?_;have e:List.take 0 (List.replicate n [LV.int .u32 0])++(List.take (U3 v).length (lm (U3 v))++List.drop (0+(U3 v).length) (List.replicate n [LV.int .u32 0]))=lm (dgs n v):=by
  rw [Qv2 (l:=U3 v++List.replicate (n-(U3 v).length) 0) (λx hx=>?_) (by simp; omega) (by rw [Mj,Qf0,Fv]; simp)]
  ·rw [Vr,Ys,Qj (by rw [Uj]; exact Qm _)];simp [lm]
  ·rcases Qw.1 hx with hx | hx
   ·exact By v x hx
   ·rw [Zs hx]; decide
 rw [e];exact ed tt [] [0] [] rfl trivial
theorem Qlg {pre x post:List Nat} {i u:Nat} (h:x[i]? = some u):(lm (pre++x++post))[pre.length+i]? = some [.int .u32 (u:Int)]:=Fp (by
 have hi:=(Qc.1 h).1;rw [Ze,Xm (by omega),Je,Zo hi]; exact h)
theorem Za5 {pre x post:List Nat} {i v:Nat} (h:i<x.length):(lm (pre++x++post)).set (pre.length+i) [.int .u32 (v:Int)]=lm (pre++x.set i v++post):=by
 rw [M5,Ze,List.set_append_right _ _ (by omega),Je,List.set_append_left _ _ h,<-Ze]
theorem Zce {pre x post ly:List Nat} {top nx xn x1 x2:Nat} (D:Dig x ly ly.length top nx xn x1 x2) (hn:ly.length<274877906944) :
 Mv Tryz.prog 273 [.one (.orow 0 1 (some (pre.length,x.length))),lr ly] [.row true 217 1 (lm (pre++x++post))] [.one (.int .u32 ((val x / val ly:Nat):Int))] [.row true 217 1 (lm (pre++dgs x.length (val x % val ly)++post))]:=by
 refine Ha Tryz.func273 rfl ?_;have hxl:=D.hx;have hn2:=D.hn;have hb:=D.bnd;obtain ⟨head,hh⟩:=nmE (xn*2^32+x1);obtain ⟨g0,hg0⟩:=nmE (head / top);obtain ⟨r0,hr0⟩:=nmE (head % top);have hst:=D.start;rw [<-hh,<-hg0] at hst;have ht0:=D.top0;have hg0l:g0<=head:=hg0 ▸ Jx _ _;have hr0l:r0<top:=hr0 ▸ Xd _ ht0;have htd:(head:Int).tdiv top=(g0:Int):=by rw [Vy (by omega),hg0]; rfl
 have htm:(head:Int).tmod top=(r0:Int):=by rw [Yu (by omega),hr0]; rfl
 refine go tt [.r 23 (eI (b:=(ly.length:Int)) (by rw [Uj])),.r 26 (eI (b:=((ly.length-1:Nat):Int)) (by omega)),.x (Fp D.ltop),.r 32 (eI (b:=((ly.length-2:Nat):Int)) (by omega)),.x (Fp D.lnx),
  .i ly.length,.x (Qlg D.xn),.i 32,.r 41 (Bb (b:=((4294967296*xn:Nat):Int)) (by omega)),.r 44 (eI (b:=((ly.length-1:Nat):Int)) (by omega)),.i (ly.length-1),.x (Qlg D.x1),.r 48 (Bb (b:=(head:Int)) (by rw [o64 hb.2.2.2.1 (by omega)]; omega)),
  .r 51 (Bb (b:=(g0:Int)) htd),.r 54 (Bb (b:=(r0:Int)) htm)] rfl ?_ ?_
 ·simp only [Uf,Gq,htd,IntKind.bits]; omega
 refine ct 2 (S:=Nat) (λg=>[(0,.v (.one (.orow 0 1 (some (pre.length,x.length))))),(1,.v (lr ly)),(5,.v (.one (.int .i64 (ly.length:Int)))),(9,.v (.one (.int .u64 (g:Int))))]) (λ_=>[.row true 217 1 (lm (pre++x++post))]) (λg=>val x / val ly<=g/\(g-1)*val ly<=val x/\g<=4294967296) rfl ?_ ?_
 ·refine lp (S:=Nat×Nat) 1 (λL1 s=>(9,.v (.one (.int .u64 (s.1:Int))))::(10,.v (.one (.int .u64 (s.2:Int))))::L1) (λ_=>[.row true 217 1 (lm (pre++x++post))]) (λs=>4294967296-s.2)
   (λs=>s.1*top+s.2=xn*2^32+x1/\val x / val ly<=s.1/\s.2<4294967296/\s.1<18446744073709551616) (g0,r0)
   ⟨by rw [<-hh,hg0,hr0,Nat.mul_comm]; exact Nat.div_add_mod _ _,hst,by dsimp only; omega,by dsimp only; omega⟩ rfl (λ_ _=>rfl) rfl λ⟨g,r⟩ ⟨j1,j2,j3,j4⟩=>?_
  dsimp only at j1 j2 j3 j4 ⊢;by_cases hge:4294967296<=g
  ·have hrd:=D.round j1 j2 (.inl hge);by_cases h2:4294967296<=r+top
   ·exact go tt [.t (by simp; omega),.t rfl,.r 73 (Bb (b:=((g-1:Nat):Int)) (by omega)),.t (by simp; omega)] rfl (by simp [Uf,Gq] <;> omega) (rc (g-1) ⟨hrd.2.1,(hrd.2.2.2 h2).1,(hrd.2.2.2 h2).2⟩ rfl)
   ·exact go tt [.t (by simp; omega),.t rfl,.r 73 (Bb (b:=((g-1:Nat):Int)) (by omega)),.f (by simp; omega)] rfl (by simp [Uf,Gq] <;> omega) (rd (g-1,r+top) (by dsimp only; omega) ⟨hrd.2.2.1,hrd.2.1,by dsimp only; omega,by dsimp only; omega⟩ rfl)
  ·have hgn:=Oi (x:=g) (y:=nx) (by omega) hb.2.1;by_cases hc:r*2^32+x2<g*nx
   ·have hrd:=D.round j1 j2 (.inr hc);have e1:(g:Int)*(nx:Int)=((g*nx:Nat):Int):=by push_cast; rfl
    obtain ⟨m,hm⟩:=nmE (g*nx);rw [<-hm] at e1 hgn hc;by_cases h2:4294967296<=r+top
    ·exact go tt [.f (by simp; omega),.r 60 (Bb (b:=(m:Int)) e1),.i 32,.r 62 (Bb (b:=((4294967296*r:Nat):Int)) (by omega)),.r 65 (eI (b:=((ly.length-2:Nat):Int)) (by omega)),.i (ly.length-2),.x (Qlg D.x2),.r 69 (Bb (b:=((4294967296*r+x2:Nat):Int)) (o64 hb.2.2.2.2 (by omega))),.t (by simp; omega),.r 73 (Bb (b:=((g-1:Nat):Int)) (by omega)),.t (by simp; omega)] rfl (by simp only [Uf,Gq,e1,IntKind.bits]; omega) (rc (g-1) ⟨hrd.2.1,(hrd.2.2.2 h2).1,(hrd.2.2.2 h2).2⟩ rfl)
    ·exact go tt [.f (by simp; omega),.r 60 (Bb (b:=(m:Int)) e1),.i 32,.r 62 (Bb (b:=((4294967296*r:Nat):Int)) (by omega)),.r 65 (eI (b:=((ly.length-2:Nat):Int)) (by omega)),.i (ly.length-2),.x (Qlg D.x2),.r 69 (Bb (b:=((4294967296*r+x2:Nat):Int)) (o64 hb.2.2.2.2 (by omega))),.t (by simp; omega),.r 73 (Bb (b:=((g-1:Nat):Int)) (by omega)),.f (by simp; omega)] rfl (by simp only [Uf,Gq,e1,IntKind.bits]; omega) (rd (g-1,r+top) (by dsimp only; omega) ⟨hrd.2.2.1,hrd.2.1,by dsimp only; omega,by dsimp only; omega⟩ rfl)
   ·have hf:=D.fin j1 (by omega) (by omega);have e1:(g:Int)*(nx:Int)=((g*nx:Nat):Int):=by push_cast; rfl
    obtain ⟨m,hm⟩:=nmE (g*nx);rw [<-hm] at e1 hgn hc;exact go tt [.f (by simp; omega),.r 60 (Bb (b:=(m:Int)) e1),.i 32,.r 62 (Bb (b:=((4294967296*r:Nat):Int)) (by omega)),.r 65 (eI (b:=((ly.length-2:Nat):Int)) (by omega)),.i (ly.length-2),.x (Qlg D.x2),.r 69 (Bb (b:=((4294967296*r+x2:Nat):Int)) (o64 hb.2.2.2.2 (by omega))),.f (by simp; omega)] rfl (by simp only [Uf,Gq,e1,IntKind.bits]; omega) (rc g ⟨j2,hf,by omega⟩ rfl)
 ·intro g ⟨q1,q2,q3⟩;refine go tt [.r 80 (eI (b:=(ly.length:Int)) (by rw [Uj]))] rfl trivial ?_;refine lp (S:=Nat×List Nat×Nat×Nat) 1 (λL1 s=>(81,.v (.one (.int .i64 (s.1:Int))))::(11,.v (.one (.int .u64 (s.2.2.1:Int))))::(12,.v (.one (.int .u64 (s.2.2.2:Int))))::L1) (λs=>[.row true 217 1 (lm (pre++s.2.1++post))]) (λs=>ly.length-s.1)
   (λs=>s.1<=ly.length/\s.2.1.length=ly.length+1/\Sm s.2.1/\s.2.2.2<=1/\s.2.2.1<4294967296/\val (s.2.1.take s.1)+g*val (ly.take s.1)=val (x.take s.1)+(s.2.2.1+s.2.2.2)*4294967296^s.1/\s.2.1.drop s.1=x.drop s.1) (0,x,0,0)
   ⟨Qg _,hxl,D.xb,Qg _,by simp,by simp [val],rfl⟩ rfl (λ_ _=>rfl) rfl λ⟨i,o,cy,bw⟩ ⟨j1,j2,j3,j4,j5,j6,j7⟩=>?_
  dsimp only at j1 j2 j3 j4 j5 j6 j7 ⊢;by_cases hi:i<ly.length
  ·obtain ⟨w1,hw1⟩:=gxE (l:=ly) (i:=i) hi;obtain ⟨u,hu⟩:=gxE (l:=x) (i:=i) (by omega);have wb:=D.lb w1 (Qa hw1);have ub:=D.xb u (Qa hu);have hou:=(Qc3 j7).trans hu;have hgw:g*w1<=18446744069414584320:=by
    have:=Zw q3 (show w1<=4294967295 by omega);omega
   obtain ⟨s,hs⟩:=nmE (((u+18446744073709551616-(g*w1+cy) % 4294967296) % 18446744073709551616+18446744073709551616-bw) % 18446744073709551616);have hstep:=Qpg (o:=o) (by omega) hu hw1 ub j4 j6 rfl hs;have e1:(g:Int)*(w1:Int)=((g*w1:Nat):Int):=by push_cast; rfl
   obtain ⟨m,hm⟩:=nmE (g*w1);rw [<-hm] at e1 hgw hs hstep;obtain ⟨p,hp⟩:=nmE (m+cy);rw [<-hp] at hs hstep;refine go tt [.t (by simp; omega),.x (Fp hw1),.r 89 (Bb (b:=(m:Int)) e1),.r 91 (Bb (b:=(p:Int)) (by omega)),.i 32,.r 93 (Bb (b:=((p / 2^32:Nat):Int)) (by simp)),.i i,.x (Qlg hou),.w 1,.r 100 (Cm (b:=((p % 4294967296:Nat):Int)) (by rw [w32]; omega)),.w 1,.r 102 (Bb (b:=(((u+18446744073709551616-p % 4294967296) % 18446744073709551616:Nat):Int)) (by rw [w64]; omega)),.w 0,.r 104 (Bb (b:=(s:Int)) (by rw [w64]; omega)),
    .w 0,.r 108 (Cm (b:=((s % 4294967296:Nat):Int)) (by rw [w32]; omega)),.i 63,.r 110 (Bb (b:=((s / 2^63:Nat):Int)) (by simp)),.i i] rfl (by simp only [Uf,Gq,e1,IntKind.bits,Uj,Q6]; omega) ?_
   rw [Za5 (by omega)];exact rd (i+1,o.set i (s % 4294967296),p / 2^32,s / 2^63) (by dsimp only; omega) ⟨hi,by simp [j2],Mh j3 _ _ (by omega),hstep.2,by dsimp only; omega,hstep.1,Qlu j7⟩ rfl
  ·obtain rfl:i=ly.length:=by omega
   have hon:=(Qc3 j7).trans D.xn;rw [Qj (l:=ly) (Qm _)] at j6;obtain ⟨s,hs⟩:=nmE (((xn+18446744073709551616-cy) % 18446744073709551616+18446744073709551616-bw) % 18446744073709551616);obtain ⟨oa,hoa⟩:=nmE (o.set ly.length (s % 4294967296));have oal:oa.length=ly.length+1:=by rw [hoa,Jl]; exact j2
   have oab:Sm oa:=hoa ▸ Mh j3 _ _ (by omega);by_cases hs0:s / 2^63=0
   ·have hf:=D.fin0 j2 j5 j4 q1 j6 hs hs0;refine go tt [.f (by simp),.i ly.length,.x (Qlg hon),.w 1,.r 119 (Bb (b:=(((xn+18446744073709551616-cy) % 18446744073709551616:Nat):Int)) (by rw [w64]; omega)),.w 0,.r 121 (Bb (b:=(s:Int)) (by rw [w64]; omega)),.w 0,.r 125 (Cm (b:=((s % 4294967296:Nat):Int)) (by rw [w32]; omega)),.i ly.length,.i 63,.r 128 (Bb (b:=((s / 2^63:Nat):Int)) (by simp)),.t (by simp; omega),.w 0,.r 131 (Cm (b:=((val x / val ly:Nat):Int)) (by rw [w32]; omega))] rfl (by simp only [Uf,Gq,IntKind.bits,Uj,Q6]; omega) ?_;rw [Za5 (by omega),<-Qv2 (l:=o.set ly.length (s % 4294967296)) (k:=x.length) (hoa ▸ oab) (by rw [<-hoa,oal,hxl]) hf.2];exact ed tt [] [0] [] rfl trivial
   ·have hf:=D.fin1 j2 j3 j5 j4 q2 j6 hs hs0;rw [<-hoa] at hf;obtain ⟨v1,hv1⟩:=gxE (l:=oa) (i:=ly.length) (by omega);refine go tt [.f (by simp),.i ly.length,.x (Qlg hon),.w 1,.r 119 (Bb (b:=(((xn+18446744073709551616-cy) % 18446744073709551616:Nat):Int)) (by rw [w64]; omega)),.w 0,.r 121 (Bb (b:=(s:Int)) (by rw [w64]; omega)),.w 0,.r 125 (Cm (b:=((s % 4294967296:Nat):Int)) (by rw [w32]; omega)),.i ly.length,.i 63,.r 128 (Bb (b:=((s / 2^63:Nat):Int)) (by simp)),.f (by simp; omega),.r 133 (eI (b:=(ly.length:Int)) (by rw [Uj]))] rfl (by simp only [Uf,Gq,IntKind.bits,Uj,Q6]; omega) ?_;rw [Za5 (by omega),<-hoa];refine lp (S:=Nat×List Nat×Nat) 1 (λL1 s=>(134,.v (.one (.int .i64 (s.1:Int))))::(18,.v (.one (.int .u64 (s.2.2:Int))))::L1) (λs=>[.row true 217 1 (lm (pre++s.2.1++post))]) (λs=>ly.length-s.1)
     (λs=>s.1<=ly.length/\s.2.1.length=ly.length+1/\Sm s.2.1/\s.2.2<=1/\val (s.2.1.take s.1)+s.2.2*4294967296^s.1=val (oa.take s.1)+val (ly.take s.1)/\s.2.1.drop s.1=oa.drop s.1) (0,oa,0)
     ⟨Qg _,oal,oab,Qg _,by simp [val],rfl⟩ rfl (λ_ _=>rfl) rfl λ⟨j,o2,bk⟩ ⟨r1,r2,r3,r4,r5,r6⟩=>?_
    dsimp only at r1 r2 r3 r4 r5 r6 ⊢;by_cases hj:j<ly.length
    ·obtain ⟨w1,hw1⟩:=gxE (l:=ly) (i:=j) hj;obtain ⟨u,hu⟩:=gxE (l:=oa) (i:=j) (by omega);have wb:=D.lb w1 (Qa hw1);have ub:=oab u (Qa hu);have hou:=(Qc3 r6).trans hu;obtain ⟨m,hm⟩:=nmE (u+bk+w1);have hstep:=Qq7 (o:=o2) (by omega) hu (.inl hw1) r5 hm;refine go tt [.t (by simp; omega),.x (Fp hw1),.i j,.x (Qlg hou),.r 148 (Bb (b:=(m:Int)) (by omega)),.w 0,.r 152 (Cm (b:=((m % 4294967296:Nat):Int)) (by rw [w32]; omega)),.i 32,.r 154 (Bb (b:=((m / 4294967296:Nat):Int)) (by simp)),.i j] rfl (by simp only [Uf,Gq,IntKind.bits,Uj,Q6]; omega) ?_;rw [Za5 (by omega)];exact rd (j+1,o2.set j (m % 4294967296),m / 4294967296) (by dsimp only; omega) ⟨hj,by simp [r2],Mh r3 _ _ (by omega),by dsimp only; omega,hstep,Qlu r6⟩ rfl
    ·obtain rfl:j=ly.length:=by omega
     have hon2:=(Qc3 r6).trans hv1;have vb:=oab v1 (Qa hv1);rw [Qj (l:=ly) (Qm _)] at r5;have hf2:=D.fin2 oal oab r2 r3 hv1 r4 hf.2 r5;refine go tt [.f (by simp),.i ly.length,.x (Qlg hon2),.w 1,.r 165 (Cm (b:=(((v1+bk) % 4294967296:Nat):Int)) (by rw [w32]; omega)),.i ly.length,.w 0,.r 168 (Cm (b:=((g % 4294967296:Nat):Int)) (by rw [w32]; omega)),.w 0,.r 169 (Cm (b:=((val x / val ly:Nat):Int)) (Zme hf.1 D.qlt))] rfl (by simp only [Uf,Gq,IntKind.bits,Uj,Q6]; omega) ?_;rw [Za5 (by omega),<-Qv2 (l:=o2.set ly.length ((v1+bk) % 4294967296)) (k:=x.length) (Mh r3 _ _ (by omega)) (by rw [Jl,r2,hxl]) hf2];exact ed tt [] [0] [] rfl trivial
theorem Q5m {o ly:List Nat} {lo top nx xn x1 x2:Nat} (hlo:lo+(ly.length+1)<=o.length) (D:Dig (win o lo ly.length) ly ly.length top nx xn x1 x2) (hn:ly.length<274877906944) :
 Mv Tryz.prog 273 [.one (.orow 0 1 (some (lo,ly.length+1))),lr ly] [.row true 217 1 (lm o)] [.one (.int .u32 ((val (win o lo ly.length) / val ly:Nat):Int))] [.row true 217 1 (lm (o.take lo++dgs (ly.length+1) (val (win o lo ly.length) % val ly)++o.drop (lo+ly.length+1)))]:=by
 have:=Zce (pre:=o.take lo) (post:=o.drop (lo+ly.length+1)) D hn;have e1:(o.take lo).length=lo:=by rw [Qx]; omega
 have e2:=Qei (o:=o) (i:=lo) (n:=ly.length) (by omega);rw [e1,e2,Qa5] at this;exact this
theorem Qrc {a b:List Nat} (ha:Sm a) (hb:Sm b) (h1:sz (val a)<=4294967296) (h2:sz (val b)<=4294967296) (hy:0<val b):Uh Tryz.prog 237 [lr a,lr b] [lr (U3 (val a / val b)),lr (U3 (val a % val b)),.one (.int .i64 0)]:=by
 refine Ha Tryz.func237 rfl ?_;obtain ⟨p,ca,np,vp,_,ep⟩:=Qe0 ha;obtain ⟨q,cb,nq,vq,_,eq⟩:=Qe0 hb;have hp:=H9 h1;have hq:=H9 h2;rw [<-ep] at hp;rw [<-eq] at hq;rw [<-vp,<-vq];rw [<-vp] at h1;rw [<-vq] at h2 hy;have q0:q≠[]:=λe=>by rw [e] at hy; simp [val] at hy
 have qp:0<q.length:=Jz.2 q0;have c1:¬((lm q).length:Int)=0:=by rw [Uj]; omega
 by_cases hlt:p.length<q.length
 ·have hv:=Bi np nq hlt;rw [Vw hv,X4 hv,Gf];exact en tt [.c [] ca,.c [] cb,.f (by simpa using c1),.t (by simp [Uj]; omega),.c [] (Qev np.1 h1)] rfl rfl (by simp [Uf,Gq])
 by_cases hone:q.length=1
 ·obtain ⟨y,rfl⟩:∃ y,q=[y]:=by
   match q,hone with
   | [y],_=>exact ⟨y,rfl⟩
  have yb:=nq.1 y (.head _);have vy:val [y]=y:=by simp [val]
  rw [vy] at hy ⊢;have co:=Zld np.1 (by omega) hy yb;have sm:Sm [val p % y]:=λz hz=>by
   simp at hz; subst hz; exact Nat.lt_trans (Xd _ hy) yb
  have cc:=Qbf sm;rw [show val [val p % y]=val p % y from by simp [val]] at cc;exact en tt [.c [] ca,.c [] cb,.f (by simp [lm]),.f (by simp [Uj]; omega),.t (by simp [lm]),.x (Fp (l:=[y]) (i:=0) rfl),.c [] co,.c [] cc] rfl rfl (by simp [Uf,Gq])
 ·have hle:q.length<=p.length:=Y6 hlt;obtain ⟨y1,hy1,hy10⟩:=nq.2 q0;have y1b:=nq.1 y1 (Qa hy1);have hszy:=Qx0 nq hy1;have hsz1:sz y1<=32:=Mp.2 (by omega);have hsz0:0<sz y1:=Zj0 (by omega);obtain ⟨s,hs⟩:=nmE (32-sz y1);have hs31:s<=31:=by omega
  have Cm:(2:Nat)^32=4294967296:=by decide
  obtain ⟨x,hx⟩:=nmE (val p);obtain ⟨y,hyv⟩:=nmE (val q);have cl:=Zhq y1b;rw [<-hs] at cl;have hvx:val p*2^s<4294967296^(p.length+1):=by
   have h1:=Cc p np.1;rw [Zm];exact Xj (Xv h1 (show 0<2^s from Zx (by decide))) (Zl _ (by rw [<-Cm]; exact Zq (by decide) (by omega)))
  have hvy:val q*2^s<4294967296^q.length:=by
   have h1:=Qde (val q);rw [<-Cm,<-Ud];have h2:val q*2^s<2^sz (val q)*2^s:=Xv h1 (Zx (by decide));rw [<-Xh] at h2;rw [show 32*q.length=sz (val q)+s from by omega];exact h2
  have cx:=Q57 np.1 (show sz (val p)<=4294967400 by omega) hs31 (show p.length+1<274877906944 by omega) (by omega) hvx;have cy:=Q57 nq.1 (show sz (val q)<=4294967400 by omega) hs31 (show q.length<274877906944 by omega) qp hvy;obtain ⟨hXl,hXb,hXv⟩:=Qon (k:=p.length+1) (v:=val p*2^s);obtain ⟨hYl,hYb,hYv⟩:=Qon (k:=q.length) (v:=val q*2^s);have hXv:=hXv hvx;have hYv:=hYv hvy;obtain ⟨X,hX⟩:=nmE (dgs (p.length+1) (val p*2^s));obtain ⟨Y,hY⟩:=nmE (dgs q.length (val q*2^s));rw [<-hX] at hXl hXb hXv cx;rw [<-hY] at hYl hYb hYv cy;have hyB:4294967296^(q.length-1)<=val q:=Qdi nq q0;have hR:=Qxi hXv hYv hXl hXb hYl hYb (show 2<=q.length by omega) (Cc p np.1) hyB hle;refine go tt [.c [] ca,.c [] cb,.f (by simpa using c1),.f (by simp [Uj]; omega),.f (by simp [Uj]; omega),.r 49 (eI (b:=((q.length-1:Nat):Int)) (by rw [Uj]; omega)),.x (Fp hy1),.c [] cl,.r 57 (eI (b:=((p.length+1:Nat):Int)) (by rw [Uj]; omega)),.c [0] cx,.r 62 (eI (b:=(q.length:Int)) (by rw [Uj])),.c [1] cy,.r 65 (eI (b:=(q.length:Int)) (by rw [Uj,hYl])),.r 70 (eI (b:=((p.length-q.length+1:Nat):Int)) (by rw [Uj]; omega)),.i (p.length-q.length+1),.i (p.length-q.length+1),.r 73 (eI (b:=((p.length-q.length+1:Nat):Int)) (by simp))] rfl ?_ ?_
  ·simp only [Uf,Gq,IntKind.bits,Uj];omega
  ·rw [Qce];refine pb 1 rfl rfl ?_;refine lp (S:=Int×List Nat×List Nat) 3 (λL1 s=>(13,.v (.one (.int .i64 s.1)))::L1) (λs=>[.row false 217 1 (lm s.2.2),.gone,.row false 217 1 (lm s.2.1)]) (λs=>(s.1+1).toNat)
    (λs=>-1<=s.1/\s.1<p.length-q.length+1/\s.2.1.length=p.length-q.length+1/\Sm s.2.1/\Rest s.2.2 Y p.length q.length (s.1+1).toNat/\val (s.2.1.drop (s.1+1).toNat)*4294967296^(s.1+1).toNat*val Y+val s.2.2=val X) (((p.length-q.length+1:Nat):Int)-1,List.replicate (p.length-q.length+1) 0,X)
    ⟨by dsimp only; omega,by dsimp only; omega,by simp,λx hx=>by rw [List.eq_of_mem_replicate hx]; decide,by simpa using hR,by simp [val]⟩ rfl (λ_ _=>rfl) rfl λ⟨i,oq,ox⟩ ⟨j1,j2,j3,j4,j5,j6⟩=>?_
   dsimp only at j1 j2 j3 j4 j5 j6 ⊢;rcases Ky i 0 with hi | hi
   ·obtain rfl:i=-1:=by omega
    simp only [show ((-1:Int)+1).toNat=0 from rfl,Xl,Y7,Yn] at j5 j6;have hlt':val ox<val q*2^s:=by have:=j5.lt; rw [hYv] at this; simpa using this
    have hfin:=Q9p (x:=val p) (y:=val q) (s:=s) (r:=val ox) (q:=oq) hy (by rw [<-hXv,<-hYv]; exact j6) hlt';have hoxl:=j5.ol;have hox:=Qx2 (o:=ox) (n:=q.length) (by omega) (Nat.lt_trans hlt' hvy);have hszm:sz (val (ox.take q.length))<=4294967400:=by
     rw [hox,hfin.2];have h1:=Zao (val p % val q) (2^s);have h2':=Hl (Jo (Xd (val p) hy));have h3:sz (2^s)<=s+1:=Mp.2 (Nat.pow_lt_pow_right (by decide) (by omega));omega
    have cs:=Zk6 (a:=ox.take q.length) (λu hu=>j5.ob u (Ql hu)) hszm hs31;rw [hox,hfin.2,Nat.mul_div_cancel _ (Zx (by decide))] at cs;have cq:=Qbf j4;rw [hfin.1] at cq;exact en tt [.f (by decide),.p 2,.p 0,.c [] cq,.i q.length,.r 95 (v:=lr (ox.take q.length)) (by simp [lm]),.c [] cs] rfl rfl (by simp [Uf,Gq,Uj]; omega)
   ·obtain ⟨k,rfl⟩:=Yi hi;have e:((k:Int)+1).toNat=k+1:=by omega
    rw [e] at j5 j6;obtain ⟨top,nx,xn,x1,x2,D⟩:=j5.dig;have hoxl:=j5.ol;have hm:=j5.hm;have cd:=Q5m (o:=ox) (lo:=k) (by omega) (hYl.symm ▸ D) (by omega);rw [hYl] at cd;have hwl:=Qei (o:=ox) (i:=k) (n:=q.length) (by omega);have hwlt:val (win ox k q.length) % val Y<4294967296^(q.length+1):=by
     have h3:=Cc (win ox k q.length) D.xb;rw [hwl] at h3;exact Zz (Nat.mod_le _ _) h3
    obtain ⟨d1,d2,d3⟩:=Qon (k:=q.length+1) (v:=val (win ox k q.length) % val Y);have hnx:=j5.next (w':=dgs (q.length+1) (val (win ox k q.length) % val Y)) (d1.trans hwl.symm) d2 (d3 hwlt) (q:=oq) (by omega) j6;have hdg:=D.qlt;refine go tt [.t (by simp),.i k,.i (k+q.length+1),.r 87 (v:=.one (.orow 0 1 (some (k,q.length+1)))) (by rw [show k+q.length+1-k=q.length+1 by omega]),.c [0] cd,.i k] rfl ?_ ?_
    ·simp only [Uf,Uj]; omega
    ·rw [M5];refine rd ((k:Int)-1,oq.set k (val (win ox k q.length) / val Y),ox.take k++dgs (q.length+1) (val (win ox k q.length) % val Y)++ox.drop (k+q.length+1)) (by dsimp only; omega) ⟨by dsimp only; omega,by dsimp only; omega,by simp [j3],Mh j4 _ _ hdg,?_,?_⟩ rfl
     ·dsimp only; rw [show ((k:Int)-1+1).toNat=k from by omega]; exact hnx.1
     ·dsimp only; rw [show ((k:Int)-1+1).toNat=k from by omega]; exact hnx.2
def sg (z:Int):LV:=.bool (decide (z<0))
def mg (z:Int):LV:=.row (lm (U3 z.natAbs))
abbrev Gs (z:Int):List LV:=[sg z,mg z]
def Hp (x y:LV) (z:Int):Prop:=∃ b l,x=.bool b/\y=.row (lm l)/\Sm l/\z=Un b (val l)
theorem Uk (z:Int):Hp (sg z) (mg z) z:=by
 refine ⟨_,_,rfl,rfl,By _,?_⟩;rw [Fv];unfold Un;by_cases h:z<0 <;> simp [h] <;> omega
theorem Zi8 (b:Bool) (m:Nat):[LV.bool (b && decide (0<m)),LV.row (lm (U3 m))]=Gs (Un b m):=by
 simp only [Gs,sg,mg,Qjy,H7]
theorem Bf {m:Nat}:0<(U3 m).length↔0<m:=by
 rcases Qy m with h | h
 ·subst h; rw [Gf]; simp
 ·rw [C7 (by omega)]; simp [h]
theorem Sk (b:Bool) (m:Nat):Uh Tryz.prog 177 [lr (U3 m),.one (.bool b)] [.agg (Gs (Un b m))]:=by
 rw [<-Zi8];have e:=Bf (m:=m);cases b with
 | false=>exact w tt Tryz.func177 rfl [.f rfl] rfl rfl trivial
 | true=>exact w tt Tryz.func177 rfl [.t rfl] rfl (by simp [Uj,e]) trivial
theorem Pd {b:Bool} {m:Nat} {k:Nat} (h:Ur (Un b m)<=k):sz m<=k:=by
 unfold Ur at h; rwa [H7] at h
theorem Ao {x y:LV} {z:Int} (hi:Hp x y z) (hs:Ur z<=4294967295):Uh Tryz.prog 129 [.agg [x,y]] [.agg (Gs z)]:=by
 obtain ⟨b,l,rfl,rfl,hl,rfl⟩:=hi;exact w tt Tryz.func129 rfl [.c [] (Qev hl (Qd (Pd hs) (by decide))),.c [] (Sk _ _)] rfl rfl trivial
theorem Qc5 (b:Bool) (m:Nat):Un (!b) m=-(Un b m):=by unfold Un; cases b <;> simp
theorem Qlh {x y:LV} {z:Int} (hi:Hp x y z) (hs:Ur z<=4294967295):Uh Tryz.prog 128 [.agg [x,y]] [.agg (Gs (-z))]:=by
 obtain ⟨b,l,rfl,rfl,hl,rfl⟩:=hi;rw [<-Qc5];exact w tt Tryz.func128 rfl [.c [] (Qev hl (Qd (Pd hs) (by decide))),.c [] (Sk _ _)] rfl rfl trivial
theorem Dk {x y x' y':LV} {z z':Int} (hi:Hp x y z) (hi':Hp x' y' z') (hs:Ur z<=4294967295) (hs':Ur z'<=4294967295):Uh Tryz.prog 204 [.agg [x,y],.agg [x',y']] [.agg (Gs (z*z'))]:=by
 obtain ⟨b,l,rfl,rfl,hl,rfl⟩:=hi;obtain ⟨b',l',rfl,rfl,hl',rfl⟩:=hi';have e:Un b (val l)*Un b' (val l')=Un (b != b') (val l*val l'):=by
  unfold Un; cases b <;> cases b' <;> simp [Int.neg_mul,Int.mul_neg]
 rw [e];exact w tt Tryz.func204 rfl [.c [] (Zkz hl hl' (Qd (Pd hs) (by decide)) (Qd (Pd hs') (by decide))),.c [] (Sk _ _)] rfl rfl trivial
theorem Qij {a b:List Nat} (ha:Sm a) (hb:Sm b) (h1:sz (val a)<=4294967296) (h:val b<=val a):Uh Tryz.prog 276 [lr a,lr b] [lr (U3 (val a-val b)),.one (.bool true)]:=by
 have:=Zgc ha hb h1; rwa [if_pos h] at this
theorem Q5i {a b:List Nat} (ha:Sm a) (hb:Sm b) (h1:sz (val a)<=4294967296) (h:val a<val b):Uh Tryz.prog 276 [lr a,lr b] [lr [],.one (.bool false)]:=by
 have:=Zgc ha hb h1; rwa [if_neg (by omega)] at this
theorem Qik {x y x' y':LV} {z z':Int} (hi:Hp x y z) (hi':Hp x' y' z') (hs:Ur z<=4294967295) (hs':Ur z'<=4294967295):Uh Tryz.prog 239 [.agg [x,y],.agg [x',y']] [.agg (Gs (z+z'))]:=by
 obtain ⟨b,l,rfl,rfl,hl,rfl⟩:=hi;obtain ⟨b',l',rfl,rfl,hl',rfl⟩:=hi';have s1:=Qd (Pd hs) (show 4294967295<=4294967296 by decide);have s2:=Qd (Pd hs') (show 4294967295<=4294967296 by decide);by_cases hb:b=b'
 ·subst hb;have e:Un b (val l)+Un b (val l')=Un b (val l+val l'):=by unfold Un; cases b <;> simp <;> omega
  rw [e];exact w tt Tryz.func239 rfl [.t (by simp),.c [] (Zga hl hl' s1 s2),.c [] (Sk _ _)] rfl rfl trivial
 ·by_cases hle:val l'<=val l
  ·have e:Un b (val l)+Un b' (val l')=Un b (val l-val l'):=by unfold Un; cases b <;> cases b' <;> simp at hb ⊢ <;> omega
   rw [e];exact w tt Tryz.func239 rfl [.f (by simpa using hb),.c [] (Qij hl hl' s1 hle),.t rfl,.c [] (Sk _ _)] rfl rfl trivial
  ·have e:Un b (val l)+Un b' (val l')=Un b' (val l'-val l):=by unfold Un; cases b <;> cases b' <;> simp at hb ⊢ <;> omega
   rw [e];exact w tt Tryz.func239 rfl [.f (by simpa using hb),.c [] (Q5i hl hl' s1 (by omega)),.f rfl,.c [] (Qij hl' hl s2 (by omega)),.c [] (Sk _ _)] rfl rfl trivial
theorem Q5l {x y x' y':LV} {z z':Int} (hi:Hp x y z) (hi':Hp x' y' z') (hs:Ur z<=4294967295) (hs':Ur z'<=4294967295):Uh Tryz.prog 227 [.agg [x,y],.agg [x',y']] [.agg (Gs (z-z'))]:=by
 obtain ⟨b',l',rfl,rfl,hl',rfl⟩:=hi';have hn:Hp (.bool (!b')) (.row (lm l')) (-(Un b' (val l'))):=⟨_,_,rfl,rfl,hl',(Qc5 _ _).symm⟩;rw [Int.sub_eq_add_neg];have hi2:=hi;obtain ⟨b,l,rfl,rfl,hl,_⟩:=hi;exact w tt Tryz.func227 rfl [.c [] (Qik hi2 hn hs (by rw [Gy]; exact hs'))] rfl rfl trivial
theorem Q53 {x y:LV} {z:Int} (hi:Hp x y z) (hs:Ur z<=4294967295):Uh Tryz.prog 205 [.agg [x,y]] [.one (.int .i64 (Int.sign z))]:=by
 obtain ⟨b,l,rfl,rfl,hl,rfl⟩:=hi;have s1:=Qd (Pd hs) (show 4294967295<=4294967296 by decide);have cb:=Qu9 hl s1;by_cases h0:val l=0
 ·have e:Un b (val l)=0:=by unfold Un; rw [h0]; cases b <;> simp
  rw [e];exact w tt Tryz.func205 rfl [.c [] cb,.t (by simp [Qku,h0])] rfl rfl trivial
 ·have hs0:sz (val l)≠0:=λh=>h0 (Qku.1 h)
  cases b
  ·have e:(Un false (val l)).sign=1:=Int.sign_eq_one_of_pos (by unfold Un; simp; omega);rw [e];exact w tt Tryz.func205 rfl [.c [] cb,.f (by simp; omega),.f rfl] rfl rfl trivial
  ·have e:(Un true (val l)).sign=-1:=Int.sign_eq_neg_one_of_neg (by unfold Un; simp; omega);rw [e];exact w tt Tryz.func205 rfl [.c [] cb,.f (by simp; omega),.t rfl] rfl rfl trivial
theorem Qn4 {x y x' y':LV} {z z':Int} (hi:Hp x y z) (hi':Hp x' y' z') (hs:Ur z<=4294967295) (hs':Ur z'<=4294967295):Uh Tryz.prog 165 [.agg [x,y],.agg [x',y']] [.one (.int .i64 (B7 z z'))]:=by
 have c1:=Q53 hi hs;have c2:=Q53 hi' hs';obtain ⟨b,l,rfl,rfl,hl,hz⟩:=hi;obtain ⟨b',l',rfl,rfl,hl',hz'⟩:=hi';have k1:=Qcf z;have k2:=Qcf z';have zl:z.natAbs=val l:=by rw [hz,H7]
 have zl':z'.natAbs=val l':=by rw [hz',H7]
 by_cases h1:z.sign<z'.sign
 ·have e:B7 z z'=-1:=by unfold B7; rw [if_pos (by omega)]
  rw [e];exact w tt Tryz.func165 rfl [.c [] c1,.c [] c2,.t (by simpa using h1)] rfl rfl trivial
 ·by_cases h2:z'.sign<z.sign
  ·have e:B7 z z'=1:=by unfold B7; rw [if_neg (by omega),if_pos (by omega)]
   rw [e];exact w tt Tryz.func165 rfl [.c [] c1,.c [] c2,.f (by simpa using h1),.t (by simpa using h2)] rfl rfl trivial
  ·by_cases h3:z.sign<0
   ·have e:Ip (val l') (val l)=B7 z z':=by unfold B7 Ip; rw [<-zl,<-zl']; split <;> split <;> (try split) <;> (try split) <;> omega
    have cc:=Q4x hl' hl;rw [e] at cc;exact w tt Tryz.func165 rfl [.c [] c1,.c [] c2,.f (by simpa using h1),.f (by simpa using h2),.t (by simpa using h3),.c [] cc] rfl rfl trivial
   ·have e:Ip (val l) (val l')=B7 z z':=by unfold B7 Ip; rw [<-zl,<-zl']; split <;> split <;> (try split) <;> (try split) <;> omega
    have cc:=Q4x hl hl';rw [e] at cc;exact w tt Tryz.func165 rfl [.c [] c1,.c [] c2,.f (by simpa using h1),.f (by simpa using h2),.f (by simpa using h3),.c [] cc] rfl rfl trivial
theorem Ap {z:Int}:Uh Tryz.prog 162 [.agg (Gs z)] [.one (.bool (decide (z=0)))] :=
 w tt Tryz.func162 rfl [] rfl (by simp only [Uj]; congr 3; have:=Bf (m:=z.natAbs); rw [decide_eq_decide]; omega) trivial
theorem Qvd {z:Int} (h1:-9223372036854775808<=z/\z<=9223372036854775807):Uh Tryz.prog 130 [.one (.int .i64 z)] [.agg (Gs z)]:=by
 obtain ⟨m,hm⟩:=nmE (z.natAbs);have sm:Sm [m % 4294967296,m / 4294967296]:=λx hx=>by
  simp at hx; rcases hx with rfl | rfl <;> omega
 have hv:val [m % 4294967296,m / 4294967296]=m:=by simp only [val]; omega
 have cn:=Qev sm (by rw [hv]; exact Qd (Mp.2 (show m<2^64 by omega)) (show 64<=4294967296 by decide));rw [hv] at cn;by_cases hz:z<0
 ·have e:Un true m=z:=by unfold Un; simp; omega
  have cm:=Sk true m;rw [e] at cm;exact w tt Tryz.func130 rfl [.w 0,.r 5 (Bb (b:=((18446744073709551616-m:Nat):Int)) (by rw [w64]; omega)),.t (by simpa using hz),.w 0,.r 9 (Bb (b:=(m:Int)) (by rw [w64]; omega)),.w 0,.r 11 (Cm (b:=((m % 4294967296:Nat):Int)) (by rw [w32]; omega)),.i 32,.r 13 (Bb (b:=((m / 4294967296:Nat):Int)) (by simp)),.c [] cn,.r 18 (v:=.one (.bool true)) (by simp [hz]),.c [] cm] rfl rfl (by simp [Uf,IntKind.bits] <;> omega)
 ·have e:Un false m=z:=by unfold Un; simp; omega
  have cm:=Sk false m;rw [e] at cm;exact w tt Tryz.func130 rfl [.w 0,.r 5 (Bb (b:=(m:Int)) (by rw [w64]; omega)),.f (by simpa using hz),.w 0,.r 11 (Cm (b:=((m % 4294967296:Nat):Int)) (by rw [w32]; omega)),.i 32,.r 13 (Bb (b:=((m / 4294967296:Nat):Int)) (by simp)),.c [] cn,.r 18 (v:=.one (.bool false)) (by simp; omega),.c [] cm] rfl rfl (by simp [Uf,IntKind.bits] <;> omega)
theorem Qvc {m n:Nat} (h1:sz m<=4294967296) (h2:sz n<=4294967296) (hn:0<n):Uh Tryz.prog 237 [lr (U3 m),lr (U3 n)] [lr (U3 (m / n)),lr (U3 (m % n)),.one (.int .i64 0)]:=by
 have:=Qrc (By m) (By n) (by rw [Fv]; exact h1) (by rw [Fv]; exact h2) (by rw [Fv]; exact hn);rwa [Fv,Fv] at this
theorem Q15 {x y x' y':LV} {z z':Int} (hi:Hp x y z) (hi':Hp x' y' z') (hs:Ur z<=4294967295) (hs':Ur z'<=4294967295) (hz:z'≠0):Uh Tryz.prog 238 [.agg [x,y],.agg [x',y']] [.agg (Gs (z / z')),.agg (Gs (z % z')),.one (.int .i64 0)]:=by
 obtain ⟨b,l,rfl,rfl,hl,hz1⟩:=hi;obtain ⟨b',l',rfl,rfl,hl',hz2⟩:=hi';have zl:z.natAbs=val l:=by rw [hz1,H7]
 have zl':z'.natAbs=val l':=by rw [hz2,H7]
 have s1:sz (val l)<=4294967296:=Qd (Pd (hz1 ▸ hs)) (by decide);have s2:sz (val l')<=4294967296:=Qd (Pd (hz2 ▸ hs')) (by decide);have hp:0<z'.natAbs:=by omega
 have e1:z=if b=true then -(z.natAbs:Int) else (z.natAbs:Int):=by rw [zl]; exact hz1
 have e2:z'=if b'=true then -(z'.natAbs:Int) else (z'.natAbs:Int):=by rw [zl']; exact hz2
 have cd:=Qrc hl hl' s1 s2 (by omega);rw [<-zl,<-zl'] at cd;have s0:sz (z.natAbs % z'.natAbs)<=4294967296:=Qd (Hl (Jo (Xd _ hp))) (by rw [zl']; exact s2);cases b with
 |
  false =>
  obtain ⟨d1,d2⟩:=Qiv e2 hp e1;rw [d1,d2];exact w tt Tryz.func238 rfl [.c [] cd,.f rfl,.c [] (Sk _ _),.c [] (Sk _ _),.f rfl,.f rfl] rfl rfl trivial
 |
  true =>
  by_cases h0:z.natAbs % z'.natAbs=0
  ·obtain ⟨d1,d2⟩:=Qg1 e2 hp e1 h0;rw [d1,d2];exact w tt Tryz.func238 rfl [.c [] cd,.f rfl,.c [] (Sk _ _),.c [] (Sk _ _),.t rfl,.f (by rw [h0,Gf]; rfl)] rfl rfl trivial
  ·obtain ⟨d1,d2⟩:=Qiu e2 hp e1 (by omega);rw [d1,d2];have ca:=Zga (a:=U3 (z.natAbs / z'.natAbs)) (b:=[1]) (By _) (λx hx=>by simp at hx; subst hx; decide) (by rw [Fv]; exact Qd (Hl (Jx _ _)) (by rw [zl]; exact s1)) (by decide);have cs:=Qij (a:=l') (b:=U3 (z.natAbs % z'.natAbs)) hl' (By _) s2 (by rw [Fv,<-zl']; exact Jo (Xd _ hp));rw [Fv] at ca cs;rw [<-zl'] at cs;have hl0:=Bf (m:=z.natAbs % z'.natAbs);exact w tt Tryz.func238 rfl [.c [] cd,.f rfl,.c [] (Sk _ _),.c [] (Sk _ _),.t rfl,.t (by simp [Uj]; omega),.c [] ca,.c [] cs,.c [] (Sk _ _),.c [] (Sk _ _)] rfl rfl trivial
theorem Lh {x y x' y':LV} {z z':Int} (hi:Hp x y z) (hi':Hp x' y' z') (hs:Ur z<=4294967295) (hs':Ur z'<=4294967295) (hz:z'≠0) (hd:z % z'=0):Uh Tryz.prog 198 [.agg [x,y],.agg [x',y']] [.agg (Gs (z / z')),.one (.int .i64 0)]:=by
 have cd:=Q15 hi hi' hs hs' hz;obtain ⟨b,l,rfl,rfl,_⟩:=hi;obtain ⟨b',l',rfl,rfl,_⟩:=hi';exact w tt Tryz.func198 rfl [.c [] cd,.f rfl,.f (by rw [hd]; simp [Uj,Gf])] rfl rfl trivial
end Orr
namespace Orr
open Go
abbrev Zj2 (l:List Nat):LV:=.row (lm l)
def Gj (l:List Int):Nat:=l.foldl (λg z=>Nat.gcd g z.natAbs) 0
theorem Ql9 {l:List Int} {i:Nat} {z:Int} (h:l[i]? = some z):Gj (l.take (i+1))=Nat.gcd (Gj (l.take i)) z.natAbs:=by
 unfold Gj;rw [Jv,h];simp [Yx]
theorem Zdj (g x:Nat):Nat.gcd x (g % x)=Nat.gcd g x:=by
 rw [K7 g x,Nat.gcd_rec x g,K7]
theorem Qk6 (l:List Int):l.foldl (λg z=>Nat.gcd g z.natAbs) 1=1:=by
 induction l with
 | nil=>rfl
 | cons z l ih=>simp [ih]
theorem Q7j {l:List Int} {i:Nat} (h:Gj (l.take i)=1):Gj l=1:=by
 have e:l=l.take i++l.drop i:=(Zf i l).symm;unfold Gj at h ⊢;rw [e,Yx,h,Qk6]
def trim:List Int->List Int
 | []=>[]
 |
  x::l=>match trim l with
  | []=>if x=0 then [] else [x]
  | y::k=>x::y::k
theorem Qci:∀ {l:List Int},(∀ x∈l,x=0)->trim l=[]
 | [],_=>rfl
 |
  x::l,h=>by
  have ih:=Qci (l:=l) (λy hy=>h y (Qh _ hy));simp [trim,ih,h x (Qt ..)]
theorem Qnr:∀ {l:List Int} {m:Nat} {y:Int},(∀ j x,m<j->l[j]? = some x->x=0)->l[m]? = some y->y≠0->trim l=l.take (m+1)
 | [],m,y,_,h,_=>by simp at h
 |
  x::l,0,y,h1,h2,h3=>by
  have h0:trim l=[]:=Qci λz hz=>by
   obtain ⟨j,hj⟩:=Zh.1 hz;exact h1 (j+1) z (by omega) (by simpa using hj)
  simp at h2;subst h2;simp [trim,h0,h3]
 |
  x::l,m+1,y,h1,h2,h3=>by
  have ih:=Qnr (l:=l) (m:=m) (y:=y) (λj z hj hz=>h1 (j+1) z (by omega) (by simpa using hz)) (by simpa using h2) h3;cases hl:l with
  | nil=>subst hl; simp at h2
  |
   cons u k =>
   subst hl;rw [Yj] at ih;simp only [trim] at ih ⊢;rw [ih];simp
def Um (l:List Int):Prop:=trim l=l
theorem He:∀ (l:List Int),Um (trim l)
 | []=>rfl
 |
  x::l=>by
  have ih:=He l;unfold Um at ih ⊢;cases h:trim l with
  | nil=>by_cases hx:x=0 <;> simp [trim,h,hx]
  |
   cons y k =>
   rw [h] at ih;simp only [trim,h] at ih ⊢;rw [ih]
theorem Qua {l:List Int} {m:Nat} (hm:m<=l.length) (h1:∀ j x,m<=j->l[j]? = some x->x=0) (h2:0<m->∃ y,l[m-1]? = some y/\y≠0):trim l=l.take m:=by
 rcases Qy m with h0 | h0
 ·subst h0;rw [Qci λz hz=>?_]; rfl;obtain ⟨j,hj⟩:=Zh.1 hz;exact h1 j z (by omega) hj
 ·obtain ⟨y,hy,hy0⟩:=h2 h0;have:=Qnr (l:=l) (m:=m-1) (y:=y) (λj x hj hx=>h1 j x (by omega) hx) hy hy0;rwa [show m-1+1=m from by omega] at this
def IsInts:List (List LV)->List Int->Prop
 | [],[]=>True
 | x::l,z::p=>(∃ a b,x=[a,b]/\Hp a b z)/\IsInts l p
 | _,_=>False
theorem IsInts.len:∀ {l:List (List LV)} {p:List Int},IsInts l p->l.length=p.length
 | [],[],_=>rfl
 | x::l,z::p,h=>by simp [h.2.len]
 | [],_::_,h=>h.elim
 | _::_,[],h=>h.elim
theorem IsInts.get:∀ {l:List (List LV)} {p:List Int},IsInts l p->∀ {i:Nat} {z:Int},p[i]? = some z->∃ a b,l[i]? = some [a,b]/\Hp a b z
 | [],[],_,i,z,h=>by simp at h
 |
  x::l,y::p,h,0,z,hz=>by
  simp at hz; subst hz;obtain ⟨a,b,rfl,hi⟩:=h.1;exact ⟨a,b,rfl,hi⟩
 | x::l,y::p,h,i+1,z,hz=>by simpa using h.2.get (i:=i) (by simpa using hz)
 | [],_::_,h,_,_,_=>h.elim
 | _::_,[],h,_,_,_=>h.elim
theorem Gk:∀ (p:List Int),IsInts (p.map Gs) p
 | []=>trivial
 | z::p=>⟨⟨_,_,rfl,Uk z⟩,Gk p⟩
theorem IsInts.append:∀ {l l':List (List LV)} {p p':List Int},IsInts l p->IsInts l' p'->IsInts (l++l') (p++p')
 | [],_,[],_,_,h=>h
 | x::l,_,z::p,_,h,h'=>⟨h.1,h.2.append h'⟩
 | [],_,_::_,_,h,_=>h.elim
 | _::_,_,[],_,h,_=>h.elim
def pl (p:List Int):LV:=.row (p.map Gs)
def ids (l:List Int):LV:=.row (l.map λ(x:Int)=>[.int .i64 x])
theorem A2:Hp (.bool false) (.row []) 0:=⟨false,[],rfl,rfl,(λx hx=>by cases hx),rfl⟩
theorem Zfe:sg 0=.bool false:=rfl
theorem Gz {α β:Type} {f:α->β} {l:List α} {i:Nat} {x:α} (h:l[i]? = some x):(l.map f)[i]? = some (f x):=by rw [Za,h]; rfl
theorem Zgx {α:Type} {f:α->List LV} {sz:Nat} (l:List α) (h:∀ x,(f x).length=sz):∀ c∈l.map f,c.length=sz:=λc hc=>by
 obtain ⟨x,_,rfl⟩:=Zi.1 hc;exact h x
theorem Zd1:mg 0=.row []:=by simp [mg,Gf,lm]
theorem D2:Gs 0=[LV.bool false,LV.row []]:=by simp [Gs,Zfe,Zd1]
end Orr
namespace Orr
open Go Go.Proofs
set_option maxRecDepth 10000
theorem Qhn {p:List Int} (hs:∀ z∈p,Ur z≤4294967295):sz (Gj p)≤4294967295:=by
 have key:∀ (p:List Int) (g:Nat),sz g≤4294967295->(∀ z∈p,Ur z≤4294967295)->sz (p.foldl (λg z=>Nat.gcd g z.natAbs) g)≤4294967295:=by
  intro p
  induction p with
  | nil=>exact λg h _=>h
  |
   cons z p ih =>
   intro g h hs;refine ih _ ?_ λy hy=>hs y (.tail _ hy)
   rcases Qy g with h0 | h0
   ·subst h0; show sz (Nat.gcd 0 z.natAbs)<=_; rw [Nat.gcd_zero_left]; exact hs z (.head _)
   ·exact Qd (Hl (Nat.gcd_le_left _ h0)) h
 exact key p 0 (by decide) hs
theorem Q41 {l:List (List LV)} {p:List Int} (hi:IsInts l p) (hs:∀ z∈p,Ur z≤4294967295):Uh Tryz.prog 197 [.one (.row l)] [.agg (Gs ((Gj p:Nat):Int))]:=by
 refine Ha Tryz.func197 rfl (ln 0 rfl rfl λhl=>?_);have hlp:=hi.len;refine go tt [.z 3,.r 3 (v:=lr (U3 (Gj (p.take 0)))) (by simp [Gj,Gf,lm])] rfl trivial ?_;refine ct 2 (S:=Unit) (λ_=>[(2,.v (.one (.ow 0 0))),(3,.v (lr (U3 (Gj p))))]) (λ_=>[.blk 55 [.bool false,.nils],.gone]) (λ_=>True) rfl ?_ ?_
 ·refine lp (S:=Nat) 1 (λL1 i=>(12,.v (.one (.int .i64 (i:Int))))::(3,.v (lr (U3 (Gj (p.take i)))))::L1) (λ_=>[.blk 55 [.bool false,.nils]]) (λi=>p.length-i) (λi=>i<=p.length) 0 (Qg _) rfl (λ_ _=>rfl) rfl λi hip=>?_
  by_cases h:i<p.length
  ·have hlt:i<l.length:=by omega
   obtain ⟨c,hc⟩:=gxE (l:=l) (i:=i) hlt;obtain ⟨z,hz⟩:=gxE (l:=p) (i:=i) h;obtain ⟨x,y,hc',b,r,rfl,rfl,hr,hzz⟩:=hi.get hz;rw [hc] at hc'; injection hc' with hc'; subst hc'
   have hsz:=hs z (Qa hz);have hg0:sz (Gj (p.take i))<=4294967295:=Qhn λy hy=>hs y (Ql hy)
   have ezr:z.natAbs=val r:=by rw [hzz,H7]
   have cn:=Qev hr (by rw [<-ezr]; exact Qd hsz (by decide));rw [<-ezr] at cn;refine go tt [.t (by simp; omega),.x hc,.c [] cn] rfl trivial ?_;refine lp (S:=Nat×Nat) 2 (λL1 s=>(3,.v (lr (U3 s.1)))::(6,.v (lr (U3 s.2)))::L1) (λ_=>[.blk 55 [.bool false,.nils],.blk 55 [.bool b,.row (lm r)]]) (λs=>s.2) (λs=>Nat.gcd s.1 s.2=Nat.gcd (Gj (p.take i)) z.natAbs/\sz s.1<=4294967295/\sz s.2<=4294967295) (Gj (p.take i),z.natAbs) ⟨rfl,hg0,hsz⟩ rfl (λ_ _=>rfl) rfl λ⟨g,u⟩ ⟨j1,j2,j3⟩=>?_
   dsimp only at j1 j2 j3 ⊢;have hul:=Bf (m:=u);by_cases hu:0<u
   ·have cd:=Qvc (m:=g) (n:=u) (by omega) (by omega) hu;refine go tt [.t (by simp [Uj]; omega),.c [] cd] rfl trivial ?_;exact rd (u,g % u) (Xd _ hu) ⟨(Zdj g u).trans j1,j3,Qd (Hl (Jo (Xd _ hu))) j3⟩ rfl
   ·obtain rfl:u=0:=by omega
    rw [Nat.gcd_zero_right,<-Ql9 hz] at j1;subst j1;by_cases h1:Gj (p.take (i+1))=1
    ·have e1:U3 (Gj (p.take (i+1)))=[1]:=by rw [h1,C7 (by decide)]; simp [Gf]
     refine go tt [.f (by simp [Gf,lm]),.t (by rw [e1]; rfl),.x (Fp (i:=0) (x:=1) (by rw [e1]; rfl)),.t rfl] rfl trivial ?_;exact rc () trivial (by rw [h1,Q7j h1]; rfl)
    ·obtain ⟨g,hg⟩:=nmE (Gj (p.take (i+1)));rw [<-hg] at h1 j2 ⊢;by_cases h2:(U3 g).length=1
     ·obtain ⟨v,hv⟩:∃ v,U3 g=[v]:=by
       match hm:U3 g,h2 with
       | [v],_=>exact ⟨v,rfl⟩
      have hv1:v≠1:=λe=>h1 (by rw [<-Fv g,hv,e]; rfl)
      refine go tt [.f (by simp [Gf,lm]),.t (by simp [Uj,h2]),.x (Fp (i:=0) (x:=v) (by rw [hv]; rfl)),.f (by simp; omega)] rfl (by simp [Uf] <;> omega) ?_;exact rd (i+1) (by omega) h (by rw [<-hg]; rfl)
     ·refine go tt [.f (by simp [Gf,lm]),.f (by simp [Uj]; omega),.f rfl] rfl (by simp [Uf] <;> omega) ?_;exact rd (i+1) (by omega) h (by rw [<-hg]; rfl)
  ·obtain rfl:i=p.length:=by omega
   refine go tt [.f (by simp; omega)] rfl trivial ?_;rw [Q5];exact rc () trivial rfl
 ·intro _ _;have cn:=Qev (By (Gj p)) (by rw [Fv]; exact Qd (Qhn hs) (by decide));rw [Fv] at cn;exact en tt [.c [] cn,.c [] (Sk false _)] rfl (by simp [Un]) trivial
end Orr
namespace Orr
open Go
def Hr:List Nat->Nat
 | []=>0
 | x::l=>x+10000*Hr l
def Dg (l:List Nat):Prop:=∀ x∈l,x<10000
def U5 (x:Nat):List Nat:=if h:x=0 then [] else (x % 10000)::U5 (x / 10000)
termination_by x
decreasing_by omega
theorem Ge:U5 0=[]:=by unfold U5; simp
theorem Aw {x:Nat} (h:x≠0):U5 x=(x % 10000)::U5 (x / 10000):=by rw [U5]; simp [h]
theorem G5 (x:Nat):Hr (U5 x)=x:=by
 induction x using Nat.strongRecOn with
 |
  _ x ih =>
  rcases Qy x with h | h
  ·subst h; rw [Ge]; rfl
  ·rw [Aw (by omega)];simp only [Hr];rw [ih _ (by omega)]; omega
theorem Mz (x:Nat):Dg (U5 x):=by
 induction x using Nat.strongRecOn with
 |
  _ x ih =>
  rcases Qy x with h | h
  ·subst h; rw [Ge]; intro y hy; cases hy
  ·rw [Aw (by omega)];intro y hy;rcases Qo.1 hy with rfl | hy
   ·omega
   ·exact ih _ (by omega) y hy
theorem Qc2 {x:Nat}:(U5 x).length=0↔x=0:=by
 constructor
 ·intro h;have h0:=Qi h;have:=G5 x;rw [h0] at this;exact this.symm
 ·rintro rfl; rw [Ge]; rfl
theorem Lk {x:Nat} (h:x≠0):(U5 (x / 10000)).length+1=(U5 x).length:=by rw [Aw h]; rfl
theorem Q2l {x:Nat} (h:x<1000000000000):(U5 x).length<=3:=by
 by_cases h0:x=0
 ·subst h0; rw [Ge]; exact Qg _
 ·have h1:=Lk h0;by_cases h2:x / 10000=0
  ·rw [h2,Ge] at h1; simp at h1; omega
  ·have h3:=Lk h2;by_cases h4:x / 10000 / 10000=0
   ·rw [h4,Ge] at h3; simp at h3; omega
   ·have h5:=Lk h4;have h6:x / 10000 / 10000 / 10000=0:=by omega
    rw [h6,Ge] at h5; simp at h5; omega
theorem S7 (x:Nat):(U5 x).length<=sz x:=by
 induction x using Nat.strongRecOn with
 |
  _ x ih =>
  by_cases h0:x=0
  ·subst h0; rw [Ge]; exact Qg _
  ·have h1:=Lk h0;have h2:=ih (x / 10000) (by omega);have h3:sz (x / 10000)+1<=sz x:=by
    have h4:x<2^sz x:=Qde x;rcases hs:sz x with _ | k
    ·rw [hs] at h4; simp at h4; omega
    ·rw [hs] at h4;have:sz (x / 10000)<=k:=Mp.2 (by rw [Zm] at h4; omega);omega
   omega
theorem Ti (a b:List Nat):Hr (a++b)=Hr a+10000^a.length*Hr b:=by
 induction a with
 | nil=>simp [Hr]
 |
  cons x a ih =>
  simp only [Xi,Hr,ih,Q7,Zm];rw [Xs,<-Xn,Zj 10000 (10000^a.length)]; omega
theorem Ra {l:List Nat} {i x:Nat} (h:l[i]? = some x):Hr (l.take (i+1))=Hr (l.take i)+10000^i*x:=by
 have hi:=(Qc.1 h).1;rw [show l.take (i+1)=l.take i++[x] by rw [Xc,h]; rfl,Ti,Qx,Zr (by omega)];simp [Hr]
theorem Qiz:∀ {l:List Nat},Dg l->Hr l<10000^l.length
 | [],_=>by simp [Hr]
 |
  x::l,h=>by
  have h1:=h x (Qt ..);have h2:=Qiz (l:=l) λy hy=>h y (Qh _ hy)
  simp only [Hr,Q7,Zm]; omega
theorem Qi0:∀ {l:List Nat},(∀ x∈l,x=0)->Hr l=0
 | [],_=>rfl
 |
  x::l,h=>by
  have h1:=h x (Qt ..);have h2:=Qi0 (l:=l) λy hy=>h y (Qh _ hy)
  simp [Hr,h1,h2]
theorem Dg.take {l:List Nat} (h:Dg l) (k:Nat):Dg (l.take k):=λx hx=>h x (Ql hx)
theorem Dg.snoc {l:List Nat} (h:Dg l) {x:Nat} (hx:x<10000):Dg (l++[x]):=by
 intro y hy;rcases Qw.1 hy with hy | hy
 ·exact h y hy
 ·rw [Qn.1 hy]; exact hx
theorem Dg.nil:Dg []:=λx h=>by cases h
theorem Qv1:∀ {l:List Nat},Dg l->(∀ x,l[l.length-1]? = some x->x≠0)->l=U5 (Hr l)
 | [],_,_=>by rw [Hr,Ge]
 |
  x::l,h,hl=>by
  have h1:=h x (Qt ..);have h2:l=U5 (Hr l):=Qv1 (λy hy=>h y (Qh _ hy)) λy hy=>hl y (by
   rcases l with _ | ⟨z,t⟩
   ·simp at hy
   ·simpa using hy)
  have h3:x+10000*Hr l≠0:=by
   intro e;have hx:x=0:=by omega
   have hd:Hr l=0:=by omega
   rw [hd,Ge] at h2;subst h2;exact hl x rfl hx
  simp only [Hr];rw [Aw h3,show (x+10000*Hr l) % 10000=x by omega,show (x+10000*Hr l) / 10000=Hr l by omega,<-h2]
theorem Qrx {l:List Nat} {m:Nat} (hd:Dg l) (hm:m<=l.length) (h1:∀ j x,m<=j->l[j]? = some x->x=0) (h2:0<m->∃ y,l[m-1]? = some y/\y≠0):l.take m=U5 (Hr l):=by
 have e:Hr l=Hr (l.take m):=by
  conv=>lhs; rw [<-Zf m l,Ti]
  rw [Qi0 (l:=l.drop m) λx hx=>?_]
  ·omega
  ·obtain ⟨j,hj⟩:=Zh.1 hx;rw [Xb] at hj;exact h1 (m+j) x (by omega) hj
 rw [e];refine Qv1 (hd.take m) λx hx=>?_
 have hl:(l.take m).length=m:=by rw [Qx]; omega
 rw [hl] at hx;rcases Qy m with h0 | h0
 ·subst h0; simp at hx
 ·obtain ⟨y,hy,hy0⟩:=h2 h0;rw [List.getElem?_take_of_lt (by omega),hy] at hx;injection hx with hx; rw [<-hx]; exact hy0
theorem Qls {o c i d m P V:Nat} (hP:P=10000^i) (h:o+c*P=V):o+P*((c+d*m) % 10000)+(c+d*m) / 10000*(P*10000)=V+P*d*m:=by
 have e:=Xg (c+d*m) 10000;generalize (c+d*m) / 10000=q at *;generalize (c+d*m) % 10000=r at *;have e2:P*(c+d*m)=P*(10000*q+r):=by rw [e]
 grind
theorem I0 {x y:Nat} (h:x<=y):(U5 x).length<=(U5 y).length:=by
 induction y using Nat.strongRecOn generalizing x with
 |
  _ y ih =>
  by_cases h0:x=0
  ·subst h0; rw [Ge]; exact Qg _
  ·have h1:=Lk h0;have h2:=Lk (x:=y) (by omega);have:=ih (y / 10000) (by omega) (x:=x / 10000) (Nat.div_le_div_right h);omega
theorem Q2k {n x:Nat} (h:10000^n<=x):n+1<=(U5 x).length:=by
 have h1:=Qiz (Mz x);rw [G5] at h1;have h2:n<(U5 x).length:=(Nat.pow_lt_pow_iff_right (by decide)).1 (Zz h h1);omega
theorem Qrv {x y:Nat} (h:(U5 x).length<(U5 y).length):x<y:=by
 rcases Q8 x y with h1 | h1
 ·exact h1
 ·have:=I0 h1; omega
theorem Q2m {k y:Nat} (h:y<10000^k):(U5 y).length<=k:=by
 induction k generalizing y with
 |
  zero =>
  have:y=0:=by simpa using h
  subst this; rw [Ge]; exact Qm _
 |
  succ k ih =>
  by_cases hy0:y=0
  ·subst hy0; rw [Ge]; exact Qg _
  ·have h8:=Lk hy0;have:=ih (y:=y / 10000) (by rw [Zm] at h; omega);omega
theorem Q6n {o:List Nat} (h:Dg o) (hl:o.length<=(U5 (Hr o)).length):o=U5 (Hr o):=by
 refine Qv1 h λx hx h0=>?_
 subst h0;have hne:0<o.length:=by
  rcases o with _ | ⟨a,o⟩
  ·simp at hx
  ·simp
 have h1:Hr o=Hr (o.take (o.length-1)):=by
  have:=Ra hx;rw [show o.length-1+1=o.length by omega,Q5] at this;omega
 have h2:=Qiz (h.take (o.length-1));rw [<-h1,Qx,Zr (by omega)] at h2;have:=Q2m h2;omega
theorem I3 {l:List Nat} {j d:Nat} (h:l[j]? = some d):Hr (l.drop j)=d+10000*Hr (l.drop (j+1)):=by
 obtain ⟨hj,he⟩:=Qc.1 h;rw [Zu hj,he]; rfl
theorem Qe1 {l:List Nat} {j y:Nat} (h:j<l.length):(l.set j y).drop j=y::l.drop (j+1):=by
 rw [Zu (by simpa using h)];simp only [List.getElem_set_self];rw [List.drop_set_of_lt (by omega)]
theorem Dg.set {l:List Nat} (h:Dg l) {j y:Nat} (hy:y<10000):Dg (l.set j y):=by
 intro x hx;rcases J7 hx with hx | rfl
 ·exact h x hx
 ·exact hy
theorem Dg.zeros (n:Nat):Dg (List.replicate n 0):=by
 intro x hx; rw [Zs hx]; decide
theorem Qrz {V kd d:Nat} (hk:0<kd):(d+10000*V) / kd=(V % kd*10000+d) / kd+10000*(V / kd)/\(d+10000*V) % kd=(V % kd*10000+d) % kd/\(d<10000->(V % kd*10000+d) / kd<10000):=by
 have e:=Xg V kd;have e2:d+10000*V=(V % kd*10000+d)+kd*(10000*(V / kd)):=by
  conv=>lhs; rw [<-e]
  grind
 refine ⟨?_,?_,λhd=>?_⟩
 ·rw [e2,K6 _ _ hk]
 ·rw [e2,V7]
 ·have:=Xd V hk;exact (Vs hk).2 (by grind)
theorem Qhj (l:List Nat) (j:Nat) (h:j<=l.length):Hr l=Hr (l.take j)+10000^j*Hr (l.drop j):=by
 conv=>lhs; rw [<-Zf j l,Ti]
 rw [Qx,Zr h]
theorem Qit {a b:List Nat} {j d e:Nat} (ha:Dg a) (hd:a[j]? = some d) (he:b[j]? = some e) (hs:a.drop (j+1)=b.drop (j+1)) (h:d<e):Hr a<Hr b:=by
 have h1:=(Qc.1 hd).1;have h2:=(Qc.1 he).1;rw [Qhj a j (by omega),Qhj b j (by omega),I3 hd,I3 he,hs];have h3:=Qiz (ha.take j);rw [Qx,Zr (by omega)] at h3;generalize 10000^j=P at *;have h4:P*(d+10000*Hr (b.drop (j+1)))+P<=P*(e+10000*Hr (b.drop (j+1))):=by
  rw [<-Ke]; exact Zl _ (by omega)
 omega
def dl (l:List Nat):LV:=.row (l.map λ(x:Nat)=>[.int .i64 (x:Int)])
theorem Hf (l:List Nat):(l.map λ(x:Nat)=>[LV.int .i64 (x:Int)]).length=l.length:=by simp
theorem Fl {l:List Nat} {i x:Nat} (h:l[i]? = some x):(l.map λ(x:Nat)=>[LV.int .i64 (x:Int)])[i]? = some [.int .i64 (x:Int)]:=by rw [Za,h]; rfl
abbrev nd (x:Nat):LV:=dl (U5 x)
end Orr
namespace Orr
open Go Go.Proofs
set_option maxRecDepth 10000
abbrev Mk (l:List Nat):List (List LV):=l.map λ(x:Nat)=>[.int .i64 (x:Int)]
theorem Zie (l:List Nat):∀ c∈Mk l,c.length=1:=λc hc=>by obtain ⟨x,_,rfl⟩:=Zi.1 hc; rfl
theorem Qex {l:List Nat} (hd:Dg l):Uh Tryz.prog 145 [.one (.row (Mk l))] [.one (nd (Hr l))]:=by
 refine Ha Tryz.func145 rfl (ln 0 rfl rfl λhl=>?_);rw [Zc] at hl;refine go tt [] rfl trivial ?_;refine lp (S:=Nat) 0 (λL1 n=>(3,.v (.one (.int .i64 (n:Int))))::L1) (λ_=>[]) id (λn=>n<=l.length/\∀ j x,n<=j->l[j]? = some x->x=0) (Mk l).length ⟨by simp,λj x h1 h2=>by
  have:=(Qc.1 h2).1; simp at h1; omega⟩ rfl (λ_ _=>rfl) rfl λn ⟨h1,h2⟩=>?_
 cases n with
 | zero=>exact en tt [.g 8 false (by simp),.f rfl,.i 0] rfl (by have:=Qrx hd h1 h2 (λh=>by omega); unfold nd; rw [<-this]; simp [dl]) (by simp [Uf])
 |
  succ n =>
  obtain ⟨x,hx⟩:=gxE (l:=l) (i:=n) (by omega);by_cases h0:x=0
  ·refine go tt [.g 8 true (by simp),.r 11 (v:=.one (.int .i64 (n:Int))) (by simp),.x (Fl hx),.t (by simp [h0]),.r 17 (v:=.one (.int .i64 (n:Int))) (by simp)] rfl (by simp [Uf]; omega) ?_;exact rd n (by simp) ⟨by omega,λj y h3 h4=>by
    rcases Vg h3 with rfl | h3
    ·rw [hx] at h4; injection h4 with h4; rw [<-h4,h0]
    ·exact h2 j y h3 h4⟩ rfl
  ·exact en tt [.g 8 true (by simp),.r 11 (v:=.one (.int .i64 (n:Int))) (by simp),.x (Fl hx),.f (by simp [h0]),.i (n+1)] rfl (by have:=Qrx hd h1 h2 (λ_=>⟨x,hx,h0⟩); unfold nd; rw [<-this]; simp [dl,List.map_take]) (by simp [Uf] <;> omega)
theorem Qy4 {x kd:Nat} (hxs:sz x<=100000000) (hk:0<kd/\kd<=65536):Uh Tryz.prog 144 [.one (nd x),.one (.int .i64 (kd:Int))] [.one (nd (x / kd)),.one (.int .i64 ((x % kd:Nat):Int))]:=by
 have hln:=Qd (S7 x) hxs;obtain ⟨l,hl⟩:=nmE (U5 x);have hx:Hr l=x:=by rw [hl,G5]
 have hd:Dg l:=by rw [hl]; exact Mz x
 show Uh Tryz.prog 144 [.one (.row (Mk (U5 x))),.one (.int .i64 (kd:Int))] _;rw [<-hl] at hln ⊢;rw [<-hx];have hll:=Hf l;refine Ha Tryz.func144 rfl ?_;refine go tt [.i (Mk l).length,.i (Mk l).length] rfl (by simp [Uf]; omega) ?_;rw [hll,show List.replicate l.length [LV.int .i64 0]=Mk (List.replicate l.length 0) from by simp [Mk]];refine lp (S:=Nat×List Nat×Nat) 1 (λL1 s=>(8,.v (.one (.int .i64 ((s.1:Int)-1))))::(7,.v (.one (.int .i64 (s.2.2:Int))))::L1) (λs=>[.row false 3 1 (Mk s.2.1)]) (λs=>s.1) (λs=>s.1<=l.length/\s.2.1.length=l.length/\Dg s.2.1/\Hr (s.2.1.drop s.1)=Hr (l.drop s.1) / kd/\s.2.2=Hr (l.drop s.1) % kd) (l.length,List.replicate l.length 0,0) ⟨Qm _,by simp,Dg.zeros _,by simp [Hr],by simp [Hr]⟩ rfl (λ_ _=>rfl) rfl λ⟨k,o,R⟩ ⟨j1,j2,j3,j4,hR⟩=>?_
 dsimp only at j1 j2 j3 j4 hR ⊢;cases k with
 |
  zero =>
  have cc:=Qex j3;rw [Xl,Xl] at j4;rw [j4] at cc;exact en tt [.f (by simp),.c [] cc] rfl (by rw [hR,Xl]) trivial
 |
  succ k =>
  obtain ⟨d,hdk⟩:=gxE (l:=l) (i:=k) (by omega);have hd0:=hd d (Qa hdk);have hdd:=I3 hdk;obtain ⟨s1,s2,s3⟩:=Qrz (V:=Hr (l.drop (k+1))) (kd:=kd) (d:=d) hk.1;rw [<-hdd] at s1 s2;have hr:=Xd (Hr (l.drop (k+1))) hk.1;rw [<-hR] at s1 s2 s3 hr;have e:((k+1:Nat):Int)-1=(k:Int):=by omega
  have htd:((R:Int)*10000+(d:Int)).tdiv (kd:Int)=(((R*10000+d) / kd:Nat):Int):=rfl;have hle:=Jx (R*10000+d) kd;have htb:0<=((R:Int)*10000+(d:Int)).tdiv (kd:Int)/\((R:Int)*10000+(d:Int)).tdiv (kd:Int)<=655369999:=by
   rw [htd]; revert hle; generalize (R*10000+d) / kd=Q; intro hle; omega
  rw [e];refine go tt [.t (by simp),.x (Fl hdk),.r 26 (eI (b:=((R*10000+d:Nat):Int)) (by omega)),.r 31 (eI (b:=(((R*10000+d) / kd:Nat):Int)) (by rfl)),.i k,.r 35 (eI (b:=(((R*10000+d) % kd:Nat):Int)) (by rfl))] rfl (by simp [Uf]; omega) ?_;exact rd (k,o.set k ((R*10000+d) / kd),(R*10000+d) % kd) (by dsimp only; omega) ⟨by dsimp only; omega,by simp [j2],j3.set (s3 hd0),by dsimp only; rw [Qe1 (by omega)]; simp only [Hr]; rw [j4,s1],by dsimp only; exact s2.symm⟩ (by simp [Mk,List.map_set]; rfl)
theorem Zjz (x k:Nat):sz (x / k)<=sz x:=Hl (Jx _ _)
theorem Qwr {x y:Nat} {o:List Nat} (h:U3 x=o++U3 y) (h0:y≠0):U3 x=(o++[y % 4294967296])++U3 (y / 4294967296):=by
 rw [h,C7 h0]; simp
theorem Zdv (o:List Nat) (z:Nat):lm (o++[z])=lm o++[[.int .u32 (z:Int)]]:=by simp [lm]
theorem Zk7 {x:Nat} (hx:sz x<=100000000):Uh Tryz.prog 82 [.one (nd x)] [lr (U3 x)]:=by
 have hlx:=H9 hx;refine Ha Tryz.func82 rfl ?_;refine go tt [.o 3 217 1] rfl trivial ?_;refine lp (S:=Nat×List Nat) 1 (λL1 s=>(0,.v (.one (nd s.1)))::(3,.v (.one (.orow 0 1 none)))::L1) (λs=>[.row false 217 1 (lm s.2)]) (λs=>s.1) (λs=>U3 x=s.2++U3 s.1/\s.1<=x) (x,[]) ⟨rfl,Qm _⟩ rfl (λ_ _=>rfl) rfl λ⟨y,o⟩ ⟨j1,j2⟩=>?_
 dsimp only at j1 j2 ⊢;by_cases h0:y=0
 ·subst h0;rw [Gf,Xo] at j1;rw [j1];exact en tt [.f (by simp [Ge])] rfl rfl trivial
 ·have hs:=Qwr j1 h0;have hsy:sz y<=100000000:=Qd (Hl j2) hx;have c1:=Qy4 (x:=y) (kd:=65536) hsy (by decide);have c2:=Qy4 (x:=y / 65536) (kd:=65536) (Qd (Zjz _ _) hsy) (by decide);have hl:(U5 y).length≠0:=λh=>h0 (Qc2.1 h)
  have ol:o.length<=(U3 x).length:=by rw [j1]; simp
  have e:y / 65536 % 65536*65536+y % 65536=y % 4294967296:=by omega
  have e2:y / 65536 / 65536=y / 4294967296:=by omega
  refine go tt [.t (by simp; omega),.c [] c1,.c [] c2,.r 26 (Cm (b:=((y % 4294967296:Nat):Int)) (by omega)),.s (sz:=1) (l:=[[.int .u32 ((y % 4294967296:Nat):Int)]]) (λc hc=>by rw [Qn.1 hc]; rfl)] rfl (by simp [Uf,Uj]; omega) ?_;rw [<-e2] at hs;exact rd (y / 65536 / 65536,o++[y % 4294967296]) (by dsimp only; omega) ⟨hs,by dsimp only; omega⟩ (by rw [Zdv]; rfl)
abbrev ri (z:Int):List LV:=[nd z.natAbs,sg z]
theorem Zl7 (b:Bool) (m:Nat):[nd m,LV.bool (b && decide (0<m))]=ri (Un b m):=by
 simp only [ri,sg,H7,Qjy]
theorem Zi5 (x:Nat):(0<(U5 x).length)↔0<x:=by
 have:=Qc2 (x:=x); omega
theorem Li (b:Bool) (m:Nat):Uh Tryz.prog 83 [.one (nd m),.one (.bool b)] [.agg (ri (Un b m))]:=by
 rw [<-Zl7];have e:=Zi5 m;cases b with
 | false=>exact w tt Tryz.func83 rfl [.g 7 false rfl] rfl rfl trivial
 | true=>exact w tt Tryz.func83 rfl [.g 7 true rfl] rfl (by simp [e]) trivial
theorem P8 {z:Int}:Uh Tryz.prog 99 [.agg (ri z)] [.one (.bool (decide (z=0)))] :=
 w tt Tryz.func99 rfl [] rfl (by have h:=Qc2 (x:=z.natAbs); simp only [Hf]; congr 3; rw [decide_eq_decide]; omega) trivial
theorem Aq {z:Int}:Uh Tryz.prog 98 [.agg (ri z)] [.agg (ri (-z))]:=by
 have h:=Li (!decide (z<0)) z.natAbs;have e:Un (!decide (z<0)) z.natAbs=-z:=by unfold Un; by_cases h:z<0 <;> simp [h] <;> omega
 rw [e] at h;exact w tt Tryz.func98 rfl [.c [] h] rfl rfl trivial
theorem Q5j {z:Int} (hz:Ur z<=100000000):Uh Tryz.prog 35 [.agg (ri z)] [.agg (Gs z)] :=
 w tt Tryz.func35 rfl [.c [] (Zk7 hz)] rfl rfl trivial
theorem eBo {a b:Bool} (h:a=b):TV.one (LV.bool a)=.one (.bool b):=h ▸ rfl
theorem Lm (l:List Nat) (x:Nat):Mk (l++[x])=Mk l++[[.int .i64 (x:Int)]]:=by simp [Mk]
theorem Qrw {x y:Nat} {o:List Nat} (h:U5 x=o++U5 y) (h0:y≠0):U5 x=(o++[y % 10000])++U5 (y / 10000):=by
 rw [h,Aw h0]; simp
theorem Zhz {b:Bool} {x:Nat} (hx:x<=4000000000000000000) (hb:b=true->0<x):Uh Tryz.prog 38 [.one (.int .i64 (Un b x))] [.agg (ri (Un b x))]:=by
 have hl:(U5 x).length<=100:=by
  have:=S7 x;have h2:sz x<=64:=Mp.2 (by omega);omega
 have hm:=Li b x;refine Ha Tryz.func38 rfl ?_;cases b with
 |
  false =>
  show AK Tryz.prog _ _ _ (Qbe 0 [.one (.int .i64 (x:Int))]) [];refine go tt [.f (by simp <;> omega),.r 3 (eBo (b:=false) (by simp)),.f rfl,.o 4 3 1] rfl trivial ?_;refine lp (S:=Nat×List Nat) 2 (λL1 s=>(0,.v (.one (.int .i64 (s.1:Int))))::(4,.v (.one (.orow 1 1 none)))::L1) (λs=>[.blk 33 [.nils,.bool false],.row false 3 1 (Mk s.2)]) (λs=>s.1) (λs=>U5 x=s.2++U5 s.1/\s.1<=x) (x,[]) ⟨rfl,Qm _⟩ rfl (λ_ _=>rfl) rfl λ⟨y,o⟩ ⟨j1,j2⟩=>?_
  dsimp only at j1 j2 ⊢;by_cases h0:y=0
  ·subst h0;rw [Ge,Xo] at j1;rw [<-j1];exact en tt [.f (by simp),.c [] hm] rfl rfl trivial
  ·have hs:=Qrw j1 h0;have ol:o.length<=(U5 x).length:=by rw [j1]; simp
   refine go tt [.t (by simp; omega),.r 18 (eI (b:=((y % 10000:Nat):Int)) (by rfl)),.s (sz:=1) (l:=[[.int .i64 ((y % 10000:Nat):Int)]]) (λc hc=>by rw [Qn.1 hc]; rfl),.r 22 (eI (b:=((y / 10000:Nat):Int)) (by rfl))] rfl (by simp [Uf,Hf]; omega) ?_;exact rd (y / 10000,o++[y % 10000]) (by dsimp only; omega) ⟨hs,by dsimp only; omega⟩ (by rw [Lm]; rfl)
 |
  true =>
  show AK Tryz.prog _ _ _ (Qbe 0 [.one (.int .i64 (-(x:Int)))]) [];refine go tt [.f (by simp <;> omega),.r 3 (eBo (b:=true) (by simpa using hb rfl)),.t rfl,.r 0 (eI (b:=(x:Int)) (by omega)),.o 4 3 1] rfl (by simp [Uf]; omega) ?_;refine lp (S:=Nat×List Nat) 2 (λL1 s=>(0,.v (.one (.int .i64 (s.1:Int))))::(4,.v (.one (.orow 1 1 none)))::L1) (λs=>[.blk 33 [.nils,.bool false],.row false 3 1 (Mk s.2)]) (λs=>s.1) (λs=>U5 x=s.2++U5 s.1/\s.1<=x) (x,[]) ⟨rfl,Qm _⟩ rfl (λ_ _=>rfl) rfl λ⟨y,o⟩ ⟨j1,j2⟩=>?_
  dsimp only at j1 j2 ⊢;by_cases h0:y=0
  ·subst h0;rw [Ge,Xo] at j1;rw [<-j1];exact en tt [.f (by simp),.c [] hm] rfl rfl trivial
  ·have hs:=Qrw j1 h0;have ol:o.length<=(U5 x).length:=by rw [j1]; simp
   refine go tt [.t (by simp; omega),.r 18 (eI (b:=((y % 10000:Nat):Int)) (by rfl)),.s (sz:=1) (l:=[[.int .i64 ((y % 10000:Nat):Int)]]) (λc hc=>by rw [Qn.1 hc]; rfl),.r 22 (eI (b:=((y / 10000:Nat):Int)) (by rfl))] rfl (by simp [Uf,Hf]; omega) ?_;exact rd (y / 10000,o++[y % 10000]) (by dsimp only; omega) ⟨hs,by dsimp only; omega⟩ (by rw [Lm]; rfl)
theorem Cd {n:Int} (hn:-4000000000000000000<=n/\n<=4000000000000000000):Uh Tryz.prog 38 [.one (.int .i64 n)] [.agg (ri n)]:=by
 have e:Un (decide (n<0)) n.natAbs=n:=by unfold Un; by_cases h:n<0 <;> simp [h] <;> omega
 have h:=Zhz (b:=decide (n<0)) (x:=n.natAbs) (by omega) (λh=>by have:=of_decide_eq_true h; omega);rwa [e] at h
theorem Qbv (x:Nat):(Mk (U5 x)).length=(U5 x).length:=Hf _
theorem Q3e (z:Int):∀ c∈[[LV.int .i64 z]],c.length=1:=λc hc=>by rw [Qn.1 hc]; rfl
theorem Zll {x:Nat} (h:x<=1000000000):(U5 x).length<=3:=Q2l (by omega)
theorem tdn (n:Nat):((n:Nat):Int).tdiv 10000=((n / 10000:Nat):Int):=rfl
theorem Qcg (n:Nat):((n:Nat):Int).tdiv 2=((n / 2:Nat):Int):=rfl
theorem Qcw {x mu c0:Nat} (hx:sz x<=100000000) (hmu:mu<=65536) (hc:c0<=1000000000):Uh Tryz.prog 146 [.one (nd x),.one (.int .i64 (mu:Int)),.one (.int .i64 (c0:Int))] [.one (nd (x*mu+c0))]:=by
 have hxl:=Qd (S7 x) hx;have hll:=Qbv x;show Uh Tryz.prog 146 [.one (.row (Mk (U5 x))),.one (.int .i64 (mu:Int)),.one (.int .i64 (c0:Int))] _;refine Ha Tryz.func146 rfl ?_;refine go tt [.r 11 (eI (b:=(((U5 x).length+2:Nat):Int)) (by rw [hll]; omega)),.i 0,.i ((U5 x).length+2)] rfl (by simp [Uf]; omega) ?_;refine lp (S:=Nat×Nat×List Nat) 1 (λL1 s=>(8,.v (.one (.int .i64 (s.1:Int))))::(7,.v (.one (.orow 0 1 none)))::(2,.v (.one (.int .i64 (s.2.1:Int))))::L1.filter (λx=>x.1 != 12)) (λs=>[.row false 3 1 (Mk s.2.2)]) (λs=>((U5 x).length-s.1)*4+(U5 s.2.1).length) (λs=>Dg s.2.2/\s.2.2.length=s.1/\Hr s.2.2+s.2.1*10000^s.1=Hr ((U5 x).take s.1)*mu+c0/\(s.1<=(U5 x).length\/s.1+(U5 s.2.1).length<=(U5 x).length+3)/\s.2.1<=1000000000) (0,c0,[]) ⟨Dg.nil,rfl,by simp [Hr],.inl (Qg _),hc⟩ rfl (λ_ _=>rfl) rfl λs hs=>?_
 obtain ⟨i,c,o⟩:=s;obtain ⟨hp0,hp1,hp2,hp3,hp4⟩:=hs;dsimp only at hp0 hp1 hp2 hp3 hp4 ⊢;have hcl:=Zll (x:=c) hp4;by_cases h1:i<(U5 x).length
 ·obtain ⟨d,hd⟩:=gxE (l:=(U5 x)) (i:=i) h1;have hd9:=Mz x d (Qa hd);have hdm:d*mu<=9999*65536:=Zw (by omega) hmu;have hc3:=Zll (x:=(c+d*mu) / 10000) (by omega);have hol:(Mk o).length=i:=by rw [Hf,hp1]
  refine go tt [.g 17 true (decide_eq_true (by omega)),.t rfl,.t (decide_eq_true (by omega)),.x (Fl hd),.r 33 (eI (b:=((d*mu:Nat):Int)) (by simp)),.r 34 (eI (b:=((c+d*mu:Nat):Int)) (by omega)),.r 37 (eI (b:=(((c+d*mu) % 10000:Nat):Int)) (by rfl)),.s (sz:=1) (Q3e _),.r 41 (eI (b:=(((c+d*mu) / 10000:Nat):Int)) (by rfl))] rfl (by simp [Uf,hol,tdn,Qcg,-Int.natCast_add,-Int.natCast_mul]; omega) ?_;exact rd (i+1,(c+d*mu) / 10000,o++[(c+d*mu) % 10000]) (by dsimp only; omega) ⟨hp0.snoc (Nat.mod_lt _ (by decide)),by dsimp only; rw [List.length_append]; show o.length+1=_; omega,by
   dsimp only;rw [Ti,Ra hd,hp1,Nat.pow_succ]; simp only [Hr,Nat.mul_zero,Nat.add_zero]; have:=Qls (d:=d) (m:=mu) rfl hp2; rw [this]; grind,.inl (by dsimp only; omega),by dsimp only; omega⟩ (by rw [Lm]; rfl)
 ·by_cases h2:0<c
  ·have hdc:=Lk (x:=c) (by omega);have hol:(Mk o).length=i:=by rw [Hf,hp1]
   refine go tt [.g 17 false (decide_eq_false (by omega)),.t (decide_eq_true (by omega)),.f (decide_eq_false (by omega)),.r 37 (eI (b:=((c % 10000:Nat):Int)) (by rfl)),.s (sz:=1) (Q3e _),.r 41 (eI (b:=((c / 10000:Nat):Int)) (by rfl))] rfl (by simp [Uf,hol,tdn,Qcg,-Int.natCast_add]; omega) ?_;exact rd (i+1,c / 10000,o++[c % 10000]) (by dsimp only; omega) ⟨hp0.snoc (Nat.mod_lt _ (by decide)),by dsimp only; rw [List.length_append]; show o.length+1=_; omega,by
    dsimp only;rw [Ti,hp1,Nat.pow_succ]; simp only [Hr,Nat.mul_zero,Nat.add_zero]; have:=Qls (d:=0) (m:=mu) rfl hp2; simp only [Nat.zero_mul,Nat.mul_zero,Nat.add_zero] at this; rw [this,List.take_of_length_le (by omega),List.take_of_length_le (by omega)],.inr (by dsimp only; omega),by dsimp only; omega⟩ (by rw [Lm]; rfl)
  ·have cc:=Qex hp0;rw [show Hr o=x*mu+c0 from by
    have h:=hp2; rw [Qj (by omega),G5,show c=0 by omega] at h; omega] at cc
   exact en tt [.g 17 false (decide_eq_false (by omega)),.f (decide_eq_false (by omega)),.c [] cc] rfl rfl trivial
theorem Q34 {l:List Nat} {j d:Nat} (h:l[j]? = some d):val (l.drop j)=d+4294967296*val (l.drop (j+1)):=by
 have hi:=(Qc.1 h).1;rw [Zu hi,(Qc.1 h).2]; rfl
theorem Qgz:∀ (l:List Nat) (j:Nat),val (l.drop j)<=val l
 | l,0=>Qm _
 | [],j+1=>by simp
 |
  x::l,j+1=>by
  have:=Qgz l j;rw [List.drop_succ_cons]; simp only [val]; omega
theorem Zb6 {l:List Nat} (hu:∀ u∈l,u<4294967296) (hl:l.length≤1099511627776) (hx:sz (val l)≤100000000):Uh Tryz.prog 85 [lr l] [.one (nd (val l))]:=by
 have hll:=Uj l;show Uh Tryz.prog 85 [.one (.row (lm l))] _;refine Ha Tryz.func85 rfl ?_;refine go tt [.z 3,.r 7 (eI (b:=((l.length:Nat):Int)-1) (by rw [hll]))] rfl (by simp [Uf]; omega) ?_;refine lp (S:=Nat×List Nat) 0 (λL1 s=>(4,.v (.one (.int .i64 ((s.1:Int)-1))))::(3,.v (.one (.row (Mk s.2))))::L1) (λ_=>[]) (λs=>s.1) (λs=>s.1<=l.length/\s.2=U5 (val (l.drop s.1))) (l.length,[]) ⟨Nat.le_refl _,by dsimp only; rw [List.drop_eq_nil_of_le (Nat.le_refl _)]; show []=U5 0; rw [Ge]⟩ rfl (λ_ _=>rfl) rfl λs hs=>?_
 obtain ⟨j,o⟩:=s;obtain ⟨hj,ho⟩:=hs;dsimp only at hj ho ⊢;subst ho;cases j with
 | zero=>exact en tt [.f (by simp)] rfl (by rw [Xl]; rfl) trivial
 |
  succ j =>
  obtain ⟨d,hd⟩:=gxE (l:=l) (i:=j) (by omega);have hd9:=hu d (Qa hd);have hdd:=Q34 hd;have hle:=Qgz l j;have hs2:sz (val (l.drop (j+1))*65536+d / 65536)<=100000000:=Qd (Hl (by omega)) hx;have hs1:sz (val (l.drop (j+1)))<=100000000:=Qd (Hl (by omega)) hx;have c1:=Qcw (x:=val (l.drop (j+1))) (mu:=65536) (c0:=d / 65536) hs1 (by omega) (by omega);have c2:=Qcw (x:=val (l.drop (j+1))*65536+d / 65536) (mu:=65536) (c0:=d % 65536) hs2 (by omega) (by omega);have ej:((j+1:Nat):Int)-1=(j:Int):=by omega
  have e2:(val (l.drop (j+1))*65536+d / 65536)*65536+d % 65536=val (l.drop j):=by rw [hdd]; omega
  rw [e2] at c2;rw [ej];refine go tt [.t (decide_eq_true (by omega)),.x (Fp hd),.r 17 (Cm (b:=((d / 65536:Nat):Int)) (by rfl)),.c [] c1,.x (Fp hd),.r 25 (Cm (b:=((d % 65536:Nat):Int)) (by rfl)),.c [] c2] rfl (by simp [Uf,IntKind.bits]; omega) ?_;exact rd (j,U5 (val (l.drop j))) (by dsimp only; omega) ⟨by dsimp only; omega,rfl⟩ rfl
theorem Qva {x y:Nat} (hx:sz x<=200000000) (hy:sz y<=200000000):Uh Tryz.prog 186 [.one (nd x),.one (nd y)] [.one (.int .i64 (Ip x y))]:=by
 have hxl:=Qd (S7 x) hx;have hyl:=Qd (S7 y) hy;have lx:=Qbv x;have ly:=Qbv y;show Uh Tryz.prog 186 [.one (.row (Mk (U5 x))),.one (.row (Mk (U5 y)))] _;refine Ha Tryz.func186 rfl ?_;by_cases hl:(U5 x).length=(U5 y).length
 ·refine go tt [.f (by simp; omega),.r 18 (eI (b:=((U5 x).length:Int)-1) (by rw [lx]))] rfl (by simp [Uf]; omega) ?_;refine lp (S:=Nat) 0 (λL1 j=>(5,.v (.one (.int .i64 ((j:Int)-1))))::L1) (λ_=>[]) (λj=>j) (λj=>j<=(U5 x).length/\(U5 x).drop j=(U5 y).drop j) (U5 x).length ⟨Qm _,by rw [Ym (Qm _),Ym (by omega)]⟩ rfl (λ_ _=>rfl) rfl λj hs=>?_
  obtain ⟨hj,hp⟩:=hs;cases j with
  |
   zero =>
   have hxy:x=y:=by rw [Xl,Xl] at hp; rw [<-G5 x,<-G5 y,hp]
   exact en tt [.f (by simp)] rfl (by rw [Qy9 hxy]) trivial
  |
   succ j =>
   obtain ⟨d,hd⟩:=gxE (l:=(U5 x)) (i:=j) (by omega);obtain ⟨e,he⟩:=gxE (l:=(U5 y)) (i:=j) (by omega);have ej:((j+1:Nat):Int)-1=(j:Int):=by omega
   rw [ej];by_cases h2:d=e
   ·refine go tt [.t (decide_eq_true (by omega)),.x (Fl hd),.x (Fl he),.f (by simp [h2])] rfl (by simp [Uf]; omega) ?_;exact rd j (by omega) ⟨by omega,by rw [Zu (by omega:j<(U5 x).length),Zu (by omega:j<(U5 y).length),hp,(Qc.1 hd).2,(Qc.1 he).2,h2]⟩ rfl
   ·by_cases h3:d<e
    ·have hxy:=Qit (Mz x) hd he hp h3;rw [G5,G5] at hxy;exact en tt [.t (decide_eq_true (by omega)),.x (Fl hd),.x (Fl he),.t (by simp; omega),.x (Fl hd),.x (Fl he),.t (decide_eq_true (by omega))] rfl (by rw [Qhg hxy]) trivial
    ·have hxy:=Qit (Mz y) he hd hp.symm (by omega);rw [G5,G5] at hxy;exact en tt [.t (decide_eq_true (by omega)),.x (Fl hd),.x (Fl he),.t (by simp; omega),.x (Fl hd),.x (Fl he),.f (decide_eq_false (by omega))] rfl (by rw [Qhf hxy]) trivial
 ·by_cases hlt:(U5 x).length<(U5 y).length
  ·exact en tt [.t (by simp; omega),.t (decide_eq_true (by omega))] rfl (by rw [Qhg (Qrv hlt)]) trivial
  ·exact en tt [.t (by simp; omega),.f (decide_eq_false (by omega))] rfl (by rw [Qhf (Qrv (by omega))]) trivial
theorem Qag {o c s P V:Nat} (h:o+c*P=V):o+P*((c+s) % 10000)+(c+s) / 10000*(P*10000)=V+P*s:=by
 have e:=Xg (c+s) 10000;generalize (c+s) / 10000=q at *;generalize (c+s) % 10000=r at *;have e2:P*(c+s)=P*(10000*q+r):=by rw [e]
 grind
theorem En {l:List Nat} {i:Nat} (h:l.length<=i):Hr (l.take (i+1))=Hr (l.take i):=by rw [Qj (by omega),Qj h]
theorem Qzn {l:List Nat} {p v u:Nat} (h:l[p]? = some v):Hr (l.set p u)+10000^p*v=Hr l+10000^p*u:=by
 have hp:=(Qc.1 h).1;rw [Qhj (l.set p u) p (by rw [Jl]; omega),Qhj l p (by omega),I3 h,Qe1 hp,List.take_set_of_le (Qm _)];simp only [Hr];generalize 10000^p=P;grind
theorem Ln {l:List Nat} {p u:Nat} (h:p<l.length):Hr ((l.set p u).take (p+1))=Hr (l.take p)+10000^p*u:=by
 rw [Ra (l:=l.set p u) (i:=p) (x:=u) (by simp [h]),List.take_set_of_le (Qm _)]
structure AddI (x y:Nat) (s:Nat×Nat×List Nat):Prop where
 d:Dg s.2.2
 l:s.2.2.length=s.1
 v:Hr s.2.2+s.2.1*10000^s.1=Hr ((U5 x).take s.1)+Hr ((U5 y).take s.1)
 c:s.2.1<=1
 b:s.1<=max (U5 x).length (U5 y).length\/s.1=max (U5 x).length (U5 y).length+1/\10000^(max (U5 x).length (U5 y).length)<=x+y/\s.2.1=0
theorem Zho {x y:Nat} (hx:sz x<=200000000) (hy:sz y<=200000000):Uh Tryz.prog 185 [.one (nd x),.one (nd y)] [.one (nd (x+y))]:=by
 have hxl:=Qd (S7 x) hx;have hyl:=Qd (S7 y) hy;have lx:=Qbv x;have ly:=Qbv y;show Uh Tryz.prog 185 [.one (.row (Mk (U5 x))),.one (.row (Mk (U5 y)))] _;refine Ha Tryz.func185 rfl ?_;refine go tt [.o 5 3 1] rfl trivial ?_;refine lp (S:=Nat×Nat×List Nat) 1 (λL1 s=>(7,.v (.one (.int .i64 (s.1:Int))))::(6,.v (.one (.int .i64 (s.2.1:Int))))::(5,.v (.one (.orow 0 1 none)))::L1) (λs=>[.row false 3 1 (Mk s.2.2)]) (λs=>(max (U5 x).length (U5 y).length-s.1)*2+s.2.1) (AddI x y) (0,0,[]) ⟨Dg.nil,rfl,by simp [Hr],by decide,.inl (Qg _)⟩ rfl (λ_ _=>rfl) rfl λs hs=>?_
 obtain ⟨i,c,o⟩:=s;obtain ⟨hp0,hp1,hp2,hp3,hp4⟩:=hs;dsimp only at hp0 hp1 hp2 hp3 hp4 ⊢;have hol:(Mk o).length=i:=by rw [Hf,hp1]
 by_cases h1:i<(U5 x).length
 ·obtain ⟨d,hd⟩:=gxE (l:=(U5 x)) (i:=i) h1;have hd9:=Mz x d (Qa hd);by_cases h2:i<(U5 y).length
  ·obtain ⟨e,he⟩:=gxE (l:=(U5 y)) (i:=i) h2;have he9:=Mz y e (Qa he);refine go tt [.g 12 true (decide_eq_true (by omega)),.g 18 true rfl,.t rfl,.t (decide_eq_true (by omega)),.x (Fl hd),.r 33 (eI (b:=((c+d:Nat):Int)) (by omega)),.t (decide_eq_true (by omega)),.x (Fl he),.r 43 (eI (b:=((c+(d+e):Nat):Int)) (by omega)),.r 46 (eI (b:=(((c+(d+e)) % 10000:Nat):Int)) (by rfl)),.s (sz:=1) (Q3e _),.r 50 (eI (b:=(((c+(d+e)) / 10000:Nat):Int)) (by rfl))] rfl (by simp [Uf,hol,tdn,Qcg,-Int.natCast_add]; omega) ?_;exact rd (i+1,(c+(d+e)) / 10000,o++[(c+(d+e)) % 10000]) (by dsimp only; omega) ⟨hp0.snoc (Nat.mod_lt _ (by decide)),by dsimp only; rw [List.length_append]; show o.length+1=_; omega,by
    dsimp only;rw [Ti,hp1,Nat.pow_succ]; simp only [Hr,Nat.mul_zero,Nat.add_zero]; have:=Qag (s:=d+e) hp2; rw [this,Ra hd,Ra he]; grind,by dsimp only; omega,.inl (by dsimp only; omega)⟩ (by rw [Lm]; rfl)
  ·refine go tt [.g 12 true (decide_eq_true (by omega)),.g 18 true rfl,.t rfl,.t (decide_eq_true (by omega)),.x (Fl hd),.r 33 (eI (b:=((c+d:Nat):Int)) (by omega)),.f (decide_eq_false (by omega)),.r 46 (eI (b:=(((c+d) % 10000:Nat):Int)) (by rfl)),.s (sz:=1) (Q3e _),.r 50 (eI (b:=(((c+d) / 10000:Nat):Int)) (by rfl))] rfl (by simp [Uf,hol,tdn,Qcg,-Int.natCast_add]; omega) ?_;exact rd (i+1,(c+d) / 10000,o++[(c+d) % 10000]) (by dsimp only; omega) ⟨hp0.snoc (Nat.mod_lt _ (by decide)),by dsimp only; rw [List.length_append]; show o.length+1=_; omega,by
    dsimp only;rw [Ti,hp1,Nat.pow_succ]; simp only [Hr,Nat.mul_zero,Nat.add_zero]; have:=Qag (s:=d) hp2; rw [this,Ra hd,En (l:=U5 y) (by omega)]; grind,by dsimp only; omega,.inl (by dsimp only; omega)⟩ (by rw [Lm]; rfl)
 ·by_cases h2:i<(U5 y).length
  ·obtain ⟨e,he⟩:=gxE (l:=(U5 y)) (i:=i) h2;have he9:=Mz y e (Qa he);refine go tt [.g 12 false (decide_eq_false (by omega)),.g 18 true (decide_eq_true (by omega)),.t rfl,.f (decide_eq_false (by omega)),.t (decide_eq_true (by omega)),.x (Fl he),.r 43 (eI (b:=((c+e:Nat):Int)) (by omega)),.r 46 (eI (b:=(((c+e) % 10000:Nat):Int)) (by rfl)),.s (sz:=1) (Q3e _),.r 50 (eI (b:=(((c+e) / 10000:Nat):Int)) (by rfl))] rfl (by simp [Uf,hol,tdn,Qcg,-Int.natCast_add]; omega) ?_;exact rd (i+1,(c+e) / 10000,o++[(c+e) % 10000]) (by dsimp only; omega) ⟨hp0.snoc (Nat.mod_lt _ (by decide)),by dsimp only; rw [List.length_append]; show o.length+1=_; omega,by
    dsimp only;rw [Ti,hp1,Nat.pow_succ]; simp only [Hr,Nat.mul_zero,Nat.add_zero]; have:=Qag (s:=e) hp2; rw [this,Ra he,En (l:=U5 x) (by omega)]; grind,by dsimp only; omega,.inl (by dsimp only; omega)⟩ (by rw [Lm]; rfl)
  ·by_cases h3:0<c
   ·refine go tt [.g 12 false (decide_eq_false (by omega)),.g 18 false (decide_eq_false (by omega)),.t (decide_eq_true (by omega)),.f (decide_eq_false (by omega)),.f (decide_eq_false (by omega)),.r 46 (eI (b:=((c % 10000:Nat):Int)) (by rfl)),.s (sz:=1) (Q3e _),.r 50 (eI (b:=((c / 10000:Nat):Int)) (by rfl))] rfl (by simp [Uf,hol,tdn,Qcg,-Int.natCast_add]; omega) ?_;exact rd (i+1,c / 10000,o++[c % 10000]) (by dsimp only; omega) ⟨hp0.snoc (Nat.mod_lt _ (by decide)),by dsimp only; rw [List.length_append]; show o.length+1=_; omega,by
     dsimp only;rw [Ti,hp1,Nat.pow_succ]; simp only [Hr,Nat.mul_zero,Nat.add_zero]; have:=Qag (s:=0) hp2; rw [Nat.add_zero,Nat.mul_zero,Nat.add_zero] at this; rw [this,En (l:=U5 y) (by omega),En (l:=U5 x) (by omega)],by dsimp only; omega,.inr ⟨by dsimp only; omega,by
      have h:=hp2; rw [List.take_of_length_le (by omega),List.take_of_length_le (by omega),G5,G5,show c=1 by omega,Nat.one_mul,show i=(max (U5 x).length (U5 y).length) by omega] at h; omega,by dsimp only; omega⟩⟩ (by rw [Lm]; rfl)
   ·have hv:Hr o=x+y:=by
     have h:=hp2;rw [Qj (by omega),Qj (by omega),G5,G5,show c=0 by omega] at h;omega
    have hfin:o=U5 (x+y):=by
     have h:=Q6n (o:=o) hp0;rw [hv] at h;refine h ?_;have m1:=I0 (x:=x) (y:=x+y) (by omega);have m2:=I0 (x:=y) (y:=x+y) (by omega);rcases hp4 with hb | ⟨_,hb,_⟩
     ·omega
     ·have:=Q2k hb; omega
    exact en tt [.g 12 false (decide_eq_false (by omega)),.g 18 false (decide_eq_false (by omega)),.f (decide_eq_false (by omega))] rfl (by rw [hfin]; rfl) trivial
theorem Qah {o b a c P u d e c':Nat} (h:o+b=a+c*P) (hs:u+e+c=d+10000*c'):(o+P*u)+(b+P*e)=(a+P*d)+c'*(P*10000):=by
 have e2:P*(u+e+c)=P*(d+10000*c'):=by rw [hs]
 grind
theorem Ay (o:List Nat) (i u:Nat):Mk (o.set i u)=(Mk o).set i [.int .i64 (u:Int)]:=by simp [Mk,Yo]
theorem Qvj {x y:Nat} (hx:sz x<=200000000) (hy:sz y<=200000000) (hyx:y<=x):Uh Tryz.prog 187 [.one (nd x),.one (nd y)] [.one (nd (x-y))]:=by
 have hxl:=Qd (S7 x) hx;have hyl:=Qd (S7 y) hy;have lx:=Qbv x;have ly:=Qbv y;have hmy:=I0 hyx;show Uh Tryz.prog 187 [.one (.row (Mk (U5 x))),.one (.row (Mk (U5 y)))] _;refine Ha Tryz.func187 rfl ?_;refine go tt [.i (Mk (U5 x)).length,.i (Mk (U5 x)).length] rfl (by simp [Uf]; omega) ?_;rw [lx,show List.replicate (U5 x).length [LV.int .i64 0]=Mk (List.replicate (U5 x).length 0) from by simp [Mk]];refine lp (S:=Nat×Nat×List Nat) 1 (λL1 s=>(14,.v (.one (.int .i64 (s.1:Int))))::(6,.v (.one (.int .i64 (s.2.1:Int))))::L1) (λs=>[.row false 3 1 (Mk s.2.2)]) (λs=>(U5 x).length-s.1) (λs=>s.1<=(U5 x).length/\s.2.2.length=(U5 x).length/\Dg s.2.2/\Hr (s.2.2.take s.1)+Hr ((U5 y).take s.1)=Hr ((U5 x).take s.1)+s.2.1*10000^s.1/\s.2.1<=1) (0,0,List.replicate (U5 x).length 0) ⟨Qg _,Ja ..,Dg.zeros _,by simp [Hr],Qg _⟩ rfl (λ_ _=>rfl) rfl λs hs=>?_
 obtain ⟨i,c,o⟩:=s;obtain ⟨hp0,hp1,hp2,hp3,hp4⟩:=hs;dsimp only at hp0 hp1 hp2 hp3 hp4 ⊢;have hol:(Mk o).length=(U5 x).length:=by rw [Hf,hp1]
 by_cases h1:i<(U5 x).length
 ·obtain ⟨d,hd⟩:=gxE (l:=(U5 x)) (i:=i) h1;have hd9:=Mz x d (Qa hd);by_cases h2:i<(U5 y).length
  ·obtain ⟨e,he⟩:=gxE (l:=(U5 y)) (i:=i) h2;have he9:=Mz y e (Qa he);by_cases h3:d<c+e
   ·refine go tt [.t (decide_eq_true (by omega)),.x (Fl hd),.t (decide_eq_true (by omega)),.x (Fl he),.t (decide_eq_true (by omega)),.r 36 (eI (b:=((d+10000-c-e:Nat):Int)) (by omega)),.i i] rfl (by simp [Uf,hol,tdn,Qcg,-Int.natCast_add]; omega) ?_;exact rd (i+1,1,o.set i (d+10000-c-e)) (by dsimp only; omega) ⟨by dsimp only; omega,by dsimp only; rw [List.length_set]; exact hp1,hp2.set (by omega),by
     dsimp only;rw [Ln (by omega),Ra hd,Ra he,Nat.pow_succ]; exact Qah hp3 (u:=d+10000-c-e) (d:=d) (e:=e) (c':=1) (by omega),by dsimp only; omega⟩ (by rw [Ay]; rfl)
   ·refine go tt [.t (decide_eq_true (by omega)),.x (Fl hd),.t (decide_eq_true (by omega)),.x (Fl he),.r 32 (eI (b:=((d-c-e:Nat):Int)) (by omega)),.f (decide_eq_false (by omega)),.i i] rfl (by simp [Uf,hol,tdn,Qcg,-Int.natCast_add]; omega) ?_;exact rd (i+1,0,o.set i (d-c-e)) (by dsimp only; omega) ⟨by dsimp only; omega,by dsimp only; rw [List.length_set]; exact hp1,hp2.set (by omega),by
     dsimp only;rw [Ln (by omega),Ra hd,Ra he,Nat.pow_succ]; exact Qah hp3 (u:=d-c-e) (d:=d) (e:=e) (c':=0) (by omega),by dsimp only; omega⟩ (by rw [Ay]; rfl)
  ·have hy0:Hr ((U5 y).take (i+1))=Hr ((U5 y).take i)+10000^i*0:=by rw [En (by omega),Yq,Xu]
   by_cases h3:d<c
   ·refine go tt [.t (decide_eq_true (by omega)),.x (Fl hd),.f (decide_eq_false (by omega)),.t (decide_eq_true (by omega)),.r 36 (eI (b:=((d+10000-c:Nat):Int)) (by omega)),.i i] rfl (by simp [Uf,hol,tdn,Qcg,-Int.natCast_add]; omega) ?_;exact rd (i+1,1,o.set i (d+10000-c)) (by dsimp only; omega) ⟨by dsimp only; omega,by dsimp only; rw [List.length_set]; exact hp1,hp2.set (by omega),by
     dsimp only;rw [Ln (by omega),Ra hd,hy0,Nat.pow_succ]; exact Qah hp3 (u:=d+10000-c) (d:=d) (e:=0) (c':=1) (by omega),by dsimp only; omega⟩ (by rw [Ay]; rfl)
   ·refine go tt [.t (decide_eq_true (by omega)),.x (Fl hd),.r 22 (eI (b:=((d-c:Nat):Int)) (by omega)),.f (decide_eq_false (by omega)),.f (decide_eq_false (by omega)),.i i] rfl (by simp [Uf,hol,tdn,Qcg,-Int.natCast_add]; omega) ?_;exact rd (i+1,0,o.set i (d-c)) (by dsimp only; omega) ⟨by dsimp only; omega,by dsimp only; rw [List.length_set]; exact hp1,hp2.set (by omega),by
     dsimp only;rw [Ln (by omega),Ra hd,hy0,Nat.pow_succ]; exact Qah hp3 (u:=d-c) (d:=d) (e:=0) (c':=0) (by omega),by dsimp only; omega⟩ (by rw [Ay]; rfl)
 ·have hi:i=(U5 x).length:=by omega
  have hv:Hr o=x-y:=by
   have h:=hp3;rw [Qj (by omega),Qj (by omega),Qj (by omega),G5,G5] at h;have hlt:=Qiz hp2;rw [hp1,<-hi] at hlt;have hc0:c=0:=by
    rcases Qy c with h0 | h0
    ·exact h0
    ·exfalso;have:c=1:=by omega
     rw [this,Wh] at h; omega
   rw [hc0] at h; omega
  have cc:=Qex hp2;rw [hv] at cc;exact en tt [.f (decide_eq_false (by omega)),.c [] cc] rfl rfl trivial
theorem Qiw {o o2 c P u v s V:Nat} (h:o+c*P=V) (hs:o2+P*v=o+P*u) {q:Nat} (hu:u+10000*q=v+c+s):o2+q*(P*10000)=V+P*s:=by
 have e2:P*(u+10000*q)=P*(v+c+s):=by rw [hu]
 grind
theorem Zlm (S:Nat):S % 10000+10000*(S / 10000)=S:=W8 S 10000
structure MulI (x y i d:Nat) (s:Nat×Nat×List Nat):Prop where
 l:s.2.2.length=(U5 x).length+(U5 y).length
 dg:Dg s.2.2
 v:Hr s.2.2+s.2.1*10000^(i+s.1)=Hr ((U5 x).take i)*y+10000^i*d*Hr ((U5 y).take s.1)
 c:s.2.1<10000
 b:s.1<=(U5 y).length/\(∀ j v,i+(U5 y).length<=j->s.2.2[j]? = some v->v=0)\/s.1=(U5 y).length+1/\s.2.1=0/\∀ j v,i+(U5 y).length+1<=j->s.2.2[j]? = some v->v=0
theorem Zhr {x y:Nat} (hx:sz x<=200000000) (hy:sz y<=200000000):Uh Tryz.prog 84 [.one (nd x),.one (nd y)] [.one (nd (x*y))]:=by
 have hxl:=Qd (S7 x) hx;have hyl:=Qd (S7 y) hy;have lx:=Qbv x;have ly:=Qbv y;show Uh Tryz.prog 84 [.one (.row (Mk (U5 x))),.one (.row (Mk (U5 y)))] _;refine Ha Tryz.func84 rfl ?_;refine go tt [.r 14 (eI (b:=(((U5 x).length+(U5 y).length:Nat):Int)) (by rw [lx,ly]; omega)),.i ((U5 x).length+(U5 y).length),.i ((U5 x).length+(U5 y).length)] rfl (by simp [Uf]; omega) ?_;rw [show List.replicate ((U5 x).length+(U5 y).length) [LV.int .i64 0]=Mk (List.replicate ((U5 x).length+(U5 y).length) 0) from by simp [Mk]];refine lp (S:=Nat×List Nat) 1 (λL1 s=>(18,.v (.one (.int .i64 (s.1:Int))))::L1) (λs=>[.row false 3 1 (Mk s.2)]) (λs=>(U5 x).length-s.1) (λs=>s.1<=(U5 x).length/\s.2.length=(U5 x).length+(U5 y).length/\Dg s.2/\Hr s.2=Hr ((U5 x).take s.1)*y/\∀ j v,s.1+(U5 y).length<=j->s.2[j]? = some v->v=0) (0,List.replicate ((U5 x).length+(U5 y).length) 0) ⟨Qg _,Ja ..,Dg.zeros _,by rw [Qi0 (λx hx=>Zs hx)]; simp [Hr],λj v _ hv=>Zs (Qa hv)⟩ rfl (λ_ _=>rfl) rfl λs hs=>?_
 obtain ⟨i,o⟩:=s;obtain ⟨hp0,hp1,hp2,hp3,hp4⟩:=hs;dsimp only at hp0 hp1 hp2 hp3 hp4 ⊢;by_cases h1:i<(U5 x).length
 ·obtain ⟨d,hd⟩:=gxE (l:=(U5 x)) (i:=i) h1;have hd9:=Mz x d (Qa hd);refine go tt [.t (decide_eq_true (by omega))] rfl trivial ?_;refine lp (S:=Nat×Nat×List Nat) 1 (λL1 s=>(8,.v (.one (.int .i64 (s.1:Int))))::(7,.v (.one (.int .i64 (s.2.1:Int))))::L1) (λs=>[.row false 3 1 (Mk s.2.2)]) (λs=>((U5 y).length-s.1)*2+min s.2.1 1) (MulI x y i d) (0,0,o) ⟨hp1,hp2,by dsimp only; rw [hp3]; simp [Hr],by show 0<10000; decide,.inl ⟨Nat.zero_le _,hp4⟩⟩ rfl (λ_ _=>rfl) rfl λs hs=>?_
  obtain ⟨k,c,o2⟩:=s;obtain ⟨hq0,hq1,hq2,hq3,hq4⟩:=hs;dsimp only at hq0 hq1 hq2 hq3 hq4 ⊢;have hol:(Mk o2).length=(U5 x).length+(U5 y).length:=by rw [Hf,hq0]
  by_cases h2:k<(U5 y).length
  ·obtain ⟨e,he⟩:=gxE (l:=(U5 y)) (i:=k) h2;have he9:=Mz y e (Qa he);have hde:d*e<=9999*9999:=Zw (by omega) (by omega);obtain ⟨v,hoi⟩:=gxE (l:=o2) (i:=i+k) (by omega);have hv9:=hq1 v (Qa hoi);refine go tt [.g 25 true (decide_eq_true (by omega)),.t rfl,.r 34 (eI (b:=((i+k:Nat):Int)) (by omega)),.i (i+k),.x (Fl hoi),.r 38 (eI (b:=((v+c:Nat):Int)) (by omega)),.t (decide_eq_true (by omega)),.x (Fl hd),.x (Fl he),.r 52 (eI (b:=((d*e:Nat):Int)) (by simp)),.r 53 (eI (b:=((v+c+d*e:Nat):Int)) (by omega)),.r 57 (eI (b:=((i+k:Nat):Int)) (by omega)),.r 59 (eI (b:=(((v+c+d*e) % 10000:Nat):Int)) (by rfl)),.i (i+k),.r 62 (eI (b:=(((v+c+d*e) / 10000:Nat):Int)) (by rfl))] rfl (by simp [Uf,hol,tdn,Qcg,-Int.natCast_add,-Int.natCast_mul]; omega) ?_;exact rd (k+1,(v+c+d*e) / 10000,o2.set (i+k) ((v+c+d*e) % 10000)) (by dsimp only; omega) ⟨by dsimp only; rw [List.length_set]; exact hq0,hq1.set (Nat.mod_lt _ (by decide)),by
    dsimp only;rw [<-Nat.add_assoc i k 1,Nat.pow_succ]; have:=Qiw hq2 (Qzn hoi (u:=((v+c)+(d*e)) % 10000)) (s:=d*e) (q:=((v+c)+(d*e)) / 10000) (by rw [Zlm]); rw [this,Ra he,Nat.pow_add]; grind,by dsimp only; omega,.inl ⟨by dsimp only; omega,λj w hj hw=>(by
     dsimp only at hw;rcases hq4 with ⟨_,h⟩ | ⟨_,_,h⟩ <;> (rw [Yc (by omega)] at hw; exact h j w (by omega) hw))⟩⟩ (by rw [Ay]; rfl)
  ·by_cases h3:0<c
   ·have hk:k=(U5 y).length:=by omega
    have hz:∀ j v,i+(U5 y).length<=j->o2[j]? = some v->v=0:=by
     rcases hq4 with ⟨_,h⟩ | ⟨_,h,_⟩
     ·exact h
     ·omega
    obtain ⟨v,hoi⟩:=gxE (l:=o2) (i:=i+k) (by omega);have hv0:v=0:=hz (i+k) v (by omega) hoi;have hv9:=hq1 v (Qa hoi);refine go tt [.g 25 false (decide_eq_false (by omega)),.t (decide_eq_true (by omega)),.r 34 (eI (b:=((i+k:Nat):Int)) (by omega)),.i (i+k),.x (Fl hoi),.r 38 (eI (b:=((v+c:Nat):Int)) (by omega)),.f (decide_eq_false (by omega)),.r 57 (eI (b:=((i+k:Nat):Int)) (by omega)),.r 59 (eI (b:=(((v+c) % 10000:Nat):Int)) (by rfl)),.i (i+k),.r 62 (eI (b:=(((v+c) / 10000:Nat):Int)) (by rfl))] rfl (by simp [Uf,hol,tdn,Qcg,-Int.natCast_add]; omega) ?_;exact rd (k+1,(v+c) / 10000,o2.set (i+k) ((v+c) % 10000)) (by dsimp only; omega) ⟨by dsimp only; rw [List.length_set]; exact hq0,hq1.set (Nat.mod_lt _ (by decide)),by
     dsimp only;rw [<-Nat.add_assoc i k 1,Nat.pow_succ]; have:=Qiw hq2 (Qzn hoi (u:=(v+c) % 10000)) (s:=0) (q:=(v+c) / 10000) (by rw [Zlm]; rfl); rw [this,Nat.mul_zero,Nat.add_zero,En (by omega)],by dsimp only; omega,.inr ⟨by dsimp only; omega,by dsimp only; omega,λj w hj hw=>(by
      dsimp only at hw;rw [Yc (by omega)] at hw; exact hz j w (by omega) hw)⟩⟩ (by rw [Ay]; rfl)
   ·refine go tt [.g 25 false (decide_eq_false (by omega)),.f (decide_eq_false (by omega))] rfl (by simp [Uf]; omega) ?_;exact rd (i+1,o2) (by dsimp only; omega) ⟨by dsimp only; omega,hq0,hq1,by
     dsimp only;rw [Ra hd,Jh]; have h:=hq2; rw [show c=0 by omega,Qj (l:=U5 y) (i:=k) (by omega),G5] at h; rw [J4,Xu] at h; exact h,by
     dsimp only;rcases hq4 with ⟨_,h⟩ | ⟨_,_,h⟩
     ·exact λj w hj hw=>h j w (by omega) hw
     ·exact λj w hj hw=>h j w (by omega) hw⟩ rfl
 ·have hv:Hr o=x*y:=by rw [hp3,Qj (by omega),G5]
  have cc:=Qex hp2;rw [hv] at cc;exact en tt [.f (decide_eq_false (by omega)),.c [] cc] rfl rfl trivial
theorem Qzb {x y:Nat}:Ip x y<=0↔x<=y:=by
 unfold Ip;constructor
 ·intro h; split at h
  ·omega
  ·split at h <;> omega
 ·intro h; split
  ·omega
  ·split <;> omega
theorem Q2o {R y lo:Nat} (h1:y*lo<=R) (h2:R<y*(lo+1)):R / y=lo/\R % y=R-y*lo:=by
 have hy:0<y:=by
  rcases Qy y with h | h
  ·subst h; simp at h2
  ·exact h
 have e:R / y=lo:=Nat.div_eq_of_lt_le (by rw [Zj]; exact h1) (by rw [Zj]; exact h2);refine ⟨e,?_⟩;have:=Xg R y;rw [e] at this; omega
theorem Zap {R y:Nat} (h:R<y*10000):sz R<=sz y+14:=by
 refine Mp.2 (Xj h ?_);have:=Qde y;rw [Xh];have e:(2:Nat)^14=16384:=by decide
 rw [e]; exact Zw (by omega) (by decide)
theorem Q3y (y:Nat):sz (y*10000)<=sz y+14:=by
 refine Mp.2 ?_;have:=Qde y;rw [Xh];have e:(2:Nat)^14=16384:=by decide
 rw [e]; omega
theorem Q40 {x y:Nat} (hx:sz x<=90000000) (hy:sz y<=90000000) (hy0:0<y):Uh Tryz.prog 154 [.one (nd x),.one (nd y)] [.one (nd (x / y)),.one (nd (x % y))]:=by
 have hxl:=Qd (S7 x) hx;have hyl:=Qd (S7 y) hy;have lx:=Qbv x;show Uh Tryz.prog 154 [.one (.row (Mk (U5 x))),.one (nd y)] _;refine Ha Tryz.func154 rfl ?_;refine go tt [.i (Mk (U5 x)).length,.i (Mk (U5 x)).length,.z 7,.r 17 (eI (b:=((U5 x).length:Int)-1) (by rw [lx]))] rfl (by simp [Uf]; omega) ?_;rw [lx,show List.replicate (U5 x).length [LV.int .i64 0]=Mk (List.replicate (U5 x).length 0) from by simp [Mk]];refine lp (S:=Nat×List Nat×List Nat) 1 (λL1 s=>(8,.v (.one (.int .i64 ((s.1:Int)-1))))::(7,.v (.one (.row (Mk s.2.1))))::L1) (λs=>[.row false 3 1 (Mk s.2.2)]) (λs=>s.1) (λs=>s.1<=(U5 x).length/\s.2.2.length=(U5 x).length/\Dg s.2.2/\Hr (s.2.2.drop s.1)=Hr ((U5 x).drop s.1) / y/\s.2.1=U5 (Hr ((U5 x).drop s.1) % y)) ((U5 x).length,[],List.replicate (U5 x).length 0) ⟨Nat.le_refl _,List.length_replicate ..,Dg.zeros _,by dsimp only; rw [List.drop_eq_nil_of_le (by simp),List.drop_eq_nil_of_le (Nat.le_refl _)]; simp [Hr],by dsimp only; rw [List.drop_eq_nil_of_le (Nat.le_refl _)]; simp [Hr,Ge]⟩ rfl (λ_ _=>rfl) rfl λs hs=>?_
 obtain ⟨j,R,o⟩:=s;obtain ⟨hp0,hp1,hp2,hp3,hp4⟩:=hs;dsimp only at hp0 hp1 hp2 hp3 hp4 ⊢;cases j with
 |
  zero =>
  have cc:=Qex hp2;rw [Xl,Xl,G5] at hp3;rw [Xl,G5] at hp4;rw [hp3] at cc;exact en tt [.f (by simp),.c [] cc] rfl (by rw [hp4]; rfl) trivial
 |
  succ j =>
  obtain ⟨d,hd⟩:=gxE (l:=(U5 x)) (i:=j) (by omega);have hd9:=Mz x d (Qa hd);have hdd:=I3 hd;obtain ⟨hq1,hq2,hq3⟩:=Qrz (V:=Hr ((U5 x).drop (j+1))) (kd:=y) (d:=d) hy0;rw [<-hdd] at hq1 hq2;have hq3:=hq3 hd9;obtain ⟨rr,hrr0⟩:=nmE (Hr ((U5 x).drop (j+1)) % y);have hrr:rr<y:=by rw [hrr0]; exact Xd _ hy0
  rw [<-hrr0] at hp4 hq1 hq2 hq3;subst hp4;have hrl:(U5 rr).length<=(U5 y).length:=I0 (by omega);have hR:rr*10000+d<y*10000:=by omega
  have hRs:=Zap hR;have hdv:Dg (d::U5 rr):=λz hz=>by
   rcases Qo.1 hz with rfl | hz
   ·exact hd9
   ·exact Mz rr z hz
  have cc:=Qex hdv;rw [show Hr (d::U5 rr)=rr*10000+d from by simp only [Hr]; rw [G5]; omega] at cc;have hol:(Mk o).length=(U5 x).length:=by rw [Hf,hp1]
  have hrrl:=Hf (U5 rr);have ej:((j+1:Nat):Int)-1=(j:Int):=by omega
  rw [ej];refine go tt [.t (decide_eq_true (by omega)),.x (Fl hd),.lo,.s (sz:=1) (Zie (U5 rr)),.c [] cc] rfl (by simp [Uf,Qbv]; omega) ?_;refine lp (S:=Nat×Nat) 2 (λL1 s=>(9,.v (.one (.int .i64 (s.1:Int))))::(10,.v (.one (.int .i64 (s.2:Int))))::L1) (λ_=>[.row false 3 1 (Mk o),.gone]) (λs=>s.2-s.1) (λs=>s.1<=s.2/\s.2<=9999/\y*s.1<=rr*10000+d/\rr*10000+d<y*(s.2+1)) (0,9999) ⟨by decide,by decide,by dsimp only; omega,by dsimp only; omega⟩ rfl (λ_ _=>rfl) rfl λs hs=>?_
  obtain ⟨lo,hi⟩:=s;obtain ⟨hb0,hb1,hb2,hb3⟩:=hs;dsimp only at hb0 hb1 hb2 hb3 ⊢;by_cases h2:lo<hi
  ·obtain ⟨m,hm⟩:=nmE ((lo+hi+1) / 2);have hym:y*m<=y*10000:=Zl y (by omega);have c1:=Qcw (x:=y) (mu:=m) (c0:=0) (by omega) (by omega) (by omega);have c2:=Qva (x:=y*m+0) (y:=rr*10000+d) (Qd (Hl (show _<=y*10000 by omega)) (Qd (Q3y y) (by omega))) (by omega);by_cases h3:y*m+0<=rr*10000+d
   ·refine go tt [.t (decide_eq_true (by omega)),.r 35 (eI (b:=((lo+hi:Nat):Int)) (by omega)),.r 36 (eI (b:=((lo+hi+1:Nat):Int)) (by omega)),.r 37 (eI (b:=(m:Int)) (by rw [hm]; rfl)),.c [] c1,.c [] c2,.t (decide_eq_true (Qzb.2 h3))] rfl (by simp [Uf,Qcg,-Int.natCast_add]; omega) ?_;exact rd (m,hi) (by dsimp only; omega) ⟨by dsimp only; omega,hb1,by dsimp only; omega,hb3⟩ rfl
   ·refine go tt [.t (decide_eq_true (by omega)),.r 35 (eI (b:=((lo+hi:Nat):Int)) (by omega)),.r 36 (eI (b:=((lo+hi+1:Nat):Int)) (by omega)),.r 37 (eI (b:=(m:Int)) (by rw [hm]; rfl)),.c [] c1,.c [] c2,.f (decide_eq_false λh=>h3 (Qzb.1 h)),.r 46 (eI (b:=((m-1:Nat):Int)) (by omega))] rfl (by simp [Uf,Qcg,-Int.natCast_add]; omega) ?_;exact rd (lo,m-1) (by dsimp only; omega) ⟨by dsimp only; omega,by dsimp only; omega,hb2,by dsimp only; rw [show m-1+1=m by omega]; omega⟩ rfl
  ·have hlh:lo=hi:=by omega
   have hfd:=Q2o hb2 (by rw [hlh]; exact hb3);have c1:=Qcw (x:=y) (mu:=lo) (c0:=0) (by omega) (by omega) (by omega);have c2:=Qvj (x:=rr*10000+d) (y:=y*lo+0) (by omega) (Qd (Hl (show _<=rr*10000+d by omega)) (by omega)) (by omega);rw [show rr*10000+d-(y*lo+0)=Hr ((U5 x).drop j) % y from by rw [hq2,hfd.2]; omega] at c2;refine go tt [.f (decide_eq_false (by omega)),.i j,.c [] c1,.c [] c2] rfl (by simp [Uf,hol,tdn,Qcg,-Int.natCast_add]; omega) ?_;exact rd (j,U5 (Hr ((U5 x).drop j) % y),o.set j lo) (by dsimp only; omega) ⟨by dsimp only; omega,by dsimp only; rw [List.length_set]; exact hp1,hp2.set (by omega),by
    dsimp only;rw [Qe1 (by omega)]; simp only [Hr]; rw [hp3,hq1,hfd.1],rfl⟩ (by rw [Ay]; rfl)
end Orr
namespace Orr
def Bd (s:Nat) (p:List Int):Prop:=∀ z∈p,Ur z≤s
theorem Pu:Ur 0=0:=rfl
theorem Q4r {s:Nat} {p:List Int} (h:Bd s p) {i:Nat} {z:Int} (hz:p[i]? = some z):Ur z<=s:=h z (Qa hz)
theorem Uu {s:Nat} {p:List Int} (h:Bd s p) (k:Nat):Ur (p.getD k 0)<=s:=by
 rw [Qe];cases hk:p[k]? with
 | none=>rw [Km,Pu]; exact Qg _
 | some z=>exact Q4r h hk
theorem Ug {s t:Nat} {p:List Int} (h:Bd s p) (ht:s<=t):Bd t p:=λz hz=>Qd (h z hz) ht
theorem Iw {s:Nat}:Bd s []:=λz hz=>by cases hz
theorem Zhh {s:Nat} {n:Nat} {g:Nat->Int} (h:∀ k,k<n->Ur (g k)<=s):Bd s ((List.range n).map g):=λz hz=>by
 obtain ⟨k,hk,rfl⟩:=Zi.1 hz;exact h k (Vq.1 hk)
theorem Quc:∀ (l:List Int),∀ z∈trim l,z∈l
 | [],z,h=>by cases h
 |
  x::l,z,h=>by
  have ih:=Quc l;cases hl:trim l with
  |
   nil =>
   simp only [trim,hl] at h
   split at h
   ·cases h
   ·rw [Qn] at h; rw [h]; exact Qt ..
  |
   cons y k =>
   simp only [trim,hl] at h;rcases Qo.1 h with rfl | h
   ·exact Qt ..
   ·exact Qh _ (ih z (by rw [hl]; exact h))
theorem G0 (l:List Int):(trim l).length<=l.length:=by
 induction l with
 | nil=>exact Qm _
 |
  cons x l ih =>
  cases hl:trim l with
  | nil=>simp only [trim,hl]; split <;> simp
  | cons y k=>simp only [trim,hl]; rw [hl] at ih; simp at ih ⊢; exact ih
theorem Rf {s:Nat} {p:List Int} (h:Bd s p):Bd s (trim p):=λz hz=>h z (Quc p z hz)
theorem Ah:∀ (l:List Int) (k:Nat),(trim l).getD k 0=l.getD k 0
 | [],k=>rfl
 |
  x::l,k=>by
  have ih:=Ah l;cases hl:trim l with
  |
   nil =>
   rw [hl] at ih;simp only [trim,hl]
   split
   ·rename_i hx;cases k with
    | zero=>simp [hx]
    | succ k=>have:=ih k; simp at this ⊢; exact this
   ·cases k with
    | zero=>simp
    | succ k=>have:=ih k; simp at this ⊢; exact this
  |
   cons y m =>
   rw [hl] at ih;simp only [trim,hl];cases k with
   | zero=>simp
   | succ k=>have:=ih k; simp at this ⊢; exact this
def Pk (n:Nat) (g:Nat->Int):List Int:=trim ((List.range n).map g)
theorem Uv (n:Nat) (g:Nat->Int):Um (Pk n g):=He _
theorem Eo (n:Nat) (g:Nat->Int):(Pk n g).length<=n:=Qd (G0 _) (by simp)
theorem Rz (n:Nat) (g:Nat->Int) (k:Nat):(Pk n g).getD k 0=if k<n then g k else 0:=by
 unfold Pk;rw [Ah,Qe,Za]
 split
 ·rename_i h; rw [List.getElem?_range h]; rfl
 ·rename_i h; rw [List.getElem?_eq_none (by simpa using h)]; rfl
theorem Qab {s n:Nat} {g:Nat->Int} (h:∀ k,k<n->Ur (g k)<=s):Bd s (Pk n g):=Rf (Zhh h)
def Tf (p q:List Int):List Int:=Pk (max p.length q.length) λk=>p.getD k 0+q.getD k 0
def Sx (p q:List Int):List Int:=Pk (max p.length q.length) λk=>p.getD k 0-q.getD k 0
def H5 (p:List Int):List Int:=Pk p.length λk=>-(p.getD k 0)
def Uz (p:List Int) (c:Int):List Int:=Pk p.length λk=>p.getD k 0*c
def Fg (p:List Int):List Int:=Pk (p.length-1) λk=>p.getD (k+1) 0*((k+1:Nat):Int)
theorem Qcp {s t:Nat} {p q:List Int} (h:Bd s p) (h':Bd t q):Bd (max s t+1) (Tf p q):=Qab λk _=>Qd (Qdb _ _) (by have:=Uu h k; have:=Uu h' k; omega)
theorem Qn0 {s t:Nat} {p q:List Int} (h:Bd s p) (h':Bd t q):Bd (max s t+1) (Sx p q):=Qab λk _=>Qd (Qo6 _ _) (by have:=Uu h k; have:=Uu h' k; omega)
theorem Qac {s:Nat} {p:List Int} (h:Bd s p):Bd s (H5 p):=Qab λk _=>by rw [Gy]; exact Uu h k
theorem Np {s t:Nat} {p:List Int} {c:Int} (h:Bd s p) (hc:Ur c<=t):Bd (s+t) (Uz p c):=Qab λk _=>Qd (U6 _ _) (by have:=Uu h k; omega)
theorem Ob (p q:List Int):(Tf p q).length<=max p.length q.length:=Eo _ _
theorem Qjr (p q:List Int):(Sx p q).length<=max p.length q.length:=Eo _ _
theorem Bs (p:List Int):(H5 p).length<=p.length:=Eo _ _
theorem Me (p:List Int) (c:Int):(Uz p c).length<=p.length:=Eo _ _
theorem Sr (p:List Int):(Fg p).length<=p.length-1:=Eo _ _
theorem Qo5 {k t:Nat} (h:k<2^t):Ur (k:Int)<=t:=by rw [Ri]; simpa using h
theorem Q22 {k:Nat} (h:k<274877906944):Ur (k:Int)<=4294967295:=Qd (Qo5 (t:=38) (Kd h (by decide))) (by omega)
theorem Qha {s t:Nat} {p:List Int} (h:Bd s p) (hl:p.length<=2^t):Bd (s+t) (Fg p):=Qab λk hk=>Qd (U6 _ _) (by
 have:=Uu h (k+1);have:=Qo5 (k:=k+1) (t:=t) (by omega);omega)
def Ez (x:Int) (b:List Int) (i:Nat) (o:List Int):Nat->List Int
 | 0=>o
 | k+1=>(Ez x b i o k).set (i+k) ((Ez x b i o k).getD (i+k) 0+x*b.getD k 0)
def B8 (a b o:List Int):Nat->List Int
 | 0=>o
 | i+1=>Ez (a.getD i 0) b i (B8 a b o i) b.length
def Uq (a b:List Int):List Int:=if a.length=0\/b.length=0 then [] else trim (B8 a b (List.replicate (a.length+b.length-1) 0) a.length)
theorem E3 (x:Int) (b:List Int) (i:Nat) (o:List Int) (k:Nat):(Ez x b i o k).length=o.length:=by
 induction k with
 | zero=>rfl
 | succ k ih=>simp [Ez,ih]
theorem Bt (a b o:List Int) (i:Nat):(B8 a b o i).length=o.length:=by
 induction i with
 | zero=>rfl
 | succ i ih=>simp [B8,E3,ih]
theorem Q7p (l:List Int) (i m:Nat) (v:Int) (h:i<l.length):(l.set i v).getD m 0=if m=i then v else l.getD m 0:=by
 rw [Qe,Ye,Qe];by_cases e:i=m
 ·subst e; simp [h]
 ·rw [if_neg e,if_neg (λh=>e h.symm)]
theorem Qmo (x:Int) (b:List Int) (i:Nat) (o:List Int) (k m:Nat) (h:i+k<=o.length):(Ez x b i o k).getD m 0=if i<=m/\m<i+k then o.getD m 0+x*b.getD (m-i) 0 else o.getD m 0:=by
 induction k with
 | zero=>simp only [Ez]; rw [if_neg (by omega)]
 |
  succ k ih =>
  have ih:=ih (by omega);simp only [Ez];rw [Q7p _ _ _ _ (by rw [E3]; omega)];by_cases e:m=i+k
  ·subst e;rw [if_pos rfl,if_pos (by omega),show i+k-i=k from by omega];rw [ih,if_neg (by omega)]
  ·rw [if_neg e,ih];by_cases h1:i<=m/\m<i+k
   ·rw [if_pos h1,if_pos (by omega)]
   ·rw [if_neg h1,if_neg (by omega)]
theorem Pv {x y:Int} {s t:Nat} (hx:Ur x<=s) (hy:Ur y<=t):(x*y).natAbs<=2^(s+t):=by
 have h:=Qd (U6 x y) (show _<=s+t by omega);rw [Ri] at h; omega
theorem Qpf {x:Int} {b:List Int} {i:Nat} {o:List Int} {k M:Nat} (h:i+k<=o.length) (ho:∀ m,(o.getD m 0).natAbs<=i*M) (hx:∀ j,(x*b.getD j 0).natAbs<=M) (m:Nat):((Ez x b i o k).getD m 0).natAbs<=(i+1)*M:=by
 rw [Qmo x b i o k m h,Xe];have h1:=ho m
 split
 ·have h2:=hx (m-i);generalize i*M=q at *;omega
 ·omega
theorem Qpe {a b o:List Int} {i M:Nat} (h:∀ j,j<i->j+b.length<=o.length) (ho:∀ m,o.getD m 0=0) (hx:∀ i j,(a.getD i 0*b.getD j 0).natAbs<=M) (m:Nat):((B8 a b o i).getD m 0).natAbs<=i*M:=by
 induction i generalizing m with
 | zero=>simp only [B8]; rw [ho]; simp
 |
  succ i ih =>
  simp only [B8];exact Qpf (by rw [Bt]; exact h i (by omega)) (ih λj hj=>h j (by omega)) (hx i) m
theorem Ea {z:Int} {i s t:Nat} (h:z.natAbs<=i*2^s) (hi:i<2^t):Ur z<=s+t:=by
 rw [Ri];have h1:i*2^s<2^t*2^s:=Xv hi (Zx (by decide));rw [<-Xh,J1 t s] at h1;omega
theorem So (n m:Nat):(List.replicate n (0:Int)).getD m 0=0:=by
 rw [Qe,Js]; split <;> rfl
theorem Qic {s:Nat} {p:List Int} (h:∀ m,Ur (p.getD m 0)<=s):Bd s p:=λz hz=>by
 obtain ⟨i,hi⟩:=Zh.1 hz;have:=h i;rw [Qe,hi] at this;exact this
theorem Hu (a b:List Int):(Uq a b).length<=a.length+b.length-1:=by
 unfold Uq
 split
 ·simp
 ·refine Qd (G0 _) ?_;rw [Bt]; simp
theorem Rx {s t u:Nat} {a b:List Int} (ha:Bd s a) (hb:Bd t b) (hl:a.length<2^u):Bd (s+t+u) (Uq a b):=by
 unfold Uq
 split
 ·exact Iw
 ·refine Rf (Qic λm=>?_);exact Ea (Qpe (M:=2^(s+t)) (λj hj=>by simp; omega) (So _) (λi j=>Pv (Uu ha i) (Uu hb j)) m) hl
theorem Gv (a b:List Int):Um (Uq a b):=by
 unfold Uq
 split
 ·rfl
 ·exact He _
def S4 (a:List Int) (n d:Int):Nat->Int×Int
 | 0=>(0,1)
 | k+1=>((S4 a n d k).1*n+a.getD (a.length-1-k) 0*(S4 a n d k).2,(S4 a n d k).2*d)
def Zew (a:List Int) (n d:Int):Int:=(S4 a n d a.length).1
theorem Qqs {a:List Int} {n d:Int} {s t k:Nat} (ha:Bd s a) (hn:Ur n<=t) (hd:Ur d<=t):Ur (S4 a n d k).1<=s+2+k*(t+1)/\Ur (S4 a n d k).2<=1+k*t:=by
 induction k with
 | zero=>exact ⟨by simp [S4,Pu],by simp [S4]; decide⟩
 |
  succ k ih =>
  obtain ⟨h1,h2⟩:=ih;have h3:=Uu ha (a.length-1-k);have e1:k*(t+1)=k*t+k:=by rw [Xs,Yn]
  rw [Xe,Xe];refine ⟨?_,?_⟩
  ·simp only [S4];refine Qd (Qdb _ _) ?_;have h4:=U6 (S4 a n d k).1 n;have h5:=U6 (a.getD (a.length-1-k) 0) (S4 a n d k).2;generalize k*t=q at *;rw [e1] at h1 ⊢;omega
  ·simp only [S4];have h4:=U6 (S4 a n d k).2 d;generalize k*t=q at *;omega
end Orr
namespace Orr
theorem Qfa {l:List Int} {i:Nat} (h:i<l.length):l[i]? = some (l.getD i 0):=by
 rw [Qe,Qf h]; rfl
theorem Qoh {x y:Int}:B7 x y=0↔x=y:=by
 unfold B7;constructor
 ·intro h
  split at h
  ·omega
  ·split at h <;> omega
 ·rintro rfl; simp
theorem Gw {p:List Int} (h:Um p) (h0:0<p.length):p.getD (p.length-1) 0≠0:=by
 induction p with
 | nil=>simp at h0
 |
  cons x l ih =>
  unfold Um at h;cases hl:trim l with
  |
   nil =>
   simp only [trim,hl] at h
   split at h
   ·cases h
   ·rename_i hx;injection h with h1 h2;subst h2;simpa using hx
  |
   cons y k =>
   simp only [trim,hl] at h;injection h with h1 h2;rw [<-hl] at h2;have ih:=ih h2 (by rw [<-h2,hl]; simp);have h3:0<l.length:=by rw [<-h2,hl]; simp
   simp only [Q7,J6];obtain ⟨m,hm⟩:∃ m,l.length=m+1:=⟨l.length-1,by omega⟩;rw [hm] at ih ⊢;simpa using ih
end Orr
namespace Orr
theorem Qjs (p:List Int):(List.range p.length).map (λk=>p.getD k 0)=p:=by
 apply Xq;intro i;rw [Za];rcases Q8 i p.length with h | h
 ·rw [Xz h];simp [Qf h]
 ·rw [Qr (by simpa using h),Qr h]; rfl
theorem Qi5 {p q:List Int} (hl:p.length=q.length) (h:∀ j,j<p.length->p.getD j 0=q.getD j 0):p=q:=by
 rw [<-Qjs p,<-Qjs q,<-hl];exact Y9 λj hj=>h j (Vq.1 hj)
end Orr
namespace Orr
abbrev rl (q:Rat):List LV:=[sg q.num,mg q.num,sg (q.den:Int),mg (q.den:Int)]
theorem M4 (n d:Int):Gj [n,d]=Int.gcd d n:=by
 unfold Gj;simp only [Z8,List.foldl_nil,Nat.gcd_zero_left];exact K7 _ _
theorem Qsa {n d:Int} (hd:d≠0):(0:Int)<((Gj [n,d]:Nat):Int):=by
 rw [M4];have:=Int.gcd_pos_of_ne_zero_left n hd;omega
theorem Qjd (n d:Int):n % ((Gj [n,d]:Nat):Int)=0:=by
 rw [M4]; exact Jq (Vo ..)
theorem Qje (n d:Int):d % ((Gj [n,d]:Nat):Int)=0:=by
 rw [M4]; exact Jq (Wx ..)
theorem Q0n {n g:Int} (h:n % g=0):-n % g=0:=by
 exact Jq (Int.dvd_neg.2 (Yh h))
theorem Qz3 {n d:Int} {s:Nat} (hd:d≠0) (h:Ur d<=s):Ur ((Gj [n,d]:Nat):Int)<=s:=by
 rw [M4];refine Qd (Hl ?_) h;have:=V1 (by omega:0<d.natAbs) (show Int.gcd d n∣d.natAbs from Kk _ _);simpa using this
theorem Qpb {n d:Int} (hd:0<d):n / ((Gj [n,d]:Nat):Int)=(Rat.divInt n d).num/\d / ((Gj [n,d]:Nat):Int)=((Rat.divInt n d).den:Int):=by
 rw [M4,Rat.num_divInt,We,if_neg (by omega),Jg hd,Y3];refine ⟨rfl,?_⟩;rw [Int.natCast_ediv,Int.natAbs_of_nonneg (by omega)]
theorem Zdy {n d:Int} (hd:d<0):-n / ((Gj [n,d]:Nat):Int)=(Rat.divInt n d).num/\-d / ((Gj [n,d]:Nat):Int)=((Rat.divInt n d).den:Int):=by
 rw [M4,Rat.num_divInt,We,if_neg (by omega),X5 hd,Vk,Y3];refine ⟨rfl,?_⟩;rw [Int.natCast_ediv,Int.ofNat_natAbs_of_nonpos (by omega)]
theorem I9 (u g:Int):Ur (u / g)<=Ur u:=by
 unfold Ur;exact Hl (Int.natAbs_ediv_le_natAbs u g)
theorem Qjo {n d:Int} {s:Nat} (h:Ur n<=s):Ur (Rat.divInt n d).num<=s:=by
 rw [Rat.num_divInt];refine Qd (I9 _ _) ?_;unfold Ur;rw [Jp];refine Qd (Hl ?_) h;have:d.sign.natAbs<=1:=by rcases Qcf d with ⟨_,e⟩ | ⟨_,e⟩ | ⟨_,e⟩ <;> rw [e] <;> decide
 calc d.sign.natAbs*n.natAbs<=1*n.natAbs:=Qz _ this
  _=n.natAbs:=Wh _
theorem Qjn {n d:Int} {s:Nat} (h:Ur d<=s) (h1:1<=s):Ur ((Rat.divInt n d).den:Int)<=s:=by
 rw [We]
 split
 ·exact h1
 ·refine Qd (Hl ?_) h;exact Jx _ _
def Qs (s:Nat) (q:Rat):Prop:=Ur q.num<=s/\Ur (q.den:Int)<=s
theorem Qs.mono {s t:Nat} {q:Rat} (h:Qs s q) (ht:s<=t):Qs t q:=⟨Qd h.1 ht,Qd h.2 ht⟩
theorem Qs.divInt {s:Nat} {n d:Int} (h:Ur n<=s) (h':Ur d<=s) (h1:1<=s):Qs s (Rat.divInt n d):=⟨Qjo h,Qjn h' h1⟩
theorem Nu (q:Rat):(q.den:Int)≠0:=by have:=q.den_nz; omega
theorem den_pos (q:Rat):(0:Int)<(q.den:Int):=by have:=q.den_nz; omega
def Gd (n d:Int):Rat:=Rat.divInt n (if d=0 then 1 else d)
theorem Qdy (q:Rat):Gd q.num q.den=q:=by
 unfold Gd;rw [if_neg (Nu q)]; exact Zv q
def Fx (a b:Rat):Int:=B7 (a.num*(b.den:Int)) (b.num*(a.den:Int))
theorem Ba {a b:Rat}:Fx a b<0↔a<b:=by
 rw [Rat.lt_iff]; unfold Fx B7;constructor
 ·intro h; split at h
  ·assumption
  ·split at h <;> omega
 ·intro h; rw [if_pos h]; decide
theorem Mx {a b:Rat}:0<Fx a b↔b<a:=by
 rw [Rat.lt_iff]; unfold Fx B7;constructor
 ·intro h; split at h
  ·omega
  ·split at h
   ·assumption
   ·omega
 ·intro h; rw [if_neg (by omega),if_pos h]; decide
theorem Nt (a:Rat):Fx a a=0:=by unfold Fx B7; simp
end Orr
namespace Orr
open Go Go.Proofs
set_option maxRecDepth 10000
abbrev fr (q:Rat):List LV:=ri q.num++ri (q.den:Int)
theorem Ll:U5 1=[1]:=by rw [Aw (by decide)]; rw [Ge]
theorem Pp {n:Int}:Uh Tryz.prog 48 [.agg (ri n),.agg (ri 1)] [.agg (fr (n:Rat))]:=by
 have h0:(Mk (U5 (1:Int).natAbs))[0]? = some [LV.int .i64 1]:=by rw [show (1:Int).natAbs=1 from rfl,Ll]; rfl
 have h1:decide (((Mk (U5 (1:Int).natAbs)).length:Int)=1)=true:=by rw [show (1:Int).natAbs=1 from rfl,Ll]; rfl
 exact w tt Tryz.func48 rfl [.c [] (P8 (z:=1)),.f rfl,.f rfl,.g 19 true h1,.x h0,.t rfl] rfl rfl trivial
theorem Qii {n:Int} (hn:-4000000000000000000<=n/\n<=4000000000000000000):Uh Tryz.prog 17 [.one (.int .i64 n),.one (.int .i64 1)] [.agg (fr (n:Rat))] :=
 w tt Tryz.func17 rfl [.c [] (Cd hn),.c [] (Cd (n:=1) (by decide)),.c [] Pp] rfl rfl trivial
theorem Zk8 {q:Rat} (hq:Qs 100000000 q):Uh Tryz.prog 19 [.agg (fr q)] [.agg (rl q)] :=
 w tt Tryz.func19 rfl [.c [] (Q5j hq.1),.c [] (Q5j hq.2)] rfl rfl trivial
end Orr
