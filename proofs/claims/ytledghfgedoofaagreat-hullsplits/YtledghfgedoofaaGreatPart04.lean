/- Ntt L1 L2 L3 L4 L5 M1 P2 M2 DigL R1 R3 PolyL RatL R2 -/
import Derived.Test.YtledghfgedoofaaGreatPart02
import Derived.Laws.StructEq
import Derived.Test.YtledghfgedoofaaGreatProg
import Derived.Test.YtledghfgedoofaaGreatPart00
import Derived.Test.YtledghfgedoofaaGreatPart03
set_option linter.all false
namespace Orr
open Go Go.Proofs
theorem Zhy (d:Nat) (x y:Int) (w:World):(Op.equalIn (d+1) 3 (.int .i64 x) (.int .i64 y)).run Tryz.prog w=.ok (decide (x=y)) w:=by
 simp [Op.equalIn,Tryz.runUnderlying3];rfl
def ti3:TI Tryz.prog:=tiO 3 Tryz.isAgg3 Tryz.sizeOf3 Tryz.underlying3 Tryz.zeroValue3 Tryz.typeInfo3 8 rfl
def ti4:TI Tryz.prog:=tiO 4 Tryz.isAgg4 Tryz.sizeOf4 Tryz.underlying4 Tryz.zeroValue4 Tryz.typeInfo4 1 rfl
def ti5:TI Tryz.prog:=tiO 5 Tryz.isAgg5 Tryz.sizeOf5 Tryz.underlying5 Tryz.zeroValue5 Tryz.typeInfo5 1 rfl
def ti9:TI Tryz.prog:=tiO 9 Tryz.isAgg9 Tryz.sizeOf9 Tryz.underlying9 Tryz.zeroValue9 Tryz.typeInfo9 16 rfl
def Zpk:TI Tryz.prog:=tiO 23 Tryz.isAgg23 Tryz.sizeOf23 Tryz.underlying23 Tryz.zeroValue23 Tryz.typeInfo23 24 rfl
def Zpl:TI Tryz.prog:=tiO 24 Tryz.isAgg24 Tryz.sizeOf24 Tryz.underlying24 Tryz.zeroValue24 Tryz.typeInfo24 24 rfl
def Zpm:TI Tryz.prog:=tiO 25 Tryz.isAgg25 Tryz.sizeOf25 Tryz.underlying25 Tryz.zeroValue25 Tryz.typeInfo25 24 rfl
def Zpn:TI Tryz.prog:=tiS (ks:=[1,1]) (ag:=[false,false]) 27 Tryz.isAgg27 Tryz.sizeOf27 Tryz.underlying27 Tryz.zeroValue27 Tryz.typeInfo27 32 rfl ⟨Tryz.sizeOf4,Tryz.sizeOf25,trivial⟩ ⟨Tryz.isAgg4,Tryz.isAgg25,trivial⟩ rfl
def Zpo:TI Tryz.prog:=tiS (ks:=[1,1,2]) (ag:=[false,false,true]) 29 Tryz.isAgg29 Tryz.sizeOf29 Tryz.underlying29 Tryz.zeroValue29 Tryz.typeInfo29 80 rfl ⟨Tryz.sizeOf24,Tryz.sizeOf24,Tryz.sizeOf27,trivial⟩ ⟨Tryz.isAgg24,Tryz.isAgg24,Tryz.isAgg27,trivial⟩ rfl
def Zpp:TI Tryz.prog:=tiS (ks:=[4,1]) (ag:=[true,false]) 33 Tryz.isAgg33 Tryz.sizeOf33 Tryz.underlying33 Tryz.zeroValue33 Tryz.typeInfo33 88 rfl ⟨Tryz.sizeOf29,Tryz.sizeOf3,trivial⟩ ⟨Tryz.isAgg29,Tryz.isAgg3,trivial⟩ rfl
def Zpq:TI Tryz.prog:=tiO 34 Tryz.isAgg34 Tryz.sizeOf34 Tryz.underlying34 Tryz.zeroValue34 Tryz.typeInfo34 24 rfl
def Zpr:TI Tryz.prog:=tiO 35 Tryz.isAgg35 Tryz.sizeOf35 Tryz.underlying35 Tryz.zeroValue35 Tryz.typeInfo35 8 rfl
def Zps:TI Tryz.prog:=tiO 36 Tryz.isAgg36 Tryz.sizeOf36 Tryz.underlying36 Tryz.zeroValue36 Tryz.typeInfo36 8 rfl
def Zpt:TI Tryz.prog:=tiS (ks:=[2,2]) (ag:=[true,true]) 40 Tryz.isAgg40 Tryz.sizeOf40 Tryz.underlying40 Tryz.zeroValue40 Tryz.typeInfo40 64 rfl ⟨Tryz.sizeOf27,Tryz.sizeOf27,trivial⟩ ⟨Tryz.isAgg27,Tryz.isAgg27,trivial⟩ rfl
def Zpu:TI Tryz.prog:=tiO 42 Tryz.isAgg42 Tryz.sizeOf42 Tryz.underlying42 Tryz.zeroValue42 Tryz.typeInfo42 24 rfl
def Zpv:TI Tryz.prog:=tiO 48 Tryz.isAgg48 Tryz.sizeOf48 Tryz.underlying48 Tryz.zeroValue48 Tryz.typeInfo48 24 rfl
def Zpw:TI Tryz.prog:=tiS (ks:=[1,1]) (ag:=[false,false]) 50 Tryz.isAgg50 Tryz.sizeOf50 Tryz.underlying50 Tryz.zeroValue50 Tryz.typeInfo50 32 rfl ⟨Tryz.sizeOf48,Tryz.sizeOf4,trivial⟩ ⟨Tryz.isAgg48,Tryz.isAgg4,trivial⟩ rfl
def Zpx:TI Tryz.prog:=tiS (ks:=[2,2]) (ag:=[true,true]) 52 Tryz.isAgg52 Tryz.sizeOf52 Tryz.underlying52 Tryz.zeroValue52 Tryz.typeInfo52 64 rfl ⟨Tryz.sizeOf50,Tryz.sizeOf50,trivial⟩ ⟨Tryz.isAgg50,Tryz.isAgg50,trivial⟩ rfl
def Zpy:TI Tryz.prog:=tiS (ks:=[1,4,4]) (ag:=[false,true,true]) 64 Tryz.isAgg64 Tryz.sizeOf64 Tryz.underlying64 Tryz.zeroValue64 Tryz.typeInfo64 152 rfl ⟨Tryz.sizeOf24,Tryz.sizeOf40,Tryz.sizeOf40,trivial⟩ ⟨Tryz.isAgg24,Tryz.isAgg40,Tryz.isAgg40,trivial⟩ rfl
def Zpz:TI Tryz.prog:=tiO 65 Tryz.isAgg65 Tryz.sizeOf65 Tryz.underlying65 Tryz.zeroValue65 Tryz.typeInfo65 24 rfl
def Zp0:TI Tryz.prog:=tiS (ks:=[1,9,1,1]) (ag:=[false,true,false,false]) 67 Tryz.isAgg67 Tryz.sizeOf67 Tryz.underlying67 Tryz.zeroValue67 Tryz.typeInfo67 192 rfl ⟨Tryz.sizeOf4,Tryz.sizeOf64,Tryz.sizeOf65,Tryz.sizeOf3,trivial⟩ ⟨Tryz.isAgg4,Tryz.isAgg64,Tryz.isAgg65,Tryz.isAgg3,trivial⟩ rfl
def Zp1:TI Tryz.prog:=tiS (ks:=[1]) (ag:=[false]) 69 Tryz.isAgg69 Tryz.sizeOf69 Tryz.underlying69 Tryz.zeroValue69 Tryz.typeInfo69 24 rfl ⟨Tryz.sizeOf34,trivial⟩ ⟨Tryz.isAgg34,trivial⟩ rfl
def Zp2:TI Tryz.prog:=tiS (ks:=[12,1,1]) (ag:=[true,true,false]) 71 Tryz.isAgg71 Tryz.sizeOf71 Tryz.underlying71 Tryz.zeroValue71 Tryz.typeInfo71 240 rfl ⟨Tryz.sizeOf67,Tryz.sizeOf69,Tryz.sizeOf34,trivial⟩ ⟨Tryz.isAgg67,Tryz.isAgg69,Tryz.isAgg34,trivial⟩ rfl
def Zp3:TI Tryz.prog:=tiO 74 Tryz.isAgg74 Tryz.sizeOf74 Tryz.underlying74 Tryz.zeroValue74 Tryz.typeInfo74 24 rfl
def Zp4:TI Tryz.prog:=tiO 77 Tryz.isAgg77 Tryz.sizeOf77 Tryz.underlying77 Tryz.zeroValue77 Tryz.typeInfo77 24 rfl
def Zp5:TI Tryz.prog:=tiO 79 Tryz.isAgg79 Tryz.sizeOf79 Tryz.underlying79 Tryz.zeroValue79 Tryz.typeInfo79 24 rfl
def Zp6:TI Tryz.prog:=tiO 80 Tryz.isAgg80 Tryz.sizeOf80 Tryz.underlying80 Tryz.zeroValue80 Tryz.typeInfo80 24 rfl
def Zp7:TI Tryz.prog:=tiS (ks:=[1,1,4,4]) (ag:=[false,false,true,true]) 82 Tryz.isAgg82 Tryz.sizeOf82 Tryz.underlying82 Tryz.zeroValue82 Tryz.typeInfo82 176 rfl ⟨Tryz.sizeOf79,Tryz.sizeOf80,Tryz.sizeOf52,Tryz.sizeOf52,trivial⟩ ⟨Tryz.isAgg79,Tryz.isAgg80,Tryz.isAgg52,Tryz.isAgg52,trivial⟩ rfl
def Zp8:TI Tryz.prog:=tiO 83 Tryz.isAgg83 Tryz.sizeOf83 Tryz.underlying83 Tryz.zeroValue83 Tryz.typeInfo83 24 rfl
def Zp9:TI Tryz.prog:=tiO 84 Tryz.isAgg84 Tryz.sizeOf84 Tryz.underlying84 Tryz.zeroValue84 Tryz.typeInfo84 24 rfl
def Zqa:TI Tryz.prog:=tiS (ks:=[10,1,1,1]) (ag:=[true,false,false,false]) 86 Tryz.isAgg86 Tryz.sizeOf86 Tryz.underlying86 Tryz.zeroValue86 Tryz.typeInfo86 232 rfl ⟨Tryz.sizeOf82,Tryz.sizeOf83,Tryz.sizeOf3,Tryz.sizeOf84,trivial⟩ ⟨Tryz.isAgg82,Tryz.isAgg83,Tryz.isAgg3,Tryz.isAgg84,trivial⟩ rfl
def Zqb:TI Tryz.prog:=tiS (ks:=[1,4,13]) (ag:=[false,true,true]) 88 Tryz.isAgg88 Tryz.sizeOf88 Tryz.underlying88 Tryz.zeroValue88 Tryz.typeInfo88 320 rfl ⟨Tryz.sizeOf77,Tryz.sizeOf52,Tryz.sizeOf86,trivial⟩ ⟨Tryz.isAgg77,Tryz.isAgg52,Tryz.isAgg86,trivial⟩ rfl
def Zqc:TI Tryz.prog:=tiS (ks:=[1,1,4]) (ag:=[false,false,true]) 90 Tryz.isAgg90 Tryz.sizeOf90 Tryz.underlying90 Tryz.zeroValue90 Tryz.typeInfo90 128 rfl ⟨Tryz.sizeOf79,Tryz.sizeOf79,Tryz.sizeOf29,trivial⟩ ⟨Tryz.isAgg79,Tryz.isAgg79,Tryz.isAgg29,trivial⟩ rfl
def Zqd:TI Tryz.prog:=tiS (ks:=[6,1]) (ag:=[true,false]) 92 Tryz.isAgg92 Tryz.sizeOf92 Tryz.underlying92 Tryz.zeroValue92 Tryz.typeInfo92 136 rfl ⟨Tryz.sizeOf90,Tryz.sizeOf3,trivial⟩ ⟨Tryz.isAgg90,Tryz.isAgg3,trivial⟩ rfl
set_option maxRecDepth 20000 in
theorem Q8o (d:Nat) (x0 x1 x2 x3 y0 y1 y2 y3:Int) (w:World):(Op.equalIn (d+1+1) 118 (.agg #[.int .i64 x0,.int .i64 x1,.int .i64 x2,.int .i64 x3]) (.agg #[.int .i64 y0,.int .i64 y1,.int .i64 y2,.int .i64 y3])).run Tryz.prog w=.ok (decide ([x0,x1,x2,x3]=[y0,y1,y2,y3])) w:=by
 rw [run_equalIn_array w (d+1) _ _ (n:=4) (e:=3) rfl rfl];rw [show List.range 4=[0,1,2,3] from rfl,show Tryz.prog.cellsOf 3=1 from rfl];simp [Op.eqItems,Go.part,Tryz.isAgg3,Zhy];by_cases h0:x0=y0 <;> by_cases h1:x1=y1 <;> by_cases h2:x2=y2 <;> by_cases h3:x3=y3 <;> simp [h0,h1,h2,h3]
def Znh:TI Tryz.prog:=tiA 118 Tryz.isAgg118 Tryz.sizeOf118 Tryz.underlying118 Tryz.zeroValue118 Tryz.typeInfo118 32 rfl Tryz.sizeOf3
set_option maxRecDepth 20000 in
theorem Q8p (d:Nat) (x x0 x1 x2 x3 y y0 y1 y2 y3:Int) (w:World):(Op.equalIn (d+1+1+1) 120 (.agg #[.int .i64 x,.int .i64 x0,.int .i64 x1,.int .i64 x2,.int .i64 x3]) (.agg #[.int .i64 y,.int .i64 y0,.int .i64 y1,.int .i64 y2,.int .i64 y3])).run Tryz.prog w=.ok (decide ([x,x0,x1,x2,x3]=[y,y0,y1,y2,y3])) w:=by
 rw [run_equalIn_struct w (d+1+1) 120 _ _ rfl Tryz.stoodInHeld120];have hf:(Tryz.prog.fieldsOf 120).toList=[{ name := "Kind",type:=3,offset:=0,embedded:=false,tag := "",pkgPath := "",byteOffset:=0 },{ name := "Ids",type:=118,offset:=1,embedded:=false,tag := "",pkgPath := "",byteOffset:=8 }]:=by simp [Program.fieldsOf,Tryz.underlying120]
 rw [hf];simp [Op.eqFields,Go.part,Tryz.isAgg3,Tryz.isAgg118,Tryz.sizeOf118,Tryz.sizeOf3,Zhy,Q8o];by_cases h:x=y <;> by_cases h0:x0=y0 <;> by_cases h1:x1=y1 <;> by_cases h2:x2=y2 <;> by_cases h3:x3=y3 <;> simp [h,h0,h1,h2,h3]
theorem Zew (a b:List Int) (ha:a.length=5) (hb:b.length=5) (w:World):(Op.equal 120 (.agg (a.map (Value.int .i64)).toArray) (.agg (b.map (Value.int .i64)).toArray)).run Tryz.prog w=.ok (decide (a=b)) w:=by
 match a,ha,b,hb with
 | [x,x0,x1,x2,x3],_,[y,y0,y1,y2,y3],_=>exact Q8p 9997 x x0 x1 x2 x3 y y0 y1 y2 y3 w
def Zni:TI Tryz.prog:={ tiS (ks:=[1,4]) (ag:=[false,true]) 120 Tryz.isAgg120 Tryz.sizeOf120 Tryz.underlying120 Tryz.zeroValue120 Tryz.typeInfo120 40 rfl ⟨Tryz.sizeOf3,Tryz.sizeOf118,trivial⟩ ⟨Tryz.isAgg3,Tryz.isAgg118,trivial⟩ rfl with eqn:=some 5,heq:=λk h=>by injection h with h; subst h; exact ⟨Tryz.eqGuardType120,Zew⟩ }
def Znj:TI Tryz.prog:=tiS (ks:=[5,1,1]) (ag:=[true,false,false]) 122 Tryz.isAgg122 Tryz.sizeOf122 Tryz.underlying122 Tryz.zeroValue122 Tryz.typeInfo122 72 rfl ⟨Tryz.sizeOf120,Tryz.sizeOf24,Tryz.sizeOf3,trivial⟩ ⟨Tryz.isAgg120,Tryz.isAgg24,Tryz.isAgg3,trivial⟩ rfl
def Znk:TI Tryz.prog:=tiS (ks:=[7,1,1,9]) (ag:=[true,false,false,true]) 125 Tryz.isAgg125 Tryz.sizeOf125 Tryz.underlying125 Tryz.zeroValue125 Tryz.typeInfo125 232 rfl ⟨Tryz.sizeOf122,Tryz.sizeOf4,Tryz.sizeOf4,Tryz.sizeOf64,trivial⟩ ⟨Tryz.isAgg122,Tryz.isAgg4,Tryz.isAgg4,Tryz.isAgg64,trivial⟩ rfl
def Znl:TI Tryz.prog:=tiO 140 Tryz.isAgg140 Tryz.sizeOf140 Tryz.underlying140 Tryz.zeroValue140 Tryz.typeInfo140 8 rfl
def Znm:TI Tryz.prog:=tiO 143 Tryz.isAgg143 Tryz.sizeOf143 Tryz.underlying143 Tryz.zeroValue143 Tryz.typeInfo143 4 rfl
def Znn:TI Tryz.prog:=tiO 144 Tryz.isAgg144 Tryz.sizeOf144 Tryz.underlying144 Tryz.zeroValue144 Tryz.typeInfo144 8 rfl
def Zno:TI Tryz.prog:=tiO 158 Tryz.isAgg158 Tryz.sizeOf158 Tryz.underlying158 Tryz.zeroValue158 Tryz.typeInfo158 24 rfl
def Znp:TI Tryz.prog:=tiO 200 Tryz.isAgg200 Tryz.sizeOf200 Tryz.underlying200 Tryz.zeroValue200 Tryz.typeInfo200 24 rfl
def Znq:TI Tryz.prog:=tiS (ks:=[5,1,1,1,1]) (ag:=[true,false,false,false,false]) 213 Tryz.isAgg213 Tryz.sizeOf213 Tryz.underlying213 Tryz.zeroValue213 Tryz.typeInfo213 104 rfl ⟨Tryz.sizeOf120,Tryz.sizeOf79,Tryz.sizeOf3,Tryz.sizeOf84,Tryz.sizeOf4,trivial⟩ ⟨Tryz.isAgg120,Tryz.isAgg79,Tryz.isAgg3,Tryz.isAgg84,Tryz.isAgg4,trivial⟩ rfl
def Znr:TI Tryz.prog:=tiO 227 Tryz.isAgg227 Tryz.sizeOf227 Tryz.underlying227 Tryz.zeroValue227 Tryz.typeInfo227 24 rfl
def Zns:TI Tryz.prog:=tiO 251 Tryz.isAgg251 Tryz.sizeOf251 Tryz.underlying251 Tryz.zeroValue251 Tryz.typeInfo251 24 rfl
def Znt:TI Tryz.prog:=tiO 268 Tryz.isAgg268 Tryz.sizeOf268 Tryz.underlying268 Tryz.zeroValue268 Tryz.typeInfo268 24 rfl
def Znu:TI Tryz.prog:=tiA 271 Tryz.isAgg271 Tryz.sizeOf271 Tryz.underlying271 Tryz.zeroValue271 Tryz.typeInfo271 272 rfl Tryz.sizeOf92
def Znv:TI Tryz.prog:=tiS (ks:=[1]) (ag:=[false]) 282 Tryz.isAgg282 Tryz.sizeOf282 Tryz.underlying282 Tryz.zeroValue282 Tryz.typeInfo282 24 rfl ⟨Tryz.sizeOf227,trivial⟩ ⟨Tryz.isAgg227,trivial⟩ rfl
def Znw:TI Tryz.prog:=tiO 306 Tryz.isAgg306 Tryz.sizeOf306 Tryz.underlying306 Tryz.zeroValue306 Tryz.typeInfo306 24 rfl
def Znx:TI Tryz.prog:=tiO 307 Tryz.isAgg307 Tryz.sizeOf307 Tryz.underlying307 Tryz.zeroValue307 Tryz.typeInfo307 24 rfl
def tt:TT Tryz.prog:=(.nd (.nd (.nd (.nd (.nd (.nd .nil ti3 .nil) ti4 (.nd .nil ti5 .nil)) ti9 (.nd (.nd .nil Zpk .nil) Zpl .nil)) Zpm (.nd (.nd (.nd .nil Zpn .nil) Zpo .nil) Zpp (.nd (.nd .nil Zpq .nil) Zpr .nil))) Zps (.nd (.nd (.nd (.nd .nil Zpt .nil) Zpu (.nd .nil Zpv .nil)) Zpw (.nd (.nd .nil Zpx .nil) Zpy .nil)) Zpz (.nd (.nd (.nd .nil Zp0 .nil) Zp1 .nil) Zp2 (.nd (.nd .nil Zp3 .nil) Zp4 .nil)))) Zp5 (.nd (.nd (.nd (.nd (.nd .nil Zp6 .nil) Zp7 (.nd .nil Zp8 .nil)) Zp9 (.nd (.nd .nil Zqa .nil) Zqb .nil)) Zqc (.nd (.nd (.nd .nil Zqd .nil) Znh .nil) Zni (.nd (.nd .nil Znj .nil) Znk .nil))) Znl (.nd (.nd (.nd (.nd .nil Znm .nil) Znn (.nd .nil Zno .nil)) Znp (.nd (.nd .nil Znq .nil) Znr .nil)) Zns (.nd (.nd (.nd .nil Znt .nil) Znu .nil) Znv (.nd (.nd .nil Znw .nil) Znx .nil)))))
instance:Mo Tryz.prog:=⟨rfl⟩
end Orr
namespace Orr
open Go Go.Proofs
set_option maxRecDepth 10000
def lm (l:List Nat):List (List LV):=l.map λ(x:Nat)=>[.int .u32 (x:Int)]
abbrev lr (l:List Nat):TV:=.one (.row (lm l))
theorem Uv (l:List Nat):(lm l).length=l.length:=by simp [lm]
theorem Gh {l:List Nat} {i x:Nat} (h:l[i]? = some x):(lm l)[i]? = some [.int .u32 (x:Int)]:=by simp [lm,h]
def trm:List Nat->List Nat
 | []=>[]
 |
  x::l=>match trm l with
  | []=>if x=0 then [] else [x]
  | r=>x::r
theorem Zg0 {l:List Nat}:trm l=[]↔∀ x∈l,x=0:=by
 induction l with
 | nil=>simp [trm]
 |
  cons x l ih =>
  simp only [trm]
  split
  ·rename_i e;have h1:=ih.1 e;by_cases h:x=0
   ·simp [h]; exact h1
   ·simp [h]
  ·rename_i r hne;simp only [reduceCtorEq,Qo,forall_eq_or_imp,false_iff,not_and];exact λ_ h=>hne (ih.2 h)
theorem Qfg:∀ {l:List Nat} {n:Nat},n<=l.length->(∀ j,n<=j->j<l.length->l[j]? = some 0)->(n=0\/∃ x,l[n-1]? = some x/\x≠0)->l.take n=trm l
 | [],n,h,_,_=>by simp at h; subst h; rfl
 |
  x::l,0,h,hz,_=>by
  rw [V2];refine (Zg0.2 λy hy=>?_).symm;obtain ⟨j,hj⟩:=Zd.1 hy;have:=hz j (Qh _) (Qd.1 hj).1;rw [hj] at this; injection this
 |
  x::l,n+1,h,hz,ht=>by
  simp only [Q7,Nat.add_le_add_iff_right] at h;have hz':∀ j,n<=j->j<l.length->l[j]? = some 0:=λj h1 h2=>by simpa using hz (j+1) (by omega) (by simpa using h2)
  cases n with
  |
   zero =>
   have e:trm l=[]:=(Qfg (n:=0) h hz' (.inl rfl)).symm;rcases ht with h | ⟨y,h1,h2⟩
   ·omega
   ·simp at h1; subst h1; simp [trm,e,h2]
  |
   succ n =>
   have ih:=Qfg (n:=n+1) h hz' (.inr (by rcases ht with h | ⟨y,h1,h2⟩; (· omega); exact ⟨y,by simpa using h1,h2⟩));simp only [J6,trm];rw [<-ih];cases hl:l with
   | nil=>rw [hl] at h; simp at h
   | cons y l'=>simp [J6]
theorem Zng (l:List Nat):Ut Tryz.prog 104 [lr l] [lr (trm l)]:=by
 refine Gv Tryz.func104 rfl (ln 0 rfl rfl λhl=>?_);rw [Uv] at hl;refine go tt [] rfl trivial ?_;refine lp (S:=Nat) 0 (λL1 n=>(3,.v (.one (.int .i64 (n:Int))))::L1) (λ_=>[]) id (λn=>n<=l.length/\∀ j,n<=j->j<l.length->l[j]? = some 0) (lm l).length ⟨by rw [Uv]; exact Ql _,λj h1 h2=>by rw [Uv] at h1; omega⟩ rfl (λ_ _=>rfl) rfl λn ⟨h1,h2⟩=>?_
 cases n with
 | zero=>exact en tt [.f (by simp),.f rfl,.i 0] rfl (by rw [<-Qfg h1 h2 (.inl rfl)]; simp [lm]) (by simp [Ur,Hj])
 |
  succ n =>
  obtain ⟨x,hx⟩:=gxE (l:=l) (i:=n) (by omega);by_cases h0:x=0
  ·refine go tt [.t (by simp),.r 11 (v:=.one (.int .i64 (n:Int))) (by simp),.x (Gh hx),.t (by simp [h0]),.r 17 (v:=.one (.int .i64 (n:Int))) (by simp)] rfl (by simp [Ur,Hj]; omega) ?_;exact rd n (by simp) ⟨by omega,λj h3 h4=>by
    rcases Vl h3 with rfl | h3
    ·rw [hx,h0]
    ·exact h2 j h3 h4⟩ rfl
  ·exact en tt [.t (by simp),.r 11 (v:=.one (.int .i64 (n:Int))) (by simp),.x (Gh hx),.f (by simp [h0]),.i (n+1)] rfl (by rw [<-Qfg h1 h2 (.inr ⟨x,hx,h0⟩)]; simp [lm]) (by simp [Ur,Hj,Uv] <;> omega)
def Sm (l:List Nat):Prop:=∀ x∈l,x<4294967296
theorem Qrx:∀ l:List Nat,Cut l (trm l).length/\l.take (trm l).length=trm l
 | []=>⟨⟨Ql _,λj _ h=>by simp at h,λh=>by simp [trm] at h⟩,rfl⟩
 |
  x::l=>by
  obtain ⟨⟨h1,h2,h3⟩,h4⟩:=Qrx l;simp only [trm]
  split
  ·rename_i e;rw [e] at h2 h3;by_cases h:x=0
   ·rw [if_pos h];refine ⟨⟨Qh _,λj _ hj=>?_,λh=>by simp at h⟩,rfl⟩;cases j with
    | zero=>simp [h]
    | succ j=>simpa using h2 j (Qh _) (by simpa using hj)
   ·rw [if_neg h];refine ⟨⟨by simp,λj h5 hj=>?_,λ_=>⟨x,rfl,h⟩⟩,rfl⟩;cases j with
    | zero=>simp at h5
    | succ j=>simpa using h2 j (Qh _) (by simpa using hj)
  ·rename_i r hne;refine ⟨⟨by simp [h1],λj h5 hj=>?_,λ_=>?_⟩,by simp [h4]⟩
   ·cases j with
    | zero=>simp at h5
    | succ j=>simpa using h2 j (by simpa using h5) (by simpa using hj)
   ·have hp:0<(trm l).length:=by
     cases e:trm l with
     | nil=>exact absurd e hne
     | cons=>simp
    obtain ⟨y,h5,h6⟩:=h3 hp;refine ⟨y,?_,h6⟩;rw [Q7,show (trm l).length+1-1=((trm l).length-1)+1 from by omega];simpa using h5
theorem Qo8 {l:List Nat} (h:Sm l):trm l=Fg (val l):=by
 obtain ⟨h1,h2⟩:=Qrx l;refine Q9q ?_ ?_
 ·rw [<-h2]; exact Zep h1 h
 ·rw [<-h2]; exact Zeq h1
theorem De (x:Nat):Sm (Fg x):=(Cg x).1
theorem Rm {x k:Nat} (h:sz x<=k):32*(Fg x).length<=k+31:=by
 have:=Zfn (Cg x);rw [Ge] at this; omega
theorem Qcn {l:List Nat} (h:Sm l):Ut Tryz.prog 104 [lr l] [lr (Fg (val l))]:=Qo8 h ▸ Zng l
theorem Q9r (l:List Nat):∀ c∈lm l,c.length=1:=λc hc=>by
 obtain ⟨x,_,rfl⟩:=Zr.1 hc; rfl
theorem Qcw {l:List Nat} (h:Sm l) (hs:sz (val l)<=4294967296):Ut Tryz.prog 68 [lr l] [lr (Fg (val l))] :=
 w tt Tryz.func68 rfl [.c [] (Qcn h),.s (Q9r (Fg (val l)))] rfl rfl (by have:=Rm hs; simp [Ur,Hj,Uv]; omega)
theorem Qf4 {a:List Nat} (ha:Sm a):∃ p,Ut Tryz.prog 104 [lr a] [lr p]/\Nrm p/\val p=val a/\p.length<=a.length/\p=Fg (val a) :=
 ⟨_,Qcn ha,Cg _,Ge _,by rw [<-Qo8 ha]; exact (Qrx a).1.1,rfl⟩
theorem Q6c {a b:List Nat} (ha:Sm a) (hb:Sm b):Ut Tryz.prog 175 [lr a,lr b] [.one (.int .i64 (Oy (val a) (val b)))]:=by
 refine Gv Tryz.func175 rfl (ln 0 rfl rfl λhl=>ln 1 rfl rfl λhl'=>?_);rw [Uv] at hl hl';obtain ⟨p,ca,np,vp,lp',_⟩:=Qf4 ha;obtain ⟨q,cb,nq,vq,lq,_⟩:=Qf4 hb;rw [<-vp,<-vq];by_cases h:p.length=q.length
 ·refine go tt [.c [] ca,.c [] cb,.f (by simp [Uv,h])] rfl (by simp [Ur,Hj,Uv] <;> omega) ?_;refine lp (S:=Int) 0 (λL1 i=>(5,.v (.one (.int .i64 i)))::L1) (λ_=>[]) (λi=>(i+1).toNat) (λi=>-1<=i/\i<p.length/\p.drop (i+1).toNat=q.drop (i+1).toNat) (((lm p).length:Int)-1) ⟨by omega,by simp [Uv]; omega,by simp [Uv,h]⟩ rfl (λ_ _=>rfl) rfl λi ⟨h1,h2,h3⟩=>?_
  rcases We i 0 with hi | hi
  ·obtain rfl:i=-1:=by omega
   exact en tt [.f (by decide)] rfl (by rw [Q0m]; exact congrArg val (by simpa using h3)) trivial
  ·obtain ⟨k,rfl⟩:=Yn hi;have e:((k:Int)+1).toNat=k+1:=by omega
   rw [e] at h3;obtain ⟨x,hx⟩:=gxE (l:=p) (i:=k) (by omega);obtain ⟨y,hy⟩:=gxE (l:=q) (i:=k) (by omega);rcases Vx x y with hxy | rfl | hxy
   ·exact en tt [.t (by simp),.x (Gh hx),.x (Gh hy),.t (by simp; omega)] rfl (by rw [Qir (Q25 np.1 h3 hx hy hxy)]) (by simp [Ur,Hj,Uv] <;> omega)
   ·refine go tt [.t (by simp),.x (Gh hx),.x (Gh hy),.f (by simp),.x (Gh hx),.x (Gh hy),.f (by simp)] rfl (by simp [Ur,Hj,Uv] <;> omega) ?_;exact rd ((k:Int)-1) (by omega) ⟨by omega,by omega,by rw [show ((k:Int)-1+1).toNat=k from by omega]; exact Q4b h3 hx hy⟩ rfl
   ·exact en tt [.t (by simp),.x (Gh hx),.x (Gh hy),.f (by simp; omega),.x (Gh hx),.x (Gh hy),.t (by simp; omega)] rfl (by rw [Qiq (Q25 nq.1 h3.symm hy hx hxy)]) (by simp [Ur,Hj,Uv] <;> omega)
 ·by_cases h2:p.length<q.length
  ·exact en tt [.c [] ca,.c [] cb,.t (by simp [Uv]; omega),.t (by simp [Uv]; omega)] rfl (by rw [Qir (Cz np nq h2)]) (by simp [Ur,Hj])
  ·exact en tt [.c [] ca,.c [] cb,.t (by simp [Uv]; omega),.f (by simp [Uv]; omega)] rfl (by rw [Qiq (Cz nq np (by omega))]) (by simp [Ur,Hj])
theorem Qdj (m:Nat):List.replicate m [LV.int .u32 0]=lm (List.replicate m 0):=by simp [lm]
theorem Nv (l:List Nat) (i x:Nat):(lm l).set i [.int .u32 (x:Int)]=lm (l.set i x):=by simp [lm,V1]
theorem Cv {a b:Int} (h:a=b):TV.one (LV.int .u64 a)=.one (.int .u64 b):=h ▸ rfl
theorem D4 {a b:Int} (h:a=b):TV.one (LV.int .u32 a)=.one (.int .u32 b):=h ▸ rfl
theorem eI {a b:Int} (h:a=b):TV.one (LV.int .i64 a)=.one (.int .i64 b):=h ▸ rfl
theorem w32 (z:Int):IntKind.u32.wrap z=z % 4294967296:=by simp [IntKind.wrap,IntKind.bits,IntKind.signed]
theorem w64 (z:Int):IntKind.u64.wrap z=z % 18446744073709551616:=by simp [IntKind.wrap,IntKind.bits,IntKind.signed]
theorem Zhi {a b:List Nat} (ha:Sm a) (hb:Sm b) (h1:sz (val a)<=4294967296) (h2:sz (val b)<=4294967296):Ut Tryz.prog 148 [lr a,lr b] [lr (Fg (val a+val b))]:=by
 refine Gv Tryz.func148 rfl ?_;obtain ⟨p,ca,np,vp,_,ep⟩:=Qf4 ha;obtain ⟨q,cb,nq,vq,_,eq⟩:=Qf4 hb;have lp':=Rm h1;have lq:=Rm h2;rw [<-ep] at lp';rw [<-eq] at lq;rw [<-vp,<-vq];refine go tt [.c [] ca,.c [] cb] rfl trivial ?_;refine ct 1 (S:=List Nat×List Nat) (λs=>[(0,.v (lr s.1)),(1,.v (lr s.2))]) (λ_=>[]) (λs=>Nrm s.1/\Nrm s.2/\32*s.1.length<=4294967327/\s.2.length<=s.1.length/\val s.1+val s.2=val p+val q) rfl ?_ ?_
 ·by_cases h:p.length<q.length
  ·exact go tt [.t (by simp [Uv]; omega)] rfl trivial (rc (q,p) ⟨nq,np,lq,Yh h,Ja _ _⟩ rfl)
  ·exact go tt [.f (by simp [Uv]; omega)] rfl trivial (rc (p,q) ⟨np,nq,lp',Vb h,rfl⟩ rfl)
 ·intro ⟨p',q'⟩ ⟨np,nq,hp,hq,e⟩;dsimp only at np nq hp hq e;rw [<-e];clear ca cb e vp vq ep eq;refine go tt [.i ((lm p').length+1),.i ((lm p').length+1)] rfl (by simp [Ur,Hj,Uv] <;> omega) ?_;rw [Qdj];refine lp (S:=Nat×List Nat×Nat) 1 (λL1 s=>(27,.v (.one (.int .i64 (s.1:Int))))::(6,.v (.one (.int .u64 (s.2.2:Int))))::L1) (λs=>[.row false 143 1 (lm s.2.1)]) (λs=>p'.length-s.1)
   (λs=>s.1<=p'.length/\s.2.1.length=p'.length+1/\Sm s.2.1/\s.2.2<=1/\val (s.2.1.take s.1)+s.2.2*4294967296^s.1=val (p'.take s.1)+val (q'.take s.1)) (0,List.replicate ((lm p').length+1) 0,0)
   ⟨Qh _,by simp [Uv],λx hx=>by rw [Zu hx]; decide,Qh _,by simp [val]⟩ rfl (λ_ _=>rfl) rfl λ⟨i,o,c⟩ ⟨j1,j2,j3,j4,j5⟩=>?_
  dsimp only at j1 j2 j3 j4 j5 ⊢;by_cases hi:i<p'.length
  ·obtain ⟨x,hx⟩:=gxE (l:=p') (i:=i) hi;have xb:=np.1 x (Qa hx);have fin:∀ y s,(q'[i]? = some y\/q'.length<=i/\y=0)->y<4294967296->s=x+c+y->p'.length-(i+1)<p'.length-i/\i+1<=p'.length/\(o.set i (s % 4294967296)).length=p'.length+1/\Sm (o.set i (s % 4294967296))/\s / 4294967296<=1 /\
    val ((o.set i (s % 4294967296)).take (i+1))+s / 4294967296*4294967296^(i+1)=val (p'.take (i+1))+val (q'.take (i+1)):=λy s hy hyb hs =>
    ⟨by omega,hi,by simp [j2],M7 j3 i _ (by omega),by omega,Qsh (by omega) hx hy j5 hs⟩
   by_cases hi2:i<q'.length
   ·obtain ⟨y,hy⟩:=gxE (l:=q') (i:=i) hi2;have yb:=nq.1 y (Qa hy);refine go tt [.t (by simp [Uv]; omega),.x (Gh hx),.t (by simp [Uv]; omega),.x (Gh hy),.w 2,.r 50 (v:=.one (.int .u32 (((x+c+y) % 4294967296:Nat):Int))) (by simp [IntKind.wrap,IntKind.bits,IntKind.signed]),.i 32,.r 52 (v:=.one (.int .u64 (((x+c+y) / 4294967296:Nat):Int))) (by simp),.i i] rfl (by simp [Ur,Hj,Uv,IntKind.bits] <;> omega) ?_;rw [Nv];exact rd (i+1,o.set i ((x+c+y) % 4294967296),(x+c+y) / 4294967296) (fin y _ (.inl hy) yb rfl).1 (fin y _ (.inl hy) yb rfl).2 rfl
   ·refine go tt [.t (by simp [Uv]; omega),.x (Gh hx),.f (by simp [Uv]; omega),.w 0,.r 50 (v:=.one (.int .u32 (((x+c+0) % 4294967296:Nat):Int))) (by simp [IntKind.wrap,IntKind.bits,IntKind.signed]),.i 32,.r 52 (v:=.one (.int .u64 (((x+c+0) / 4294967296:Nat):Int))) (by simp),.i i] rfl (by simp [Ur,Hj,Uv,IntKind.bits] <;> omega) ?_;rw [Nv];exact rd (i+1,o.set i ((x+c+0) % 4294967296),(x+c+0) / 4294967296) (fin 0 _ (.inr ⟨by omega,rfl⟩) (by decide) rfl).1 (fin 0 _ (.inr ⟨by omega,rfl⟩) (by decide) rfl).2 rfl
  ·obtain rfl:i=p'.length:=by omega
   refine go tt [.f (by simp [Uv]),.w 0,.r 59 (v:=.one (.int .u32 (c:Int))) (by simp [IntKind.wrap,IntKind.bits,IntKind.signed]; omega),.i (lm p').length] rfl (by simp [Ur,Hj,Uv,j2]) ?_;rw [Uv,Nv];have e:val (o.set p'.length c)=val p'+val q':=by
    have h1:=Oq o p'.length c (by omega);rw [Qn (by simp; omega)] at h1;rw [Qn (Ql _),Qn hq] at j5;rw [h1,<-j5,Zh]
   rw [<-e];exact en tt [.c [] (Qcn (M7 j3 _ c (by omega)))] rfl rfl trivial
theorem Qsz {x y:Nat}:Oy x y<0↔x<y:=by unfold Oy; split <;> (try split) <;> omega
theorem Zhm {a b:List Nat} (ha:Sm a) (hb:Sm b) (h1:sz (val a)<=4294967296):Ut Tryz.prog 149 [lr a,lr b] (if val b<=val a then [lr (Fg (val a-val b)),.one (.bool true)] else [lr [],.one (.bool false)]):=by
 refine Gv Tryz.func149 rfl ?_;obtain ⟨p,ca,np,vp,_,ep⟩:=Qf4 ha;obtain ⟨q,cb,nq,vq,_,_⟩:=Qf4 hb;have hp:=Rm h1;rw [<-ep] at hp;rw [<-vp,<-vq];have cc:=Q6c np.1 nq.1;by_cases hlt:val p<val q
 ·rw [if_neg (by omega)];exact en tt [.c [] ca,.c [] cb,.c [] cc,.t (by simpa using Qsz.2 hlt)] rfl rfl trivial
 rw [if_pos (by omega)];have hq:q.length<=p.length:=Vb λh=>hlt (Cz np nq h)
 refine go tt [.c [] ca,.c [] cb,.c [] cc,.f (by have:=mt Qsz.1 hlt; simpa using this),.i (lm p).length,.i (lm p).length] rfl (by simp [Ur,Hj,Uv] <;> omega) ?_;rw [Qdj];refine lp (S:=Nat×List Nat×Nat) 1 (λL1 s=>(24,.v (.one (.int .i64 (s.1:Int))))::(7,.v (.one (.int .u64 (s.2.2:Int))))::L1) (λs=>[.row false 143 1 (lm s.2.1)]) (λs=>p.length-s.1)
  (λs=>s.1<=p.length/\s.2.1.length=p.length/\Sm s.2.1/\s.2.2<=1/\val (s.2.1.take s.1)+val (q.take s.1)=val (p.take s.1)+s.2.2*4294967296^s.1) (0,List.replicate (lm p).length 0,0)
  ⟨Qh _,by simp [Uv],λx hx=>by rw [Zu hx]; decide,Qh _,by simp [val]⟩ rfl (λ_ _=>rfl) rfl λ⟨i,o,c⟩ ⟨j1,j2,j3,j4,j5⟩=>?_
 dsimp only at j1 j2 j3 j4 j5 ⊢;by_cases hi:i<p.length
 ·obtain ⟨x,hx⟩:=gxE (l:=p) (i:=i) hi;have xb:=np.1 x (Qa hx);have fin:∀ y s,(q[i]? = some y\/q.length<=i/\y=0)->y<4294967296->s=(x+18446744073709551616-c-y) % 18446744073709551616->p.length-(i+1)<p.length-i/\i+1<=p.length/\(o.set i (s % 4294967296)).length=p.length/\Sm (o.set i (s % 4294967296))/\s / 9223372036854775808<=1 /\
   val ((o.set i (s % 4294967296)).take (i+1))+val (q.take (i+1))=val (p.take (i+1))+s / 9223372036854775808*4294967296^(i+1):=λy s hy hyb hs=>by
   obtain ⟨h1,h2⟩:=Zb8 (o:=o) (by omega) hx hy xb hyb j4 j5 hs;exact ⟨by omega,hi,by simp [j2],M7 j3 i _ (by omega),h2,h1⟩
  by_cases hi2:i<q.length
  ·obtain ⟨y,hy⟩:=gxE (l:=q) (i:=i) hi2;have yb:=nq.1 y (Qa hy);obtain ⟨s,hs⟩:=nmE ((x+18446744073709551616-c-y) % 18446744073709551616);refine go tt [.t (by simp [Uv]; omega),.x (Gh hx),.w 1,.r 32 (Cv (b:=(((x+18446744073709551616-c) % 18446744073709551616:Nat):Int)) (by rw [w64]; omega)),.t (by simp [Uv]; omega),.x (Gh hy),.w 1,.r 43 (Cv (b:=(s:Int)) (by rw [w64]; omega)),.w 0,.r 47 (D4 (b:=((s % 4294967296:Nat):Int)) (by rw [w32]; omega)),.i 63,.r 49 (Cv (b:=((s / 9223372036854775808:Nat):Int)) (by simp)),.i i] rfl (by simp [Ur,Hj,Uv,IntKind.bits] <;> omega) ?_;rw [Nv];exact rd (i+1,o.set i (s % 4294967296),s / 9223372036854775808) (fin y _ (.inl hy) yb hs).1 (fin y _ (.inl hy) yb hs).2 rfl
  ·obtain ⟨s,hs⟩:=nmE ((x+18446744073709551616-c-0) % 18446744073709551616);have hf:=fin 0 _ (.inr ⟨by omega,rfl⟩) (by decide) hs;refine go tt [.t (by simp [Uv]; omega),.x (Gh hx),.w 1,.r 32 (Cv (b:=(s:Int)) (by rw [w64]; omega)),.f (by simp [Uv]; omega),.w 0,.r 47 (D4 (b:=((s % 4294967296:Nat):Int)) (by rw [w32]; omega)),.i 63,.r 49 (Cv (b:=((s / 9223372036854775808:Nat):Int)) (by simp)),.i i] rfl (by simp [Ur,Hj,Uv,IntKind.bits] <;> omega) ?_;rw [Nv];exact rd (i+1,o.set i (s % 4294967296),s / 9223372036854775808) hf.1 hf.2 rfl
 ·obtain rfl:i=p.length:=by omega
  have e:val o=val p-val q:=by
   rw [Qn (Nat.le_of_eq j2),Qn hq,Qn (Ql _)] at j5;have h1:=Ds o j3;rw [j2] at h1;rcases Nat.le_one_iff_eq_zero_or_eq_one.1 j4 with rfl | rfl <;> omega
  rw [<-e];exact en tt [.f (by simp [Uv]),.c [] (Qcn j3)] rfl rfl trivial
theorem Zl3 {a b:List Nat} (ha:Sm a) (hb:Sm b) (h1:sz (val a)<=4294967296) (h2:sz (val b)<=4294967296):Ut Tryz.prog 210 [lr a,lr b] [lr (Fg (val a*val b))]:=by
 refine Gv Tryz.func210 rfl ?_;obtain ⟨p,ca,np,vp,_,ep⟩:=Qf4 ha;obtain ⟨q,cb,nq,vq,_,eq⟩:=Qf4 hb;have hp:=Rm h1;have hq:=Rm h2;rw [<-ep] at hp;rw [<-eq] at hq;rw [<-vp,<-vq];refine go tt [.c [] ca,.c [] cb,.i ((lm p).length+(lm q).length),.i ((lm p).length+(lm q).length)] rfl (by simp [Ur,Hj,Uv] <;> omega) ?_;rw [Qdj];refine lp (S:=Nat×List Nat) 1 (λL1 s=>(24,.v (.one (.int .i64 (s.1:Int))))::L1) (λs=>[.row false 143 1 (lm s.2)]) (λs=>p.length-s.1)
  (λs=>s.1<=p.length/\s.2.length=p.length+q.length/\Sm s.2/\(∀ j,s.1+q.length<=j->j<s.2.length->s.2[j]? = some 0)/\val s.2=val (p.take s.1)*val q) (0,List.replicate ((lm p).length+(lm q).length) 0)
  ⟨Qh _,by simp [Uv],λx hx=>by rw [Zu hx]; decide,λj _ hj=>by rw [Jw,if_pos (by simpa using hj)],by simp [val,Qg9]⟩ rfl (λ_ _=>rfl) rfl λ⟨i,o⟩ ⟨j1,j2,j3,j4,j5⟩=>?_
 dsimp only at j1 j2 j3 j4 j5 ⊢;by_cases hi:i<p.length
 ·obtain ⟨x,hx⟩:=gxE (l:=p) (i:=i) hi;have xb:=np.1 x (Qa hx);refine go tt [.t (by simp [Uv]; omega),.x (Gh hx)] rfl trivial ?_;refine lp (S:=Nat×List Nat×Nat) 1 (λL1 s=>(31,.v (.one (.int .i64 (s.1:Int))))::(8,.v (.one (.int .u64 (s.2.2:Int))))::L1) (λs=>[.row false 143 1 (lm s.2.1)]) (λs=>q.length-s.1)
   (λs=>s.1<=q.length/\s.2.1.length=p.length+q.length/\Sm s.2.1/\(∀ j,i+q.length<=j->j<s.2.1.length->s.2.1[j]? = some 0)/\s.2.2<4294967296/\val s.2.1+s.2.2*4294967296^(i+s.1)=val (p.take i)*val q+4294967296^i*x*val (q.take s.1)) (0,o,0)
   ⟨Qh _,j2,j3,j4,by simp,by simp [val,j5]⟩ rfl (λ_ _=>rfl) rfl λ⟨k,o',c⟩ ⟨k1,k2,k3,k4,k5,k6⟩=>?_
  dsimp only at k1 k2 k3 k4 k5 k6 ⊢;by_cases hk:k<q.length
  ·obtain ⟨y,hy⟩:=gxE (l:=q) (i:=k) hk;have yb:=nq.1 y (Qa hy);obtain ⟨z,hz⟩:=gxE (l:=o') (i:=i+k) (by omega);have zb:=k3 z (Qa hz);have hm:=Qa0 xb yb;have hm2:(x:Int)*(y:Int)=((x*y:Nat):Int):=by push_cast; rfl
   obtain ⟨s,hs⟩:=nmE (x*y+z+c);refine go tt [.t (by simp [Uv]; omega),.x (Gh hy),.r 40 (Cv (b:=((x*y:Nat):Int)) (by push_cast; rfl)),.i (i+k),.x (Gh hz),.r 50 (Cv (b:=(s:Int)) (by omega)),.w 1,.r 56 (D4 (b:=((s % 4294967296:Nat):Int)) (by rw [w32]; omega)),.i 32,.r 58 (Cv (b:=((s / 4294967296:Nat):Int)) (by simp)),.i (i+k)] rfl ?_ ?_
   ·simp [Ur,Hj,Uv,IntKind.bits] <;> omega
   ·rw [Nv];exact rd (k+1,o'.set (i+k) (s % 4294967296),s / 4294967296) (show q.length-(k+1)<q.length-k by omega) ⟨hk,by simp [k2],M7 k3 _ _ (by omega),λj h3 h4=>by
     rw [Yg (by omega)]; exact k4 j h3 (by simpa using h4),(show s / 4294967296<4294967296 from by omega),Q90 hz hy k6 hs⟩ rfl
  ·obtain rfl:k=q.length:=by omega
   by_cases hq0:0<q.length
   ·refine go tt [.f (by simp [Uv]),.t (by simp [Uv]; omega),.w 1,.r 70 (D4 (b:=((c % 4294967296:Nat):Int)) (by rw [w32]; omega)),.i (i+(lm q).length)] rfl (by simp [Ur,Hj,Uv,IntKind.bits] <;> omega) ?_;rw [Nv];refine rd (i+1,o'.set (i+(lm q).length) (c % 4294967296)) (show p.length-(i+1)<p.length-i by omega) ⟨hi,by simp [k2],M7 k3 _ _ (by omega),λj h3 h4=>?_,?_⟩ rfl
    ·rw [Uv,List.getElem?_set_ne (by dsimp only at h3; omega)];exact k4 j (by dsimp only at h3; omega) (by simpa using h4)
    ·rw [Uv];exact Q9z (k4 _ (Ql _) (by omega)) hx k5 rfl k6
   ·have q0:q=[]:=Qi (by omega);refine go tt [.f (by simp [Uv]),.f (by simp [Uv,q0])] rfl (by simp [Ur,Hj,Uv,IntKind.bits] <;> omega) ?_;refine rd (i+1,o') (show p.length-(i+1)<p.length-i by omega) ⟨hi,k2,k3,λj h3 h4=>k4 j (by dsimp only at h3; omega) h4,?_⟩ rfl;have c0:c*4294967296^(i+q.length)=0/\val o'=0:=by
     subst q0;simp only [val,List.take_nil,Ys] at k6;omega
    rw [c0.2,q0]; rfl
 ·obtain rfl:i=p.length:=by omega
  rw [Qn (Ql _)] at j5;rw [<-j5];exact en tt [.f (by simp [Uv]),.c [] (Qcn j3)] rfl rfl trivial
theorem o64 {k q:Nat} (hq:q<4294967296) (hb:4294967296*k+q<18446744073709551616):orI .u64 ((4294967296*k:Nat):Int) (q:Int)=((4294967296*k+q:Nat):Int):=by
 have e1:(BitVec.ofInt 64 ((4294967296*k:Nat):Int)).toNat=4294967296*k:=by rw [BitVec.toNat_ofInt]; omega
 have e2:(BitVec.ofInt 64 (q:Int)).toNat=q:=by rw [BitVec.toNat_ofInt]; omega
 show IntKind.u64.wrap ((BitVec.ofInt 64 ((4294967296*k:Nat):Int) ||| BitVec.ofInt 64 (q:Int)).toNat:Int)=_;rw [BitVec.toNat_or,e1,e2,Zki hq,w64]; omega
theorem oM {k p:Nat} (hp:p<4294967296) (hb:4294967296*k+p<18446744073709551616):orI .u64 (p:Int) ((4294967296*k:Nat):Int)=((4294967296*k+p:Nat):Int):=by
 have:=o64 hp hb;unfold orI at this ⊢;rw [BitVec.or_comm]; exact this
theorem o32 {s k p:Nat} (hp:p<2^s) (h1:p<4294967296) (h2:2^s*k<4294967296) (hb:p+2^s*k<4294967296):orI .u32 (p:Int) ((2^s*k:Nat):Int)=((p+2^s*k:Nat):Int):=by
 have e1:(BitVec.ofInt 32 ((2^s*k:Nat):Int)).toNat=2^s*k:=by rw [BitVec.toNat_ofInt]; omega
 have e2:(BitVec.ofInt 32 (p:Int)).toNat=p:=by rw [BitVec.toNat_ofInt]; omega
 have e3:p ||| 2^s*k=p+2^s*k:=by
  have:=W3 (i:=s) (b:=p) hp k;rw [Nat.or_comm,<-this,Ja]
 show IntKind.u32.wrap ((BitVec.ofInt 32 (p:Int) ||| BitVec.ofInt 32 ((2^s*k:Nat):Int)).toNat:Int)=_;rw [BitVec.toNat_or,e1,e2,e3,w32]; omega
theorem Zmg {l:List Nat} {v:Nat} (hl:Sm l) (hn:l.length<274877906944) (h0:0<v) (hv:v<4294967296):Ut Tryz.prog 143 [lr l,.one (.int .u32 (v:Int))] [lr (Fg (val l / v)),.one (.int .u32 ((val l % v:Nat):Int))]:=by
 refine Gv Tryz.func143 rfl ?_;refine go tt [.i (lm l).length,.i (lm l).length] rfl (by simp [Ur,Hj,Uv] <;> omega) ?_;rw [Qdj];refine lp (S:=Int×List Nat×Nat) 1 (λL1 s=>(8,.v (.one (.int .i64 s.1)))::(7,.v (.one (.int .u64 (s.2.2:Int))))::L1) (λs=>[.row false 143 1 (lm s.2.1)]) (λs=>(s.1+1).toNat)
  (λs=>-1<=s.1/\s.1<l.length/\s.2.1.length=l.length/\Sm s.2.1/\s.2.2<v/\val (l.drop (s.1+1).toNat)=v*val (s.2.1.drop (s.1+1).toNat)+s.2.2) (((lm l).length:Int)-1,List.replicate (lm l).length 0,0)
  ⟨by simp [Uv]; omega,by simp [Uv]; omega,by simp [Uv],λx hx=>by rw [Zu hx]; decide,h0,by simp [Uv,val]⟩ rfl (λ_ _=>rfl) rfl λ⟨i,o,r⟩ ⟨j1,j2,j3,j4,j5,j6⟩=>?_
 dsimp only at j1 j2 j3 j4 j5 j6 ⊢;rcases We i 0 with hi | hi
 ·obtain rfl:i=-1:=by omega
  simp only [show ((-1:Int)+1).toNat=0 from rfl,Xp] at j6;have e1:val l / v=val o:=by rw [j6,Um h0,V9 j5,Xm]
  have e2:val l % v=r:=by rw [j6,Un,Xw j5]
  rw [e1,e2];exact en tt [.f (by decide),.c [] (Qcn j4)] rfl rfl (by simp [Ur,Hj,Uv,IntKind.bits] <;> omega)
 ·obtain ⟨k,rfl⟩:=Yn hi;have e:((k:Int)+1).toNat=k+1:=by omega
  rw [e] at j6;obtain ⟨x,hx⟩:=gxE (l:=l) (i:=k) (by omega);have xb:=hl x (Qa hx);obtain ⟨s,hs⟩:=nmE (r*4294967296+x);obtain ⟨k1,k2,k3⟩:=Zac hx xb (show k<o.length by omega) h0 j5 j6 hs;obtain ⟨q,hq⟩:=nmE (s / v);obtain ⟨u,hu⟩:=nmE (s % v);have hqi:(s:Int).tdiv v=(q:Int):=by rw [Kd (by omega),hq]; rfl
  have hui:(s:Int).tmod v=(u:Int):=by rw [Yy (by omega),hu]; rfl
  rw [<-hq,<-hu] at k3;rw [<-hq] at k1;rw [<-hu] at k2;refine go tt [.t (by simp),.i 32,.r 21 (Cv (b:=((4294967296*r:Nat):Int)) (by omega)),.x (Gh hx),.r 27 (Cv (b:=(s:Int)) (by rw [o64 xb (by omega)]; omega)),
   .r 33 (Cv (b:=(q:Int)) hqi),.w 0,.r 34 (D4 (b:=((q % 4294967296:Nat):Int)) (by rw [w32]; omega)),.r 38 (Cv (b:=(u:Int)) hui),.i k] rfl (by simp [Ur,Hj,Uv,IntKind.bits,hqi] <;> omega) ?_
  rw [Nv];exact rd ((k:Int)-1,o.set k (q % 4294967296),u) (by dsimp only; omega) ⟨by dsimp only; omega,by dsimp only; omega,by simp [j3],M7 j4 _ _ (by omega),k2,by dsimp only; rw [show ((k:Int)-1+1).toNat=k from by omega]; exact k3⟩ rfl
theorem Qdv {i:Nat} {s:ByteArray} (h:∀ i,i<256->(s[i]?).map (·.toNat)=some (sz i)) (hi:i<256):(s[i]?).map (·.toNat)=some (sz i):=h i hi
set_option maxRecDepth 100000 in
theorem Qzs {x:Nat} (hx:x<4294967296):Ut Tryz.prog 194 [.one (.int .u32 (x:Int))] [.one (.int .i64 (sz x:Int))]:=by
 refine Gv Tryz.func194 rfl ?_;have h31:sz x<=32:=Nj.2 (by omega);by_cases h1:65536<=x
 ·have e1:sz x=16+sz (x / 2^16):=Qfa (by omega);obtain ⟨y,hy⟩:=nmE (x / 2^16);rw [<-hy] at e1;by_cases h2:256<=y
  ·have e2:sz y=8+sz (y / 2^8):=Qfa (by omega);obtain ⟨z,hz⟩:=nmE (y / 2^8);rw [<-hz] at e2;exact en tt [.t (by simp; omega),.i 16,.r 6 (D4 (b:=(y:Int)) (by simp [hy])),.t (by simp; omega),.i 8,.r 10 (D4 (b:=(z:Int)) (by simp [hz])),.y (Qdv (i:=z) (by decide) (by omega))] rfl (by rw [e1,e2]; simp; omega) (by simp [Ur,Hj,IntKind.bits] <;> omega)
  ·exact en tt [.t (by simp; omega),.i 16,.r 6 (D4 (b:=(y:Int)) (by simp [hy])),.f (by simp; omega),.y (Qdv (i:=y) (by decide) (by omega))] rfl (by rw [e1]; simp) (by simp [Ur,Hj,IntKind.bits] <;> omega)
 ·by_cases h2:256<=x
  ·have e2:sz x=8+sz (x / 2^8):=Qfa (by omega);obtain ⟨z,hz⟩:=nmE (x / 2^8);rw [<-hz] at e2;exact en tt [.f (by simp; omega),.t (by simp; omega),.i 8,.r 10 (D4 (b:=(z:Int)) (by simp [hz])),.y (Qdv (i:=z) (by decide) (by omega))] rfl (by rw [e2]; simp) (by simp [Ur,Hj,IntKind.bits] <;> omega)
  ·exact en tt [.f (by simp; omega),.f (by simp; omega),.y (Qdv (i:=x) (by decide) (by omega))] rfl (by simp) (by simp [Ur,Hj,IntKind.bits] <;> omega)
theorem Zi4 {x:Nat} (hx:x<4294967296):Ut Tryz.prog 144 [.one (.int .u32 (x:Int))] [.one (.int .i64 ((32-sz x:Nat):Int))]:=by
 have h31:sz x<=32:=Nj.2 (by omega);exact w tt Tryz.func144 rfl [.c [] (Qzs hx)] rfl (by simp; omega) (by simp [Ur,Hj] <;> omega)
theorem Qwd {l:List Nat} (hl:Sm l) (hs:sz (val l)<=4294967296):Ut Tryz.prog 198 [lr l] [.one (.int .i64 (sz (val l):Int))]:=by
 refine Gv Tryz.func198 rfl ?_;obtain ⟨p,ca,np,vp,_,ep⟩:=Qf4 hl;have hp:=Rm hs;rw [<-ep] at hp;rw [<-vp] at hs ⊢;by_cases h0:p=[]
 ·subst h0;exact en tt [.c [] ca,.t (by simp [lm])] rfl rfl (by simp [Ur,Hj])
 ·have By:0<p.length:=J4.2 h0;obtain ⟨x,hx,hx0⟩:=np.2 h0;have xb:=np.1 x (Qa hx);have e:=Qy5 np hx;have h31:sz x<=32:=Nj.2 (by omega);have hn:(lm p).length≠0:=by rw [Uv]; omega
  refine en tt [.c [] ca,.f (by simp [Uv]; omega),.r 15 (eI (b:=((p.length-1:Nat):Int)) (by rw [Uv]; omega)),.x (Gh hx),.c [] (Qzs xb)] rfl (by rw [e,Uv]; simp; omega) (by simp [Ur,Hj,Uv] <;> omega)
theorem Qu6 {s:Nat} (h:s<=31):((s:Nat):Int).tdiv 32=((0:Nat):Int):=by
 rw [Kd (by omega)]; omega
theorem Za8 {s:Nat} (h:s<=31):((s:Nat):Int).tmod 32=(s:Int):=Int.tmod_eq_of_lt (by omega) (by omega)
theorem Zkb {s:Nat} (h:s<=31):max 0 (min (s:Int) 65536)=(s:Int):=by omega
theorem Zma {a:List Nat} {s:Nat} (ha:Sm a) (h1:sz (val a)<=4294967400) (hs:s<=31):Ut Tryz.prog 195 [lr a,.one (.int .i64 (s:Int))] [lr (Fg (val a*2^s))]:=by
 refine Gv Tryz.func195 rfl ?_;obtain ⟨p,ca,np,vp,_,ep⟩:=Qf4 ha;have hp:=Rm h1;rw [<-ep] at hp;rw [<-vp];have hq:((s:Nat):Int).tdiv 32=0:=Qu6 hs;by_cases h0:p=[]
 ·subst h0;exact en tt [.c [] ca,.t (by simp [lm])] rfl (by simp [val,Gn,lm]) (by simp [Ur,Hj])
 have By:0<p.length:=J4.2 h0;refine go tt [.c [] ca,.r 15 (eI (b:=(s:Int)) (Zkb hs)),.f (by simp [Uv]; omega),.r 20 (eI (b:=((0:Nat):Int)) (Qu6 hs)),.r 22 (eI (b:=(s:Int)) (Za8 hs)),.r 28 (eI (b:=(((lm p).length+1:Nat):Int)) (by omega)),.i ((lm p).length+1),.i ((lm p).length+1)] rfl (by have e:=Uv p; simp only [Ur,Hj]; omega) ?_;rw [Qdj];refine lp (S:=Nat×List Nat) 1 (λL1 s=>(32,.v (.one (.int .i64 (s.1:Int))))::L1) (λs=>[.row false 143 1 (lm s.2)]) (λs=>p.length-s.1)
  (λr=>r.1<=p.length/\r.2.length=p.length+1/\Sm r.2/\(∃ z,r.2[r.1]? = some z/\z<2^s)/\val (r.2.take (r.1+1))=val (p.take r.1)*2^s) (0,List.replicate ((lm p).length+1) 0)
  ⟨Qh _,by simp [Uv],λx hx=>by rw [Zu hx]; decide,⟨0,by simp,Z1 (by decide)⟩,by simp [val,J5]⟩ rfl (λ_ _=>rfl) rfl λ⟨i,o⟩ ⟨j1,j2,j3,⟨z,hz,hzs⟩,j5⟩=>?_
 dsimp only at j1 j2 j3 hz hzs j5 ⊢;by_cases hi:i<p.length
 ·obtain ⟨x,hx⟩:=gxE (l:=p) (i:=i) hi;have xb:=np.1 x (Qa hx);have zb:=j3 z (Qa hz);obtain ⟨k1,k2,k3,k4⟩:=Zbv hs hx xb hz hzs (by omega) j5;have hxs:=Zku hs xb;have h31:2^s<=2^31:=Zw (by decide) hs;have ec:(x:Int)*2^s=((x*2^s:Nat):Int):=by push_cast; rfl
  obtain ⟨m,hm⟩:=nmE (x*2^s);rw [<-hm] at k1 k2 k3 k4 hxs ec;refine go tt [.t (by simp [Uv]; omega),.x (Gh hx),.i s,.r 40 (Cv (b:=(m:Int)) ec),.i i,.x (Gh hz),.w 0,.r 52 (D4 (b:=((m % 4294967296:Nat):Int)) (by rw [w32]; omega)),.r 53 (D4 (b:=((z+m % 4294967296:Nat):Int)) (by rw [k4,o32 hzs zb (by omega) (by omega)])),.i i,
   .i 32,.r 61 (Cv (b:=((m / 2^32:Nat):Int)) (by simp)),.w 0,.r 62 (D4 (b:=((m / 2^32 % 4294967296:Nat):Int)) (by rw [w32]; omega)),.i (i+1)] rfl (by simp [Ur,Hj,Uv,IntKind.bits,ec] <;> omega) ?_
  rw [Nv,Nv];exact rd (i+1,(o.set i (z+m % 4294967296)).set (i+1) (m / 2^32 % 4294967296)) (show p.length-(i+1)<p.length-i by omega) ⟨hi,by simp [j2],M7 (M7 j3 _ _ (by omega)) _ _ (by omega),⟨_,by rw [X6 (by simp; omega)],by omega⟩,k3⟩ rfl
 ·obtain rfl:i=p.length:=by omega
  rw [Qn (by omega),Qn (Ql _)] at j5;rw [<-j5];exact en tt [.f (by simp [Uv]),.c [] (Qcn j3)] rfl rfl trivial
theorem Zmb {a:List Nat} {s:Nat} (ha:Sm a) (h1:sz (val a)<=4294967400) (hs:s<=31):Ut Tryz.prog 147 [lr a,.one (.int .i64 (s:Int))] [lr (Fg (val a / 2^s))]:=by
 refine Gv Tryz.func147 rfl ?_;obtain ⟨p,ca,np,vp,_,ep⟩:=Qf4 ha;have hp:=Rm h1;rw [<-ep] at hp;rw [<-vp];have hq:((s:Nat):Int).tdiv 32=0:=Qu6 hs;by_cases h0:p=[]
 ·subst h0;exact en tt [.c [] ca,.r 14 (eI (b:=(s:Int)) (Zkb hs)),.r 16 (eI (b:=((0:Nat):Int)) (Qu6 hs)),.r 18 (eI (b:=(s:Int)) (Za8 hs)),.t (by simp [lm])] rfl (by simp [val,Gn,lm]) (by simp only [Ur,Hj]; omega)
 have By:0<p.length:=J4.2 h0;refine go tt [.c [] ca,.r 14 (eI (b:=(s:Int)) (Zkb hs)),.r 16 (eI (b:=((0:Nat):Int)) (Qu6 hs)),.r 18 (eI (b:=(s:Int)) (Za8 hs)),.f (by simp [Uv]; omega),.r 27 (eI (b:=((lm p).length:Int)) (by omega)),.i (lm p).length,.i (lm p).length] rfl (by have e:=Uv p; simp only [Ur,Hj]; omega) ?_;rw [Qdj];refine lp (S:=Nat×List Nat) 1 (λL1 s=>(31,.v (.one (.int .i64 (s.1:Int))))::L1) (λs=>[.row false 143 1 (lm s.2)]) (λs=>p.length-s.1)
  (λr=>r.1<=p.length/\r.2.length=p.length/\Sm r.2/\val (r.2.take r.1)=val p / 2^s % 4294967296^r.1) (0,List.replicate (lm p).length 0)
  ⟨Qh _,by simp [Uv],λx hx=>by rw [Zu hx]; decide,by simp [val]; omega⟩ rfl (λ_ _=>rfl) rfl λ⟨i,o⟩ ⟨j1,j2,j3,j5⟩=>?_
 dsimp only at j1 j2 j3 j5 ⊢;by_cases hi:i<p.length
 ·obtain ⟨x,hx⟩:=gxE (l:=p) (i:=i) hi;have xb:=np.1 x (Qa hx);have fin:∀ y m,(p[i+1]? = some y\/p.length<=i+1/\y=0)->m=(x+y*2^32) / 2^s->p.length-(i+1)<p.length-i/\i+1<=p.length/\(o.set i (m % 4294967296)).length=p.length/\Sm (o.set i (m % 4294967296))/\val ((o.set i (m % 4294967296)).take (i+1))=val p / 2^s % 4294967296^(i+1):=λy m hy hm =>
   ⟨by omega,hi,by simp [j2],M7 j3 _ _ (by omega),by subst hm; exact Zbw hs hx hy (by omega) np.1 j5⟩
  have hsp:0<2^s:=Z1 (by decide);by_cases hy0:i+1<p.length
  ·obtain ⟨y,hy⟩:=gxE (l:=p) (i:=i+1) hy0;have yb:=np.1 y (Qa hy);obtain ⟨v,hv⟩:=nmE (4294967296*y+x);obtain ⟨m,hm⟩:=nmE (v / 2^s);have hml:m<=v:=hm ▸ J3 _ _;have hf:=fin y m (.inl hy) (by rw [hm,hv]; congr 1; omega);refine go tt [.t (by simp [Uv]; omega),.x (Gh hx),.t (by simp [Uv]; omega),.x (Gh hy),.i 32,.r 57 (Cv (b:=((4294967296*y:Nat):Int)) (by omega)),.r 58 (Cv (b:=(v:Int)) (by rw [oM xb (by omega)]; omega)),
    .i s,.r 63 (Cv (b:=(m:Int)) (by rw [hm]; push_cast; rfl)),.w 0,.r 64 (D4 (b:=((m % 4294967296:Nat):Int)) (by rw [w32]; omega)),.i i] rfl (by simp [Ur,Hj,Uv,IntKind.bits] <;> omega) ?_
   rw [Nv];exact rd (i+1,o.set i (m % 4294967296)) hf.1 hf.2 rfl
  ·obtain ⟨m,hm⟩:=nmE (x / 2^s);have hml:m<=x:=hm ▸ J3 _ _;have hf:=fin 0 m (.inr ⟨by omega,rfl⟩) (by rw [hm]; simp);refine go tt [.t (by simp [Uv]; omega),.x (Gh hx),.f (by simp [Uv]; omega),
    .i s,.r 63 (Cv (b:=(m:Int)) (by rw [hm]; push_cast; rfl)),.w 0,.r 64 (D4 (b:=((m % 4294967296:Nat):Int)) (by rw [w32]; omega)),.i i] rfl (by simp [Ur,Hj,Uv,IntKind.bits] <;> omega) ?_
   rw [Nv];exact rd (i+1,o.set i (m % 4294967296)) hf.1 hf.2 rfl
 ·obtain rfl:i=p.length:=by omega
  have hvl:=Ds p np.1;rw [Qn (by omega),Xw (Zv (J3 _ _) hvl)] at j5;rw [<-j5];exact en tt [.f (by simp [Uv,j2]),.c [] (Qcn j3)] rfl rfl trivial
def dgs:Nat->Nat->List Nat
 | 0,_=>[]
 | k+1,v=>v % 4294967296::dgs k (v / 4294967296)
theorem Q8e:∀ {l:List Nat},Sm l->l=dgs l.length (val l)
 | [],_=>rfl
 |
  x::l,h=>by
  have hx:=h x (.head _);have ih:=Q8e (l:=l) λy hy=>h y (.tail _ hy)
  simp only [Q7,dgs,val];rw [show (x+4294967296*val l) % 4294967296=x by omega,show (x+4294967296*val l) / 4294967296=val l by omega,<-ih]
theorem Qw9 {l:List Nat} {k v:Nat} (h:Sm l) (hk:l.length=k) (hv:val l=v):dgs k v=l:=by
 rw [<-hk,<-hv]; exact (Q8e h).symm
theorem Qp3:∀ {k v:Nat},(dgs k v).length=k/\Sm (dgs k v)/\(v<4294967296^k->val (dgs k v)=v)
 | 0,v=>⟨rfl,λx hx=>by (cases hx),λh=>by simp at h; subst h; rfl⟩
 |
  k+1,v=>by
  obtain ⟨h1,h2,h3⟩:=Qp3 (k:=k) (v:=v / 4294967296);refine ⟨by simp [dgs,h1],λx hx=>?_,λh=>?_⟩
  ·rcases Qo.1 hx with rfl | hx
   ·exact Z4 _ (by decide)
   ·exact h2 x hx
  ·simp only [dgs,val];rw [h3 (by rw [Zn] at h; exact X3 (by rw [Zh]; exact h))];omega
theorem Q7y {a:List Nat} {s n:Nat} (ha:Sm a) (h1:sz (val a)<=4294967400) (hs:s<=31) (hn:n<274877906944) (h0:0<n) (hv:val a*2^s<4294967296^n) :
 Hh Tryz.prog 145 [lr a,.one (.int .i64 (s:Int)),.one (.int .i64 (n:Int))] [] [.one (.orow 0 1 none)] [.row false 143 1 (lm (dgs n (val a*2^s)))]:=by
 refine Gv Tryz.func145 rfl ?_;obtain ⟨v,hvv⟩:=nmE (val a*2^s);have cs:=Zma ha h1 hs;rw [<-hvv] at cs hv ⊢;have hl:(Fg v).length<=n:=by
  apply Classical.byContradiction;intro hh;have h2:=Qeq (Cg v) (λe=>by rw [e] at hh; simp at hh);rw [Ge] at h2;have h3:4294967296^n<=4294967296^((Fg v).length-1):=Zw (by decide) (by omega);omega
 refine go tt [.i n,.i n,.c [] cs,.s (Q9r (Fg v)),.i (Fg v).length] rfl (by simp [Ur,Hj,Uv] <;> omega) ?_;have e:List.take 0 (List.replicate n [LV.int .u32 0])++(List.take (Fg v).length (lm (Fg v))++List.drop (0+(Fg v).length) (List.replicate n [LV.int .u32 0]))=lm (dgs n v):=by
  rw [Qw9 (l:=Fg v++List.replicate (n-(Fg v).length) 0) (λx hx=>?_) (by simp; omega) (by rw [M8,Qg9,Ge]; simp)]
  ·rw [V2,Yv,Qn (by rw [Uv]; exact Ql _)];simp [lm]
  ·rcases Qu.1 hx with hx | hx
   ·exact De v x hx
   ·rw [Zu hx]; decide
 rw [e];exact ed tt [] [0] [] rfl trivial
theorem Qmw {pre x post:List Nat} {i u:Nat} (h:x[i]? = some u):(lm (pre++x++post))[pre.length+i]? = some [.int .u32 (u:Int)]:=Gh (by
 have hi:=(Qd.1 h).1;rw [Zl,Z3 (by omega),Jb,Zj hi]; exact h)
theorem Zcq {pre x post:List Nat} {i v:Nat} (h:i<x.length):(lm (pre++x++post)).set (pre.length+i) [.int .u32 (v:Int)]=lm (pre++x.set i v++post):=by
 rw [Nv,Zl,List.set_append_right _ _ (by omega),Jb,List.set_append_left _ _ h,<-Zl]
theorem Zd0 {pre x post ly:List Nat} {top nx xn x1 x2:Nat} (D:Dig x ly ly.length top nx xn x1 x2) (hn:ly.length<274877906944) :
 Hh Tryz.prog 146 [.one (.orow 0 1 (some (pre.length,x.length))),lr ly] [.row true 143 1 (lm (pre++x++post))] [.one (.int .u32 ((val x / val ly:Nat):Int))] [.row true 143 1 (lm (pre++dgs x.length (val x % val ly)++post))]:=by
 refine Gv Tryz.func146 rfl ?_;have hxl:=D.hx;have hn2:=D.hn;have hb:=D.bnd;obtain ⟨head,hh⟩:=nmE (xn*2^32+x1);obtain ⟨g0,hg0⟩:=nmE (head / top);obtain ⟨r0,hr0⟩:=nmE (head % top);have hst:=D.start;rw [<-hh,<-hg0] at hst;have ht0:=D.top0;have hg0l:g0<=head:=hg0 ▸ J3 _ _;have hr0l:r0<top:=hr0 ▸ Z4 _ ht0;have htd:(head:Int).tdiv top=(g0:Int):=by rw [Kd (by omega),hg0]; rfl
 have htm:(head:Int).tmod top=(r0:Int):=by rw [Yy (by omega),hr0]; rfl
 refine go tt [.r 23 (eI (b:=(ly.length:Int)) (by rw [Uv])),.r 26 (eI (b:=((ly.length-1:Nat):Int)) (by omega)),.x (Gh D.ltop),.r 32 (eI (b:=((ly.length-2:Nat):Int)) (by omega)),.x (Gh D.lnx),
  .i ly.length,.x (Qmw D.xn),.i 32,.r 41 (Cv (b:=((4294967296*xn:Nat):Int)) (by omega)),.r 44 (eI (b:=((ly.length-1:Nat):Int)) (by omega)),.i (ly.length-1),.x (Qmw D.x1),.r 48 (Cv (b:=(head:Int)) (by rw [o64 hb.2.2.2.1 (by omega)]; omega)),
  .r 51 (Cv (b:=(g0:Int)) htd),.r 54 (Cv (b:=(r0:Int)) htm)] rfl ?_ ?_
 ·simp only [Ur,Hj,htd,IntKind.bits]; omega
 refine ct 2 (S:=Nat) (λg=>[(0,.v (.one (.orow 0 1 (some (pre.length,x.length))))),(1,.v (lr ly)),(5,.v (.one (.int .i64 (ly.length:Int)))),(9,.v (.one (.int .u64 (g:Int))))]) (λ_=>[.row true 143 1 (lm (pre++x++post))]) (λg=>val x / val ly<=g/\(g-1)*val ly<=val x/\g<=4294967296) rfl ?_ ?_
 ·refine lp (S:=Nat×Nat) 1 (λL1 s=>(9,.v (.one (.int .u64 (s.1:Int))))::(10,.v (.one (.int .u64 (s.2:Int))))::L1) (λ_=>[.row true 143 1 (lm (pre++x++post))]) (λs=>4294967296-s.2)
   (λs=>s.1*top+s.2=xn*2^32+x1/\val x / val ly<=s.1/\s.2<4294967296/\s.1<18446744073709551616) (g0,r0)
   ⟨by rw [<-hh,hg0,hr0,Nat.mul_comm]; exact Nat.div_add_mod _ _,hst,by dsimp only; omega,by dsimp only; omega⟩ rfl (λ_ _=>rfl) rfl λ⟨g,r⟩ ⟨j1,j2,j3,j4⟩=>?_
  dsimp only at j1 j2 j3 j4 ⊢;by_cases hge:4294967296<=g
  ·have hrd:=D.round j1 j2 (.inl hge);by_cases h2:4294967296<=r+top
   ·exact go tt [.t (by simp; omega),.t rfl,.r 73 (Cv (b:=((g-1:Nat):Int)) (by omega)),.t (by simp; omega)] rfl (by simp [Ur,Hj] <;> omega) (rc (g-1) ⟨hrd.2.1,(hrd.2.2.2 h2).1,(hrd.2.2.2 h2).2⟩ rfl)
   ·exact go tt [.t (by simp; omega),.t rfl,.r 73 (Cv (b:=((g-1:Nat):Int)) (by omega)),.f (by simp; omega)] rfl (by simp [Ur,Hj] <;> omega) (rd (g-1,r+top) (by dsimp only; omega) ⟨hrd.2.2.1,hrd.2.1,by dsimp only; omega,by dsimp only; omega⟩ rfl)
  ·have hgn:=Qa0 (x:=g) (y:=nx) (by omega) hb.2.1;by_cases hc:r*2^32+x2<g*nx
   ·have hrd:=D.round j1 j2 (.inr hc);have e1:(g:Int)*(nx:Int)=((g*nx:Nat):Int):=by push_cast; rfl
    obtain ⟨m,hm⟩:=nmE (g*nx);rw [<-hm] at e1 hgn hc;by_cases h2:4294967296<=r+top
    ·exact go tt [.f (by simp; omega),.r 60 (Cv (b:=(m:Int)) e1),.i 32,.r 62 (Cv (b:=((4294967296*r:Nat):Int)) (by omega)),.r 65 (eI (b:=((ly.length-2:Nat):Int)) (by omega)),.i (ly.length-2),.x (Qmw D.x2),.r 69 (Cv (b:=((4294967296*r+x2:Nat):Int)) (o64 hb.2.2.2.2 (by omega))),.t (by simp; omega),.r 73 (Cv (b:=((g-1:Nat):Int)) (by omega)),.t (by simp; omega)] rfl (by simp only [Ur,Hj,e1,IntKind.bits]; omega) (rc (g-1) ⟨hrd.2.1,(hrd.2.2.2 h2).1,(hrd.2.2.2 h2).2⟩ rfl)
    ·exact go tt [.f (by simp; omega),.r 60 (Cv (b:=(m:Int)) e1),.i 32,.r 62 (Cv (b:=((4294967296*r:Nat):Int)) (by omega)),.r 65 (eI (b:=((ly.length-2:Nat):Int)) (by omega)),.i (ly.length-2),.x (Qmw D.x2),.r 69 (Cv (b:=((4294967296*r+x2:Nat):Int)) (o64 hb.2.2.2.2 (by omega))),.t (by simp; omega),.r 73 (Cv (b:=((g-1:Nat):Int)) (by omega)),.f (by simp; omega)] rfl (by simp only [Ur,Hj,e1,IntKind.bits]; omega) (rd (g-1,r+top) (by dsimp only; omega) ⟨hrd.2.2.1,hrd.2.1,by dsimp only; omega,by dsimp only; omega⟩ rfl)
   ·have hf:=D.fin j1 (by omega) (by omega);have e1:(g:Int)*(nx:Int)=((g*nx:Nat):Int):=by push_cast; rfl
    obtain ⟨m,hm⟩:=nmE (g*nx);rw [<-hm] at e1 hgn hc;exact go tt [.f (by simp; omega),.r 60 (Cv (b:=(m:Int)) e1),.i 32,.r 62 (Cv (b:=((4294967296*r:Nat):Int)) (by omega)),.r 65 (eI (b:=((ly.length-2:Nat):Int)) (by omega)),.i (ly.length-2),.x (Qmw D.x2),.r 69 (Cv (b:=((4294967296*r+x2:Nat):Int)) (o64 hb.2.2.2.2 (by omega))),.f (by simp; omega)] rfl (by simp only [Ur,Hj,e1,IntKind.bits]; omega) (rc g ⟨j2,hf,by omega⟩ rfl)
 ·intro g ⟨q1,q2,q3⟩;refine go tt [.r 80 (eI (b:=(ly.length:Int)) (by rw [Uv]))] rfl trivial ?_;refine lp (S:=Nat×List Nat×Nat×Nat) 1 (λL1 s=>(81,.v (.one (.int .i64 (s.1:Int))))::(11,.v (.one (.int .u64 (s.2.2.1:Int))))::(12,.v (.one (.int .u64 (s.2.2.2:Int))))::L1) (λs=>[.row true 143 1 (lm (pre++s.2.1++post))]) (λs=>ly.length-s.1)
   (λs=>s.1<=ly.length/\s.2.1.length=ly.length+1/\Sm s.2.1/\s.2.2.2<=1/\s.2.2.1<4294967296/\val (s.2.1.take s.1)+g*val (ly.take s.1)=val (x.take s.1)+(s.2.2.1+s.2.2.2)*4294967296^s.1/\s.2.1.drop s.1=x.drop s.1) (0,x,0,0)
   ⟨Qh _,hxl,D.xb,Qh _,by simp,by simp [val],rfl⟩ rfl (λ_ _=>rfl) rfl λ⟨i,o,cy,bw⟩ ⟨j1,j2,j3,j4,j5,j6,j7⟩=>?_
  dsimp only at j1 j2 j3 j4 j5 j6 j7 ⊢;by_cases hi:i<ly.length
  ·obtain ⟨w1,hw1⟩:=gxE (l:=ly) (i:=i) hi;obtain ⟨u,hu⟩:=gxE (l:=x) (i:=i) (by omega);have wb:=D.lb w1 (Qa hw1);have ub:=D.xb u (Qa hu);have hou:=(Qd5 j7).trans hu;have hgw:g*w1<=18446744069414584320:=by
    have:=Zf q3 (show w1<=4294967295 by omega);omega
   obtain ⟨s,hs⟩:=nmE (((u+18446744073709551616-(g*w1+cy) % 4294967296) % 18446744073709551616+18446744073709551616-bw) % 18446744073709551616);have hstep:=Qqw (o:=o) (by omega) hu hw1 ub j4 j6 rfl hs;have e1:(g:Int)*(w1:Int)=((g*w1:Nat):Int):=by push_cast; rfl
   obtain ⟨m,hm⟩:=nmE (g*w1);rw [<-hm] at e1 hgw hs hstep;obtain ⟨p,hp⟩:=nmE (m+cy);rw [<-hp] at hs hstep;refine go tt [.t (by simp; omega),.x (Gh hw1),.r 89 (Cv (b:=(m:Int)) e1),.r 91 (Cv (b:=(p:Int)) (by omega)),.i 32,.r 93 (Cv (b:=((p / 2^32:Nat):Int)) (by simp)),.i i,.x (Qmw hou),.w 1,.r 100 (D4 (b:=((p % 4294967296:Nat):Int)) (by rw [w32]; omega)),.w 1,.r 102 (Cv (b:=(((u+18446744073709551616-p % 4294967296) % 18446744073709551616:Nat):Int)) (by rw [w64]; omega)),.w 0,.r 104 (Cv (b:=(s:Int)) (by rw [w64]; omega)),
    .w 0,.r 108 (D4 (b:=((s % 4294967296:Nat):Int)) (by rw [w32]; omega)),.i 63,.r 110 (Cv (b:=((s / 2^63:Nat):Int)) (by simp)),.i i] rfl (by simp only [Ur,Hj,e1,IntKind.bits,Uv,Q4]; omega) ?_
   rw [Zcq (by omega)];exact rd (i+1,o.set i (s % 4294967296),p / 2^32,s / 2^63) (by dsimp only; omega) ⟨hi,by simp [j2],M7 j3 _ _ (by omega),hstep.2,by dsimp only; omega,hstep.1,Qnc j7⟩ rfl
  ·obtain rfl:i=ly.length:=by omega
   have hon:=(Qd5 j7).trans D.xn;rw [Qn (l:=ly) (Ql _)] at j6;obtain ⟨s,hs⟩:=nmE (((xn+18446744073709551616-cy) % 18446744073709551616+18446744073709551616-bw) % 18446744073709551616);obtain ⟨oa,hoa⟩:=nmE (o.set ly.length (s % 4294967296));have oal:oa.length=ly.length+1:=by rw [hoa,Jj]; exact j2
   have oab:Sm oa:=hoa ▸ M7 j3 _ _ (by omega);by_cases hs0:s / 2^63=0
   ·have hf:=D.fin0 j2 j5 j4 q1 j6 hs hs0;refine go tt [.f (by simp),.i ly.length,.x (Qmw hon),.w 1,.r 119 (Cv (b:=(((xn+18446744073709551616-cy) % 18446744073709551616:Nat):Int)) (by rw [w64]; omega)),.w 0,.r 121 (Cv (b:=(s:Int)) (by rw [w64]; omega)),.w 0,.r 125 (D4 (b:=((s % 4294967296:Nat):Int)) (by rw [w32]; omega)),.i ly.length,.i 63,.r 128 (Cv (b:=((s / 2^63:Nat):Int)) (by simp)),.t (by simp; omega),.w 0,.r 131 (D4 (b:=((val x / val ly:Nat):Int)) (by rw [w32]; omega))] rfl (by simp only [Ur,Hj,IntKind.bits,Uv,Q4]; omega) ?_;rw [Zcq (by omega),<-Qw9 (l:=o.set ly.length (s % 4294967296)) (k:=x.length) (hoa ▸ oab) (by rw [<-hoa,oal,hxl]) hf.2];exact ed tt [] [0] [] rfl trivial
   ·have hf:=D.fin1 j2 j3 j5 j4 q2 j6 hs hs0;rw [<-hoa] at hf;obtain ⟨v1,hv1⟩:=gxE (l:=oa) (i:=ly.length) (by omega);refine go tt [.f (by simp),.i ly.length,.x (Qmw hon),.w 1,.r 119 (Cv (b:=(((xn+18446744073709551616-cy) % 18446744073709551616:Nat):Int)) (by rw [w64]; omega)),.w 0,.r 121 (Cv (b:=(s:Int)) (by rw [w64]; omega)),.w 0,.r 125 (D4 (b:=((s % 4294967296:Nat):Int)) (by rw [w32]; omega)),.i ly.length,.i 63,.r 128 (Cv (b:=((s / 2^63:Nat):Int)) (by simp)),.f (by simp; omega),.r 133 (eI (b:=(ly.length:Int)) (by rw [Uv]))] rfl (by simp only [Ur,Hj,IntKind.bits,Uv,Q4]; omega) ?_;rw [Zcq (by omega),<-hoa];refine lp (S:=Nat×List Nat×Nat) 1 (λL1 s=>(134,.v (.one (.int .i64 (s.1:Int))))::(18,.v (.one (.int .u64 (s.2.2:Int))))::L1) (λs=>[.row true 143 1 (lm (pre++s.2.1++post))]) (λs=>ly.length-s.1)
     (λs=>s.1<=ly.length/\s.2.1.length=ly.length+1/\Sm s.2.1/\s.2.2<=1/\val (s.2.1.take s.1)+s.2.2*4294967296^s.1=val (oa.take s.1)+val (ly.take s.1)/\s.2.1.drop s.1=oa.drop s.1) (0,oa,0)
     ⟨Qh _,oal,oab,Qh _,by simp [val],rfl⟩ rfl (λ_ _=>rfl) rfl λ⟨j,o2,bk⟩ ⟨r1,r2,r3,r4,r5,r6⟩=>?_
    dsimp only at r1 r2 r3 r4 r5 r6 ⊢;by_cases hj:j<ly.length
    ·obtain ⟨w1,hw1⟩:=gxE (l:=ly) (i:=j) hj;obtain ⟨u,hu⟩:=gxE (l:=oa) (i:=j) (by omega);have wb:=D.lb w1 (Qa hw1);have ub:=oab u (Qa hu);have hou:=(Qd5 r6).trans hu;obtain ⟨m,hm⟩:=nmE (u+bk+w1);have hstep:=Qsh (o:=o2) (by omega) hu (.inl hw1) r5 hm;refine go tt [.t (by simp; omega),.x (Gh hw1),.i j,.x (Qmw hou),.r 148 (Cv (b:=(m:Int)) (by omega)),.w 0,.r 152 (D4 (b:=((m % 4294967296:Nat):Int)) (by rw [w32]; omega)),.i 32,.r 154 (Cv (b:=((m / 4294967296:Nat):Int)) (by simp)),.i j] rfl (by simp only [Ur,Hj,IntKind.bits,Uv,Q4]; omega) ?_;rw [Zcq (by omega)];exact rd (j+1,o2.set j (m % 4294967296),m / 4294967296) (by dsimp only; omega) ⟨hj,by simp [r2],M7 r3 _ _ (by omega),by dsimp only; omega,hstep,Qnc r6⟩ rfl
    ·obtain rfl:j=ly.length:=by omega
     have hon2:=(Qd5 r6).trans hv1;have vb:=oab v1 (Qa hv1);rw [Qn (l:=ly) (Ql _)] at r5;have hf2:=D.fin2 oal oab r2 r3 hv1 r4 hf.2 r5;refine go tt [.f (by simp),.i ly.length,.x (Qmw hon2),.w 1,.r 165 (D4 (b:=(((v1+bk) % 4294967296:Nat):Int)) (by rw [w32]; omega)),.i ly.length,.w 0,.r 168 (D4 (b:=((g % 4294967296:Nat):Int)) (by rw [w32]; omega)),.w 0,.r 169 (D4 (b:=((val x / val ly:Nat):Int)) (Zne hf.1 D.qlt))] rfl (by simp only [Ur,Hj,IntKind.bits,Uv,Q4]; omega) ?_;rw [Zcq (by omega),<-Qw9 (l:=o2.set ly.length ((v1+bk) % 4294967296)) (k:=x.length) (M7 r3 _ _ (by omega)) (by rw [Jj,r2,hxl]) hf2];exact ed tt [] [0] [] rfl trivial
theorem Q68 {o ly:List Nat} {lo top nx xn x1 x2:Nat} (hlo:lo+(ly.length+1)<=o.length) (D:Dig (win o lo ly.length) ly ly.length top nx xn x1 x2) (hn:ly.length<274877906944) :
 Hh Tryz.prog 146 [.one (.orow 0 1 (some (lo,ly.length+1))),lr ly] [.row true 143 1 (lm o)] [.one (.int .u32 ((val (win o lo ly.length) / val ly:Nat):Int))] [.row true 143 1 (lm (o.take lo++dgs (ly.length+1) (val (win o lo ly.length) % val ly)++o.drop (lo+ly.length+1)))]:=by
 have:=Zd0 (pre:=o.take lo) (post:=o.drop (lo+ly.length+1)) D hn;have e1:(o.take lo).length=lo:=by rw [Qr]; omega
 have e2:=Qfk (o:=o) (i:=lo) (n:=ly.length) (by omega);rw [e1,e2,Qcc] at this;exact this
theorem Qso {a b:List Nat} (ha:Sm a) (hb:Sm b) (h1:sz (val a)<=4294967296) (h2:sz (val b)<=4294967296) (hy:0<val b):Ut Tryz.prog 102 [lr a,lr b] [lr (Fg (val a / val b)),lr (Fg (val a % val b)),.one (.int .i64 0)]:=by
 refine Gv Tryz.func102 rfl ?_;obtain ⟨p,ca,np,vp,_,ep⟩:=Qf4 ha;obtain ⟨q,cb,nq,vq,_,eq⟩:=Qf4 hb;have hp:=Rm h1;have hq:=Rm h2;rw [<-ep] at hp;rw [<-eq] at hq;rw [<-vp,<-vq];rw [<-vp] at h1;rw [<-vq] at h2 hy;have q0:q≠[]:=λe=>by rw [e] at hy; simp [val] at hy
 have qp:0<q.length:=J4.2 q0;have c1:¬((lm q).length:Int)=0:=by rw [Uv]; omega
 by_cases hlt:p.length<q.length
 ·have hv:=Cz np nq hlt;rw [V9 hv,Xw hv,Gn];exact en tt [.c [] ca,.c [] cb,.f (by simpa using c1),.t (by simp [Uv]; omega),.c [] (Qcw np.1 h1)] rfl rfl (by simp [Ur,Hj])
 by_cases hone:q.length=1
 ·obtain ⟨y,rfl⟩:∃ y,q=[y]:=by
   match q,hone with
   | [y],_=>exact ⟨y,rfl⟩
  have yb:=nq.1 y (.head _);have vy:val [y]=y:=by simp [val]
  rw [vy] at hy ⊢;have co:=Zmg np.1 (by omega) hy yb;have sm:Sm [val p % y]:=λz hz=>by
   simp at hz; subst hz; exact Nat.lt_trans (Z4 _ hy) yb
  have cc:=Qcn sm;rw [show val [val p % y]=val p % y from by simp [val]] at cc;exact en tt [.c [] ca,.c [] cb,.f (by simp [lm]),.f (by simp [Uv]; omega),.t (by simp [lm]),.x (Gh (l:=[y]) (i:=0) rfl),.c [] co,.c [] cc] rfl rfl (by simp [Ur,Hj])
 ·have hle:q.length<=p.length:=Vb hlt;obtain ⟨y1,hy1,hy10⟩:=nq.2 q0;have y1b:=nq.1 y1 (Qa hy1);have hszy:=Qy5 nq hy1;have hsz1:sz y1<=32:=Nj.2 (by omega);have hsz0:0<sz y1:=Zk5 (by omega);obtain ⟨s,hs⟩:=nmE (32-sz y1);have hs31:s<=31:=by omega
  have D4:(2:Nat)^32=4294967296:=by decide
  obtain ⟨x,hx⟩:=nmE (val p);obtain ⟨y,hyv⟩:=nmE (val q);have cl:=Zi4 y1b;rw [<-hs] at cl;have hvx:val p*2^s<4294967296^(p.length+1):=by
   have h1:=Ds p np.1;rw [Zn];exact Xe (Xn h1 (show 0<2^s from Z1 (by decide))) (Zq _ (by rw [<-D4]; exact Zw (by decide) (by omega)))
  have hvy:val q*2^s<4294967296^q.length:=by
   have h1:=Qen (val q);rw [<-D4,<-Uq];have h2:val q*2^s<2^sz (val q)*2^s:=Xn h1 (Z1 (by decide));rw [<-Xb] at h2;rw [show 32*q.length=sz (val q)+s from by omega];exact h2
  have cx:=Q7y np.1 (show sz (val p)<=4294967400 by omega) hs31 (show p.length+1<274877906944 by omega) (by omega) hvx;have cy:=Q7y nq.1 (show sz (val q)<=4294967400 by omega) hs31 (show q.length<274877906944 by omega) qp hvy;obtain ⟨hXl,hXb,hXv⟩:=Qp3 (k:=p.length+1) (v:=val p*2^s);obtain ⟨hYl,hYb,hYv⟩:=Qp3 (k:=q.length) (v:=val q*2^s);have hXv:=hXv hvx;have hYv:=hYv hvy;obtain ⟨X,hX⟩:=nmE (dgs (p.length+1) (val p*2^s));obtain ⟨Y,hY⟩:=nmE (dgs q.length (val q*2^s));rw [<-hX] at hXl hXb hXv cx;rw [<-hY] at hYl hYb hYv cy;have hyB:4294967296^(q.length-1)<=val q:=Qeq nq q0;have hR:=Qyk hXv hYv hXl hXb hYl hYb (show 2<=q.length by omega) (Ds p np.1) hyB hle;refine go tt [.c [] ca,.c [] cb,.f (by simpa using c1),.f (by simp [Uv]; omega),.f (by simp [Uv]; omega),.r 49 (eI (b:=((q.length-1:Nat):Int)) (by rw [Uv]; omega)),.x (Gh hy1),.c [] cl,.r 57 (eI (b:=((p.length+1:Nat):Int)) (by rw [Uv]; omega)),.c [0] cx,.r 62 (eI (b:=(q.length:Int)) (by rw [Uv])),.c [1] cy,.r 65 (eI (b:=(q.length:Int)) (by rw [Uv,hYl])),.r 70 (eI (b:=((p.length-q.length+1:Nat):Int)) (by rw [Uv]; omega)),.i (p.length-q.length+1),.i (p.length-q.length+1),.r 73 (eI (b:=((p.length-q.length+1:Nat):Int)) (by simp))] rfl ?_ ?_
  ·simp only [Ur,Hj,IntKind.bits,Uv];omega
  ·rw [Qdj];refine pb 1 rfl rfl ?_;refine lp (S:=Int×List Nat×List Nat) 3 (λL1 s=>(13,.v (.one (.int .i64 s.1)))::L1) (λs=>[.row false 143 1 (lm s.2.2),.gone,.row false 143 1 (lm s.2.1)]) (λs=>(s.1+1).toNat)
    (λs=>-1<=s.1/\s.1<p.length-q.length+1/\s.2.1.length=p.length-q.length+1/\Sm s.2.1/\Rest s.2.2 Y p.length q.length (s.1+1).toNat/\val (s.2.1.drop (s.1+1).toNat)*4294967296^(s.1+1).toNat*val Y+val s.2.2=val X) (((p.length-q.length+1:Nat):Int)-1,List.replicate (p.length-q.length+1) 0,X)
    ⟨by dsimp only; omega,by dsimp only; omega,by simp,λx hx=>by rw [List.eq_of_mem_replicate hx]; decide,by simpa using hR,by simp [val]⟩ rfl (λ_ _=>rfl) rfl λ⟨i,oq,ox⟩ ⟨j1,j2,j3,j4,j5,j6⟩=>?_
   dsimp only at j1 j2 j3 j4 j5 j6 ⊢;rcases We i 0 with hi | hi
   ·obtain rfl:i=-1:=by omega
    simp only [show ((-1:Int)+1).toNat=0 from rfl,Xp,Vd,Yq] at j5 j6;have hlt':val ox<val q*2^s:=by have:=j5.lt; rw [hYv] at this; simpa using this
    have hfin:=Za9 (x:=val p) (y:=val q) (s:=s) (r:=val ox) (q:=oq) hy (by rw [<-hXv,<-hYv]; exact j6) hlt';have hoxl:=j5.ol;have hox:=Qy7 (o:=ox) (n:=q.length) (by omega) (Nat.lt_trans hlt' hvy);have hszm:sz (val (ox.take q.length))<=4294967400:=by
     rw [hox,hfin.2];have h1:=Zb9 (val p % val q) (2^s);have h2':=Rp (Yh (Z4 (val p) hy));have h3:sz (2^s)<=s+1:=Nj.2 (Nat.pow_lt_pow_right (by decide) (by omega));omega
    have cs:=Zmb (a:=ox.take q.length) (λu hu=>j5.ob u (Qm hu)) hszm hs31;rw [hox,hfin.2,Nat.mul_div_cancel _ (Z1 (by decide))] at cs;have cq:=Qcn j4;rw [hfin.1] at cq;exact en tt [.f (by decide),.p 2,.p 0,.c [] cq,.i q.length,.r 95 (v:=lr (ox.take q.length)) (by simp [lm]),.c [] cs] rfl rfl (by simp [Ur,Hj,Uv]; omega)
   ·obtain ⟨k,rfl⟩:=Yn hi;have e:((k:Int)+1).toNat=k+1:=by omega
    rw [e] at j5 j6;obtain ⟨top,nx,xn,x1,x2,D⟩:=j5.dig;have hoxl:=j5.ol;have hm:=j5.hm;have cd:=Q68 (o:=ox) (lo:=k) (by omega) (hYl.symm ▸ D) (by omega);rw [hYl] at cd;have hwl:=Qfk (o:=ox) (i:=k) (n:=q.length) (by omega);have hwlt:val (win ox k q.length) % val Y<4294967296^(q.length+1):=by
     have h3:=Ds (win ox k q.length) D.xb;rw [hwl] at h3;exact Zv (Nat.mod_le _ _) h3
    obtain ⟨d1,d2,d3⟩:=Qp3 (k:=q.length+1) (v:=val (win ox k q.length) % val Y);have hnx:=j5.next (w':=dgs (q.length+1) (val (win ox k q.length) % val Y)) (d1.trans hwl.symm) d2 (d3 hwlt) (q:=oq) (by omega) j6;have hdg:=D.qlt;refine go tt [.t (by simp),.i k,.i (k+q.length+1),.r 87 (v:=.one (.orow 0 1 (some (k,q.length+1)))) (by rw [show k+q.length+1-k=q.length+1 by omega]),.c [0] cd,.i k] rfl ?_ ?_
    ·simp only [Ur,Uv]; omega
    ·rw [Nv];refine rd ((k:Int)-1,oq.set k (val (win ox k q.length) / val Y),ox.take k++dgs (q.length+1) (val (win ox k q.length) % val Y)++ox.drop (k+q.length+1)) (by dsimp only; omega) ⟨by dsimp only; omega,by dsimp only; omega,by simp [j3],M7 j4 _ _ hdg,?_,?_⟩ rfl
     ·dsimp only; rw [show ((k:Int)-1+1).toNat=k from by omega]; exact hnx.1
     ·dsimp only; rw [show ((k:Int)-1+1).toNat=k from by omega]; exact hnx.2
def sg (z:Int):LV:=.bool (decide (z<0))
def mg (z:Int):LV:=.row (lm (Fg z.natAbs))
abbrev Gw (z:Int):List LV:=[sg z,mg z]
def Rk (x y:LV) (z:Int):Prop:=∃ b l,x=.bool b/\y=.row (lm l)/\Sm l/\z=U0 b (val l)
theorem Uu (z:Int):Rk (sg z) (mg z) z:=by
 refine ⟨_,_,rfl,rfl,De _,?_⟩;rw [Ge];unfold U0;by_cases h:z<0 <;> simp [h] <;> omega
theorem Zkg (b:Bool) (m:Nat):[LV.bool (b && decide (0<m)),LV.row (lm (Fg m))]=Gw (U0 b m):=by
 simp only [Gw,sg,mg,Qlm,Rh]
theorem Cx {m:Nat}:0<(Fg m).length↔0<m:=by
 rcases Qz m with h | h
 ·subst h; rw [Gn]; simp
 ·rw [Ld (by omega)]; simp [h]
theorem S8 (b:Bool) (m:Nat):Ut Tryz.prog 67 [lr (Fg m),.one (.bool b)] [.agg (Gw (U0 b m))]:=by
 rw [<-Zkg];have e:=Cx (m:=m);cases b with
 | false=>exact w tt Tryz.func67 rfl [.f rfl] rfl rfl trivial
 | true=>exact w tt Tryz.func67 rfl [.t rfl] rfl (by simp [Uv,e]) trivial
theorem S5 {b:Bool} {m:Nat} {k:Nat} (h:U6 (U0 b m)<=k):sz m<=k:=by
 unfold U6 at h; rwa [Rh] at h
theorem D3 {x y:LV} {z:Int} (hi:Rk x y z) (hs:U6 z<=4294967295):Ut Tryz.prog 61 [.agg [x,y]] [.agg (Gw z)]:=by
 obtain ⟨b,l,rfl,rfl,hl,rfl⟩:=hi;exact w tt Tryz.func61 rfl [.c [] (Qcw hl (Qc (S5 hs) (by decide))),.c [] (S8 _ _)] rfl rfl trivial
theorem Qd9 (b:Bool) (m:Nat):U0 (!b) m=-(U0 b m):=by unfold U0; cases b <;> simp
theorem Qjr {x y:LV} {z:Int} (hi:Rk x y z) (hs:U6 z<=4294967295):Ut Tryz.prog 64 [.agg [x,y]] [.agg (Gw (-z))]:=by
 obtain ⟨b,l,rfl,rfl,hl,rfl⟩:=hi;rw [<-Qd9];exact w tt Tryz.func64 rfl [.c [] (Qcw hl (Qc (S5 hs) (by decide))),.c [] (S8 _ _)] rfl rfl trivial
theorem Ac {x y x' y':LV} {z z':Int} (hi:Rk x y z) (hi':Rk x' y' z') (hs:U6 z<=4294967295) (hs':U6 z'<=4294967295):Ut Tryz.prog 165 [.agg [x,y],.agg [x',y']] [.agg (Gw (z*z'))]:=by
 obtain ⟨b,l,rfl,rfl,hl,rfl⟩:=hi;obtain ⟨b',l',rfl,rfl,hl',rfl⟩:=hi';have e:U0 b (val l)*U0 b' (val l')=U0 (b != b') (val l*val l'):=by
  unfold U0; cases b <;> cases b' <;> simp [Int.neg_mul,Int.mul_neg]
 rw [e];exact w tt Tryz.func165 rfl [.c [] (Zl3 hl hl' (Qc (S5 hs) (by decide)) (Qc (S5 hs') (by decide))),.c [] (S8 _ _)] rfl rfl trivial
theorem Qju {a b:List Nat} (ha:Sm a) (hb:Sm b) (h1:sz (val a)<=4294967296) (h:val b<=val a):Ut Tryz.prog 149 [lr a,lr b] [lr (Fg (val a-val b)),.one (.bool true)]:=by
 have:=Zhm ha hb h1; rwa [if_pos h] at this
theorem Q61 {a b:List Nat} (ha:Sm a) (hb:Sm b) (h1:sz (val a)<=4294967296) (h:val a<val b):Ut Tryz.prog 149 [lr a,lr b] [lr [],.one (.bool false)]:=by
 have:=Zhm ha hb h1; rwa [if_neg (by omega)] at this
theorem Qcy {x y x' y':LV} {z z':Int} (hi:Rk x y z) (hi':Rk x' y' z') (hs:U6 z<=4294967295) (hs':U6 z'<=4294967295):Ut Tryz.prog 209 [.agg [x,y],.agg [x',y']] [.agg (Gw (z+z'))]:=by
 obtain ⟨b,l,rfl,rfl,hl,rfl⟩:=hi;obtain ⟨b',l',rfl,rfl,hl',rfl⟩:=hi';have s1:=Qc (S5 hs) (show 4294967295<=4294967296 by decide);have s2:=Qc (S5 hs') (show 4294967295<=4294967296 by decide);by_cases hb:b=b'
 ·subst hb;have e:U0 b (val l)+U0 b (val l')=U0 b (val l+val l'):=by unfold U0; cases b <;> simp <;> omega
  rw [e];exact w tt Tryz.func209 rfl [.t (by simp),.c [] (Zhi hl hl' s1 s2),.c [] (S8 _ _)] rfl rfl trivial
 ·by_cases hle:val l'<=val l
  ·have e:U0 b (val l)+U0 b' (val l')=U0 b (val l-val l'):=by unfold U0; cases b <;> cases b' <;> simp at hb ⊢ <;> omega
   rw [e];exact w tt Tryz.func209 rfl [.f (by simpa using hb),.c [] (Qju hl hl' s1 hle),.t rfl,.c [] (S8 _ _)] rfl rfl trivial
  ·have e:U0 b (val l)+U0 b' (val l')=U0 b' (val l'-val l):=by unfold U0; cases b <;> cases b' <;> simp at hb ⊢ <;> omega
   rw [e];exact w tt Tryz.func209 rfl [.f (by simpa using hb),.c [] (Q61 hl hl' s1 (by omega)),.f rfl,.c [] (Qju hl' hl s2 (by omega)),.c [] (S8 _ _)] rfl rfl trivial
theorem Q66 {x y x' y':LV} {z z':Int} (hi:Rk x y z) (hi':Rk x' y' z') (hs:U6 z<=4294967295) (hs':U6 z'<=4294967295):Ut Tryz.prog 200 [.agg [x,y],.agg [x',y']] [.agg (Gw (z-z'))]:=by
 obtain ⟨b',l',rfl,rfl,hl',rfl⟩:=hi';have hn:Rk (.bool (!b')) (.row (lm l')) (-(U0 b' (val l'))):=⟨_,_,rfl,rfl,hl',(Qd9 _ _).symm⟩;rw [Int.sub_eq_add_neg];have hi2:=hi;obtain ⟨b,l,rfl,rfl,hl,_⟩:=hi;exact w tt Tryz.func200 rfl [.c [] (Qcy hi2 hn hs (by rw [Hg]; exact hs'))] rfl rfl trivial
theorem Q7v {x y:LV} {z:Int} (hi:Rk x y z) (hs:U6 z<=4294967295):Ut Tryz.prog 174 [.agg [x,y]] [.one (.int .i64 (Int.sign z))]:=by
 obtain ⟨b,l,rfl,rfl,hl,rfl⟩:=hi;have s1:=Qc (S5 hs) (show 4294967295<=4294967296 by decide);have cb:=Qwd hl s1;by_cases h0:val l=0
 ·have e:U0 b (val l)=0:=by unfold U0; rw [h0]; cases b <;> simp
  rw [e];exact w tt Tryz.func174 rfl [.c [] cb,.t (by simp [Qmd,h0])] rfl rfl trivial
 ·have hs0:sz (val l)≠0:=λh=>h0 (Qmd.1 h)
  cases b
  ·have e:(U0 false (val l)).sign=1:=Int.sign_eq_one_of_pos (by unfold U0; simp; omega);rw [e];exact w tt Tryz.func174 rfl [.c [] cb,.f (by simp; omega),.f rfl] rfl rfl trivial
  ·have e:(U0 true (val l)).sign=-1:=Int.sign_eq_neg_one_of_neg (by unfold U0; simp; omega);rw [e];exact w tt Tryz.func174 rfl [.c [] cb,.f (by simp; omega),.t rfl] rfl rfl trivial
theorem Qfy {x y x' y':LV} {z z':Int} (hi:Rk x y z) (hi':Rk x' y' z') (hs:U6 z<=4294967295) (hs':U6 z'<=4294967295):Ut Tryz.prog 130 [.agg [x,y],.agg [x',y']] [.one (.int .i64 (Nn z z'))]:=by
 have c1:=Q7v hi hs;have c2:=Q7v hi' hs';obtain ⟨b,l,rfl,rfl,hl,hz⟩:=hi;obtain ⟨b',l',rfl,rfl,hl',hz'⟩:=hi';have k1:=Eg z;have k2:=Eg z';have zl:z.natAbs=val l:=by rw [hz,Rh]
 have zl':z'.natAbs=val l':=by rw [hz',Rh]
 by_cases h1:z.sign<z'.sign
 ·have e:Nn z z'=-1:=by unfold Nn; rw [if_pos (by omega)]
  rw [e];exact w tt Tryz.func130 rfl [.c [] c1,.c [] c2,.t (by simpa using h1)] rfl rfl trivial
 ·by_cases h2:z'.sign<z.sign
  ·have e:Nn z z'=1:=by unfold Nn; rw [if_neg (by omega),if_pos (by omega)]
   rw [e];exact w tt Tryz.func130 rfl [.c [] c1,.c [] c2,.f (by simpa using h1),.t (by simpa using h2)] rfl rfl trivial
  ·by_cases h3:z.sign<0
   ·have e:Oy (val l') (val l)=Nn z z':=by unfold Nn Oy; rw [<-zl,<-zl']; split <;> split <;> (try split) <;> (try split) <;> omega
    have cc:=Q6c hl' hl;rw [e] at cc;exact w tt Tryz.func130 rfl [.c [] c1,.c [] c2,.f (by simpa using h1),.f (by simpa using h2),.t (by simpa using h3),.c [] cc] rfl rfl trivial
   ·have e:Oy (val l) (val l')=Nn z z':=by unfold Nn Oy; rw [<-zl,<-zl']; split <;> split <;> (try split) <;> (try split) <;> omega
    have cc:=Q6c hl hl';rw [e] at cc;exact w tt Tryz.func130 rfl [.c [] c1,.c [] c2,.f (by simpa using h1),.f (by simpa using h2),.f (by simpa using h3),.c [] cc] rfl rfl trivial
theorem Ad {z:Int}:Ut Tryz.prog 62 [.agg (Gw z)] [.one (.bool (decide (z=0)))] :=
 w tt Tryz.func62 rfl [] rfl (by simp only [Uv]; congr 3; have:=Cx (m:=z.natAbs); rw [decide_eq_decide]; omega) trivial
theorem Qwk {z:Int} (h1:-9223372036854775808<=z/\z<=9223372036854775807):Ut Tryz.prog 35 [.one (.int .i64 z)] [.agg (Gw z)]:=by
 obtain ⟨m,hm⟩:=nmE (z.natAbs);have sm:Sm [m % 4294967296,m / 4294967296]:=λx hx=>by
  simp at hx; rcases hx with rfl | rfl <;> omega
 have hv:val [m % 4294967296,m / 4294967296]=m:=by simp only [val]; omega
 have cn:=Qcw sm (by rw [hv]; exact Qc (Nj.2 (show m<2^64 by omega)) (show 64<=4294967296 by decide));rw [hv] at cn;by_cases hz:z<0
 ·have e:U0 true m=z:=by unfold U0; simp; omega
  have cm:=S8 true m;rw [e] at cm;exact w tt Tryz.func35 rfl [.w 0,.r 5 (Cv (b:=((18446744073709551616-m:Nat):Int)) (by rw [w64]; omega)),.t (by simpa using hz),.w 0,.r 9 (Cv (b:=(m:Int)) (by rw [w64]; omega)),.w 0,.r 11 (D4 (b:=((m % 4294967296:Nat):Int)) (by rw [w32]; omega)),.i 32,.r 13 (Cv (b:=((m / 4294967296:Nat):Int)) (by simp)),.c [] cn,.r 18 (v:=.one (.bool true)) (by simp [hz]),.c [] cm] rfl rfl (by simp [Ur,IntKind.bits] <;> omega)
 ·have e:U0 false m=z:=by unfold U0; simp; omega
  have cm:=S8 false m;rw [e] at cm;exact w tt Tryz.func35 rfl [.w 0,.r 5 (Cv (b:=(m:Int)) (by rw [w64]; omega)),.f (by simpa using hz),.w 0,.r 11 (D4 (b:=((m % 4294967296:Nat):Int)) (by rw [w32]; omega)),.i 32,.r 13 (Cv (b:=((m / 4294967296:Nat):Int)) (by simp)),.c [] cn,.r 18 (v:=.one (.bool false)) (by simp; omega),.c [] cm] rfl rfl (by simp [Ur,IntKind.bits] <;> omega)
theorem Qwf {m n:Nat} (h1:sz m<=4294967296) (h2:sz n<=4294967296) (hn:0<n):Ut Tryz.prog 102 [lr (Fg m),lr (Fg n)] [lr (Fg (m / n)),lr (Fg (m % n)),.one (.int .i64 0)]:=by
 have:=Qso (De m) (De n) (by rw [Ge]; exact h1) (by rw [Ge]; exact h2) (by rw [Ge]; exact hn);rwa [Ge,Ge] at this
theorem Q3q {x y x' y':LV} {z z':Int} (hi:Rk x y z) (hi':Rk x' y' z') (hs:U6 z<=4294967295) (hs':U6 z'<=4294967295) (hz:z'≠0):Ut Tryz.prog 103 [.agg [x,y],.agg [x',y']] [.agg (Gw (z / z')),.agg (Gw (z % z')),.one (.int .i64 0)]:=by
 obtain ⟨b,l,rfl,rfl,hl,hz1⟩:=hi;obtain ⟨b',l',rfl,rfl,hl',hz2⟩:=hi';have zl:z.natAbs=val l:=by rw [hz1,Rh]
 have zl':z'.natAbs=val l':=by rw [hz2,Rh]
 have s1:sz (val l)<=4294967296:=Qc (S5 (hz1 ▸ hs)) (by decide);have s2:sz (val l')<=4294967296:=Qc (S5 (hz2 ▸ hs')) (by decide);have hp:0<z'.natAbs:=by omega
 have e1:z=if b=true then -(z.natAbs:Int) else (z.natAbs:Int):=by rw [zl]; exact hz1
 have e2:z'=if b'=true then -(z'.natAbs:Int) else (z'.natAbs:Int):=by rw [zl']; exact hz2
 have cd:=Qso hl hl' s1 s2 (by omega);rw [<-zl,<-zl'] at cd;have s0:sz (z.natAbs % z'.natAbs)<=4294967296:=Qc (Rp (Yh (Z4 _ hp))) (by rw [zl']; exact s2);cases b with
 |
  false =>
  obtain ⟨d1,d2⟩:=Qkg e2 hp e1;rw [d1,d2];exact w tt Tryz.func103 rfl [.c [] cd,.f rfl,.c [] (S8 _ _),.c [] (S8 _ _),.f rfl,.f rfl] rfl rfl trivial
 |
  true =>
  by_cases h0:z.natAbs % z'.natAbs=0
  ·obtain ⟨d1,d2⟩:=Qib e2 hp e1 h0;rw [d1,d2];exact w tt Tryz.func103 rfl [.c [] cd,.f rfl,.c [] (S8 _ _),.c [] (S8 _ _),.t rfl,.f (by rw [h0,Gn]; rfl)] rfl rfl trivial
  ·obtain ⟨d1,d2⟩:=Qkf e2 hp e1 (by omega);rw [d1,d2];have ca:=Zhi (a:=Fg (z.natAbs / z'.natAbs)) (b:=[1]) (De _) (λx hx=>by simp at hx; subst hx; decide) (by rw [Ge]; exact Qc (Rp (J3 _ _)) (by rw [zl]; exact s1)) (by decide);have cs:=Qju (a:=l') (b:=Fg (z.natAbs % z'.natAbs)) hl' (De _) s2 (by rw [Ge,<-zl']; exact Yh (Z4 _ hp));rw [Ge] at ca cs;rw [<-zl'] at cs;have hl0:=Cx (m:=z.natAbs % z'.natAbs);exact w tt Tryz.func103 rfl [.c [] cd,.f rfl,.c [] (S8 _ _),.c [] (S8 _ _),.t rfl,.t (by simp [Uv]; omega),.c [] ca,.c [] cs,.c [] (S8 _ _),.c [] (S8 _ _)] rfl rfl trivial
theorem Em {x y x' y':LV} {z z':Int} (hi:Rk x y z) (hi':Rk x' y' z') (hs:U6 z<=4294967295) (hs':U6 z'<=4294967295) (hz:z'≠0) (hd:z % z'=0):Ut Tryz.prog 65 [.agg [x,y],.agg [x',y']] [.agg (Gw (z / z')),.one (.int .i64 0)]:=by
 have cd:=Q3q hi hi' hs hs' hz;obtain ⟨b,l,rfl,rfl,_⟩:=hi;obtain ⟨b',l',rfl,rfl,_⟩:=hi';exact w tt Tryz.func65 rfl [.c [] cd,.f rfl,.f (by rw [hd]; simp [Uv,Gn])] rfl rfl trivial
end Orr
namespace Orr
open Go
abbrev Zk9 (l:List Nat):LV:=.row (lm l)
def Hd (l:List Int):Nat:=l.foldl (λg z=>Nat.gcd g z.natAbs) 0
theorem Qnt {l:List Int} {i:Nat} {z:Int} (h:l[i]? = some z):Hd (l.take (i+1))=Nat.gcd (Hd (l.take i)) z.natAbs:=by
 unfold Hd;rw [Y3,h];simp [Vw]
theorem Zey (g x:Nat):Nat.gcd x (g % x)=Nat.gcd g x:=by
 rw [Wl g x,Nat.gcd_rec x g,Wl]
theorem Qmp (l:List Int):l.foldl (λg z=>Nat.gcd g z.natAbs) 1=1:=by
 induction l with
 | nil=>rfl
 | cons z l ih=>simp [ih]
theorem Q85 {l:List Int} {i:Nat} (h:Hd (l.take i)=1):Hd l=1:=by
 have e:l=l.take i++l.drop i:=(Zb i l).symm;unfold Hd at h ⊢;rw [e,Vw,h,Qmp]
def trim:List Int->List Int
 | []=>[]
 |
  x::l=>match trim l with
  | []=>if x=0 then [] else [x]
  | y::k=>x::y::k
theorem Qdl:∀ {l:List Int},(∀ x∈l,x=0)->trim l=[]
 | [],_=>rfl
 |
  x::l,h=>by
  have ih:=Qdl (l:=l) (λy hy=>h y (Qj _ hy));simp [trim,ih,h x (Qx ..)]
theorem Qo7:∀ {l:List Int} {m:Nat} {y:Int},(∀ j x,m<j->l[j]? = some x->x=0)->l[m]? = some y->y≠0->trim l=l.take (m+1)
 | [],m,y,_,h,_=>by simp at h
 |
  x::l,0,y,h1,h2,h3=>by
  have h0:trim l=[]:=Qdl λz hz=>by
   obtain ⟨j,hj⟩:=Zd.1 hz;exact h1 (j+1) z (by omega) (by simpa using hj)
  simp at h2;subst h2;simp [trim,h0,h3]
 |
  x::l,m+1,y,h1,h2,h3=>by
  have ih:=Qo7 (l:=l) (m:=m) (y:=y) (λj z hj hz=>h1 (j+1) z (by omega) (by simpa using hz)) (by simpa using h2) h3;cases hl:l with
  | nil=>subst hl; simp at h2
  |
   cons u k =>
   subst hl;rw [J6] at ih;simp only [trim] at ih ⊢;rw [ih];simp
def Uz (l:List Int):Prop:=trim l=l
theorem Ra:∀ (l:List Int),Uz (trim l)
 | []=>rfl
 |
  x::l=>by
  have ih:=Ra l;unfold Uz at ih ⊢;cases h:trim l with
  | nil=>by_cases hx:x=0 <;> simp [trim,h,hx]
  |
   cons y k =>
   rw [h] at ih;simp only [trim,h] at ih ⊢;rw [ih]
theorem Qvm {l:List Int} {m:Nat} (hm:m<=l.length) (h1:∀ j x,m<=j->l[j]? = some x->x=0) (h2:0<m->∃ y,l[m-1]? = some y/\y≠0):trim l=l.take m:=by
 rcases Qz m with h0 | h0
 ·subst h0;rw [Qdl λz hz=>?_]; rfl;obtain ⟨j,hj⟩:=Zd.1 hz;exact h1 j z (by omega) hj
 ·obtain ⟨y,hy,hy0⟩:=h2 h0;have:=Qo7 (l:=l) (m:=m-1) (y:=y) (λj x hj hx=>h1 j x (by omega) hx) hy hy0;rwa [show m-1+1=m from by omega] at this
def IsInts:List (List LV)->List Int->Prop
 | [],[]=>True
 | x::l,z::p=>(∃ a b,x=[a,b]/\Rk a b z)/\IsInts l p
 | _,_=>False
theorem IsInts.len:∀ {l:List (List LV)} {p:List Int},IsInts l p->l.length=p.length
 | [],[],_=>rfl
 | x::l,z::p,h=>by simp [h.2.len]
 | [],_::_,h=>h.elim
 | _::_,[],h=>h.elim
theorem IsInts.get:∀ {l:List (List LV)} {p:List Int},IsInts l p->∀ {i:Nat} {z:Int},p[i]? = some z->∃ a b,l[i]? = some [a,b]/\Rk a b z
 | [],[],_,i,z,h=>by simp at h
 |
  x::l,y::p,h,0,z,hz=>by
  simp at hz; subst hz;obtain ⟨a,b,rfl,hi⟩:=h.1;exact ⟨a,b,rfl,hi⟩
 | x::l,y::p,h,i+1,z,hz=>by simpa using h.2.get (i:=i) (by simpa using hz)
 | [],_::_,h,_,_,_=>h.elim
 | _::_,[],h,_,_,_=>h.elim
theorem He:∀ (p:List Int),IsInts (p.map Gw) p
 | []=>trivial
 | z::p=>⟨⟨_,_,rfl,Uu z⟩,He p⟩
theorem IsInts.append:∀ {l l':List (List LV)} {p p':List Int},IsInts l p->IsInts l' p'->IsInts (l++l') (p++p')
 | [],_,[],_,_,h=>h
 | x::l,_,z::p,_,h,h'=>⟨h.1,h.2.append h'⟩
 | [],_,_::_,_,h,_=>h.elim
 | _::_,_,[],_,h,_=>h.elim
def pl (p:List Int):LV:=.row (p.map Gw)
def ids (l:List Int):LV:=.row (l.map λ(x:Int)=>[.int .i64 x])
theorem Ce:Rk (.bool false) (.row []) 0:=⟨false,[],rfl,rfl,(λx hx=>by cases hx),rfl⟩
theorem Zgk:sg 0=.bool false:=rfl
theorem Q4q {z:Int}:(Fg z.natAbs).length=0↔z=0:=by
 constructor
 ·intro h;have h0:=Qi h;have:=(Qer (Cg z.natAbs)).2 h0;rw [Ge] at this; omega
 ·rintro rfl; rw [show (0:Int).natAbs=0 from rfl,Gn]; rfl
theorem Gx {α β:Type} {f:α->β} {l:List α} {i:Nat} {x:α} (h:l[i]? = some x):(l.map f)[i]? = some (f x):=by rw [Q9,h]; rfl
theorem Zh8 {α:Type} {f:α->List LV} {sz:Nat} (l:List α) (h:∀ x,(f x).length=sz):∀ c∈l.map f,c.length=sz:=λc hc=>by
 obtain ⟨x,_,rfl⟩:=Zr.1 hc;exact h x
theorem Zfe:mg 0=.row []:=by simp [mg,Gn,lm]
theorem Eb:Gw 0=[LV.bool false,LV.row []]:=by simp [Gw,Zgk,Zfe]
end Orr
namespace Orr
open Go Go.Proofs
set_option maxRecDepth 10000
theorem Qix {p:List Int} (hs:∀ z∈p,U6 z≤4294967295):sz (Hd p)≤4294967295:=by
 have key:∀ (p:List Int) (g:Nat),sz g≤4294967295->(∀ z∈p,U6 z≤4294967295)->sz (p.foldl (λg z=>Nat.gcd g z.natAbs) g)≤4294967295:=by
  intro p
  induction p with
  | nil=>exact λg h _=>h
  |
   cons z p ih =>
   intro g h hs;refine ih _ ?_ λy hy=>hs y (.tail _ hy)
   rcases Qz g with h0 | h0
   ·subst h0; show sz (Nat.gcd 0 z.natAbs)<=_; rw [Nat.gcd_zero_left]; exact hs z (.head _)
   ·exact Qc (Rp (Nat.gcd_le_left _ h0)) h
 exact key p 0 (by decide) hs
theorem Q6h {l:List (List LV)} {p:List Int} (hi:IsInts l p) (hs:∀ z∈p,U6 z≤4294967295):Ut Tryz.prog 63 [.one (.row l)] [.agg (Gw ((Hd p:Nat):Int))]:=by
 refine Gv Tryz.func63 rfl (ln 0 rfl rfl λhl=>?_);have hlp:=hi.len;refine go tt [.z 3,.r 3 (v:=lr (Fg (Hd (p.take 0)))) (by simp [Hd,Gn,lm])] rfl trivial ?_;refine ct 2 (S:=Unit) (λ_=>[(2,.v (.one (.ow 0 0))),(3,.v (lr (Fg (Hd p))))]) (λ_=>[.blk 27 [.bool false,.nils],.gone]) (λ_=>True) rfl ?_ ?_
 ·refine lp (S:=Nat) 1 (λL1 i=>(12,.v (.one (.int .i64 (i:Int))))::(3,.v (lr (Fg (Hd (p.take i)))))::L1) (λ_=>[.blk 27 [.bool false,.nils]]) (λi=>p.length-i) (λi=>i<=p.length) 0 (Qh _) rfl (λ_ _=>rfl) rfl λi hip=>?_
  by_cases h:i<p.length
  ·have hlt:i<l.length:=by omega
   obtain ⟨c,hc⟩:=gxE (l:=l) (i:=i) hlt;obtain ⟨z,hz⟩:=gxE (l:=p) (i:=i) h;obtain ⟨x,y,hc',b,r,rfl,rfl,hr,hzz⟩:=hi.get hz;rw [hc] at hc'; injection hc' with hc'; subst hc'
   have hsz:=hs z (Qa hz);have hg0:sz (Hd (p.take i))<=4294967295:=Qix λy hy=>hs y (Qm hy)
   have ezr:z.natAbs=val r:=by rw [hzz,Rh]
   have cn:=Qcw hr (by rw [<-ezr]; exact Qc hsz (by decide));rw [<-ezr] at cn;refine go tt [.t (by simp; omega),.x hc,.c [] cn] rfl trivial ?_;refine lp (S:=Nat×Nat) 2 (λL1 s=>(3,.v (lr (Fg s.1)))::(6,.v (lr (Fg s.2)))::L1) (λ_=>[.blk 27 [.bool false,.nils],.blk 27 [.bool b,.row (lm r)]]) (λs=>s.2) (λs=>Nat.gcd s.1 s.2=Nat.gcd (Hd (p.take i)) z.natAbs/\sz s.1<=4294967295/\sz s.2<=4294967295) (Hd (p.take i),z.natAbs) ⟨rfl,hg0,hsz⟩ rfl (λ_ _=>rfl) rfl λ⟨g,u⟩ ⟨j1,j2,j3⟩=>?_
   dsimp only at j1 j2 j3 ⊢;have hul:=Cx (m:=u);by_cases hu:0<u
   ·have cd:=Qwf (m:=g) (n:=u) (by omega) (by omega) hu;refine go tt [.t (by simp [Uv]; omega),.c [] cd] rfl trivial ?_;exact rd (u,g % u) (Z4 _ hu) ⟨(Zey g u).trans j1,j3,Qc (Rp (Yh (Z4 _ hu))) j3⟩ rfl
   ·obtain rfl:u=0:=by omega
    rw [Nat.gcd_zero_right,<-Qnt hz] at j1;subst j1;by_cases h1:Hd (p.take (i+1))=1
    ·have e1:Fg (Hd (p.take (i+1)))=[1]:=by rw [h1,Ld (by decide)]; simp [Gn]
     refine go tt [.f (by simp [Gn,lm]),.t (by rw [e1]; rfl),.x (Gh (i:=0) (x:=1) (by rw [e1]; rfl)),.t rfl] rfl trivial ?_;exact rc () trivial (by rw [h1,Q85 h1]; rfl)
    ·obtain ⟨g,hg⟩:=nmE (Hd (p.take (i+1)));rw [<-hg] at h1 j2 ⊢;by_cases h2:(Fg g).length=1
     ·obtain ⟨v,hv⟩:∃ v,Fg g=[v]:=by
       match hm:Fg g,h2 with
       | [v],_=>exact ⟨v,rfl⟩
      have hv1:v≠1:=λe=>h1 (by rw [<-Ge g,hv,e]; rfl)
      refine go tt [.f (by simp [Gn,lm]),.t (by simp [Uv,h2]),.x (Gh (i:=0) (x:=v) (by rw [hv]; rfl)),.f (by simp; omega)] rfl (by simp [Ur] <;> omega) ?_;exact rd (i+1) (by omega) h (by rw [<-hg]; rfl)
     ·refine go tt [.f (by simp [Gn,lm]),.f (by simp [Uv]; omega),.f rfl] rfl (by simp [Ur] <;> omega) ?_;exact rd (i+1) (by omega) h (by rw [<-hg]; rfl)
  ·obtain rfl:i=p.length:=by omega
   refine go tt [.f (by simp; omega)] rfl trivial ?_;rw [Qy];exact rc () trivial rfl
 ·intro _ _;have cn:=Qcw (De (Hd p)) (by rw [Ge]; exact Qc (Qix hs) (by decide));rw [Ge] at cn;exact en tt [.c [] cn,.c [] (S8 false _)] rfl (by simp [U0]) trivial
end Orr
namespace Orr
open Go
def Rv:List Nat->Nat
 | []=>0
 | x::l=>x+10000*Rv l
def Dg (l:List Nat):Prop:=∀ x∈l,x<10000
def Fi (x:Nat):List Nat:=if h:x=0 then [] else (x % 10000)::Fi (x / 10000)
termination_by x
decreasing_by omega
theorem G6:Fi 0=[]:=by unfold Fi; simp
theorem I5 {x:Nat} (h:x≠0):Fi x=(x % 10000)::Fi (x / 10000):=by rw [Fi]; simp [h]
theorem Hx (x:Nat):Rv (Fi x)=x:=by
 induction x using Nat.strongRecOn with
 |
  _ x ih =>
  rcases Qz x with h | h
  ·subst h; rw [G6]; rfl
  ·rw [I5 (by omega)];simp only [Rv];rw [ih _ (by omega)]; omega
theorem Nt (x:Nat):Dg (Fi x):=by
 induction x using Nat.strongRecOn with
 |
  _ x ih =>
  rcases Qz x with h | h
  ·subst h; rw [G6]; intro y hy; cases hy
  ·rw [I5 (by omega)];intro y hy;rcases Qo.1 hy with rfl | hy
   ·omega
   ·exact ih _ (by omega) y hy
theorem Qd4 {x:Nat}:(Fi x).length=0↔x=0:=by
 constructor
 ·intro h;have h0:=Qi h;have:=Hx x;rw [h0] at this;exact this.symm
 ·rintro rfl; rw [G6]; rfl
theorem Ev {x:Nat} (h:x≠0):(Fi (x / 10000)).length+1=(Fi x).length:=by rw [I5 h]; rfl
theorem Q35 {x:Nat} (h:x<1000000000000):(Fi x).length<=3:=by
 by_cases h0:x=0
 ·subst h0; rw [G6]; exact Qh _
 ·have h1:=Ev h0;by_cases h2:x / 10000=0
  ·rw [h2,G6] at h1; simp at h1; omega
  ·have h3:=Ev h2;by_cases h4:x / 10000 / 10000=0
   ·rw [h4,G6] at h3; simp at h3; omega
   ·have h5:=Ev h4;have h6:x / 10000 / 10000 / 10000=0:=by omega
    rw [h6,G6] at h5; simp at h5; omega
theorem P4 (x:Nat):(Fi x).length<=sz x:=by
 induction x using Nat.strongRecOn with
 |
  _ x ih =>
  by_cases h0:x=0
  ·subst h0; rw [G6]; exact Qh _
  ·have h1:=Ev h0;have h2:=ih (x / 10000) (by omega);have h3:sz (x / 10000)+1<=sz x:=by
    have h4:x<2^sz x:=Qen x;rcases hs:sz x with _ | k
    ·rw [hs] at h4; simp at h4; omega
    ·rw [hs] at h4;have:sz (x / 10000)<=k:=Nj.2 (by rw [Zn] at h4; omega);omega
   omega
theorem Sr (a b:List Nat):Rv (a++b)=Rv a+10000^a.length*Rv b:=by
 induction a with
 | nil=>simp [Rv]
 |
  cons x a ih =>
  simp only [Xd,Rv,ih,Q7,Zn];rw [Xk,<-Xg,Zh 10000 (10000^a.length)]; omega
theorem Te {l:List Nat} {i x:Nat} (h:l[i]? = some x):Rv (l.take (i+1))=Rv (l.take i)+10000^i*x:=by
 have hi:=(Qd.1 h).1;rw [show l.take (i+1)=l.take i++[x] by rw [Zs,h]; rfl,Sr,Qr,Zt (by omega)];simp [Rv]
theorem Qkj:∀ {l:List Nat},Dg l->Rv l<10000^l.length
 | [],_=>by simp [Rv]
 |
  x::l,h=>by
  have h1:=h x (Qx ..);have h2:=Qkj (l:=l) λy hy=>h y (Qj _ hy)
  simp only [Rv,Q7,Zn]; omega
theorem Qkk:∀ {l:List Nat},(∀ x∈l,x=0)->Rv l=0
 | [],_=>rfl
 |
  x::l,h=>by
  have h1:=h x (Qx ..);have h2:=Qkk (l:=l) λy hy=>h y (Qj _ hy)
  simp [Rv,h1,h2]
theorem Dg.take {l:List Nat} (h:Dg l) (k:Nat):Dg (l.take k):=λx hx=>h x (Qm hx)
theorem Dg.snoc {l:List Nat} (h:Dg l) {x:Nat} (hx:x<10000):Dg (l++[x]):=by
 intro y hy;rcases Qu.1 hy with hy | hy
 ·exact h y hy
 ·rw [Qk.1 hy]; exact hx
theorem Dg.nil:Dg []:=λx h=>by cases h
theorem Qw8:∀ {l:List Nat},Dg l->(∀ x,l[l.length-1]? = some x->x≠0)->l=Fi (Rv l)
 | [],_,_=>by rw [Rv,G6]
 |
  x::l,h,hl=>by
  have h1:=h x (Qx ..);have h2:l=Fi (Rv l):=Qw8 (λy hy=>h y (Qj _ hy)) λy hy=>hl y (by
   rcases l with _ | ⟨z,t⟩
   ·simp at hy
   ·simpa using hy)
  have h3:x+10000*Rv l≠0:=by
   intro e;have hx:x=0:=by omega
   have hd:Rv l=0:=by omega
   rw [hd,G6] at h2;subst h2;exact hl x rfl hx
  simp only [Rv];rw [I5 h3,show (x+10000*Rv l) % 10000=x by omega,show (x+10000*Rv l) / 10000=Rv l by omega,<-h2]
theorem Qtc {l:List Nat} {m:Nat} (hd:Dg l) (hm:m<=l.length) (h1:∀ j x,m<=j->l[j]? = some x->x=0) (h2:0<m->∃ y,l[m-1]? = some y/\y≠0):l.take m=Fi (Rv l):=by
 have e:Rv l=Rv (l.take m):=by
  conv=>lhs; rw [<-Zb m l,Sr]
  rw [Qkk (l:=l.drop m) λx hx=>?_]
  ·omega
  ·obtain ⟨j,hj⟩:=Zd.1 hx;rw [Z6] at hj;exact h1 (m+j) x (by omega) hj
 rw [e];refine Qw8 (hd.take m) λx hx=>?_
 have hl:(l.take m).length=m:=by rw [Qr]; omega
 rw [hl] at hx;rcases Qz m with h0 | h0
 ·subst h0; simp at hx
 ·obtain ⟨y,hy,hy0⟩:=h2 h0;rw [Ks (by omega),hy] at hx;injection hx with hx; rw [<-hx]; exact hy0
theorem Qna {o c i d m P V:Nat} (hP:P=10000^i) (h:o+c*P=V):o+P*((c+d*m) % 10000)+(c+d*m) / 10000*(P*10000)=V+P*d*m:=by
 have e:=Xa (c+d*m) 10000;generalize (c+d*m) / 10000=q at *;generalize (c+d*m) % 10000=r at *;have e2:P*(c+d*m)=P*(10000*q+r):=by rw [e]
 grind
theorem Qae {x y:Nat} (h:x<=y):(Fi x).length<=(Fi y).length:=by
 induction y using Nat.strongRecOn generalizing x with
 |
  _ y ih =>
  by_cases h0:x=0
  ·subst h0; rw [G6]; exact Qh _
  ·have h1:=Ev h0;have h2:=Ev (x:=y) (by omega);have:=ih (y / 10000) (by omega) (x:=x / 10000) (Nat.div_le_div_right h);omega
theorem Q34 {n x:Nat} (h:10000^n<=x):n+1<=(Fi x).length:=by
 have h1:=Qkj (Nt x);rw [Hx] at h1;have h2:n<(Fi x).length:=(Nat.pow_lt_pow_iff_right (by decide)).1 (Zv h h1);omega
theorem Qta {x y:Nat} (h:(Fi x).length<(Fi y).length):x<y:=by
 rcases Za x y with h1 | h1
 ·exact h1
 ·have:=Qae h1; omega
theorem Q36 {k y:Nat} (h:y<10000^k):(Fi y).length<=k:=by
 induction k generalizing y with
 |
  zero =>
  have:y=0:=by simpa using h
  subst this; rw [G6]; exact Ql _
 |
  succ k ih =>
  by_cases hy0:y=0
  ·subst hy0; rw [G6]; exact Qh _
  ·have h8:=Ev hy0;have:=ih (y:=y / 10000) (by rw [Zn] at h; omega);omega
theorem Q8a {o:List Nat} (h:Dg o) (hl:o.length<=(Fi (Rv o)).length):o=Fi (Rv o):=by
 refine Qw8 h λx hx h0=>?_
 subst h0;have hne:0<o.length:=by
  rcases o with _ | ⟨a,o⟩
  ·simp at hx
  ·simp
 have h1:Rv o=Rv (o.take (o.length-1)):=by
  have:=Te hx;rw [show o.length-1+1=o.length by omega,Qy] at this;omega
 have h2:=Qkj (h.take (o.length-1));rw [<-h1,Qr,Zt (by omega)] at h2;have:=Q36 h2;omega
theorem Qah {l:List Nat} {j d:Nat} (h:l[j]? = some d):Rv (l.drop j)=d+10000*Rv (l.drop (j+1)):=by
 obtain ⟨hj,he⟩:=Qd.1 h;rw [Zi hj,he]; rfl
theorem Qf5 {l:List Nat} {j y:Nat} (h:j<l.length):(l.set j y).drop j=y::l.drop (j+1):=by
 rw [Zi (by simpa using h)];simp only [List.getElem_set_self];rw [List.drop_set_of_lt (by omega)]
theorem Dg.set {l:List Nat} (h:Dg l) {j y:Nat} (hy:y<10000):Dg (l.set j y):=by
 intro x hx;rcases Yc hx with hx | rfl
 ·exact h x hx
 ·exact hy
theorem Dg.zeros (n:Nat):Dg (List.replicate n 0):=by
 intro x hx; rw [Zu hx]; decide
theorem Qte {V kd d:Nat} (hk:0<kd):(d+10000*V) / kd=(V % kd*10000+d) / kd+10000*(V / kd)/\(d+10000*V) % kd=(V % kd*10000+d) % kd/\(d<10000->(V % kd*10000+d) / kd<10000):=by
 have e:=Xa V kd;have e2:d+10000*V=(V % kd*10000+d)+kd*(10000*(V / kd)):=by
  conv=>lhs; rw [<-e]
  grind
 refine ⟨?_,?_,λhd=>?_⟩
 ·rw [e2,Wj _ _ hk]
 ·rw [e2,Km]
 ·have:=Z4 V hk;exact (V3 hk).2 (by grind)
theorem Qiu (l:List Nat) (j:Nat) (h:j<=l.length):Rv l=Rv (l.take j)+10000^j*Rv (l.drop j):=by
 conv=>lhs; rw [<-Zb j l,Sr]
 rw [Qr,Zt h]
theorem Qke {a b:List Nat} {j d e:Nat} (ha:Dg a) (hd:a[j]? = some d) (he:b[j]? = some e) (hs:a.drop (j+1)=b.drop (j+1)) (h:d<e):Rv a<Rv b:=by
 have h1:=(Qd.1 hd).1;have h2:=(Qd.1 he).1;rw [Qiu a j (by omega),Qiu b j (by omega),Qah hd,Qah he,hs];have h3:=Qkj (ha.take j);rw [Qr,Zt (by omega)] at h3;generalize 10000^j=P at *;have h4:P*(d+10000*Rv (b.drop (j+1)))+P<=P*(e+10000*Rv (b.drop (j+1))):=by
  rw [<-Nat.mul_succ]; exact Zq _ (by omega)
 omega
def dl (l:List Nat):LV:=.row (l.map λ(x:Nat)=>[.int .i64 (x:Int)])
theorem Rf (l:List Nat):(l.map λ(x:Nat)=>[LV.int .i64 (x:Int)]).length=l.length:=by simp
theorem Gf {l:List Nat} {i x:Nat} (h:l[i]? = some x):(l.map λ(x:Nat)=>[LV.int .i64 (x:Int)])[i]? = some [.int .i64 (x:Int)]:=by rw [Q9,h]; rfl
abbrev nd (x:Nat):LV:=dl (Fi x)
end Orr
namespace Orr
open Go Go.Proofs
set_option maxRecDepth 10000
abbrev Na (l:List Nat):List (List LV):=l.map λ(x:Nat)=>[.int .i64 (x:Int)]
theorem Zjn (l:List Nat):∀ c∈Na l,c.length=1:=λc hc=>by obtain ⟨x,_,rfl⟩:=Zr.1 hc; rfl
theorem Qf0 {l:List Nat} (hd:Dg l):Ut Tryz.prog 98 [.one (.row (Na l))] [.one (nd (Rv l))]:=by
 refine Gv Tryz.func98 rfl (ln 0 rfl rfl λhl=>?_);rw [Q6] at hl;refine go tt [] rfl trivial ?_;refine lp (S:=Nat) 0 (λL1 n=>(3,.v (.one (.int .i64 (n:Int))))::L1) (λ_=>[]) id (λn=>n<=l.length/\∀ j x,n<=j->l[j]? = some x->x=0) (Na l).length ⟨by simp,λj x h1 h2=>by
  have:=(Qd.1 h2).1; simp at h1; omega⟩ rfl (λ_ _=>rfl) rfl λn ⟨h1,h2⟩=>?_
 cases n with
 | zero=>exact en tt [.g 8 false (by simp),.f rfl,.i 0] rfl (by have:=Qtc hd h1 h2 (λh=>by omega); unfold nd; rw [<-this]; simp [dl]) (by simp [Ur])
 |
  succ n =>
  obtain ⟨x,hx⟩:=gxE (l:=l) (i:=n) (by omega);by_cases h0:x=0
  ·refine go tt [.g 8 true (by simp),.r 11 (v:=.one (.int .i64 (n:Int))) (by simp),.x (Gf hx),.t (by simp [h0]),.r 17 (v:=.one (.int .i64 (n:Int))) (by simp)] rfl (by simp [Ur]; omega) ?_;exact rd n (by simp) ⟨by omega,λj y h3 h4=>by
    rcases Vl h3 with rfl | h3
    ·rw [hx] at h4; injection h4 with h4; rw [<-h4,h0]
    ·exact h2 j y h3 h4⟩ rfl
  ·exact en tt [.g 8 true (by simp),.r 11 (v:=.one (.int .i64 (n:Int))) (by simp),.x (Gf hx),.f (by simp [h0]),.i (n+1)] rfl (by have:=Qtc hd h1 h2 (λ_=>⟨x,hx,h0⟩); unfold nd; rw [<-this]; simp [dl,List.map_take]) (by simp [Ur] <;> omega)
theorem Q0g {x kd:Nat} (hxs:sz x<=100000000) (hk:0<kd/\kd<=65536):Ut Tryz.prog 97 [.one (nd x),.one (.int .i64 (kd:Int))] [.one (nd (x / kd)),.one (.int .i64 ((x % kd:Nat):Int))]:=by
 have hln:=Qc (P4 x) hxs;obtain ⟨l,hl⟩:=nmE (Fi x);have hx:Rv l=x:=by rw [hl,Hx]
 have hd:Dg l:=by rw [hl]; exact Nt x
 show Ut Tryz.prog 97 [.one (.row (Na (Fi x))),.one (.int .i64 (kd:Int))] _;rw [<-hl] at hln ⊢;rw [<-hx];have hll:=Rf l;refine Gv Tryz.func97 rfl ?_;refine go tt [.i (Na l).length,.i (Na l).length] rfl (by simp [Ur]; omega) ?_;rw [hll,show List.replicate l.length [LV.int .i64 0]=Na (List.replicate l.length 0) from by simp [Na]];refine lp (S:=Nat×List Nat×Nat) 1 (λL1 s=>(8,.v (.one (.int .i64 ((s.1:Int)-1))))::(7,.v (.one (.int .i64 (s.2.2:Int))))::L1) (λs=>[.row false 3 1 (Na s.2.1)]) (λs=>s.1) (λs=>s.1<=l.length/\s.2.1.length=l.length/\Dg s.2.1/\Rv (s.2.1.drop s.1)=Rv (l.drop s.1) / kd/\s.2.2=Rv (l.drop s.1) % kd) (l.length,List.replicate l.length 0,0) ⟨Ql _,by simp,Dg.zeros _,by simp [Rv],by simp [Rv]⟩ rfl (λ_ _=>rfl) rfl λ⟨k,o,R⟩ ⟨j1,j2,j3,j4,hR⟩=>?_
 dsimp only at j1 j2 j3 j4 hR ⊢;cases k with
 |
  zero =>
  have cc:=Qf0 j3;rw [Xp,Xp] at j4;rw [j4] at cc;exact en tt [.f (by simp),.c [] cc] rfl (by rw [hR,Xp]) trivial
 |
  succ k =>
  obtain ⟨d,hdk⟩:=gxE (l:=l) (i:=k) (by omega);have hd0:=hd d (Qa hdk);have hdd:=Qah hdk;obtain ⟨s1,s2,s3⟩:=Qte (V:=Rv (l.drop (k+1))) (kd:=kd) (d:=d) hk.1;rw [<-hdd] at s1 s2;have hr:=Z4 (Rv (l.drop (k+1))) hk.1;rw [<-hR] at s1 s2 s3 hr;have e:((k+1:Nat):Int)-1=(k:Int):=by omega
  have htd:((R:Int)*10000+(d:Int)).tdiv (kd:Int)=(((R*10000+d) / kd:Nat):Int):=rfl;have hle:=J3 (R*10000+d) kd;have htb:0<=((R:Int)*10000+(d:Int)).tdiv (kd:Int)/\((R:Int)*10000+(d:Int)).tdiv (kd:Int)<=655369999:=by
   rw [htd]; revert hle; generalize (R*10000+d) / kd=Q; intro hle; omega
  rw [e];refine go tt [.t (by simp),.x (Gf hdk),.r 26 (eI (b:=((R*10000+d:Nat):Int)) (by omega)),.r 31 (eI (b:=(((R*10000+d) / kd:Nat):Int)) (by rfl)),.i k,.r 35 (eI (b:=(((R*10000+d) % kd:Nat):Int)) (by rfl))] rfl (by simp [Ur]; omega) ?_;exact rd (k,o.set k ((R*10000+d) / kd),(R*10000+d) % kd) (by dsimp only; omega) ⟨by dsimp only; omega,by simp [j2],j3.set (s3 hd0),by dsimp only; rw [Qf5 (by omega)]; simp only [Rv]; rw [j4,s1],by dsimp only; exact s2.symm⟩ (by simp [Na,List.map_set]; rfl)
theorem Zk4 (x k:Nat):sz (x / k)<=sz x:=Rp (J3 _ _)
theorem Qxr {x y:Nat} {o:List Nat} (h:Fg x=o++Fg y) (h0:y≠0):Fg x=(o++[y % 4294967296])++Fg (y / 4294967296):=by
 rw [h,Ld h0]; simp
theorem Zfb (o:List Nat) (z:Nat):lm (o++[z])=lm o++[[.int .u32 (z:Int)]]:=by simp [lm]
theorem Zmc {x:Nat} (hx:sz x<=100000000):Ut Tryz.prog 51 [.one (nd x)] [lr (Fg x)]:=by
 have hlx:=Rm hx;refine Gv Tryz.func51 rfl ?_;refine go tt [.o 3 143 1] rfl trivial ?_;refine lp (S:=Nat×List Nat) 1 (λL1 s=>(0,.v (.one (nd s.1)))::(3,.v (.one (.orow 0 1 none)))::L1) (λs=>[.row false 143 1 (lm s.2)]) (λs=>s.1) (λs=>Fg x=s.2++Fg s.1/\s.1<=x) (x,[]) ⟨rfl,Ql _⟩ rfl (λ_ _=>rfl) rfl λ⟨y,o⟩ ⟨j1,j2⟩=>?_
 dsimp only at j1 j2 ⊢;by_cases h0:y=0
 ·subst h0;rw [Gn,Zo] at j1;rw [j1];exact en tt [.f (by simp [G6])] rfl rfl trivial
 ·have hs:=Qxr j1 h0;have hsy:sz y<=100000000:=Qc (Rp j2) hx;have c1:=Q0g (x:=y) (kd:=65536) hsy (by decide);have c2:=Q0g (x:=y / 65536) (kd:=65536) (Qc (Zk4 _ _) hsy) (by decide);have hl:(Fi y).length≠0:=λh=>h0 (Qd4.1 h)
  have ol:o.length<=(Fg x).length:=by rw [j1]; simp
  have e:y / 65536 % 65536*65536+y % 65536=y % 4294967296:=by omega
  have e2:y / 65536 / 65536=y / 4294967296:=by omega
  refine go tt [.t (by simp; omega),.c [] c1,.c [] c2,.r 26 (D4 (b:=((y % 4294967296:Nat):Int)) (by omega)),.s (sz:=1) (l:=[[.int .u32 ((y % 4294967296:Nat):Int)]]) (λc hc=>by rw [Qk.1 hc]; rfl)] rfl (by simp [Ur,Uv]; omega) ?_;rw [<-e2] at hs;exact rd (y / 65536 / 65536,o++[y % 4294967296]) (by dsimp only; omega) ⟨hs,by dsimp only; omega⟩ (by rw [Zfb]; rfl)
abbrev ri (z:Int):List LV:=[nd z.natAbs,sg z]
theorem Zm7 (b:Bool) (m:Nat):[nd m,LV.bool (b && decide (0<m))]=ri (U0 b m):=by
 simp only [ri,sg,Rh,Qlm]
theorem Zkc (x:Nat):(0<(Fi x).length)↔0<x:=by
 have:=Qd4 (x:=x); omega
theorem En (b:Bool) (m:Nat):Ut Tryz.prog 52 [.one (nd m),.one (.bool b)] [.agg (ri (U0 b m))]:=by
 rw [<-Zm7];have e:=Zkc m;cases b with
 | false=>exact w tt Tryz.func52 rfl [.g 7 false rfl] rfl rfl trivial
 | true=>exact w tt Tryz.func52 rfl [.g 7 true rfl] rfl (by simp [e]) trivial
theorem Mq {z:Int}:Ut Tryz.prog 83 [.agg (ri z)] [.one (.bool (decide (z=0)))] :=
 w tt Tryz.func83 rfl [] rfl (by have h:=Qd4 (x:=z.natAbs); simp only [Rf]; congr 3; rw [decide_eq_decide]; omega) trivial
theorem Iz {z:Int}:Ut Tryz.prog 84 [.agg (ri z)] [.agg (ri (-z))]:=by
 have h:=En (!decide (z<0)) z.natAbs;have e:U0 (!decide (z<0)) z.natAbs=-z:=by unfold U0; by_cases h:z<0 <;> simp [h] <;> omega
 rw [e] at h;exact w tt Tryz.func84 rfl [.c [] h] rfl rfl trivial
theorem Q62 {z:Int} (hz:U6 z<=100000000):Ut Tryz.prog 26 [.agg (ri z)] [.agg (Gw z)] :=
 w tt Tryz.func26 rfl [.c [] (Zmc hz)] rfl rfl trivial
theorem eBo {a b:Bool} (h:a=b):TV.one (LV.bool a)=.one (.bool b):=h ▸ rfl
theorem Ex (l:List Nat) (x:Nat):Na (l++[x])=Na l++[[.int .i64 (x:Int)]]:=by simp [Na]
theorem Qtb {x y:Nat} {o:List Nat} (h:Fi x=o++Fi y) (h0:y≠0):Fi x=(o++[y % 10000])++Fi (y / 10000):=by
 rw [h,I5 h0]; simp
theorem Zjb {b:Bool} {x:Nat} (hx:x<=4000000000000000000) (hb:b=true->0<x):Ut Tryz.prog 29 [.one (.int .i64 (U0 b x))] [.agg (ri (U0 b x))]:=by
 have hl:(Fi x).length<=100:=by
  have:=P4 x;have h2:sz x<=64:=Nj.2 (by omega);omega
 have hm:=En b x;refine Gv Tryz.func29 rfl ?_;cases b with
 |
  false =>
  show AK Tryz.prog _ _ _ (Qcm 0 [.one (.int .i64 (x:Int))]) [];refine go tt [.f (by simp <;> omega),.r 3 (eBo (b:=false) (by simp)),.f rfl,.o 4 3 1] rfl trivial ?_;refine lp (S:=Nat×List Nat) 2 (λL1 s=>(0,.v (.one (.int .i64 (s.1:Int))))::(4,.v (.one (.orow 1 1 none)))::L1) (λs=>[.blk 50 [.nils,.bool false],.row false 3 1 (Na s.2)]) (λs=>s.1) (λs=>Fi x=s.2++Fi s.1/\s.1<=x) (x,[]) ⟨rfl,Ql _⟩ rfl (λ_ _=>rfl) rfl λ⟨y,o⟩ ⟨j1,j2⟩=>?_
  dsimp only at j1 j2 ⊢;by_cases h0:y=0
  ·subst h0;rw [G6,Zo] at j1;rw [<-j1];exact en tt [.f (by simp),.c [] hm] rfl rfl trivial
  ·have hs:=Qtb j1 h0;have ol:o.length<=(Fi x).length:=by rw [j1]; simp
   refine go tt [.t (by simp; omega),.r 18 (eI (b:=((y % 10000:Nat):Int)) (by rfl)),.s (sz:=1) (l:=[[.int .i64 ((y % 10000:Nat):Int)]]) (λc hc=>by rw [Qk.1 hc]; rfl),.r 22 (eI (b:=((y / 10000:Nat):Int)) (by rfl))] rfl (by simp [Ur,Rf]; omega) ?_;exact rd (y / 10000,o++[y % 10000]) (by dsimp only; omega) ⟨hs,by dsimp only; omega⟩ (by rw [Ex]; rfl)
 |
  true =>
  show AK Tryz.prog _ _ _ (Qcm 0 [.one (.int .i64 (-(x:Int)))]) [];refine go tt [.f (by simp <;> omega),.r 3 (eBo (b:=true) (by simpa using hb rfl)),.t rfl,.r 0 (eI (b:=(x:Int)) (by omega)),.o 4 3 1] rfl (by simp [Ur]; omega) ?_;refine lp (S:=Nat×List Nat) 2 (λL1 s=>(0,.v (.one (.int .i64 (s.1:Int))))::(4,.v (.one (.orow 1 1 none)))::L1) (λs=>[.blk 50 [.nils,.bool false],.row false 3 1 (Na s.2)]) (λs=>s.1) (λs=>Fi x=s.2++Fi s.1/\s.1<=x) (x,[]) ⟨rfl,Ql _⟩ rfl (λ_ _=>rfl) rfl λ⟨y,o⟩ ⟨j1,j2⟩=>?_
  dsimp only at j1 j2 ⊢;by_cases h0:y=0
  ·subst h0;rw [G6,Zo] at j1;rw [<-j1];exact en tt [.f (by simp),.c [] hm] rfl rfl trivial
  ·have hs:=Qtb j1 h0;have ol:o.length<=(Fi x).length:=by rw [j1]; simp
   refine go tt [.t (by simp; omega),.r 18 (eI (b:=((y % 10000:Nat):Int)) (by rfl)),.s (sz:=1) (l:=[[.int .i64 ((y % 10000:Nat):Int)]]) (λc hc=>by rw [Qk.1 hc]; rfl),.r 22 (eI (b:=((y / 10000:Nat):Int)) (by rfl))] rfl (by simp [Ur,Rf]; omega) ?_;exact rd (y / 10000,o++[y % 10000]) (by dsimp only; omega) ⟨hs,by dsimp only; omega⟩ (by rw [Ex]; rfl)
theorem Dt {n:Int} (hn:-4000000000000000000<=n/\n<=4000000000000000000):Ut Tryz.prog 29 [.one (.int .i64 n)] [.agg (ri n)]:=by
 have e:U0 (decide (n<0)) n.natAbs=n:=by unfold U0; by_cases h:n<0 <;> simp [h] <;> omega
 have h:=Zjb (b:=decide (n<0)) (x:=n.natAbs) (by omega) (λh=>by have:=of_decide_eq_true h; omega);rwa [e] at h
theorem Qc3 (x:Nat):(Na (Fi x)).length=(Fi x).length:=Rf _
theorem Q4y (z:Int):∀ c∈[[LV.int .i64 z]],c.length=1:=λc hc=>by rw [Qk.1 hc]; rfl
theorem Zmi {x:Nat} (h:x<=1000000000):(Fi x).length<=3:=Q35 (by omega)
theorem tdn (n:Nat):((n:Nat):Int).tdiv 10000=((n / 10000:Nat):Int):=rfl
theorem Qdk (n:Nat):((n:Nat):Int).tdiv 2=((n / 2:Nat):Int):=rfl
theorem Qdz {x mu c0:Nat} (hx:sz x<=100000000) (hmu:mu<=65536) (hc:c0<=1000000000):Ut Tryz.prog 99 [.one (nd x),.one (.int .i64 (mu:Int)),.one (.int .i64 (c0:Int))] [.one (nd (x*mu+c0))]:=by
 have hxl:=Qc (P4 x) hx;have hll:=Qc3 x;show Ut Tryz.prog 99 [.one (.row (Na (Fi x))),.one (.int .i64 (mu:Int)),.one (.int .i64 (c0:Int))] _;refine Gv Tryz.func99 rfl ?_;refine go tt [.r 11 (eI (b:=(((Fi x).length+2:Nat):Int)) (by rw [hll]; omega)),.i 0,.i ((Fi x).length+2)] rfl (by simp [Ur]; omega) ?_;refine lp (S:=Nat×Nat×List Nat) 1 (λL1 s=>(8,.v (.one (.int .i64 (s.1:Int))))::(7,.v (.one (.orow 0 1 none)))::(2,.v (.one (.int .i64 (s.2.1:Int))))::L1.filter (λx=>x.1 != 12)) (λs=>[.row false 3 1 (Na s.2.2)]) (λs=>((Fi x).length-s.1)*4+(Fi s.2.1).length) (λs=>Dg s.2.2/\s.2.2.length=s.1/\Rv s.2.2+s.2.1*10000^s.1=Rv ((Fi x).take s.1)*mu+c0/\(s.1<=(Fi x).length\/s.1+(Fi s.2.1).length<=(Fi x).length+3)/\s.2.1<=1000000000) (0,c0,[]) ⟨Dg.nil,rfl,by simp [Rv],.inl (Qh _),hc⟩ rfl (λ_ _=>rfl) rfl λs hs=>?_
 obtain ⟨i,c,o⟩:=s;obtain ⟨hp0,hp1,hp2,hp3,hp4⟩:=hs;dsimp only at hp0 hp1 hp2 hp3 hp4 ⊢;have hcl:=Zmi (x:=c) hp4;by_cases h1:i<(Fi x).length
 ·obtain ⟨d,hd⟩:=gxE (l:=(Fi x)) (i:=i) h1;have hd9:=Nt x d (Qa hd);have hdm:d*mu<=9999*65536:=Zf (by omega) hmu;have hc3:=Zmi (x:=(c+d*mu) / 10000) (by omega);have hol:(Na o).length=i:=by rw [Rf,hp1]
  refine go tt [.g 17 true (decide_eq_true (by omega)),.t rfl,.t (decide_eq_true (by omega)),.x (Gf hd),.r 33 (eI (b:=((d*mu:Nat):Int)) (by simp)),.r 34 (eI (b:=((c+d*mu:Nat):Int)) (by omega)),.r 37 (eI (b:=(((c+d*mu) % 10000:Nat):Int)) (by rfl)),.s (sz:=1) (Q4y _),.r 41 (eI (b:=(((c+d*mu) / 10000:Nat):Int)) (by rfl))] rfl (by simp [Ur,hol,tdn,Qdk,-Int.natCast_add,-Int.natCast_mul]; omega) ?_;exact rd (i+1,(c+d*mu) / 10000,o++[(c+d*mu) % 10000]) (by dsimp only; omega) ⟨hp0.snoc (Nat.mod_lt _ (by decide)),by dsimp only; rw [List.length_append]; show o.length+1=_; omega,by
   dsimp only;rw [Sr,Te hd,hp1,Nat.pow_succ]; simp only [Rv,Nat.mul_zero,Nat.add_zero]; have:=Qna (d:=d) (m:=mu) rfl hp2; rw [this]; grind,.inl (by dsimp only; omega),by dsimp only; omega⟩ (by rw [Ex]; rfl)
 ·by_cases h2:0<c
  ·have hdc:=Ev (x:=c) (by omega);have hol:(Na o).length=i:=by rw [Rf,hp1]
   refine go tt [.g 17 false (decide_eq_false (by omega)),.t (decide_eq_true (by omega)),.f (decide_eq_false (by omega)),.r 37 (eI (b:=((c % 10000:Nat):Int)) (by rfl)),.s (sz:=1) (Q4y _),.r 41 (eI (b:=((c / 10000:Nat):Int)) (by rfl))] rfl (by simp [Ur,hol,tdn,Qdk,-Int.natCast_add]; omega) ?_;exact rd (i+1,c / 10000,o++[c % 10000]) (by dsimp only; omega) ⟨hp0.snoc (Nat.mod_lt _ (by decide)),by dsimp only; rw [List.length_append]; show o.length+1=_; omega,by
    dsimp only;rw [Sr,hp1,Nat.pow_succ]; simp only [Rv,Nat.mul_zero,Nat.add_zero]; have:=Qna (d:=0) (m:=mu) rfl hp2; simp only [Nat.zero_mul,Nat.mul_zero,Nat.add_zero] at this; rw [this,List.take_of_length_le (by omega),List.take_of_length_le (by omega)],.inr (by dsimp only; omega),by dsimp only; omega⟩ (by rw [Ex]; rfl)
  ·have cc:=Qf0 hp0;rw [show Rv o=x*mu+c0 from by
    have h:=hp2; rw [Qn (by omega),Hx,show c=0 by omega] at h; omega] at cc
   exact en tt [.g 17 false (decide_eq_false (by omega)),.f (decide_eq_false (by omega)),.c [] cc] rfl rfl trivial
theorem Q5m {l:List Nat} {j d:Nat} (h:l[j]? = some d):val (l.drop j)=d+4294967296*val (l.drop (j+1)):=by
 have hi:=(Qd.1 h).1;rw [Zi hi,(Qd.1 h).2]; rfl
theorem Qh8:∀ (l:List Nat) (j:Nat),val (l.drop j)<=val l
 | l,0=>Ql _
 | [],j+1=>by simp
 |
  x::l,j+1=>by
  have:=Qh8 l j;rw [Wo]; simp only [val]; omega
theorem Zdl {l:List Nat} (hu:∀ u∈l,u<4294967296) (hl:l.length≤1099511627776) (hx:sz (val l)≤100000000):Ut Tryz.prog 54 [lr l] [.one (nd (val l))]:=by
 have hll:=Uv l;show Ut Tryz.prog 54 [.one (.row (lm l))] _;refine Gv Tryz.func54 rfl ?_;refine go tt [.z 3,.r 7 (eI (b:=((l.length:Nat):Int)-1) (by rw [hll]))] rfl (by simp [Ur]; omega) ?_;refine lp (S:=Nat×List Nat) 0 (λL1 s=>(4,.v (.one (.int .i64 ((s.1:Int)-1))))::(3,.v (.one (.row (Na s.2))))::L1) (λ_=>[]) (λs=>s.1) (λs=>s.1<=l.length/\s.2=Fi (val (l.drop s.1))) (l.length,[]) ⟨Nat.le_refl _,by dsimp only; rw [List.drop_eq_nil_of_le (Nat.le_refl _)]; show []=Fi 0; rw [G6]⟩ rfl (λ_ _=>rfl) rfl λs hs=>?_
 obtain ⟨j,o⟩:=s;obtain ⟨hj,ho⟩:=hs;dsimp only at hj ho ⊢;subst ho;cases j with
 | zero=>exact en tt [.f (by simp)] rfl (by rw [Xp]; rfl) trivial
 |
  succ j =>
  obtain ⟨d,hd⟩:=gxE (l:=l) (i:=j) (by omega);have hd9:=hu d (Qa hd);have hdd:=Q5m hd;have hle:=Qh8 l j;have hs2:sz (val (l.drop (j+1))*65536+d / 65536)<=100000000:=Qc (Rp (by omega)) hx;have hs1:sz (val (l.drop (j+1)))<=100000000:=Qc (Rp (by omega)) hx;have c1:=Qdz (x:=val (l.drop (j+1))) (mu:=65536) (c0:=d / 65536) hs1 (by omega) (by omega);have c2:=Qdz (x:=val (l.drop (j+1))*65536+d / 65536) (mu:=65536) (c0:=d % 65536) hs2 (by omega) (by omega);have ej:((j+1:Nat):Int)-1=(j:Int):=by omega
  have e2:(val (l.drop (j+1))*65536+d / 65536)*65536+d % 65536=val (l.drop j):=by rw [hdd]; omega
  rw [e2] at c2;rw [ej];refine go tt [.t (decide_eq_true (by omega)),.x (Gh hd),.r 17 (D4 (b:=((d / 65536:Nat):Int)) (by rfl)),.c [] c1,.x (Gh hd),.r 25 (D4 (b:=((d % 65536:Nat):Int)) (by rfl)),.c [] c2] rfl (by simp [Ur,IntKind.bits]; omega) ?_;exact rd (j,Fi (val (l.drop j))) (by dsimp only; omega) ⟨by dsimp only; omega,rfl⟩ rfl
theorem Qwe {x y:Nat} (hx:sz x<=200000000) (hy:sz y<=200000000):Ut Tryz.prog 176 [.one (nd x),.one (nd y)] [.one (.int .i64 (Oy x y))]:=by
 have hxl:=Qc (P4 x) hx;have hyl:=Qc (P4 y) hy;have lx:=Qc3 x;have ly:=Qc3 y;show Ut Tryz.prog 176 [.one (.row (Na (Fi x))),.one (.row (Na (Fi y)))] _;refine Gv Tryz.func176 rfl ?_;by_cases hl:(Fi x).length=(Fi y).length
 ·refine go tt [.f (by simp; omega),.r 18 (eI (b:=((Fi x).length:Int)-1) (by rw [lx]))] rfl (by simp [Ur]; omega) ?_;refine lp (S:=Nat) 0 (λL1 j=>(5,.v (.one (.int .i64 ((j:Int)-1))))::L1) (λ_=>[]) (λj=>j) (λj=>j<=(Fi x).length/\(Fi x).drop j=(Fi y).drop j) (Fi x).length ⟨Ql _,by rw [Yp (Ql _),Yp (by omega)]⟩ rfl (λ_ _=>rfl) rfl λj hs=>?_
  obtain ⟨hj,hp⟩:=hs;cases j with
  |
   zero =>
   have hxy:x=y:=by rw [Xp,Xp] at hp; rw [<-Hx x,<-Hx y,hp]
   exact en tt [.f (by simp)] rfl (by rw [Q0m hxy]) trivial
  |
   succ j =>
   obtain ⟨d,hd⟩:=gxE (l:=(Fi x)) (i:=j) (by omega);obtain ⟨e,he⟩:=gxE (l:=(Fi y)) (i:=j) (by omega);have ej:((j+1:Nat):Int)-1=(j:Int):=by omega
   rw [ej];by_cases h2:d=e
   ·refine go tt [.t (decide_eq_true (by omega)),.x (Gf hd),.x (Gf he),.f (by simp [h2])] rfl (by simp [Ur]; omega) ?_;exact rd j (by omega) ⟨by omega,by rw [Zi (by omega:j<(Fi x).length),Zi (by omega:j<(Fi y).length),hp,(Qd.1 hd).2,(Qd.1 he).2,h2]⟩ rfl
   ·by_cases h3:d<e
    ·have hxy:=Qke (Nt x) hd he hp h3;rw [Hx,Hx] at hxy;exact en tt [.t (decide_eq_true (by omega)),.x (Gf hd),.x (Gf he),.t (by simp; omega),.x (Gf hd),.x (Gf he),.t (decide_eq_true (by omega))] rfl (by rw [Qir hxy]) trivial
    ·have hxy:=Qke (Nt y) he hd hp.symm (by omega);rw [Hx,Hx] at hxy;exact en tt [.t (decide_eq_true (by omega)),.x (Gf hd),.x (Gf he),.t (by simp; omega),.x (Gf hd),.x (Gf he),.f (decide_eq_false (by omega))] rfl (by rw [Qiq hxy]) trivial
 ·by_cases hlt:(Fi x).length<(Fi y).length
  ·exact en tt [.t (by simp; omega),.t (decide_eq_true (by omega))] rfl (by rw [Qir (Qta hlt)]) trivial
  ·exact en tt [.t (by simp; omega),.f (decide_eq_false (by omega))] rfl (by rw [Qiq (Qta (by omega))]) trivial
theorem Qbr {o c s P V:Nat} (h:o+c*P=V):o+P*((c+s) % 10000)+(c+s) / 10000*(P*10000)=V+P*s:=by
 have e:=Xa (c+s) 10000;generalize (c+s) / 10000=q at *;generalize (c+s) % 10000=r at *;have e2:P*(c+s)=P*(10000*q+r):=by rw [e]
 grind
theorem A1 {l:List Nat} {i:Nat} (h:l.length<=i):Rv (l.take (i+1))=Rv (l.take i):=by rw [Qn (by omega),Qn h]
theorem Q0y {l:List Nat} {p v u:Nat} (h:l[p]? = some v):Rv (l.set p u)+10000^p*v=Rv l+10000^p*u:=by
 have hp:=(Qd.1 h).1;rw [Qiu (l.set p u) p (by rw [Jj]; omega),Qiu l p (by omega),Qah h,Qf5 hp,List.take_set_of_le (Ql _)];simp only [Rv];generalize 10000^p=P;grind
theorem Ey {l:List Nat} {p u:Nat} (h:p<l.length):Rv ((l.set p u).take (p+1))=Rv (l.take p)+10000^p*u:=by
 rw [Te (l:=l.set p u) (i:=p) (x:=u) (by simp [h]),List.take_set_of_le (Ql _)]
structure AddI (x y:Nat) (s:Nat×Nat×List Nat):Prop where
 d:Dg s.2.2
 l:s.2.2.length=s.1
 v:Rv s.2.2+s.2.1*10000^s.1=Rv ((Fi x).take s.1)+Rv ((Fi y).take s.1)
 c:s.2.1<=1
 b:s.1<=max (Fi x).length (Fi y).length\/s.1=max (Fi x).length (Fi y).length+1/\10000^(max (Fi x).length (Fi y).length)<=x+y/\s.2.1=0
theorem Zi0 {x y:Nat} (hx:sz x<=200000000) (hy:sz y<=200000000):Ut Tryz.prog 193 [.one (nd x),.one (nd y)] [.one (nd (x+y))]:=by
 have hxl:=Qc (P4 x) hx;have hyl:=Qc (P4 y) hy;have lx:=Qc3 x;have ly:=Qc3 y;show Ut Tryz.prog 193 [.one (.row (Na (Fi x))),.one (.row (Na (Fi y)))] _;refine Gv Tryz.func193 rfl ?_;refine go tt [.o 5 3 1] rfl trivial ?_;refine lp (S:=Nat×Nat×List Nat) 1 (λL1 s=>(7,.v (.one (.int .i64 (s.1:Int))))::(6,.v (.one (.int .i64 (s.2.1:Int))))::(5,.v (.one (.orow 0 1 none)))::L1) (λs=>[.row false 3 1 (Na s.2.2)]) (λs=>(max (Fi x).length (Fi y).length-s.1)*2+s.2.1) (AddI x y) (0,0,[]) ⟨Dg.nil,rfl,by simp [Rv],by decide,.inl (Qh _)⟩ rfl (λ_ _=>rfl) rfl λs hs=>?_
 obtain ⟨i,c,o⟩:=s;obtain ⟨hp0,hp1,hp2,hp3,hp4⟩:=hs;dsimp only at hp0 hp1 hp2 hp3 hp4 ⊢;have hol:(Na o).length=i:=by rw [Rf,hp1]
 by_cases h1:i<(Fi x).length
 ·obtain ⟨d,hd⟩:=gxE (l:=(Fi x)) (i:=i) h1;have hd9:=Nt x d (Qa hd);by_cases h2:i<(Fi y).length
  ·obtain ⟨e,he⟩:=gxE (l:=(Fi y)) (i:=i) h2;have he9:=Nt y e (Qa he);refine go tt [.g 12 true (decide_eq_true (by omega)),.g 18 true rfl,.t rfl,.t (decide_eq_true (by omega)),.x (Gf hd),.r 33 (eI (b:=((c+d:Nat):Int)) (by omega)),.t (decide_eq_true (by omega)),.x (Gf he),.r 43 (eI (b:=((c+(d+e):Nat):Int)) (by omega)),.r 46 (eI (b:=(((c+(d+e)) % 10000:Nat):Int)) (by rfl)),.s (sz:=1) (Q4y _),.r 50 (eI (b:=(((c+(d+e)) / 10000:Nat):Int)) (by rfl))] rfl (by simp [Ur,hol,tdn,Qdk,-Int.natCast_add]; omega) ?_;exact rd (i+1,(c+(d+e)) / 10000,o++[(c+(d+e)) % 10000]) (by dsimp only; omega) ⟨hp0.snoc (Nat.mod_lt _ (by decide)),by dsimp only; rw [List.length_append]; show o.length+1=_; omega,by
    dsimp only;rw [Sr,hp1,Nat.pow_succ]; simp only [Rv,Nat.mul_zero,Nat.add_zero]; have:=Qbr (s:=d+e) hp2; rw [this,Te hd,Te he]; grind,by dsimp only; omega,.inl (by dsimp only; omega)⟩ (by rw [Ex]; rfl)
  ·refine go tt [.g 12 true (decide_eq_true (by omega)),.g 18 true rfl,.t rfl,.t (decide_eq_true (by omega)),.x (Gf hd),.r 33 (eI (b:=((c+d:Nat):Int)) (by omega)),.f (decide_eq_false (by omega)),.r 46 (eI (b:=(((c+d) % 10000:Nat):Int)) (by rfl)),.s (sz:=1) (Q4y _),.r 50 (eI (b:=(((c+d) / 10000:Nat):Int)) (by rfl))] rfl (by simp [Ur,hol,tdn,Qdk,-Int.natCast_add]; omega) ?_;exact rd (i+1,(c+d) / 10000,o++[(c+d) % 10000]) (by dsimp only; omega) ⟨hp0.snoc (Nat.mod_lt _ (by decide)),by dsimp only; rw [List.length_append]; show o.length+1=_; omega,by
    dsimp only;rw [Sr,hp1,Nat.pow_succ]; simp only [Rv,Nat.mul_zero,Nat.add_zero]; have:=Qbr (s:=d) hp2; rw [this,Te hd,A1 (l:=Fi y) (by omega)]; grind,by dsimp only; omega,.inl (by dsimp only; omega)⟩ (by rw [Ex]; rfl)
 ·by_cases h2:i<(Fi y).length
  ·obtain ⟨e,he⟩:=gxE (l:=(Fi y)) (i:=i) h2;have he9:=Nt y e (Qa he);refine go tt [.g 12 false (decide_eq_false (by omega)),.g 18 true (decide_eq_true (by omega)),.t rfl,.f (decide_eq_false (by omega)),.t (decide_eq_true (by omega)),.x (Gf he),.r 43 (eI (b:=((c+e:Nat):Int)) (by omega)),.r 46 (eI (b:=(((c+e) % 10000:Nat):Int)) (by rfl)),.s (sz:=1) (Q4y _),.r 50 (eI (b:=(((c+e) / 10000:Nat):Int)) (by rfl))] rfl (by simp [Ur,hol,tdn,Qdk,-Int.natCast_add]; omega) ?_;exact rd (i+1,(c+e) / 10000,o++[(c+e) % 10000]) (by dsimp only; omega) ⟨hp0.snoc (Nat.mod_lt _ (by decide)),by dsimp only; rw [List.length_append]; show o.length+1=_; omega,by
    dsimp only;rw [Sr,hp1,Nat.pow_succ]; simp only [Rv,Nat.mul_zero,Nat.add_zero]; have:=Qbr (s:=e) hp2; rw [this,Te he,A1 (l:=Fi x) (by omega)]; grind,by dsimp only; omega,.inl (by dsimp only; omega)⟩ (by rw [Ex]; rfl)
  ·by_cases h3:0<c
   ·refine go tt [.g 12 false (decide_eq_false (by omega)),.g 18 false (decide_eq_false (by omega)),.t (decide_eq_true (by omega)),.f (decide_eq_false (by omega)),.f (decide_eq_false (by omega)),.r 46 (eI (b:=((c % 10000:Nat):Int)) (by rfl)),.s (sz:=1) (Q4y _),.r 50 (eI (b:=((c / 10000:Nat):Int)) (by rfl))] rfl (by simp [Ur,hol,tdn,Qdk,-Int.natCast_add]; omega) ?_;exact rd (i+1,c / 10000,o++[c % 10000]) (by dsimp only; omega) ⟨hp0.snoc (Nat.mod_lt _ (by decide)),by dsimp only; rw [List.length_append]; show o.length+1=_; omega,by
     dsimp only;rw [Sr,hp1,Nat.pow_succ]; simp only [Rv,Nat.mul_zero,Nat.add_zero]; have:=Qbr (s:=0) hp2; rw [Nat.add_zero,Nat.mul_zero,Nat.add_zero] at this; rw [this,A1 (l:=Fi y) (by omega),A1 (l:=Fi x) (by omega)],by dsimp only; omega,.inr ⟨by dsimp only; omega,by
      have h:=hp2; rw [List.take_of_length_le (by omega),List.take_of_length_le (by omega),Hx,Hx,show c=1 by omega,Nat.one_mul,show i=(max (Fi x).length (Fi y).length) by omega] at h; omega,by dsimp only; omega⟩⟩ (by rw [Ex]; rfl)
   ·have hv:Rv o=x+y:=by
     have h:=hp2;rw [Qn (by omega),Qn (by omega),Hx,Hx,show c=0 by omega] at h;omega
    have hfin:o=Fi (x+y):=by
     have h:=Q8a (o:=o) hp0;rw [hv] at h;refine h ?_;have m1:=Qae (x:=x) (y:=x+y) (by omega);have m2:=Qae (x:=y) (y:=x+y) (by omega);rcases hp4 with hb | ⟨_,hb,_⟩
     ·omega
     ·have:=Q34 hb; omega
    exact en tt [.g 12 false (decide_eq_false (by omega)),.g 18 false (decide_eq_false (by omega)),.f (decide_eq_false (by omega))] rfl (by rw [hfin]; rfl) trivial
theorem Qbs {o b a c P u d e c':Nat} (h:o+b=a+c*P) (hs:u+e+c=d+10000*c'):(o+P*u)+(b+P*e)=(a+P*d)+c'*(P*10000):=by
 have e2:P*(u+e+c)=P*(d+10000*c'):=by rw [hs]
 grind
theorem I6 (o:List Nat) (i u:Nat):Na (o.set i u)=(Na o).set i [.int .i64 (u:Int)]:=by simp [Na,V1]
theorem Qwo {x y:Nat} (hx:sz x<=200000000) (hy:sz y<=200000000) (hyx:y<=x):Ut Tryz.prog 177 [.one (nd x),.one (nd y)] [.one (nd (x-y))]:=by
 have hxl:=Qc (P4 x) hx;have hyl:=Qc (P4 y) hy;have lx:=Qc3 x;have ly:=Qc3 y;have hmy:=Qae hyx;show Ut Tryz.prog 177 [.one (.row (Na (Fi x))),.one (.row (Na (Fi y)))] _;refine Gv Tryz.func177 rfl ?_;refine go tt [.i (Na (Fi x)).length,.i (Na (Fi x)).length] rfl (by simp [Ur]; omega) ?_;rw [lx,show List.replicate (Fi x).length [LV.int .i64 0]=Na (List.replicate (Fi x).length 0) from by simp [Na]];refine lp (S:=Nat×Nat×List Nat) 1 (λL1 s=>(14,.v (.one (.int .i64 (s.1:Int))))::(6,.v (.one (.int .i64 (s.2.1:Int))))::L1) (λs=>[.row false 3 1 (Na s.2.2)]) (λs=>(Fi x).length-s.1) (λs=>s.1<=(Fi x).length/\s.2.2.length=(Fi x).length/\Dg s.2.2/\Rv (s.2.2.take s.1)+Rv ((Fi y).take s.1)=Rv ((Fi x).take s.1)+s.2.1*10000^s.1/\s.2.1<=1) (0,0,List.replicate (Fi x).length 0) ⟨Qh _,X1 ..,Dg.zeros _,by simp [Rv],Qh _⟩ rfl (λ_ _=>rfl) rfl λs hs=>?_
 obtain ⟨i,c,o⟩:=s;obtain ⟨hp0,hp1,hp2,hp3,hp4⟩:=hs;dsimp only at hp0 hp1 hp2 hp3 hp4 ⊢;have hol:(Na o).length=(Fi x).length:=by rw [Rf,hp1]
 by_cases h1:i<(Fi x).length
 ·obtain ⟨d,hd⟩:=gxE (l:=(Fi x)) (i:=i) h1;have hd9:=Nt x d (Qa hd);by_cases h2:i<(Fi y).length
  ·obtain ⟨e,he⟩:=gxE (l:=(Fi y)) (i:=i) h2;have he9:=Nt y e (Qa he);by_cases h3:d<c+e
   ·refine go tt [.t (decide_eq_true (by omega)),.x (Gf hd),.t (decide_eq_true (by omega)),.x (Gf he),.t (decide_eq_true (by omega)),.r 36 (eI (b:=((d+10000-c-e:Nat):Int)) (by omega)),.i i] rfl (by simp [Ur,hol,tdn,Qdk,-Int.natCast_add]; omega) ?_;exact rd (i+1,1,o.set i (d+10000-c-e)) (by dsimp only; omega) ⟨by dsimp only; omega,by dsimp only; rw [List.length_set]; exact hp1,hp2.set (by omega),by
     dsimp only;rw [Ey (by omega),Te hd,Te he,Nat.pow_succ]; exact Qbs hp3 (u:=d+10000-c-e) (d:=d) (e:=e) (c':=1) (by omega),by dsimp only; omega⟩ (by rw [I6]; rfl)
   ·refine go tt [.t (decide_eq_true (by omega)),.x (Gf hd),.t (decide_eq_true (by omega)),.x (Gf he),.r 32 (eI (b:=((d-c-e:Nat):Int)) (by omega)),.f (decide_eq_false (by omega)),.i i] rfl (by simp [Ur,hol,tdn,Qdk,-Int.natCast_add]; omega) ?_;exact rd (i+1,0,o.set i (d-c-e)) (by dsimp only; omega) ⟨by dsimp only; omega,by dsimp only; rw [List.length_set]; exact hp1,hp2.set (by omega),by
     dsimp only;rw [Ey (by omega),Te hd,Te he,Nat.pow_succ]; exact Qbs hp3 (u:=d-c-e) (d:=d) (e:=e) (c':=0) (by omega),by dsimp only; omega⟩ (by rw [I6]; rfl)
  ·have hy0:Rv ((Fi y).take (i+1))=Rv ((Fi y).take i)+10000^i*0:=by rw [A1 (by omega),Ys,Xm]
   by_cases h3:d<c
   ·refine go tt [.t (decide_eq_true (by omega)),.x (Gf hd),.f (decide_eq_false (by omega)),.t (decide_eq_true (by omega)),.r 36 (eI (b:=((d+10000-c:Nat):Int)) (by omega)),.i i] rfl (by simp [Ur,hol,tdn,Qdk,-Int.natCast_add]; omega) ?_;exact rd (i+1,1,o.set i (d+10000-c)) (by dsimp only; omega) ⟨by dsimp only; omega,by dsimp only; rw [List.length_set]; exact hp1,hp2.set (by omega),by
     dsimp only;rw [Ey (by omega),Te hd,hy0,Nat.pow_succ]; exact Qbs hp3 (u:=d+10000-c) (d:=d) (e:=0) (c':=1) (by omega),by dsimp only; omega⟩ (by rw [I6]; rfl)
   ·refine go tt [.t (decide_eq_true (by omega)),.x (Gf hd),.r 22 (eI (b:=((d-c:Nat):Int)) (by omega)),.f (decide_eq_false (by omega)),.f (decide_eq_false (by omega)),.i i] rfl (by simp [Ur,hol,tdn,Qdk,-Int.natCast_add]; omega) ?_;exact rd (i+1,0,o.set i (d-c)) (by dsimp only; omega) ⟨by dsimp only; omega,by dsimp only; rw [List.length_set]; exact hp1,hp2.set (by omega),by
     dsimp only;rw [Ey (by omega),Te hd,hy0,Nat.pow_succ]; exact Qbs hp3 (u:=d-c) (d:=d) (e:=0) (c':=0) (by omega),by dsimp only; omega⟩ (by rw [I6]; rfl)
 ·have hi:i=(Fi x).length:=by omega
  have hv:Rv o=x-y:=by
   have h:=hp3;rw [Qn (by omega),Qn (by omega),Qn (by omega),Hx,Hx] at h;have hlt:=Qkj hp2;rw [hp1,<-hi] at hlt;have hc0:c=0:=by
    rcases Qz c with h0 | h0
    ·exact h0
    ·exfalso;have:c=1:=by omega
     rw [this,Ki] at h; omega
   rw [hc0] at h; omega
  have cc:=Qf0 hp2;rw [hv] at cc;exact en tt [.f (decide_eq_false (by omega)),.c [] cc] rfl rfl trivial
theorem Qkh {o o2 c P u v s V:Nat} (h:o+c*P=V) (hs:o2+P*v=o+P*u) {q:Nat} (hu:u+10000*q=v+c+s):o2+q*(P*10000)=V+P*s:=by
 have e2:P*(u+10000*q)=P*(v+c+s):=by rw [hu]
 grind
theorem Zmj (S:Nat):S % 10000+10000*(S / 10000)=S:=Ul S 10000
structure MulI (x y i d:Nat) (s:Nat×Nat×List Nat):Prop where
 l:s.2.2.length=(Fi x).length+(Fi y).length
 dg:Dg s.2.2
 v:Rv s.2.2+s.2.1*10000^(i+s.1)=Rv ((Fi x).take i)*y+10000^i*d*Rv ((Fi y).take s.1)
 c:s.2.1<10000
 b:s.1<=(Fi y).length/\(∀ j v,i+(Fi y).length<=j->s.2.2[j]? = some v->v=0)\/s.1=(Fi y).length+1/\s.2.1=0/\∀ j v,i+(Fi y).length+1<=j->s.2.2[j]? = some v->v=0
theorem Zi5 {x y:Nat} (hx:sz x<=200000000) (hy:sz y<=200000000):Ut Tryz.prog 53 [.one (nd x),.one (nd y)] [.one (nd (x*y))]:=by
 have hxl:=Qc (P4 x) hx;have hyl:=Qc (P4 y) hy;have lx:=Qc3 x;have ly:=Qc3 y;show Ut Tryz.prog 53 [.one (.row (Na (Fi x))),.one (.row (Na (Fi y)))] _;refine Gv Tryz.func53 rfl ?_;refine go tt [.r 14 (eI (b:=(((Fi x).length+(Fi y).length:Nat):Int)) (by rw [lx,ly]; omega)),.i ((Fi x).length+(Fi y).length),.i ((Fi x).length+(Fi y).length)] rfl (by simp [Ur]; omega) ?_;rw [show List.replicate ((Fi x).length+(Fi y).length) [LV.int .i64 0]=Na (List.replicate ((Fi x).length+(Fi y).length) 0) from by simp [Na]];refine lp (S:=Nat×List Nat) 1 (λL1 s=>(18,.v (.one (.int .i64 (s.1:Int))))::L1) (λs=>[.row false 3 1 (Na s.2)]) (λs=>(Fi x).length-s.1) (λs=>s.1<=(Fi x).length/\s.2.length=(Fi x).length+(Fi y).length/\Dg s.2/\Rv s.2=Rv ((Fi x).take s.1)*y/\∀ j v,s.1+(Fi y).length<=j->s.2[j]? = some v->v=0) (0,List.replicate ((Fi x).length+(Fi y).length) 0) ⟨Qh _,X1 ..,Dg.zeros _,by rw [Qkk (λx hx=>Zu hx)]; simp [Rv],λj v _ hv=>Zu (Qa hv)⟩ rfl (λ_ _=>rfl) rfl λs hs=>?_
 obtain ⟨i,o⟩:=s;obtain ⟨hp0,hp1,hp2,hp3,hp4⟩:=hs;dsimp only at hp0 hp1 hp2 hp3 hp4 ⊢;by_cases h1:i<(Fi x).length
 ·obtain ⟨d,hd⟩:=gxE (l:=(Fi x)) (i:=i) h1;have hd9:=Nt x d (Qa hd);refine go tt [.t (decide_eq_true (by omega))] rfl trivial ?_;refine lp (S:=Nat×Nat×List Nat) 1 (λL1 s=>(8,.v (.one (.int .i64 (s.1:Int))))::(7,.v (.one (.int .i64 (s.2.1:Int))))::L1) (λs=>[.row false 3 1 (Na s.2.2)]) (λs=>((Fi y).length-s.1)*2+min s.2.1 1) (MulI x y i d) (0,0,o) ⟨hp1,hp2,by dsimp only; rw [hp3]; simp [Rv],by show 0<10000; decide,.inl ⟨Nat.zero_le _,hp4⟩⟩ rfl (λ_ _=>rfl) rfl λs hs=>?_
  obtain ⟨k,c,o2⟩:=s;obtain ⟨hq0,hq1,hq2,hq3,hq4⟩:=hs;dsimp only at hq0 hq1 hq2 hq3 hq4 ⊢;have hol:(Na o2).length=(Fi x).length+(Fi y).length:=by rw [Rf,hq0]
  by_cases h2:k<(Fi y).length
  ·obtain ⟨e,he⟩:=gxE (l:=(Fi y)) (i:=k) h2;have he9:=Nt y e (Qa he);have hde:d*e<=9999*9999:=Zf (by omega) (by omega);obtain ⟨v,hoi⟩:=gxE (l:=o2) (i:=i+k) (by omega);have hv9:=hq1 v (Qa hoi);refine go tt [.g 25 true (decide_eq_true (by omega)),.t rfl,.r 34 (eI (b:=((i+k:Nat):Int)) (by omega)),.i (i+k),.x (Gf hoi),.r 38 (eI (b:=((v+c:Nat):Int)) (by omega)),.t (decide_eq_true (by omega)),.x (Gf hd),.x (Gf he),.r 52 (eI (b:=((d*e:Nat):Int)) (by simp)),.r 53 (eI (b:=((v+c+d*e:Nat):Int)) (by omega)),.r 57 (eI (b:=((i+k:Nat):Int)) (by omega)),.r 59 (eI (b:=(((v+c+d*e) % 10000:Nat):Int)) (by rfl)),.i (i+k),.r 62 (eI (b:=(((v+c+d*e) / 10000:Nat):Int)) (by rfl))] rfl (by simp [Ur,hol,tdn,Qdk,-Int.natCast_add,-Int.natCast_mul]; omega) ?_;exact rd (k+1,(v+c+d*e) / 10000,o2.set (i+k) ((v+c+d*e) % 10000)) (by dsimp only; omega) ⟨by dsimp only; rw [List.length_set]; exact hq0,hq1.set (Nat.mod_lt _ (by decide)),by
    dsimp only;rw [<-Nat.add_assoc i k 1,Nat.pow_succ]; have:=Qkh hq2 (Q0y hoi (u:=((v+c)+(d*e)) % 10000)) (s:=d*e) (q:=((v+c)+(d*e)) / 10000) (by rw [Zmj]); rw [this,Te he,Nat.pow_add]; grind,by dsimp only; omega,.inl ⟨by dsimp only; omega,λj w hj hw=>(by
     dsimp only at hw;rcases hq4 with ⟨_,h⟩ | ⟨_,_,h⟩ <;> (rw [Yg (by omega)] at hw; exact h j w (by omega) hw))⟩⟩ (by rw [I6]; rfl)
  ·by_cases h3:0<c
   ·have hk:k=(Fi y).length:=by omega
    have hz:∀ j v,i+(Fi y).length<=j->o2[j]? = some v->v=0:=by
     rcases hq4 with ⟨_,h⟩ | ⟨_,h,_⟩
     ·exact h
     ·omega
    obtain ⟨v,hoi⟩:=gxE (l:=o2) (i:=i+k) (by omega);have hv0:v=0:=hz (i+k) v (by omega) hoi;have hv9:=hq1 v (Qa hoi);refine go tt [.g 25 false (decide_eq_false (by omega)),.t (decide_eq_true (by omega)),.r 34 (eI (b:=((i+k:Nat):Int)) (by omega)),.i (i+k),.x (Gf hoi),.r 38 (eI (b:=((v+c:Nat):Int)) (by omega)),.f (decide_eq_false (by omega)),.r 57 (eI (b:=((i+k:Nat):Int)) (by omega)),.r 59 (eI (b:=(((v+c) % 10000:Nat):Int)) (by rfl)),.i (i+k),.r 62 (eI (b:=(((v+c) / 10000:Nat):Int)) (by rfl))] rfl (by simp [Ur,hol,tdn,Qdk,-Int.natCast_add]; omega) ?_;exact rd (k+1,(v+c) / 10000,o2.set (i+k) ((v+c) % 10000)) (by dsimp only; omega) ⟨by dsimp only; rw [List.length_set]; exact hq0,hq1.set (Nat.mod_lt _ (by decide)),by
     dsimp only;rw [<-Nat.add_assoc i k 1,Nat.pow_succ]; have:=Qkh hq2 (Q0y hoi (u:=(v+c) % 10000)) (s:=0) (q:=(v+c) / 10000) (by rw [Zmj]; rfl); rw [this,Nat.mul_zero,Nat.add_zero,A1 (by omega)],by dsimp only; omega,.inr ⟨by dsimp only; omega,by dsimp only; omega,λj w hj hw=>(by
      dsimp only at hw;rw [Yg (by omega)] at hw; exact hz j w (by omega) hw)⟩⟩ (by rw [I6]; rfl)
   ·refine go tt [.g 25 false (decide_eq_false (by omega)),.f (decide_eq_false (by omega))] rfl (by simp [Ur]; omega) ?_;exact rd (i+1,o2) (by dsimp only; omega) ⟨by dsimp only; omega,hq0,hq1,by
     dsimp only;rw [Te hd,X8]; have h:=hq2; rw [show c=0 by omega,Qn (l:=Fi y) (i:=k) (by omega),Hx] at h; rw [J8,Xm] at h; exact h,by
     dsimp only;rcases hq4 with ⟨_,h⟩ | ⟨_,_,h⟩
     ·exact λj w hj hw=>h j w (by omega) hw
     ·exact λj w hj hw=>h j w (by omega) hw⟩ rfl
 ·have hv:Rv o=x*y:=by rw [hp3,Qn (by omega),Hx]
  have cc:=Qf0 hp2;rw [hv] at cc;exact en tt [.f (decide_eq_false (by omega)),.c [] cc] rfl rfl trivial
theorem Q0o {x y:Nat}:Oy x y<=0↔x<=y:=by
 unfold Oy;constructor
 ·intro h; split at h
  ·omega
  ·split at h <;> omega
 ·intro h; split
  ·omega
  ·split <;> omega
theorem Q39 {R y lo:Nat} (h1:y*lo<=R) (h2:R<y*(lo+1)):R / y=lo/\R % y=R-y*lo:=by
 have hy:0<y:=by
  rcases Qz y with h | h
  ·subst h; simp at h2
  ·exact h
 have e:R / y=lo:=Nat.div_eq_of_lt_le (by rw [Zh]; exact h1) (by rw [Zh]; exact h2);refine ⟨e,?_⟩;have:=Xa R y;rw [e] at this; omega
theorem Zca {R y:Nat} (h:R<y*10000):sz R<=sz y+14:=by
 refine Nj.2 (Xe h ?_);have:=Qen y;rw [Xb];have e:(2:Nat)^14=16384:=by decide
 rw [e]; exact Zf (by omega) (by decide)
theorem Q5g (y:Nat):sz (y*10000)<=sz y+14:=by
 refine Nj.2 ?_;have:=Qen y;rw [Xb];have e:(2:Nat)^14=16384:=by decide
 rw [e]; omega
theorem Q6d {x y:Nat} (hx:sz x<=90000000) (hy:sz y<=90000000) (hy0:0<y):Ut Tryz.prog 131 [.one (nd x),.one (nd y)] [.one (nd (x / y)),.one (nd (x % y))]:=by
 have hxl:=Qc (P4 x) hx;have hyl:=Qc (P4 y) hy;have lx:=Qc3 x;show Ut Tryz.prog 131 [.one (.row (Na (Fi x))),.one (nd y)] _;refine Gv Tryz.func131 rfl ?_;refine go tt [.i (Na (Fi x)).length,.i (Na (Fi x)).length,.z 7,.r 17 (eI (b:=((Fi x).length:Int)-1) (by rw [lx]))] rfl (by simp [Ur]; omega) ?_;rw [lx,show List.replicate (Fi x).length [LV.int .i64 0]=Na (List.replicate (Fi x).length 0) from by simp [Na]];refine lp (S:=Nat×List Nat×List Nat) 1 (λL1 s=>(8,.v (.one (.int .i64 ((s.1:Int)-1))))::(7,.v (.one (.row (Na s.2.1))))::L1) (λs=>[.row false 3 1 (Na s.2.2)]) (λs=>s.1) (λs=>s.1<=(Fi x).length/\s.2.2.length=(Fi x).length/\Dg s.2.2/\Rv (s.2.2.drop s.1)=Rv ((Fi x).drop s.1) / y/\s.2.1=Fi (Rv ((Fi x).drop s.1) % y)) ((Fi x).length,[],List.replicate (Fi x).length 0) ⟨Nat.le_refl _,List.length_replicate ..,Dg.zeros _,by dsimp only; rw [List.drop_eq_nil_of_le (by simp),List.drop_eq_nil_of_le (Nat.le_refl _)]; simp [Rv],by dsimp only; rw [List.drop_eq_nil_of_le (Nat.le_refl _)]; simp [Rv,G6]⟩ rfl (λ_ _=>rfl) rfl λs hs=>?_
 obtain ⟨j,R,o⟩:=s;obtain ⟨hp0,hp1,hp2,hp3,hp4⟩:=hs;dsimp only at hp0 hp1 hp2 hp3 hp4 ⊢;cases j with
 |
  zero =>
  have cc:=Qf0 hp2;rw [Xp,Xp,Hx] at hp3;rw [Xp,Hx] at hp4;rw [hp3] at cc;exact en tt [.f (by simp),.c [] cc] rfl (by rw [hp4]; rfl) trivial
 |
  succ j =>
  obtain ⟨d,hd⟩:=gxE (l:=(Fi x)) (i:=j) (by omega);have hd9:=Nt x d (Qa hd);have hdd:=Qah hd;obtain ⟨hq1,hq2,hq3⟩:=Qte (V:=Rv ((Fi x).drop (j+1))) (kd:=y) (d:=d) hy0;rw [<-hdd] at hq1 hq2;have hq3:=hq3 hd9;obtain ⟨rr,hrr0⟩:=nmE (Rv ((Fi x).drop (j+1)) % y);have hrr:rr<y:=by rw [hrr0]; exact Z4 _ hy0
  rw [<-hrr0] at hp4 hq1 hq2 hq3;subst hp4;have hrl:(Fi rr).length<=(Fi y).length:=Qae (by omega);have hR:rr*10000+d<y*10000:=by omega
  have hRs:=Zca hR;have hdv:Dg (d::Fi rr):=λz hz=>by
   rcases Qo.1 hz with rfl | hz
   ·exact hd9
   ·exact Nt rr z hz
  have cc:=Qf0 hdv;rw [show Rv (d::Fi rr)=rr*10000+d from by simp only [Rv]; rw [Hx]; omega] at cc;have hol:(Na o).length=(Fi x).length:=by rw [Rf,hp1]
  have hrrl:=Rf (Fi rr);have ej:((j+1:Nat):Int)-1=(j:Int):=by omega
  rw [ej];refine go tt [.t (decide_eq_true (by omega)),.x (Gf hd),.lo,.s (sz:=1) (Zjn (Fi rr)),.c [] cc] rfl (by simp [Ur,Qc3]; omega) ?_;refine lp (S:=Nat×Nat) 2 (λL1 s=>(9,.v (.one (.int .i64 (s.1:Int))))::(10,.v (.one (.int .i64 (s.2:Int))))::L1) (λ_=>[.row false 3 1 (Na o),.gone]) (λs=>s.2-s.1) (λs=>s.1<=s.2/\s.2<=9999/\y*s.1<=rr*10000+d/\rr*10000+d<y*(s.2+1)) (0,9999) ⟨by decide,by decide,by dsimp only; omega,by dsimp only; omega⟩ rfl (λ_ _=>rfl) rfl λs hs=>?_
  obtain ⟨lo,hi⟩:=s;obtain ⟨hb0,hb1,hb2,hb3⟩:=hs;dsimp only at hb0 hb1 hb2 hb3 ⊢;by_cases h2:lo<hi
  ·obtain ⟨m,hm⟩:=nmE ((lo+hi+1) / 2);have hym:y*m<=y*10000:=Zq y (by omega);have c1:=Qdz (x:=y) (mu:=m) (c0:=0) (by omega) (by omega) (by omega);have c2:=Qwe (x:=y*m+0) (y:=rr*10000+d) (Qc (Rp (show _<=y*10000 by omega)) (Qc (Q5g y) (by omega))) (by omega);by_cases h3:y*m+0<=rr*10000+d
   ·refine go tt [.t (decide_eq_true (by omega)),.r 35 (eI (b:=((lo+hi:Nat):Int)) (by omega)),.r 36 (eI (b:=((lo+hi+1:Nat):Int)) (by omega)),.r 37 (eI (b:=(m:Int)) (by rw [hm]; rfl)),.c [] c1,.c [] c2,.t (decide_eq_true (Q0o.2 h3))] rfl (by simp [Ur,Qdk,-Int.natCast_add]; omega) ?_;exact rd (m,hi) (by dsimp only; omega) ⟨by dsimp only; omega,hb1,by dsimp only; omega,hb3⟩ rfl
   ·refine go tt [.t (decide_eq_true (by omega)),.r 35 (eI (b:=((lo+hi:Nat):Int)) (by omega)),.r 36 (eI (b:=((lo+hi+1:Nat):Int)) (by omega)),.r 37 (eI (b:=(m:Int)) (by rw [hm]; rfl)),.c [] c1,.c [] c2,.f (decide_eq_false λh=>h3 (Q0o.1 h)),.r 46 (eI (b:=((m-1:Nat):Int)) (by omega))] rfl (by simp [Ur,Qdk,-Int.natCast_add]; omega) ?_;exact rd (lo,m-1) (by dsimp only; omega) ⟨by dsimp only; omega,by dsimp only; omega,hb2,by dsimp only; rw [show m-1+1=m by omega]; omega⟩ rfl
  ·have hlh:lo=hi:=by omega
   have hfd:=Q39 hb2 (by rw [hlh]; exact hb3);have c1:=Qdz (x:=y) (mu:=lo) (c0:=0) (by omega) (by omega) (by omega);have c2:=Qwo (x:=rr*10000+d) (y:=y*lo+0) (by omega) (Qc (Rp (show _<=rr*10000+d by omega)) (by omega)) (by omega);rw [show rr*10000+d-(y*lo+0)=Rv ((Fi x).drop j) % y from by rw [hq2,hfd.2]; omega] at c2;refine go tt [.f (decide_eq_false (by omega)),.i j,.c [] c1,.c [] c2] rfl (by simp [Ur,hol,tdn,Qdk,-Int.natCast_add]; omega) ?_;exact rd (j,Fi (Rv ((Fi x).drop j) % y),o.set j lo) (by dsimp only; omega) ⟨by dsimp only; omega,by dsimp only; rw [List.length_set]; exact hp1,hp2.set (by omega),by
    dsimp only;rw [Qf5 (by omega)]; simp only [Rv]; rw [hp3,hq1,hfd.1],rfl⟩ (by rw [I6]; rfl)
end Orr
namespace Orr
def Bd (s:Nat) (p:List Int):Prop:=∀ z∈p,U6 z≤s
theorem Mk:U6 0=0:=rfl
theorem Q58 {s:Nat} {p:List Int} (h:Bd s p) {i:Nat} {z:Int} (hz:p[i]? = some z):U6 z<=s:=h z (Qa hz)
theorem U8 {s:Nat} {p:List Int} (h:Bd s p) (k:Nat):U6 (p.getD k 0)<=s:=by
 rw [Qg];cases hk:p[k]? with
 | none=>rw [K5,Mk]; exact Qh _
 | some z=>exact Q58 h hk
theorem Us {s t:Nat} {p:List Int} (h:Bd s p) (ht:s<=t):Bd t p:=λz hz=>Qc (h z hz) ht
theorem O6 {s:Nat}:Bd s []:=λz hz=>by cases hz
theorem Zis {s:Nat} {n:Nat} {g:Nat->Int} (h:∀ k,k<n->U6 (g k)<=s):Bd s ((List.range n).map g):=λz hz=>by
 obtain ⟨k,hk,rfl⟩:=Zr.1 hz;exact h k (Ku.1 hk)
theorem Qvo:∀ (l:List Int),∀ z∈trim l,z∈l
 | [],z,h=>by cases h
 |
  x::l,z,h=>by
  have ih:=Qvo l;cases hl:trim l with
  |
   nil =>
   simp only [trim,hl] at h
   split at h
   ·cases h
   ·rw [Qk] at h; rw [h]; exact Qx ..
  |
   cons y k =>
   simp only [trim,hl] at h;rcases Qo.1 h with rfl | h
   ·exact Qx ..
   ·exact Qj _ (ih z (by rw [hl]; exact h))
theorem Ht (l:List Int):(trim l).length<=l.length:=by
 induction l with
 | nil=>exact Ql _
 |
  cons x l ih =>
  cases hl:trim l with
  | nil=>simp only [trim,hl]; split <;> simp
  | cons y k=>simp only [trim,hl]; rw [hl] at ih; simp at ih ⊢; exact ih
theorem Tj {s:Nat} {p:List Int} (h:Bd s p):Bd s (trim p):=λz hz=>h z (Qvo p z hz)
theorem Ln:∀ (l:List Int) (k:Nat),(trim l).getD k 0=l.getD k 0
 | [],k=>rfl
 |
  x::l,k=>by
  have ih:=Ln l;cases hl:trim l with
  |
   nil =>
   rw [hl] at ih;simp only [trim,hl]
   split
   ·rename_i hx;cases k with
    | zero=>simp [hx]
    | succ k=>have:=ih k; simp at this ⊢; exact this
   ·cases k with
    | zero=>simp
    | succ k=>have:=ih k; simp at this ⊢; exact this
  |
   cons y m =>
   rw [hl] at ih;simp only [trim,hl];cases k with
   | zero=>simp
   | succ k=>have:=ih k; simp at this ⊢; exact this
def Mf (n:Nat) (g:Nat->Int):List Int:=trim ((List.range n).map g)
theorem Ft (n:Nat) (g:Nat->Int):Uz (Mf n g):=Ra _
theorem A2 (n:Nat) (g:Nat->Int):(Mf n g).length<=n:=Qc (Ht _) (by simp)
theorem To (n:Nat) (g:Nat->Int) (k:Nat):(Mf n g).getD k 0=if k<n then g k else 0:=by
 unfold Mf;rw [Ln,Qg,Q9]
 split
 ·rename_i h; rw [List.getElem?_range h]; rfl
 ·rename_i h; rw [List.getElem?_eq_none (by simpa using h)]; rfl
theorem Qbm {s n:Nat} {g:Nat->Int} (h:∀ k,k<n->U6 (g k)<=s):Bd s (Mf n g):=Tj (Zis h)
def Ak (p q:List Int):List Int:=Mf (max p.length q.length) λk=>p.getD k 0+q.getD k 0
def Pw (p q:List Int):List Int:=Mf (max p.length q.length) λk=>p.getD k 0-q.getD k 0
def Pd (p:List Int):List Int:=Mf p.length λk=>-(p.getD k 0)
def Ff (p:List Int) (c:Int):List Int:=Mf p.length λk=>p.getD k 0*c
def Gj (p:List Int):List Int:=Mf (p.length-1) λk=>p.getD (k+1) 0*((k+1:Nat):Int)
theorem Qph {s t:Nat} {p q:List Int} (h:Bd s p) (h':Bd t q):Bd (max s t+1) (Ak p q):=Qbm λk _=>Qc (Qbu _ _) (by have:=U8 h k; have:=U8 h' k; omega)
theorem Iv {s t:Nat} {p q:List Int} (h:Bd s p) (h':Bd t q):Bd (max s t+1) (Pw p q):=Qbm λk _=>Qc (Qql _ _) (by have:=U8 h k; have:=U8 h' k; omega)
theorem Qbn {s:Nat} {p:List Int} (h:Bd s p):Bd s (Pd p):=Qbm λk _=>by rw [Hg]; exact U8 h k
theorem Gl {s t:Nat} {p:List Int} {c:Int} (h:Bd s p) (hc:U6 c<=t):Bd (s+t) (Ff p c):=Qbm λk _=>Qc (Fl _ _) (by have:=U8 h k; omega)
theorem Qlf (p q:List Int):(Ak p q).length<=max p.length q.length:=A2 _ _
theorem L8 (p q:List Int):(Pw p q).length<=max p.length q.length:=A2 _ _
theorem L6 (p:List Int):(Pd p).length<=p.length:=A2 _ _
theorem Fz (p:List Int) (c:Int):(Ff p c).length<=p.length:=A2 _ _
theorem Pn (p:List Int):(Gj p).length<=p.length-1:=A2 _ _
theorem Qqk {k t:Nat} (h:k<2^t):U6 (k:Int)<=t:=by rw [Tz]; simpa using h
theorem Q4n {k:Nat} (h:k<274877906944):U6 (k:Int)<=4294967295:=Qc (Qqk (t:=38) (Kt h (by decide))) (by omega)
theorem Qin {s t:Nat} {p:List Int} (h:Bd s p) (hl:p.length<=2^t):Bd (s+t) (Gj p):=Qbm λk hk=>Qc (Fl _ _) (by
 have:=U8 h (k+1);have:=Qqk (k:=k+1) (t:=t) (by omega);omega)
def A9 (x:Int) (b:List Int) (i:Nat) (o:List Int):Nat->List Int
 | 0=>o
 | k+1=>(A9 x b i o k).set (i+k) ((A9 x b i o k).getD (i+k) 0+x*b.getD k 0)
def Ny (a b o:List Int):Nat->List Int
 | 0=>o
 | i+1=>A9 (a.getD i 0) b i (Ny a b o i) b.length
def Fw (a b:List Int):List Int:=if a.length=0\/b.length=0 then [] else trim (Ny a b (List.replicate (a.length+b.length-1) 0) a.length)
theorem Ia (x:Int) (b:List Int) (i:Nat) (o:List Int) (k:Nat):(A9 x b i o k).length=o.length:=by
 induction k with
 | zero=>rfl
 | succ k ih=>simp [A9,ih]
theorem Nz (a b o:List Int) (i:Nat):(Ny a b o i).length=o.length:=by
 induction i with
 | zero=>rfl
 | succ i ih=>simp [Ny,Ia,ih]
theorem Q9b (l:List Int) (i m:Nat) (v:Int) (h:i<l.length):(l.set i v).getD m 0=if m=i then v else l.getD m 0:=by
 rw [Qg,Y0,Qg];by_cases e:i=m
 ·subst e; simp [h]
 ·rw [if_neg e,if_neg (λh=>e h.symm)]
theorem Qgt (x:Int) (b:List Int) (i:Nat) (o:List Int) (k m:Nat) (h:i+k<=o.length):(A9 x b i o k).getD m 0=if i<=m/\m<i+k then o.getD m 0+x*b.getD (m-i) 0 else o.getD m 0:=by
 induction k with
 | zero=>simp only [A9]; rw [if_neg (by omega)]
 |
  succ k ih =>
  have ih:=ih (by omega);simp only [A9];rw [Q9b _ _ _ _ (by rw [Ia]; omega)];by_cases e:m=i+k
  ·subst e;rw [if_pos rfl,if_pos (by omega),show i+k-i=k from by omega];rw [ih,if_neg (by omega)]
  ·rw [if_neg e,ih];by_cases h1:i<=m/\m<i+k
   ·rw [if_pos h1,if_pos (by omega)]
   ·rw [if_neg h1,if_neg (by omega)]
theorem Ml {x y:Int} {s t:Nat} (hx:U6 x<=s) (hy:U6 y<=t):(x*y).natAbs<=2^(s+t):=by
 have h:=Qc (Fl x y) (show _<=s+t by omega);rw [Tz] at h; omega
theorem Qqv {x:Int} {b:List Int} {i:Nat} {o:List Int} {k M:Nat} (h:i+k<=o.length) (ho:∀ m,(o.getD m 0).natAbs<=i*M) (hx:∀ j,(x*b.getD j 0).natAbs<=M) (m:Nat):((A9 x b i o k).getD m 0).natAbs<=(i+1)*M:=by
 rw [Qgt x b i o k m h,Z7];have h1:=ho m
 split
 ·have h2:=hx (m-i);generalize i*M=q at *;omega
 ·omega
theorem Qqu {a b o:List Int} {i M:Nat} (h:∀ j,j<i->j+b.length<=o.length) (ho:∀ m,o.getD m 0=0) (hx:∀ i j,(a.getD i 0*b.getD j 0).natAbs<=M) (m:Nat):((Ny a b o i).getD m 0).natAbs<=i*M:=by
 induction i generalizing m with
 | zero=>simp only [Ny]; rw [ho]; simp
 |
  succ i ih =>
  simp only [Ny];exact Qqv (by rw [Nz]; exact h i (by omega)) (ih λj hj=>h j (by omega)) (hx i) m
theorem Ai {z:Int} {i s t:Nat} (h:z.natAbs<=i*2^s) (hi:i<2^t):U6 z<=s+t:=by
 rw [Tz];have h1:i*2^s<2^t*2^s:=Xn hi (Z1 (by decide));rw [<-Xb,Ja t s] at h1;omega
theorem Ty (n m:Nat):(List.replicate n (0:Int)).getD m 0=0:=by
 rw [Qg,Jw]; split <;> rfl
theorem Qjm {s:Nat} {p:List Int} (h:∀ m,U6 (p.getD m 0)<=s):Bd s p:=λz hz=>by
 obtain ⟨i,hi⟩:=Zd.1 hz;have:=h i;rw [Qg,hi] at this;exact this
theorem Qau (a b:List Int):(Fw a b).length<=a.length+b.length-1:=by
 unfold Fw
 split
 ·simp
 ·refine Qc (Ht _) ?_;rw [Nz]; simp
theorem Qdu {s t u:Nat} {a b:List Int} (ha:Bd s a) (hb:Bd t b) (hl:a.length<2^u):Bd (s+t+u) (Fw a b):=by
 unfold Fw
 split
 ·exact O6
 ·refine Tj (Qjm λm=>?_);exact Ai (Qqu (M:=2^(s+t)) (λj hj=>by simp; omega) (Ty _) (λi j=>Ml (U8 ha i) (U8 hb j)) m) hl
theorem G5 (a b:List Int):Uz (Fw a b):=by
 unfold Fw
 split
 ·rfl
 ·exact Ra _
def Mb (a:List Int) (n d:Int):Nat->Int×Int
 | 0=>(0,1)
 | k+1=>((Mb a n d k).1*n+a.getD (a.length-1-k) 0*(Mb a n d k).2,(Mb a n d k).2*d)
def Zf5 (a:List Int) (n d:Int):Int:=(Mb a n d a.length).1
theorem Qr4 {a:List Int} {n d:Int} {s t k:Nat} (ha:Bd s a) (hn:U6 n<=t) (hd:U6 d<=t):U6 (Mb a n d k).1<=s+2+k*(t+1)/\U6 (Mb a n d k).2<=1+k*t:=by
 induction k with
 | zero=>exact ⟨by simp [Mb,Mk],by simp [Mb]; decide⟩
 |
  succ k ih =>
  obtain ⟨h1,h2⟩:=ih;have h3:=U8 ha (a.length-1-k);have e1:k*(t+1)=k*t+k:=by rw [Xk,Yq]
  rw [Z7,Z7];refine ⟨?_,?_⟩
  ·simp only [Mb];refine Qc (Qbu _ _) ?_;have h4:=Fl (Mb a n d k).1 n;have h5:=Fl (a.getD (a.length-1-k) 0) (Mb a n d k).2;generalize k*t=q at *;rw [e1] at h1 ⊢;omega
  ·simp only [Mb];have h4:=Fl (Mb a n d k).2 d;generalize k*t=q at *;omega
end Orr
namespace Orr
theorem Qgf {l:List Int} {i:Nat} (h:i<l.length):l[i]? = some (l.getD i 0):=by
 rw [Qg,Qe h]; rfl
theorem Qpz {x y:Int}:Nn x y=0↔x=y:=by
 unfold Nn;constructor
 ·intro h
  split at h
  ·omega
  ·split at h <;> omega
 ·rintro rfl; simp
theorem Ho {p:List Int} (h:Uz p) (h0:0<p.length):p.getD (p.length-1) 0≠0:=by
 induction p with
 | nil=>simp at h0
 |
  cons x l ih =>
  unfold Uz at h;cases hl:trim l with
  |
   nil =>
   simp only [trim,hl] at h
   split at h
   ·cases h
   ·rename_i hx;injection h with h1 h2;subst h2;simpa using hx
  |
   cons y k =>
   simp only [trim,hl] at h;injection h with h1 h2;rw [<-hl] at h2;have ih:=ih h2 (by rw [<-h2,hl]; simp);have h3:0<l.length:=by rw [<-h2,hl]; simp
   simp only [Q7,Jn];obtain ⟨m,hm⟩:∃ m,l.length=m+1:=⟨l.length-1,by omega⟩;rw [hm] at ih ⊢;simpa using ih
end Orr
namespace Orr
theorem Qlg (p:List Int):(List.range p.length).map (λk=>p.getD k 0)=p:=by
 apply Xf;intro i;rw [Q9];rcases Za i p.length with h | h
 ·rw [Xs h];simp [Qe h]
 ·rw [Qt (by simpa using h),Qt h]; rfl
theorem Qko {p q:List Int} (hl:p.length=q.length) (h:∀ j,j<p.length->p.getD j 0=q.getD j 0):p=q:=by
 rw [<-Qlg p,<-Qlg q,<-hl];exact Ve λj hj=>h j (Ku.1 hj)
end Orr
namespace Orr
abbrev rl (q:Rat):List LV:=[sg q.num,mg q.num,sg (q.den:Int),mg (q.den:Int)]
theorem Nu (n d:Int):Hd [n,d]=Int.gcd d n:=by
 unfold Hd;simp only [Z5,List.foldl_nil,Nat.gcd_zero_left];exact Wl _ _
theorem Qtp {n d:Int} (hd:d≠0):(0:Int)<((Hd [n,d]:Nat):Int):=by
 rw [Nu];have:=Int.gcd_pos_of_ne_zero_left n hd;omega
theorem Qky (n d:Int):n % ((Hd [n,d]:Nat):Int)=0:=by
 rw [Nu]; exact Jt (Vv ..)
theorem Qkz (n d:Int):d % ((Hd [n,d]:Nat):Int)=0:=by
 rw [Nu]; exact Jt (Ue ..)
theorem Q1x {n g:Int} (h:n % g=0):-n % g=0:=by
 exact Jt (Int.dvd_neg.2 (Ym h))
theorem Q1d {n d:Int} {s:Nat} (hd:d≠0) (h:U6 d<=s):U6 ((Hd [n,d]:Nat):Int)<=s:=by
 rw [Nu];refine Qc (Rp ?_) h;have:=Kg (by omega:0<d.natAbs) (show Int.gcd d n∣d.natAbs from K0 _ _);simpa using this
theorem Qqq {n d:Int} (hd:0<d):n / ((Hd [n,d]:Nat):Int)=(Rat.divInt n d).num/\d / ((Hd [n,d]:Nat):Int)=((Rat.divInt n d).den:Int):=by
 rw [Nu,Rat.num_divInt,Wv,if_neg (by omega),X5 hd,Y7];refine ⟨rfl,?_⟩;rw [Int.natCast_ediv,Int.natAbs_of_nonneg (by omega)]
theorem Zfd {n d:Int} (hd:d<0):-n / ((Hd [n,d]:Nat):Int)=(Rat.divInt n d).num/\-d / ((Hd [n,d]:Nat):Int)=((Rat.divInt n d).den:Int):=by
 rw [Nu,Rat.num_divInt,Wv,if_neg (by omega),Xu hd,Kh,Y7];refine ⟨rfl,?_⟩;rw [Int.natCast_ediv,Int.ofNat_natAbs_of_nonpos (by omega)]
theorem Qas (u g:Int):U6 (u / g)<=U6 u:=by
 unfold U6;exact Rp (Int.natAbs_ediv_le_natAbs u g)
theorem Qk9 {n d:Int} {s:Nat} (h:U6 n<=s):U6 (Rat.divInt n d).num<=s:=by
 rw [Rat.num_divInt];refine Qc (Qas _ _) ?_;unfold U6;rw [Jr];refine Qc (Rp ?_) h;have:d.sign.natAbs<=1:=by rcases Eg d with ⟨_,e⟩ | ⟨_,e⟩ | ⟨_,e⟩ <;> rw [e] <;> decide
 calc d.sign.natAbs*n.natAbs<=1*n.natAbs:=Q0 _ this
  _=n.natAbs:=Ki _
theorem Qk8 {n d:Int} {s:Nat} (h:U6 d<=s) (h1:1<=s):U6 ((Rat.divInt n d).den:Int)<=s:=by
 rw [Wv]
 split
 ·exact h1
 ·refine Qc (Rp ?_) h;exact J3 _ _
def Qs (s:Nat) (q:Rat):Prop:=U6 q.num<=s/\U6 (q.den:Int)<=s
theorem Qs.mono {s t:Nat} {q:Rat} (h:Qs s q) (ht:s<=t):Qs t q:=⟨Qc h.1 ht,Qc h.2 ht⟩
theorem Qs.divInt {s:Nat} {n d:Int} (h:U6 n<=s) (h':U6 d<=s) (h1:1<=s):Qs s (Rat.divInt n d):=⟨Qk9 h,Qk8 h' h1⟩
theorem Cc (q:Rat):(q.den:Int)≠0:=by have:=q.den_nz; omega
theorem den_pos (q:Rat):(0:Int)<(q.den:Int):=by have:=q.den_nz; omega
def Gt (n d:Int):Rat:=Rat.divInt n (if d=0 then 1 else d)
theorem Ol (q:Rat):Gt q.num q.den=q:=by
 unfold Gt;rw [if_neg (Cc q)]; exact Z2 q
def Gq (a b:Rat):Int:=Nn (a.num*(b.den:Int)) (b.num*(a.den:Int))
theorem Nq {a b:Rat}:Gq a b<0↔a<b:=by
 rw [Rat.lt_iff]; unfold Gq Nn;constructor
 ·intro h; split at h
  ·assumption
  ·split at h <;> omega
 ·intro h; rw [if_pos h]; decide
theorem Cq {a b:Rat}:0<Gq a b↔b<a:=by
 rw [Rat.lt_iff]; unfold Gq Nn;constructor
 ·intro h; split at h
  ·omega
  ·split at h
   ·assumption
   ·omega
 ·intro h; rw [if_neg (by omega),if_pos h]; decide
theorem B8 (a:Rat):Gq a a=0:=by unfold Gq Nn; simp
end Orr
namespace Orr
open Go Go.Proofs
set_option maxRecDepth 10000
abbrev fr (q:Rat):List LV:=ri q.num++ri (q.den:Int)
theorem Ew:Fi 1=[1]:=by rw [I5 (by decide)]; rw [G6]
theorem Mi {n:Int}:Ut Tryz.prog 43 [.agg (ri n),.agg (ri 1)] [.agg (fr (n:Rat))]:=by
 have h0:(Na (Fi (1:Int).natAbs))[0]? = some [LV.int .i64 1]:=by rw [show (1:Int).natAbs=1 from rfl,Ew]; rfl
 have h1:decide (((Na (Fi (1:Int).natAbs)).length:Int)=1)=true:=by rw [show (1:Int).natAbs=1 from rfl,Ew]; rfl
 exact w tt Tryz.func43 rfl [.c [] (Mq (z:=1)),.f rfl,.f rfl,.g 19 true h1,.x h0,.t rfl] rfl rfl trivial
theorem Qcx {n:Int} (hn:-4000000000000000000<=n/\n<=4000000000000000000):Ut Tryz.prog 15 [.one (.int .i64 n),.one (.int .i64 1)] [.agg (fr (n:Rat))] :=
 w tt Tryz.func15 rfl [.c [] (Dt hn),.c [] (Dt (n:=1) (by decide)),.c [] Mi] rfl rfl trivial
theorem Q63 {q:Rat} (hq:Qs 100000000 q):Ut Tryz.prog 14 [.agg (fr q)] [.agg (rl q)] :=
 w tt Tryz.func14 rfl [.c [] (Q62 hq.1),.c [] (Q62 hq.2)] rfl rfl trivial
end Orr
