/- Ntt L1 L2 L3 L4 L5 M1 P2 M2 PolyL RatL CrvL CrowdL PredL CertL Y1 Y2 Q1 -/
import Derived.Test.YtledghfgedoofaaGreatPart03
import Derived.Laws.StructEq
import Derived.Test.YtledghfgedoofaaGreatProg
set_option linter.all false
namespace Orr
open Go Go.Proofs
theorem Qx3 (d:Nat) (x y:Int) (w:World):(Op.equalIn (d+1) 3 (.int .i64 x) (.int .i64 y)).run Tryz.prog w=.ok (decide (x=y)) w:=by
  simp [Op.equalIn,Tryz.runUnderlying3]
  rfl
def ti3:TI Tryz.prog:=Ng 3 Tryz.isAgg3 Tryz.sizeOf3 Tryz.underlying3 Tryz.zeroValue3 Tryz.typeInfo3 8 rfl
def ti4:TI Tryz.prog:=Ng 4 Tryz.isAgg4 Tryz.sizeOf4 Tryz.underlying4 Tryz.zeroValue4 Tryz.typeInfo4 1 rfl
def ti5:TI Tryz.prog:=Ng 5 Tryz.isAgg5 Tryz.sizeOf5 Tryz.underlying5 Tryz.zeroValue5 Tryz.typeInfo5 1 rfl
def ti9:TI Tryz.prog:=Ng 9 Tryz.isAgg9 Tryz.sizeOf9 Tryz.underlying9 Tryz.zeroValue9 Tryz.typeInfo9 16 rfl
def Q44:TI Tryz.prog:=Ng 23 Tryz.isAgg23 Tryz.sizeOf23 Tryz.underlying23 Tryz.zeroValue23 Tryz.typeInfo23 24 rfl
def Q45:TI Tryz.prog:=Ng 24 Tryz.isAgg24 Tryz.sizeOf24 Tryz.underlying24 Tryz.zeroValue24 Tryz.typeInfo24 24 rfl
def Q46:TI Tryz.prog:=Ng 25 Tryz.isAgg25 Tryz.sizeOf25 Tryz.underlying25 Tryz.zeroValue25 Tryz.typeInfo25 24 rfl
def Q47:TI Tryz.prog:=tiS (ks:=[1,1]) (ag:=[false,false]) 27 Tryz.isAgg27 Tryz.sizeOf27 Tryz.underlying27 Tryz.zeroValue27 Tryz.typeInfo27 32 rfl ⟨Tryz.sizeOf4,Tryz.sizeOf25,trivial⟩ ⟨Tryz.isAgg4,Tryz.isAgg25,trivial⟩ rfl
def Q48:TI Tryz.prog:=tiS (ks:=[1,1,2]) (ag:=[false,false,true]) 29 Tryz.isAgg29 Tryz.sizeOf29 Tryz.underlying29 Tryz.zeroValue29 Tryz.typeInfo29 80 rfl ⟨Tryz.sizeOf24,Tryz.sizeOf24,Tryz.sizeOf27,trivial⟩ ⟨Tryz.isAgg24,Tryz.isAgg24,Tryz.isAgg27,trivial⟩ rfl
def Q49:TI Tryz.prog:=tiS (ks:=[4,1]) (ag:=[true,false]) 33 Tryz.isAgg33 Tryz.sizeOf33 Tryz.underlying33 Tryz.zeroValue33 Tryz.typeInfo33 88 rfl ⟨Tryz.sizeOf29,Tryz.sizeOf3,trivial⟩ ⟨Tryz.isAgg29,Tryz.isAgg3,trivial⟩ rfl
def Q5a:TI Tryz.prog:=Ng 34 Tryz.isAgg34 Tryz.sizeOf34 Tryz.underlying34 Tryz.zeroValue34 Tryz.typeInfo34 24 rfl
def Q5b:TI Tryz.prog:=Ng 35 Tryz.isAgg35 Tryz.sizeOf35 Tryz.underlying35 Tryz.zeroValue35 Tryz.typeInfo35 8 rfl
def Q5c:TI Tryz.prog:=Ng 36 Tryz.isAgg36 Tryz.sizeOf36 Tryz.underlying36 Tryz.zeroValue36 Tryz.typeInfo36 8 rfl
def Q5d:TI Tryz.prog:=tiS (ks:=[2,2]) (ag:=[true,true]) 40 Tryz.isAgg40 Tryz.sizeOf40 Tryz.underlying40 Tryz.zeroValue40 Tryz.typeInfo40 64 rfl ⟨Tryz.sizeOf27,Tryz.sizeOf27,trivial⟩ ⟨Tryz.isAgg27,Tryz.isAgg27,trivial⟩ rfl
def Q5e:TI Tryz.prog:=Ng 42 Tryz.isAgg42 Tryz.sizeOf42 Tryz.underlying42 Tryz.zeroValue42 Tryz.typeInfo42 24 rfl
def Q5f:TI Tryz.prog:=Ng 48 Tryz.isAgg48 Tryz.sizeOf48 Tryz.underlying48 Tryz.zeroValue48 Tryz.typeInfo48 24 rfl
def Q5g:TI Tryz.prog:=tiS (ks:=[1,1]) (ag:=[false,false]) 50 Tryz.isAgg50 Tryz.sizeOf50 Tryz.underlying50 Tryz.zeroValue50 Tryz.typeInfo50 32 rfl ⟨Tryz.sizeOf48,Tryz.sizeOf4,trivial⟩ ⟨Tryz.isAgg48,Tryz.isAgg4,trivial⟩ rfl
def Q5h:TI Tryz.prog:=tiS (ks:=[2,2]) (ag:=[true,true]) 52 Tryz.isAgg52 Tryz.sizeOf52 Tryz.underlying52 Tryz.zeroValue52 Tryz.typeInfo52 64 rfl ⟨Tryz.sizeOf50,Tryz.sizeOf50,trivial⟩ ⟨Tryz.isAgg50,Tryz.isAgg50,trivial⟩ rfl
def Q5i:TI Tryz.prog:=tiS (ks:=[1,4,4]) (ag:=[false,true,true]) 64 Tryz.isAgg64 Tryz.sizeOf64 Tryz.underlying64 Tryz.zeroValue64 Tryz.typeInfo64 152 rfl ⟨Tryz.sizeOf24,Tryz.sizeOf40,Tryz.sizeOf40,trivial⟩ ⟨Tryz.isAgg24,Tryz.isAgg40,Tryz.isAgg40,trivial⟩ rfl
def Q5j:TI Tryz.prog:=Ng 65 Tryz.isAgg65 Tryz.sizeOf65 Tryz.underlying65 Tryz.zeroValue65 Tryz.typeInfo65 24 rfl
def Q5k:TI Tryz.prog:=tiS (ks:=[1,9,1,1]) (ag:=[false,true,false,false]) 67 Tryz.isAgg67 Tryz.sizeOf67 Tryz.underlying67 Tryz.zeroValue67 Tryz.typeInfo67 192 rfl ⟨Tryz.sizeOf4,Tryz.sizeOf64,Tryz.sizeOf65,Tryz.sizeOf3,trivial⟩ ⟨Tryz.isAgg4,Tryz.isAgg64,Tryz.isAgg65,Tryz.isAgg3,trivial⟩ rfl
def Q5l:TI Tryz.prog:=tiS (ks:=[1]) (ag:=[false]) 69 Tryz.isAgg69 Tryz.sizeOf69 Tryz.underlying69 Tryz.zeroValue69 Tryz.typeInfo69 24 rfl ⟨Tryz.sizeOf34,trivial⟩ ⟨Tryz.isAgg34,trivial⟩ rfl
def Q5m:TI Tryz.prog:=tiS (ks:=[12,1,1]) (ag:=[true,true,false]) 71 Tryz.isAgg71 Tryz.sizeOf71 Tryz.underlying71 Tryz.zeroValue71 Tryz.typeInfo71 240 rfl ⟨Tryz.sizeOf67,Tryz.sizeOf69,Tryz.sizeOf34,trivial⟩ ⟨Tryz.isAgg67,Tryz.isAgg69,Tryz.isAgg34,trivial⟩ rfl
def Q5n:TI Tryz.prog:=Ng 74 Tryz.isAgg74 Tryz.sizeOf74 Tryz.underlying74 Tryz.zeroValue74 Tryz.typeInfo74 24 rfl
def Q5o:TI Tryz.prog:=Ng 77 Tryz.isAgg77 Tryz.sizeOf77 Tryz.underlying77 Tryz.zeroValue77 Tryz.typeInfo77 24 rfl
def Q5p:TI Tryz.prog:=Ng 79 Tryz.isAgg79 Tryz.sizeOf79 Tryz.underlying79 Tryz.zeroValue79 Tryz.typeInfo79 24 rfl
def Q5q:TI Tryz.prog:=Ng 80 Tryz.isAgg80 Tryz.sizeOf80 Tryz.underlying80 Tryz.zeroValue80 Tryz.typeInfo80 24 rfl
def Q5r:TI Tryz.prog:=tiS (ks:=[1,1,4,4]) (ag:=[false,false,true,true]) 82 Tryz.isAgg82 Tryz.sizeOf82 Tryz.underlying82 Tryz.zeroValue82 Tryz.typeInfo82 176 rfl ⟨Tryz.sizeOf79,Tryz.sizeOf80,Tryz.sizeOf52,Tryz.sizeOf52,trivial⟩ ⟨Tryz.isAgg79,Tryz.isAgg80,Tryz.isAgg52,Tryz.isAgg52,trivial⟩ rfl
def Q5s:TI Tryz.prog:=Ng 83 Tryz.isAgg83 Tryz.sizeOf83 Tryz.underlying83 Tryz.zeroValue83 Tryz.typeInfo83 24 rfl
def Q5t:TI Tryz.prog:=Ng 84 Tryz.isAgg84 Tryz.sizeOf84 Tryz.underlying84 Tryz.zeroValue84 Tryz.typeInfo84 24 rfl
def Q5u:TI Tryz.prog:=tiS (ks:=[10,1,1,1]) (ag:=[true,false,false,false]) 86 Tryz.isAgg86 Tryz.sizeOf86 Tryz.underlying86 Tryz.zeroValue86 Tryz.typeInfo86 232 rfl ⟨Tryz.sizeOf82,Tryz.sizeOf83,Tryz.sizeOf3,Tryz.sizeOf84,trivial⟩ ⟨Tryz.isAgg82,Tryz.isAgg83,Tryz.isAgg3,Tryz.isAgg84,trivial⟩ rfl
def Q5v:TI Tryz.prog:=tiS (ks:=[1,4,13]) (ag:=[false,true,true]) 88 Tryz.isAgg88 Tryz.sizeOf88 Tryz.underlying88 Tryz.zeroValue88 Tryz.typeInfo88 320 rfl ⟨Tryz.sizeOf77,Tryz.sizeOf52,Tryz.sizeOf86,trivial⟩ ⟨Tryz.isAgg77,Tryz.isAgg52,Tryz.isAgg86,trivial⟩ rfl
def Q5w:TI Tryz.prog:=tiS (ks:=[1,1,4]) (ag:=[false,false,true]) 90 Tryz.isAgg90 Tryz.sizeOf90 Tryz.underlying90 Tryz.zeroValue90 Tryz.typeInfo90 128 rfl ⟨Tryz.sizeOf79,Tryz.sizeOf79,Tryz.sizeOf29,trivial⟩ ⟨Tryz.isAgg79,Tryz.isAgg79,Tryz.isAgg29,trivial⟩ rfl
def Q5x:TI Tryz.prog:=tiS (ks:=[6,1]) (ag:=[true,false]) 92 Tryz.isAgg92 Tryz.sizeOf92 Tryz.underlying92 Tryz.zeroValue92 Tryz.typeInfo92 136 rfl ⟨Tryz.sizeOf90,Tryz.sizeOf3,trivial⟩ ⟨Tryz.isAgg90,Tryz.isAgg3,trivial⟩ rfl
set_option maxRecDepth 20000 in
theorem Qp9 (d:Nat) (x0 x1 x2 x3 y0 y1 y2 y3:Int) (w:World):(Op.equalIn (d+1+1) 118 (.agg #[.int .i64 x0,.int .i64 x1,.int .i64 x2,.int .i64 x3]) (.agg #[.int .i64 y0,.int .i64 y1,.int .i64 y2,.int .i64 y3])).run Tryz.prog w=.ok (decide ([x0,x1,x2,x3]=[y0,y1,y2,y3])) w:=by
  rw [run_equalIn_array w (d+1) _ _ (n:=4) (e:=3) rfl rfl]
  rw [show List.range 4=[0,1,2,3] from rfl,show Tryz.prog.cellsOf 3=1 from rfl]
  simp [Op.eqItems,Go.part,Tryz.isAgg3,Qx3]
  by_cases h0:x0=y0 <;> by_cases h1:x1=y1 <;> by_cases h2:x2=y2 <;> by_cases h3:x3=y3 <;> simp [h0,h1,h2,h3]
def Q24:TI Tryz.prog:=tiA 118 Tryz.isAgg118 Tryz.sizeOf118 Tryz.underlying118 Tryz.zeroValue118 Tryz.typeInfo118 32 rfl Tryz.sizeOf3
set_option maxRecDepth 20000 in
theorem Qqa (d:Nat) (x x0 x1 x2 x3 y y0 y1 y2 y3:Int) (w:World):(Op.equalIn (d+1+1+1) 120 (.agg #[.int .i64 x,.int .i64 x0,.int .i64 x1,.int .i64 x2,.int .i64 x3]) (.agg #[.int .i64 y,.int .i64 y0,.int .i64 y1,.int .i64 y2,.int .i64 y3])).run Tryz.prog w=.ok (decide ([x,x0,x1,x2,x3]=[y,y0,y1,y2,y3])) w:=by
  rw [run_equalIn_struct w (d+1+1) 120 _ _ rfl Tryz.stoodInHeld120]
  have hf:(Tryz.prog.fieldsOf 120).toList=[{ name := "Kind",type:=3,offset:=0,embedded:=false,tag := "",pkgPath := "",byteOffset:=0 },{ name := "Ids",type:=118,offset:=1,embedded:=false,tag := "",pkgPath := "",byteOffset:=8 }]:=by simp [Program.fieldsOf,Tryz.underlying120]
  rw [hf]
  simp [Op.eqFields,Go.part,Tryz.isAgg3,Tryz.isAgg118,Tryz.sizeOf118,Tryz.sizeOf3,Qx3,Qp9]
  by_cases h:x=y <;> by_cases h0:x0=y0 <;> by_cases h1:x1=y1 <;> by_cases h2:x2=y2 <;> by_cases h3:x3=y3 <;> simp [h,h0,h1,h2,h3]
theorem Qvh (a b:List Int) (ha:a.length=5) (hb:b.length=5) (w:World):(Op.equal 120 (.agg (a.map (Value.int .i64)).toArray) (.agg (b.map (Value.int .i64)).toArray)).run Tryz.prog w=.ok (decide (a=b)) w:=by
  match a,ha,b,hb with
  | [x,x0,x1,x2,x3],_,[y,y0,y1,y2,y3],_=>exact Qqa 9997 x x0 x1 x2 x3 y y0 y1 y2 y3 w
def Q25:TI Tryz.prog:={ tiS (ks:=[1,4]) (ag:=[false,true]) 120 Tryz.isAgg120 Tryz.sizeOf120 Tryz.underlying120 Tryz.zeroValue120 Tryz.typeInfo120 40 rfl ⟨Tryz.sizeOf3,Tryz.sizeOf118,trivial⟩ ⟨Tryz.isAgg3,Tryz.isAgg118,trivial⟩ rfl with eqn:=some 5,heq:=fun k h=>by injection h with h; subst h; exact ⟨Tryz.eqGuardType120,Qvh⟩ }
def Q26:TI Tryz.prog:=tiS (ks:=[5,1,1]) (ag:=[true,false,false]) 122 Tryz.isAgg122 Tryz.sizeOf122 Tryz.underlying122 Tryz.zeroValue122 Tryz.typeInfo122 72 rfl ⟨Tryz.sizeOf120,Tryz.sizeOf24,Tryz.sizeOf3,trivial⟩ ⟨Tryz.isAgg120,Tryz.isAgg24,Tryz.isAgg3,trivial⟩ rfl
def Q27:TI Tryz.prog:=tiS (ks:=[7,1,1,9]) (ag:=[true,false,false,true]) 125 Tryz.isAgg125 Tryz.sizeOf125 Tryz.underlying125 Tryz.zeroValue125 Tryz.typeInfo125 232 rfl ⟨Tryz.sizeOf122,Tryz.sizeOf4,Tryz.sizeOf4,Tryz.sizeOf64,trivial⟩ ⟨Tryz.isAgg122,Tryz.isAgg4,Tryz.isAgg4,Tryz.isAgg64,trivial⟩ rfl
def Q28:TI Tryz.prog:=Ng 140 Tryz.isAgg140 Tryz.sizeOf140 Tryz.underlying140 Tryz.zeroValue140 Tryz.typeInfo140 8 rfl
def Q29:TI Tryz.prog:=Ng 143 Tryz.isAgg143 Tryz.sizeOf143 Tryz.underlying143 Tryz.zeroValue143 Tryz.typeInfo143 4 rfl
def Q3a:TI Tryz.prog:=Ng 144 Tryz.isAgg144 Tryz.sizeOf144 Tryz.underlying144 Tryz.zeroValue144 Tryz.typeInfo144 8 rfl
def Q3b:TI Tryz.prog:=Ng 158 Tryz.isAgg158 Tryz.sizeOf158 Tryz.underlying158 Tryz.zeroValue158 Tryz.typeInfo158 24 rfl
def Q3c:TI Tryz.prog:=Ng 200 Tryz.isAgg200 Tryz.sizeOf200 Tryz.underlying200 Tryz.zeroValue200 Tryz.typeInfo200 24 rfl
def Q3d:TI Tryz.prog:=tiS (ks:=[5,1,1,1,1]) (ag:=[true,false,false,false,false]) 213 Tryz.isAgg213 Tryz.sizeOf213 Tryz.underlying213 Tryz.zeroValue213 Tryz.typeInfo213 104 rfl ⟨Tryz.sizeOf120,Tryz.sizeOf79,Tryz.sizeOf3,Tryz.sizeOf84,Tryz.sizeOf4,trivial⟩ ⟨Tryz.isAgg120,Tryz.isAgg79,Tryz.isAgg3,Tryz.isAgg84,Tryz.isAgg4,trivial⟩ rfl
def Q3e:TI Tryz.prog:=Ng 227 Tryz.isAgg227 Tryz.sizeOf227 Tryz.underlying227 Tryz.zeroValue227 Tryz.typeInfo227 24 rfl
def Q3f:TI Tryz.prog:=Ng 251 Tryz.isAgg251 Tryz.sizeOf251 Tryz.underlying251 Tryz.zeroValue251 Tryz.typeInfo251 24 rfl
def Q3g:TI Tryz.prog:=Ng 268 Tryz.isAgg268 Tryz.sizeOf268 Tryz.underlying268 Tryz.zeroValue268 Tryz.typeInfo268 24 rfl
def Q3h:TI Tryz.prog:=tiA 271 Tryz.isAgg271 Tryz.sizeOf271 Tryz.underlying271 Tryz.zeroValue271 Tryz.typeInfo271 272 rfl Tryz.sizeOf92
def Q3i:TI Tryz.prog:=tiS (ks:=[1]) (ag:=[false]) 282 Tryz.isAgg282 Tryz.sizeOf282 Tryz.underlying282 Tryz.zeroValue282 Tryz.typeInfo282 24 rfl ⟨Tryz.sizeOf227,trivial⟩ ⟨Tryz.isAgg227,trivial⟩ rfl
def Q3j:TI Tryz.prog:=Ng 306 Tryz.isAgg306 Tryz.sizeOf306 Tryz.underlying306 Tryz.zeroValue306 Tryz.typeInfo306 24 rfl
def Q3k:TI Tryz.prog:=Ng 307 Tryz.isAgg307 Tryz.sizeOf307 Tryz.underlying307 Tryz.zeroValue307 Tryz.typeInfo307 24 rfl
def tt:TT Tryz.prog:=(.nd (.nd (.nd (.nd (.nd (.nd .nil ti3 .nil) ti4 (.nd .nil ti5 .nil)) ti9 (.nd (.nd .nil Q44 .nil) Q45 .nil)) Q46 (.nd (.nd (.nd .nil Q47 .nil) Q48 .nil) Q49 (.nd (.nd .nil Q5a .nil) Q5b .nil))) Q5c (.nd (.nd (.nd (.nd .nil Q5d .nil) Q5e (.nd .nil Q5f .nil)) Q5g (.nd (.nd .nil Q5h .nil) Q5i .nil)) Q5j (.nd (.nd (.nd .nil Q5k .nil) Q5l .nil) Q5m (.nd (.nd .nil Q5n .nil) Q5o .nil)))) Q5p (.nd (.nd (.nd (.nd (.nd .nil Q5q .nil) Q5r (.nd .nil Q5s .nil)) Q5t (.nd (.nd .nil Q5u .nil) Q5v .nil)) Q5w (.nd (.nd (.nd .nil Q5x .nil) Q24 .nil) Q25 (.nd (.nd .nil Q26 .nil) Q27 .nil))) Q28 (.nd (.nd (.nd (.nd .nil Q29 .nil) Q3a (.nd .nil Q3b .nil)) Q3c (.nd (.nd .nil Q3d .nil) Q3e .nil)) Q3f (.nd (.nd (.nd .nil Q3g .nil) Q3h .nil) Q3i (.nd (.nd .nil Q3j .nil) Q3k .nil)))))
instance:Mo Tryz.prog:=⟨rfl⟩
end Orr

namespace Orr
open Go Go.Proofs
set_option maxRecDepth 10000
def lm (l:List Nat):List (List LV):=l.map fun (x:Nat)=>[.int .u32 (x:Int)]
abbrev lr (l:List Nat):TV:=.one (.row (lm l))
theorem Qd (l:List Nat):(lm l).length=l.length:=by simp [lm]
theorem Zf {l:List Nat} {i x:Nat} (h:l[i]? = some x):(lm l)[i]? = some [.int .u32 (x:Int)]:=by simp [lm,h]
def trm:List Nat→List Nat
  | []=>[]
  |
   x::l=>match trm l with
   | []=>if x=0 then [] else [x]
   | r=>x::r
theorem Qw6 {l:List Nat}:trm l=[]↔∀ x∈l,x=0:=by
  induction l with
  | nil=>simp [trm]
  |
   cons x l ih =>
   simp only [trm]
   split
   · rename_i e
     have h1:=ih.1 e
     by_cases h:x=0
     · simp [h]; exact h1
     · simp [h]
   · rename_i r hne
     simp only [reduceCtorEq,List.mem_cons,forall_eq_or_imp,false_iff,not_and]
     exact fun _ h=>hne (ih.2 h)
theorem Nh:∀ {l:List Nat} {n:Nat},n≤l.length→(∀ j,n≤j→j<l.length→l[j]? = some 0)→(n=0∨∃ x,l[n-1]? = some x∧x≠0)→l.take n=trm l
  | [],n,h,_,_=>by simp at h; subst h; rfl
  |
   x::l,0,h,hz,_=>by
   rw [List.take_zero]
   refine (Qw6.2 fun y hy=>?_).symm
   obtain ⟨j,hj⟩:=List.mem_iff_getElem?.1 hy
   have:=hz j (Nat.zero_le _) (List.getElem?_eq_some_iff.1 hj).1
   rw [hj] at this; injection this
  |
   x::l,n+1,h,hz,ht=>by
   simp only [List.length_cons,Nat.add_le_add_iff_right] at h
   have hz':∀ j,n≤j→j<l.length→l[j]? = some 0:=fun j h1 h2=>by simpa using hz (j+1) (by omega) (by simpa using h2)
   cases n with
   |
    zero =>
    have e:trm l=[]:=(Nh (n:=0) h hz' (.inl rfl)).symm
    rcases ht with h | ⟨y,h1,h2⟩
    · omega
    · simp at h1; subst h1; simp [trm,e,h2]
   |
    succ n =>
    have ih:=Nh (n:=n+1) h hz' (.inr (by rcases ht with h | ⟨y,h1,h2⟩; (· omega); exact ⟨y,by simpa using h1,h2⟩))
    simp only [List.take_succ_cons,trm]
    rw [←ih]
    cases hl:l with
    | nil=>rw [hl] at h; simp at h
    | cons y l'=>simp [List.take_succ_cons]
theorem Q23 (l:List Nat):Qf Tryz.prog 104 [lr l] [lr (trm l)]:=by
  refine Jb Tryz.func104 rfl (ln 0 rfl rfl fun hl=>?_)
  rw [Qd] at hl
  refine go tt [] rfl trivial ?_
  refine lp (S:=Nat) 0 (fun L1 n=>(3,.v (.one (.int .i64 (n:Int))))::L1) (fun _=>[]) id (fun n=>n≤l.length∧∀ j,n≤j→j<l.length→l[j]? = some 0) (lm l).length ⟨by rw [Qd]; exact Nat.le_refl _,fun j h1 h2=>by rw [Qd] at h1; omega⟩ rfl (fun _ _=>rfl) rfl fun n ⟨h1,h2⟩=>?_
  cases n with
  | zero=>exact en tt [.f (by simp),.f rfl,.i 0] rfl (by rw [←Nh h1 h2 (.inl rfl)]; simp [lm]) (by simp [Qa,Zw])
  |
   succ n =>
   obtain ⟨x,hx⟩:∃ x,l[n]? = some x:=⟨_,List.getElem?_eq_getElem (by omega)⟩
   by_cases h0:x=0
   · refine go tt [.t (by simp),.r 11 (v:=.one (.int .i64 (n:Int))) (by simp),.x (Zf hx),.t (by simp [h0]),.r 17 (v:=.one (.int .i64 (n:Int))) (by simp)] rfl (by simp [Qa,Zw]; omega) ?_
     exact rd n (by simp) ⟨by omega,fun j h3 h4=>by
         rcases Nat.eq_or_lt_of_le h3 with rfl | h3
         · rw [hx,h0]
         · exact h2 j h3 h4⟩ rfl
   · exact en tt [.t (by simp),.r 11 (v:=.one (.int .i64 (n:Int))) (by simp),.x (Zf hx),.f (by simp [h0]),.i (n+1)] rfl (by rw [←Nh h1 h2 (.inr ⟨x,hx,h0⟩)]; simp [lm]) (by simp [Qa,Zw,Qd] <;> omega)
def Sm (l:List Nat):Prop:=∀ x∈l,x<4294967296
theorem Qcr:∀ l:List Nat,Cut l (trm l).length∧l.take (trm l).length=trm l
  | []=>⟨⟨Nat.le_refl _,fun j _ h=>by simp at h,fun h=>by simp [trm] at h⟩,rfl⟩
  |
   x::l=>by
   obtain ⟨⟨h1,h2,h3⟩,h4⟩:=Qcr l
   simp only [trm]
   split
   · rename_i e
     rw [e] at h2 h3
     by_cases h:x=0
     · rw [if_pos h]
       refine ⟨⟨Nat.zero_le _,fun j _ hj=>?_,fun h=>by simp at h⟩,rfl⟩
       cases j with
       | zero=>simp [h]
       | succ j=>simpa using h2 j (Nat.zero_le _) (by simpa using hj)
     · rw [if_neg h]
       refine ⟨⟨by simp,fun j h5 hj=>?_,fun _=>⟨x,rfl,h⟩⟩,rfl⟩
       cases j with
       | zero=>simp at h5
       | succ j=>simpa using h2 j (Nat.zero_le _) (by simpa using hj)
   · rename_i r hne
     refine ⟨⟨by simp [h1],fun j h5 hj=>?_,fun _=>?_⟩,by simp [h4]⟩
     · cases j with
       | zero=>simp at h5
       | succ j=>simpa using h2 j (by simpa using h5) (by simpa using hj)
     · have hp:0<(trm l).length:=by
         cases e:trm l with
         | nil=>exact absurd e hne
         | cons=>simp
       obtain ⟨y,h5,h6⟩:=h3 hp
       refine ⟨y,?_,h6⟩
       rw [List.length_cons,show (trm l).length+1-1=((trm l).length-1)+1 from by omega]
       simpa using h5
theorem Qan {l:List Nat} (h:Sm l):trm l=Qw (val l):=by
  obtain ⟨h1,h2⟩:=Qcr l
  refine Qre ?_ ?_
  · rw [←h2]; exact Qvb h1 h
  · rw [←h2]; exact Qvc h1
theorem K7 (x:Nat):Sm (Qw x):=(W7 x).1
theorem X1 {x k:Nat} (h:sz x≤k):32*(Qw x).length≤k+31:=by
  have:=Qv7 (W7 x)
  rw [Zk] at this; omega
theorem Sr {l:List Nat} (h:Sm l):Qf Tryz.prog 104 [lr l] [lr (Qw (val l))]:=Qan h ▸ Q23 l
theorem Qrf (l:List Nat):∀ c∈lm l,c.length=1:=fun c hc=>by
  obtain ⟨x,_,rfl⟩:=List.mem_map.1 hc; rfl
theorem S5 {l:List Nat} (h:Sm l) (hs:sz (val l)≤4294967296):Qf Tryz.prog 68 [lr l] [lr (Qw (val l))] :=
  w tt Tryz.func68 rfl [.c [] (Sr h),.s (Qrf (Qw (val l)))] rfl rfl (by have:=X1 hs; simp [Qa,Zw,Qd]; omega)
theorem Bb {a:List Nat} (ha:Sm a):∃ p,Qf Tryz.prog 104 [lr a] [lr p]∧Nrm p∧val p=val a∧p.length≤a.length∧p=Qw (val a) :=
  ⟨_,Sr ha,W7 _,Zk _,by rw [←Qan ha]; exact (Qcr a).1.1,rfl⟩
theorem Qoc {a b:List Nat} (ha:Sm a) (hb:Sm b):Qf Tryz.prog 175 [lr a,lr b] [.one (.int .i64 (Nz (val a) (val b)))]:=by
  refine Jb Tryz.func175 rfl (ln 0 rfl rfl fun hl=>ln 1 rfl rfl fun hl'=>?_)
  rw [Qd] at hl hl'
  obtain ⟨p,ca,np,vp,lp',_⟩:=Bb ha
  obtain ⟨q,cb,nq,vq,lq,_⟩:=Bb hb
  rw [←vp,←vq]
  by_cases h:p.length=q.length
  · refine go tt [.c [] ca,.c [] cb,.f (by simp [Qd,h])] rfl (by simp [Qa,Zw,Qd] <;> omega) ?_
    refine lp (S:=Int) 0 (fun L1 i=>(5,.v (.one (.int .i64 i)))::L1) (fun _=>[]) (fun i=>(i+1).toNat) (fun i=>-1≤i∧i<p.length∧p.drop (i+1).toNat=q.drop (i+1).toNat) (((lm p).length:Int)-1) ⟨by omega,by simp [Qd]; omega,by simp [Qd,h]⟩ rfl (fun _ _=>rfl) rfl fun i ⟨h1,h2,h3⟩=>?_
    rcases Int.lt_or_le i 0 with hi | hi
    · obtain rfl:i=-1:=by omega
      exact en tt [.f (by decide)] rfl (by rw [Qu5]; exact congrArg val (by simpa using h3)) trivial
    · obtain ⟨k,rfl⟩:=Int.eq_ofNat_of_zero_le hi
      have e:((k:Int)+1).toNat=k+1:=by omega
      rw [e] at h3
      obtain ⟨x,hx⟩:∃ x,p[k]? = some x:=⟨_,List.getElem?_eq_getElem (by omega)⟩
      obtain ⟨y,hy⟩:∃ y,q[k]? = some y:=⟨_,List.getElem?_eq_getElem (by omega)⟩
      rcases Nat.lt_trichotomy x y with hxy | rfl | hxy
      · exact en tt [.t (by simp),.x (Zf hx),.x (Zf hy),.t (by simp; omega)] rfl (by rw [Qjx (Ql8 np.1 h3 hx hy hxy)]) (by simp [Qa,Zw,Qd] <;> omega)
      · refine go tt [.t (by simp),.x (Zf hx),.x (Zf hy),.f (by simp),.x (Zf hx),.x (Zf hy),.f (by simp)] rfl (by simp [Qa,Zw,Qd] <;> omega) ?_
        exact rd ((k:Int)-1) (by omega) ⟨by omega,by omega,by rw [show ((k:Int)-1+1).toNat=k from by omega]; exact Qmw h3 hx hy⟩ rfl
      · exact en tt [.t (by simp),.x (Zf hx),.x (Zf hy),.f (by simp; omega),.x (Zf hx),.x (Zf hy),.t (by simp; omega)] rfl (by rw [Qjw (Ql8 nq.1 h3.symm hy hx hxy)]) (by simp [Qa,Zw,Qd] <;> omega)
  · by_cases h2:p.length<q.length
    · exact en tt [.c [] ca,.c [] cb,.t (by simp [Qd]; omega),.t (by simp [Qd]; omega)] rfl (by rw [Qjx (Kq np nq h2)]) (by simp [Qa,Zw])
    · exact en tt [.c [] ca,.c [] cb,.t (by simp [Qd]; omega),.f (by simp [Qd]; omega)] rfl (by rw [Qjw (Kq nq np (by omega))]) (by simp [Qa,Zw])
end Orr

namespace Orr
open Go Go.Proofs
set_option maxRecDepth 10000
theorem Pu (m:Nat):List.replicate m [LV.int .u32 0]=lm (List.replicate m 0):=by simp [lm]
theorem Vm (l:List Nat) (i x:Nat):(lm l).set i [.int .u32 (x:Int)]=lm (l.set i x):=by simp [lm,List.map_set]
theorem Kl {a b:Int} (h:a=b):TV.one (LV.int .u64 a)=.one (.int .u64 b):=h ▸ rfl
theorem Ui {a b:Int} (h:a=b):TV.one (LV.int .u32 a)=.one (.int .u32 b):=h ▸ rfl
theorem eI {a b:Int} (h:a=b):TV.one (LV.int .i64 a)=.one (.int .i64 b):=h ▸ rfl
theorem w32 (z:Int):IntKind.u32.wrap z=z % 4294967296:=by simp [IntKind.wrap,IntKind.bits,IntKind.signed]
theorem w64 (z:Int):IntKind.u64.wrap z=z % 18446744073709551616:=by simp [IntKind.wrap,IntKind.bits,IntKind.signed]
theorem Qxo {a b:List Nat} (ha:Sm a) (hb:Sm b) (h1:sz (val a)≤4294967296) (h2:sz (val b)≤4294967296):Qf Tryz.prog 148 [lr a,lr b] [lr (Qw (val a+val b))]:=by
  refine Jb Tryz.func148 rfl ?_
  obtain ⟨p,ca,np,vp,_,ep⟩:=Bb ha
  obtain ⟨q,cb,nq,vq,_,eq⟩:=Bb hb
  have lp':=X1 h1
  have lq:=X1 h2
  rw [←ep] at lp'
  rw [←eq] at lq
  rw [←vp,←vq]
  refine go tt [.c [] ca,.c [] cb] rfl trivial ?_
  refine ct 1 (S:=List Nat×List Nat) (fun s=>[(0,.v (lr s.1)),(1,.v (lr s.2))]) (fun _=>[]) (fun s=>Nrm s.1∧Nrm s.2∧32*s.1.length≤4294967327∧s.2.length≤s.1.length∧val s.1+val s.2=val p+val q) rfl ?_ ?_
  · by_cases h:p.length<q.length
    · exact go tt [.t (by simp [Qd]; omega)] rfl trivial (rc (q,p) ⟨nq,np,lq,Nat.le_of_lt h,Nat.add_comm _ _⟩ rfl)
    · exact go tt [.f (by simp [Qd]; omega)] rfl trivial (rc (p,q) ⟨np,nq,lp',Nat.le_of_not_lt h,rfl⟩ rfl)
  · intro ⟨p',q'⟩ ⟨np,nq,hp,hq,e⟩
    dsimp only at np nq hp hq e
    rw [←e]
    clear ca cb e vp vq ep eq
    refine go tt [.i ((lm p').length+1),.i ((lm p').length+1)] rfl (by simp [Qa,Zw,Qd] <;> omega) ?_
    rw [Pu]
    refine lp (S:=Nat×List Nat×Nat) 1 (fun L1 s=>(27,.v (.one (.int .i64 (s.1:Int))))::(6,.v (.one (.int .u64 (s.2.2:Int))))::L1) (fun s=>[.row false 143 1 (lm s.2.1)]) (fun s=>p'.length-s.1)
      (fun s=>s.1≤p'.length∧s.2.1.length=p'.length+1∧Sm s.2.1∧s.2.2≤1∧val (s.2.1.take s.1)+s.2.2*4294967296^s.1=val (p'.take s.1)+val (q'.take s.1)) (0,List.replicate ((lm p').length+1) 0,0)
      ⟨Nat.zero_le _,by simp [Qd],fun x hx=>by rw [List.eq_of_mem_replicate hx]; decide,Nat.zero_le _,by simp [val]⟩ rfl (fun _ _=>rfl) rfl fun ⟨i,o,c⟩ ⟨j1,j2,j3,j4,j5⟩=>?_
    dsimp only at j1 j2 j3 j4 j5 ⊢
    by_cases hi:i<p'.length
    · obtain ⟨x,hx⟩:∃ x,p'[i]? = some x:=⟨_,List.getElem?_eq_getElem hi⟩
      have xb:=np.1 x (List.mem_of_getElem? hx)
      have fin:∀ y s,(q'[i]? = some y∨q'.length≤i∧y=0)→y<4294967296→s=x+c+y→p'.length-(i+1)<p'.length-i∧i+1≤p'.length∧(o.set i (s % 4294967296)).length=p'.length+1∧Sm (o.set i (s % 4294967296))∧s / 4294967296≤1 ∧
          val ((o.set i (s % 4294967296)).take (i+1))+s / 4294967296*4294967296^(i+1)=val (p'.take (i+1))+val (q'.take (i+1)):=fun y s hy hyb hs =>
        ⟨by omega,hi,by simp [j2],Y6 j3 i _ (by omega),by omega,Qc7 (by omega) hx hy j5 hs⟩
      by_cases hi2:i<q'.length
      · obtain ⟨y,hy⟩:∃ y,q'[i]? = some y:=⟨_,List.getElem?_eq_getElem hi2⟩
        have yb:=nq.1 y (List.mem_of_getElem? hy)
        refine go tt [.t (by simp [Qd]; omega),.x (Zf hx),.t (by simp [Qd]; omega),.x (Zf hy),.w 2,.r 50 (v:=.one (.int .u32 (((x+c+y) % 4294967296:Nat):Int))) (by simp [IntKind.wrap,IntKind.bits,IntKind.signed]),.i 32,.r 52 (v:=.one (.int .u64 (((x+c+y) / 4294967296:Nat):Int))) (by simp),.i i] rfl (by simp [Qa,Zw,Qd,IntKind.bits] <;> omega) ?_
        rw [Vm]
        exact rd (i+1,o.set i ((x+c+y) % 4294967296),(x+c+y) / 4294967296) (fin y _ (.inl hy) yb rfl).1 (fin y _ (.inl hy) yb rfl).2 rfl
      · refine go tt [.t (by simp [Qd]; omega),.x (Zf hx),.f (by simp [Qd]; omega),.w 0,.r 50 (v:=.one (.int .u32 (((x+c+0) % 4294967296:Nat):Int))) (by simp [IntKind.wrap,IntKind.bits,IntKind.signed]),.i 32,.r 52 (v:=.one (.int .u64 (((x+c+0) / 4294967296:Nat):Int))) (by simp),.i i] rfl (by simp [Qa,Zw,Qd,IntKind.bits] <;> omega) ?_
        rw [Vm]
        exact rd (i+1,o.set i ((x+c+0) % 4294967296),(x+c+0) / 4294967296) (fin 0 _ (.inr ⟨by omega,rfl⟩) (by decide) rfl).1 (fin 0 _ (.inr ⟨by omega,rfl⟩) (by decide) rfl).2 rfl
    · obtain rfl:i=p'.length:=by omega
      refine go tt [.f (by simp [Qd]),.w 0,.r 59 (v:=.one (.int .u32 (c:Int))) (by simp [IntKind.wrap,IntKind.bits,IntKind.signed]; omega),.i (lm p').length] rfl (by simp [Qa,Zw,Qd,j2]) ?_
      rw [Qd,Vm]
      have e:val (o.set p'.length c)=val p'+val q':=by
        have h1:=Hk o p'.length c (by omega)
        rw [List.take_of_length_le (by simp; omega)] at h1
        rw [List.take_of_length_le (Nat.le_refl _),List.take_of_length_le hq] at j5
        rw [h1,←j5,Nat.mul_comm]
      rw [←e]
      exact en tt [.c [] (Sr (Y6 j3 _ c (by omega)))] rfl rfl trivial
theorem Qdl {x y:Nat}:Nz x y<0↔x<y:=by unfold Nz; split <;> (try split) <;> omega
theorem Qxr {a b:List Nat} (ha:Sm a) (hb:Sm b) (h1:sz (val a)≤4294967296):Qf Tryz.prog 149 [lr a,lr b] (if val b≤val a then [lr (Qw (val a-val b)),.one (.bool true)] else [lr [],.one (.bool false)]):=by
  refine Jb Tryz.func149 rfl ?_
  obtain ⟨p,ca,np,vp,_,ep⟩:=Bb ha
  obtain ⟨q,cb,nq,vq,_,_⟩:=Bb hb
  have hp:=X1 h1
  rw [←ep] at hp
  rw [←vp,←vq]
  have cc:=Qoc np.1 nq.1
  by_cases hlt:val p<val q
  · rw [if_neg (by omega)]
    exact en tt [.c [] ca,.c [] cb,.c [] cc,.t (by simpa using Qdl.2 hlt)] rfl rfl trivial
  rw [if_pos (by omega)]
  have hq:q.length≤p.length:=Nat.le_of_not_lt fun h=>hlt (Kq np nq h)
  refine go tt [.c [] ca,.c [] cb,.c [] cc,.f (by have:=mt Qdl.1 hlt; simpa using this),.i (lm p).length,.i (lm p).length] rfl (by simp [Qa,Zw,Qd] <;> omega) ?_
  rw [Pu]
  refine lp (S:=Nat×List Nat×Nat) 1 (fun L1 s=>(24,.v (.one (.int .i64 (s.1:Int))))::(7,.v (.one (.int .u64 (s.2.2:Int))))::L1) (fun s=>[.row false 143 1 (lm s.2.1)]) (fun s=>p.length-s.1)
    (fun s=>s.1≤p.length∧s.2.1.length=p.length∧Sm s.2.1∧s.2.2≤1∧val (s.2.1.take s.1)+val (q.take s.1)=val (p.take s.1)+s.2.2*4294967296^s.1) (0,List.replicate (lm p).length 0,0)
    ⟨Nat.zero_le _,by simp [Qd],fun x hx=>by rw [List.eq_of_mem_replicate hx]; decide,Nat.zero_le _,by simp [val]⟩ rfl (fun _ _=>rfl) rfl fun ⟨i,o,c⟩ ⟨j1,j2,j3,j4,j5⟩=>?_
  dsimp only at j1 j2 j3 j4 j5 ⊢
  by_cases hi:i<p.length
  · obtain ⟨x,hx⟩:∃ x,p[i]? = some x:=⟨_,List.getElem?_eq_getElem hi⟩
    have xb:=np.1 x (List.mem_of_getElem? hx)
    have fin:∀ y s,(q[i]? = some y∨q.length≤i∧y=0)→y<4294967296→s=(x+18446744073709551616-c-y) % 18446744073709551616→p.length-(i+1)<p.length-i∧i+1≤p.length∧(o.set i (s % 4294967296)).length=p.length∧Sm (o.set i (s % 4294967296))∧s / 9223372036854775808≤1 ∧
        val ((o.set i (s % 4294967296)).take (i+1))+val (q.take (i+1))=val (p.take (i+1))+s / 9223372036854775808*4294967296^(i+1):=fun y s hy hyb hs=>by
      obtain ⟨h1,h2⟩:=Qtf (o:=o) (by omega) hx hy xb hyb j4 j5 hs
      exact ⟨by omega,hi,by simp [j2],Y6 j3 i _ (by omega),h2,h1⟩
    by_cases hi2:i<q.length
    · obtain ⟨y,hy⟩:∃ y,q[i]? = some y:=⟨_,List.getElem?_eq_getElem hi2⟩
      have yb:=nq.1 y (List.mem_of_getElem? hy)
      obtain ⟨s,hs⟩:∃ s,s=(x+18446744073709551616-c-y) % 18446744073709551616:=⟨_,rfl⟩
      refine go tt [.t (by simp [Qd]; omega),.x (Zf hx),.w 1,.r 32 (Kl (b:=(((x+18446744073709551616-c) % 18446744073709551616:Nat):Int)) (by rw [w64]; omega)),.t (by simp [Qd]; omega),.x (Zf hy),.w 1,.r 43 (Kl (b:=(s:Int)) (by rw [w64]; omega)),.w 0,.r 47 (Ui (b:=((s % 4294967296:Nat):Int)) (by rw [w32]; omega)),.i 63,.r 49 (Kl (b:=((s / 9223372036854775808:Nat):Int)) (by simp)),.i i] rfl (by simp [Qa,Zw,Qd,IntKind.bits] <;> omega) ?_
      rw [Vm]
      exact rd (i+1,o.set i (s % 4294967296),s / 9223372036854775808) (fin y _ (.inl hy) yb hs).1 (fin y _ (.inl hy) yb hs).2 rfl
    · obtain ⟨s,hs⟩:∃ s,s=(x+18446744073709551616-c-0) % 18446744073709551616:=⟨_,rfl⟩
      have hf:=fin 0 _ (.inr ⟨by omega,rfl⟩) (by decide) hs
      refine go tt [.t (by simp [Qd]; omega),.x (Zf hx),.w 1,.r 32 (Kl (b:=(s:Int)) (by rw [w64]; omega)),.f (by simp [Qd]; omega),.w 0,.r 47 (Ui (b:=((s % 4294967296:Nat):Int)) (by rw [w32]; omega)),.i 63,.r 49 (Kl (b:=((s / 9223372036854775808:Nat):Int)) (by simp)),.i i] rfl (by simp [Qa,Zw,Qd,IntKind.bits] <;> omega) ?_
      rw [Vm]
      exact rd (i+1,o.set i (s % 4294967296),s / 9223372036854775808) hf.1 hf.2 rfl
  · obtain rfl:i=p.length:=by omega
    have e:val o=val p-val q:=by
      rw [List.take_of_length_le (Nat.le_of_eq j2),List.take_of_length_le hq,List.take_of_length_le (Nat.le_refl _)] at j5
      have h1:=Wg o j3
      rw [j2] at h1
      rcases Nat.le_one_iff_eq_zero_or_eq_one.1 j4 with rfl | rfl <;> omega
    rw [←e]
    exact en tt [.f (by simp [Qd]),.c [] (Sr j3)] rfl rfl trivial
theorem Q1t {a b:List Nat} (ha:Sm a) (hb:Sm b) (h1:sz (val a)≤4294967296) (h2:sz (val b)≤4294967296):Qf Tryz.prog 210 [lr a,lr b] [lr (Qw (val a*val b))]:=by
  refine Jb Tryz.func210 rfl ?_
  obtain ⟨p,ca,np,vp,_,ep⟩:=Bb ha
  obtain ⟨q,cb,nq,vq,_,eq⟩:=Bb hb
  have hp:=X1 h1
  have hq:=X1 h2
  rw [←ep] at hp
  rw [←eq] at hq
  rw [←vp,←vq]
  refine go tt [.c [] ca,.c [] cb,.i ((lm p).length+(lm q).length),.i ((lm p).length+(lm q).length)] rfl (by simp [Qa,Zw,Qd] <;> omega) ?_
  rw [Pu]
  refine lp (S:=Nat×List Nat) 1 (fun L1 s=>(24,.v (.one (.int .i64 (s.1:Int))))::L1) (fun s=>[.row false 143 1 (lm s.2)]) (fun s=>p.length-s.1)
    (fun s=>s.1≤p.length∧s.2.length=p.length+q.length∧Sm s.2∧(∀ j,s.1+q.length≤j→j<s.2.length→s.2[j]? = some 0)∧val s.2=val (p.take s.1)*val q) (0,List.replicate ((lm p).length+(lm q).length) 0)
    ⟨Nat.zero_le _,by simp [Qd],fun x hx=>by rw [List.eq_of_mem_replicate hx]; decide,fun j _ hj=>by rw [List.getElem?_replicate,if_pos (by simpa using hj)],by simp [val,Cj]⟩ rfl (fun _ _=>rfl) rfl fun ⟨i,o⟩ ⟨j1,j2,j3,j4,j5⟩=>?_
  dsimp only at j1 j2 j3 j4 j5 ⊢
  by_cases hi:i<p.length
  · obtain ⟨x,hx⟩:∃ x,p[i]? = some x:=⟨_,List.getElem?_eq_getElem hi⟩
    have xb:=np.1 x (List.mem_of_getElem? hx)
    refine go tt [.t (by simp [Qd]; omega),.x (Zf hx)] rfl trivial ?_
    refine lp (S:=Nat×List Nat×Nat) 1 (fun L1 s=>(31,.v (.one (.int .i64 (s.1:Int))))::(8,.v (.one (.int .u64 (s.2.2:Int))))::L1) (fun s=>[.row false 143 1 (lm s.2.1)]) (fun s=>q.length-s.1)
      (fun s=>s.1≤q.length∧s.2.1.length=p.length+q.length∧Sm s.2.1∧(∀ j,i+q.length≤j→j<s.2.1.length→s.2.1[j]? = some 0)∧s.2.2<4294967296∧val s.2.1+s.2.2*4294967296^(i+s.1)=val (p.take i)*val q+4294967296^i*x*val (q.take s.1)) (0,o,0)
      ⟨Nat.zero_le _,j2,j3,j4,by simp,by simp [val,j5]⟩ rfl (fun _ _=>rfl) rfl fun ⟨k,o',c⟩ ⟨k1,k2,k3,k4,k5,k6⟩=>?_
    dsimp only at k1 k2 k3 k4 k5 k6 ⊢
    by_cases hk:k<q.length
    · obtain ⟨y,hy⟩:∃ y,q[k]? = some y:=⟨_,List.getElem?_eq_getElem hk⟩
      have yb:=nq.1 y (List.mem_of_getElem? hy)
      obtain ⟨z,hz⟩:∃ z,o'[i+k]? = some z:=⟨_,List.getElem?_eq_getElem (by omega)⟩
      have zb:=k3 z (List.mem_of_getElem? hz)
      have hm:=Rr xb yb
      have hm2:(x:Int)*(y:Int)=((x*y:Nat):Int):=by push_cast; rfl
      obtain ⟨s,hs⟩:∃ s,s=x*y+z+c:=⟨_,rfl⟩
      refine go tt [.t (by simp [Qd]; omega),.x (Zf hy),.r 40 (Kl (b:=((x*y:Nat):Int)) (by push_cast; rfl)),.i (i+k),.x (Zf hz),.r 50 (Kl (b:=(s:Int)) (by omega)),.w 1,.r 56 (Ui (b:=((s % 4294967296:Nat):Int)) (by rw [w32]; omega)),.i 32,.r 58 (Kl (b:=((s / 4294967296:Nat):Int)) (by simp)),.i (i+k)] rfl ?_ ?_
      · simp [Qa,Zw,Qd,IntKind.bits] <;> omega
      · rw [Vm]
        exact rd (k+1,o'.set (i+k) (s % 4294967296),s / 4294967296) (show q.length-(k+1)<q.length-k by omega) ⟨hk,by simp [k2],Y6 k3 _ _ (by omega),fun j h3 h4=>by
          rw [List.getElem?_set_ne (by omega)]; exact k4 j h3 (by simpa using h4),(show s / 4294967296<4294967296 from by omega),Qrn hz hy k6 hs⟩ rfl
    · obtain rfl:k=q.length:=by omega
      by_cases hq0:0<q.length
      · refine go tt [.f (by simp [Qd]),.t (by simp [Qd]; omega),.w 1,.r 70 (Ui (b:=((c % 4294967296:Nat):Int)) (by rw [w32]; omega)),.i (i+(lm q).length)] rfl (by simp [Qa,Zw,Qd,IntKind.bits] <;> omega) ?_
        rw [Vm]
        refine rd (i+1,o'.set (i+(lm q).length) (c % 4294967296)) (show p.length-(i+1)<p.length-i by omega) ⟨hi,by simp [k2],Y6 k3 _ _ (by omega),fun j h3 h4=>?_,?_⟩ rfl
        · rw [Qd,List.getElem?_set_ne (by dsimp only at h3; omega)]
          exact k4 j (by dsimp only at h3; omega) (by simpa using h4)
        · rw [Qd]
          exact Qrm (k4 _ (Nat.le_refl _) (by omega)) hx k5 rfl k6
      · have q0:q=[]:=List.eq_nil_of_length_eq_zero (by omega)
        refine go tt [.f (by simp [Qd]),.f (by simp [Qd,q0])] rfl (by simp [Qa,Zw,Qd,IntKind.bits] <;> omega) ?_
        refine rd (i+1,o') (show p.length-(i+1)<p.length-i by omega) ⟨hi,k2,k3,fun j h3 h4=>k4 j (by dsimp only at h3; omega) h4,?_⟩ rfl
        have c0:c*4294967296^(i+q.length)=0∧val o'=0:=by
          subst q0
          simp only [val,List.take_nil,Nat.mul_zero] at k6
          omega
        rw [c0.2,q0]; rfl
  · obtain rfl:i=p.length:=by omega
    rw [List.take_of_length_le (Nat.le_refl _)] at j5
    rw [←j5]
    exact en tt [.f (by simp [Qd]),.c [] (Sr j3)] rfl rfl trivial
end Orr

namespace Orr
open Go Go.Proofs
set_option maxRecDepth 10000
theorem o64 {k q:Nat} (hq:q<4294967296) (hb:4294967296*k+q<18446744073709551616):orI .u64 ((4294967296*k:Nat):Int) (q:Int)=((4294967296*k+q:Nat):Int):=by
  have e1:(BitVec.ofInt 64 ((4294967296*k:Nat):Int)).toNat=4294967296*k:=by rw [BitVec.toNat_ofInt]; omega
  have e2:(BitVec.ofInt 64 (q:Int)).toNat=q:=by rw [BitVec.toNat_ofInt]; omega
  show IntKind.u64.wrap ((BitVec.ofInt 64 ((4294967296*k:Nat):Int) ||| BitVec.ofInt 64 (q:Int)).toNat:Int)=_
  rw [BitVec.toNat_or,e1,e2,Q0j hq,w64]; omega
theorem oM {k p:Nat} (hp:p<4294967296) (hb:4294967296*k+p<18446744073709551616):orI .u64 (p:Int) ((4294967296*k:Nat):Int)=((4294967296*k+p:Nat):Int):=by
  have:=o64 hp hb
  unfold orI at this ⊢
  rw [BitVec.or_comm]; exact this
theorem o32 {s k p:Nat} (hp:p<2^s) (h1:p<4294967296) (h2:2^s*k<4294967296) (hb:p+2^s*k<4294967296):orI .u32 (p:Int) ((2^s*k:Nat):Int)=((p+2^s*k:Nat):Int):=by
  have e1:(BitVec.ofInt 32 ((2^s*k:Nat):Int)).toNat=2^s*k:=by rw [BitVec.toNat_ofInt]; omega
  have e2:(BitVec.ofInt 32 (p:Int)).toNat=p:=by rw [BitVec.toNat_ofInt]; omega
  have e3:p ||| 2^s*k=p+2^s*k:=by
    have:=Nat.two_pow_add_eq_or_of_lt (i:=s) (b:=p) hp k
    rw [Nat.or_comm,←this,Nat.add_comm]
  show IntKind.u32.wrap ((BitVec.ofInt 32 (p:Int) ||| BitVec.ofInt 32 ((2^s*k:Nat):Int)).toNat:Int)=_
  rw [BitVec.toNat_or,e1,e2,e3,w32]; omega
theorem Q16 {l:List Nat} {v:Nat} (hl:Sm l) (hn:l.length<274877906944) (h0:0<v) (hv:v<4294967296):Qf Tryz.prog 143 [lr l,.one (.int .u32 (v:Int))] [lr (Qw (val l / v)),.one (.int .u32 ((val l % v:Nat):Int))]:=by
  refine Jb Tryz.func143 rfl ?_
  refine go tt [.i (lm l).length,.i (lm l).length] rfl (by simp [Qa,Zw,Qd] <;> omega) ?_
  rw [Pu]
  refine lp (S:=Int×List Nat×Nat) 1 (fun L1 s=>(8,.v (.one (.int .i64 s.1)))::(7,.v (.one (.int .u64 (s.2.2:Int))))::L1) (fun s=>[.row false 143 1 (lm s.2.1)]) (fun s=>(s.1+1).toNat)
    (fun s=>-1≤s.1∧s.1<l.length∧s.2.1.length=l.length∧Sm s.2.1∧s.2.2<v∧val (l.drop (s.1+1).toNat)=v*val (s.2.1.drop (s.1+1).toNat)+s.2.2) (((lm l).length:Int)-1,List.replicate (lm l).length 0,0)
    ⟨by simp [Qd]; omega,by simp [Qd]; omega,by simp [Qd],fun x hx=>by rw [List.eq_of_mem_replicate hx]; decide,h0,by simp [Qd,val]⟩ rfl (fun _ _=>rfl) rfl fun ⟨i,o,r⟩ ⟨j1,j2,j3,j4,j5,j6⟩=>?_
  dsimp only at j1 j2 j3 j4 j5 j6 ⊢
  rcases Int.lt_or_le i 0 with hi | hi
  · obtain rfl:i=-1:=by omega
    simp only [show ((-1:Int)+1).toNat=0 from rfl,List.drop_zero] at j6
    have e1:val l / v=val o:=by rw [j6,Nat.mul_add_div h0,Nat.div_eq_of_lt j5,Nat.add_zero]
    have e2:val l % v=r:=by rw [j6,Nat.mul_add_mod,Nat.mod_eq_of_lt j5]
    rw [e1,e2]
    exact en tt [.f (by decide),.c [] (Sr j4)] rfl rfl (by simp [Qa,Zw,Qd,IntKind.bits] <;> omega)
  · obtain ⟨k,rfl⟩:=Int.eq_ofNat_of_zero_le hi
    have e:((k:Int)+1).toNat=k+1:=by omega
    rw [e] at j6
    obtain ⟨x,hx⟩:∃ x,l[k]? = some x:=⟨_,List.getElem?_eq_getElem (by omega)⟩
    have xb:=hl x (List.mem_of_getElem? hx)
    obtain ⟨s,hs⟩:∃ s,s=r*4294967296+x:=⟨_,rfl⟩
    obtain ⟨k1,k2,k3⟩:=Qrx hx xb (show k<o.length by omega) h0 j5 j6 hs
    obtain ⟨q,hq⟩:∃ q,q=s / v:=⟨_,rfl⟩
    obtain ⟨u,hu⟩:∃ u,u=s % v:=⟨_,rfl⟩
    have hqi:(s:Int).tdiv v=(q:Int):=by rw [Int.tdiv_eq_ediv_of_nonneg (by omega),hq]; rfl
    have hui:(s:Int).tmod v=(u:Int):=by rw [Int.tmod_eq_emod_of_nonneg (by omega),hu]; rfl
    rw [←hq,←hu] at k3
    rw [←hq] at k1
    rw [←hu] at k2
    refine go tt [.t (by simp),.i 32,.r 21 (Kl (b:=((4294967296*r:Nat):Int)) (by omega)),.x (Zf hx),.r 27 (Kl (b:=(s:Int)) (by rw [o64 xb (by omega)]; omega)),
      .r 33 (Kl (b:=(q:Int)) hqi),.w 0,.r 34 (Ui (b:=((q % 4294967296:Nat):Int)) (by rw [w32]; omega)),.r 38 (Kl (b:=(u:Int)) hui),.i k] rfl (by simp [Qa,Zw,Qd,IntKind.bits,hqi] <;> omega) ?_
    rw [Vm]
    exact rd ((k:Int)-1,o.set k (q % 4294967296),u) (by dsimp only; omega) ⟨by dsimp only; omega,by dsimp only; omega,by simp [j3],Y6 j4 _ _ (by omega),k2,by dsimp only; rw [show ((k:Int)-1+1).toNat=k from by omega]; exact k3⟩ rfl
theorem P6 {i:Nat} {s:ByteArray} (h:∀ i,i<256→(s[i]?).map (·.toNat)=some (sz i)) (hi:i<256):(s[i]?).map (·.toNat)=some (sz i):=h i hi
set_option maxRecDepth 100000 in
theorem Qje {x:Nat} (hx:x<4294967296):Qf Tryz.prog 194 [.one (.int .u32 (x:Int))] [.one (.int .i64 (sz x:Int))]:=by
  refine Jb Tryz.func194 rfl ?_
  have h31:sz x≤32:=Kc.2 (by omega)
  by_cases h1:65536≤x
  · have e1:sz x=16+sz (x / 2^16):=Nb (by omega)
    obtain ⟨y,hy⟩:∃ y,y=x / 2^16:=⟨_,rfl⟩
    rw [←hy] at e1
    by_cases h2:256≤y
    · have e2:sz y=8+sz (y / 2^8):=Nb (by omega)
      obtain ⟨z,hz⟩:∃ z,z=y / 2^8:=⟨_,rfl⟩
      rw [←hz] at e2
      exact en tt [.t (by simp; omega),.i 16,.r 6 (Ui (b:=(y:Int)) (by simp [hy])),.t (by simp; omega),.i 8,.r 10 (Ui (b:=(z:Int)) (by simp [hz])),.y (P6 (i:=z) (by decide) (by omega))] rfl (by rw [e1,e2]; simp; omega) (by simp [Qa,Zw,IntKind.bits] <;> omega)
    · exact en tt [.t (by simp; omega),.i 16,.r 6 (Ui (b:=(y:Int)) (by simp [hy])),.f (by simp; omega),.y (P6 (i:=y) (by decide) (by omega))] rfl (by rw [e1]; simp) (by simp [Qa,Zw,IntKind.bits] <;> omega)
  · by_cases h2:256≤x
    · have e2:sz x=8+sz (x / 2^8):=Nb (by omega)
      obtain ⟨z,hz⟩:∃ z,z=x / 2^8:=⟨_,rfl⟩
      rw [←hz] at e2
      exact en tt [.f (by simp; omega),.t (by simp; omega),.i 8,.r 10 (Ui (b:=(z:Int)) (by simp [hz])),.y (P6 (i:=z) (by decide) (by omega))] rfl (by rw [e2]; simp) (by simp [Qa,Zw,IntKind.bits] <;> omega)
    · exact en tt [.f (by simp; omega),.f (by simp; omega),.y (P6 (i:=x) (by decide) (by omega))] rfl (by simp) (by simp [Qa,Zw,IntKind.bits] <;> omega)
theorem Qy7 {x:Nat} (hx:x<4294967296):Qf Tryz.prog 144 [.one (.int .u32 (x:Int))] [.one (.int .i64 ((32-sz x:Nat):Int))]:=by
  have h31:sz x≤32:=Kc.2 (by omega)
  exact w tt Tryz.func144 rfl [.c [] (Qje hx)] rfl (by simp; omega) (by simp [Qa,Zw] <;> omega)
theorem Qgr {l:List Nat} (hl:Sm l) (hs:sz (val l)≤4294967296):Qf Tryz.prog 198 [lr l] [.one (.int .i64 (sz (val l):Int))]:=by
  refine Jb Tryz.func198 rfl ?_
  obtain ⟨p,ca,np,vp,_,ep⟩:=Bb hl
  have hp:=X1 hs
  rw [←ep] at hp
  rw [←vp] at hs ⊢
  by_cases h0:p=[]
  · subst h0
    exact en tt [.c [] ca,.t (by simp [lm])] rfl rfl (by simp [Qa,Zw])
  · have Mg:0<p.length:=List.length_pos_iff.2 h0
    obtain ⟨x,hx,hx0⟩:=np.2 h0
    have xb:=np.1 x (List.mem_of_getElem? hx)
    have e:=Qiq np hx
    have h31:sz x≤32:=Kc.2 (by omega)
    have hn:(lm p).length≠0:=by rw [Qd]; omega
    refine en tt [.c [] ca,.f (by simp [Qd]; omega),.r 15 (eI (b:=((p.length-1:Nat):Int)) (by rw [Qd]; omega)),.x (Zf hx),.c [] (Qje xb)] rfl (by rw [e,Qd]; simp; omega) (by simp [Qa,Zw,Qd] <;> omega)
theorem Qfl {s:Nat} (h:s≤31):((s:Nat):Int).tdiv 32=((0:Nat):Int):=by
  rw [Int.tdiv_eq_ediv_of_nonneg (by omega)]; omega
theorem Qso {s:Nat} (h:s≤31):((s:Nat):Int).tmod 32=(s:Int):=Int.tmod_eq_of_lt (by omega) (by omega)
theorem Q0c {s:Nat} (h:s≤31):max 0 (min (s:Int) 65536)=(s:Int):=by omega
theorem Q1z {a:List Nat} {s:Nat} (ha:Sm a) (h1:sz (val a)≤4294967400) (hs:s≤31):Qf Tryz.prog 195 [lr a,.one (.int .i64 (s:Int))] [lr (Qw (val a*2^s))]:=by
  refine Jb Tryz.func195 rfl ?_
  obtain ⟨p,ca,np,vp,_,ep⟩:=Bb ha
  have hp:=X1 h1
  rw [←ep] at hp
  rw [←vp]
  have hq:((s:Nat):Int).tdiv 32=0:=Qfl hs
  by_cases h0:p=[]
  · subst h0
    exact en tt [.c [] ca,.t (by simp [lm])] rfl (by simp [val,Ze,lm]) (by simp [Qa,Zw])
  have Mg:0<p.length:=List.length_pos_iff.2 h0
  refine go tt [.c [] ca,.r 15 (eI (b:=(s:Int)) (Q0c hs)),.f (by simp [Qd]; omega),.r 20 (eI (b:=((0:Nat):Int)) (Qfl hs)),.r 22 (eI (b:=(s:Int)) (Qso hs)),.r 28 (eI (b:=(((lm p).length+1:Nat):Int)) (by omega)),.i ((lm p).length+1),.i ((lm p).length+1)] rfl (by have e:=Qd p; simp only [Qa,Zw]; omega) ?_
  rw [Pu]
  refine lp (S:=Nat×List Nat) 1 (fun L1 s=>(32,.v (.one (.int .i64 (s.1:Int))))::L1) (fun s=>[.row false 143 1 (lm s.2)]) (fun s=>p.length-s.1)
    (fun r=>r.1≤p.length∧r.2.length=p.length+1∧Sm r.2∧(∃ z,r.2[r.1]? = some z∧z<2^s)∧val (r.2.take (r.1+1))=val (p.take r.1)*2^s) (0,List.replicate ((lm p).length+1) 0)
    ⟨Nat.zero_le _,by simp [Qd],fun x hx=>by rw [List.eq_of_mem_replicate hx]; decide,⟨0,by simp,Nat.pow_pos (by decide)⟩,by simp [val,List.replicate_succ]⟩ rfl (fun _ _=>rfl) rfl fun ⟨i,o⟩ ⟨j1,j2,j3,⟨z,hz,hzs⟩,j5⟩=>?_
  dsimp only at j1 j2 j3 hz hzs j5 ⊢
  by_cases hi:i<p.length
  · obtain ⟨x,hx⟩:∃ x,p[i]? = some x:=⟨_,List.getElem?_eq_getElem hi⟩
    have xb:=np.1 x (List.mem_of_getElem? hx)
    have zb:=j3 z (List.mem_of_getElem? hz)
    obtain ⟨k1,k2,k3,k4⟩:=Qs5 hs hx xb hz hzs (by omega) j5
    have hxs:=Q0t hs xb
    have h31:2^s≤2^31:=Nat.pow_le_pow_right (by decide) hs
    have ec:(x:Int)*2^s=((x*2^s:Nat):Int):=by push_cast; rfl
    obtain ⟨m,hm⟩:∃ m,m=x*2^s:=⟨_,rfl⟩
    rw [←hm] at k1 k2 k3 k4 hxs ec
    refine go tt [.t (by simp [Qd]; omega),.x (Zf hx),.i s,.r 40 (Kl (b:=(m:Int)) ec),.i i,.x (Zf hz),.w 0,.r 52 (Ui (b:=((m % 4294967296:Nat):Int)) (by rw [w32]; omega)),.r 53 (Ui (b:=((z+m % 4294967296:Nat):Int)) (by rw [k4,o32 hzs zb (by omega) (by omega)])),.i i,
      .i 32,.r 61 (Kl (b:=((m / 2^32:Nat):Int)) (by simp)),.w 0,.r 62 (Ui (b:=((m / 2^32 % 4294967296:Nat):Int)) (by rw [w32]; omega)),.i (i+1)] rfl (by simp [Qa,Zw,Qd,IntKind.bits,ec] <;> omega) ?_
    rw [Vm,Vm]
    exact rd (i+1,(o.set i (z+m % 4294967296)).set (i+1) (m / 2^32 % 4294967296)) (show p.length-(i+1)<p.length-i by omega) ⟨hi,by simp [j2],Y6 (Y6 j3 _ _ (by omega)) _ _ (by omega),⟨_,by rw [List.getElem?_set_self (by simp; omega)],by omega⟩,k3⟩ rfl
  · obtain rfl:i=p.length:=by omega
    rw [List.take_of_length_le (by omega),List.take_of_length_le (Nat.le_refl _)] at j5
    rw [←j5]
    exact en tt [.f (by simp [Qd]),.c [] (Sr j3)] rfl rfl trivial
theorem Q10 {a:List Nat} {s:Nat} (ha:Sm a) (h1:sz (val a)≤4294967400) (hs:s≤31):Qf Tryz.prog 147 [lr a,.one (.int .i64 (s:Int))] [lr (Qw (val a / 2^s))]:=by
  refine Jb Tryz.func147 rfl ?_
  obtain ⟨p,ca,np,vp,_,ep⟩:=Bb ha
  have hp:=X1 h1
  rw [←ep] at hp
  rw [←vp]
  have hq:((s:Nat):Int).tdiv 32=0:=Qfl hs
  by_cases h0:p=[]
  · subst h0
    exact en tt [.c [] ca,.r 14 (eI (b:=(s:Int)) (Q0c hs)),.r 16 (eI (b:=((0:Nat):Int)) (Qfl hs)),.r 18 (eI (b:=(s:Int)) (Qso hs)),.t (by simp [lm])] rfl (by simp [val,Ze,lm]) (by simp only [Qa,Zw]; omega)
  have Mg:0<p.length:=List.length_pos_iff.2 h0
  refine go tt [.c [] ca,.r 14 (eI (b:=(s:Int)) (Q0c hs)),.r 16 (eI (b:=((0:Nat):Int)) (Qfl hs)),.r 18 (eI (b:=(s:Int)) (Qso hs)),.f (by simp [Qd]; omega),.r 27 (eI (b:=((lm p).length:Int)) (by omega)),.i (lm p).length,.i (lm p).length] rfl (by have e:=Qd p; simp only [Qa,Zw]; omega) ?_
  rw [Pu]
  refine lp (S:=Nat×List Nat) 1 (fun L1 s=>(31,.v (.one (.int .i64 (s.1:Int))))::L1) (fun s=>[.row false 143 1 (lm s.2)]) (fun s=>p.length-s.1)
    (fun r=>r.1≤p.length∧r.2.length=p.length∧Sm r.2∧val (r.2.take r.1)=val p / 2^s % 4294967296^r.1) (0,List.replicate (lm p).length 0)
    ⟨Nat.zero_le _,by simp [Qd],fun x hx=>by rw [List.eq_of_mem_replicate hx]; decide,by simp [val]; omega⟩ rfl (fun _ _=>rfl) rfl fun ⟨i,o⟩ ⟨j1,j2,j3,j5⟩=>?_
  dsimp only at j1 j2 j3 j5 ⊢
  by_cases hi:i<p.length
  · obtain ⟨x,hx⟩:∃ x,p[i]? = some x:=⟨_,List.getElem?_eq_getElem hi⟩
    have xb:=np.1 x (List.mem_of_getElem? hx)
    have fin:∀ y m,(p[i+1]? = some y∨p.length≤i+1∧y=0)→m=(x+y*2^32) / 2^s→p.length-(i+1)<p.length-i∧i+1≤p.length∧(o.set i (m % 4294967296)).length=p.length∧Sm (o.set i (m % 4294967296))∧val ((o.set i (m % 4294967296)).take (i+1))=val p / 2^s % 4294967296^(i+1):=fun y m hy hm =>
      ⟨by omega,hi,by simp [j2],Y6 j3 _ _ (by omega),by subst hm; exact Qs6 hs hx hy (by omega) np.1 j5⟩
    have hsp:0<2^s:=Nat.pow_pos (by decide)
    by_cases hy0:i+1<p.length
    · obtain ⟨y,hy⟩:∃ y,p[i+1]? = some y:=⟨_,List.getElem?_eq_getElem hy0⟩
      have yb:=np.1 y (List.mem_of_getElem? hy)
      obtain ⟨v,hv⟩:∃ v,v=4294967296*y+x:=⟨_,rfl⟩
      obtain ⟨m,hm⟩:∃ m,m=v / 2^s:=⟨_,rfl⟩
      have hml:m≤v:=hm ▸ Nat.div_le_self _ _
      have hf:=fin y m (.inl hy) (by rw [hm,hv]; congr 1; omega)
      refine go tt [.t (by simp [Qd]; omega),.x (Zf hx),.t (by simp [Qd]; omega),.x (Zf hy),.i 32,.r 57 (Kl (b:=((4294967296*y:Nat):Int)) (by omega)),.r 58 (Kl (b:=(v:Int)) (by rw [oM xb (by omega)]; omega)),
        .i s,.r 63 (Kl (b:=(m:Int)) (by rw [hm]; push_cast; rfl)),.w 0,.r 64 (Ui (b:=((m % 4294967296:Nat):Int)) (by rw [w32]; omega)),.i i] rfl (by simp [Qa,Zw,Qd,IntKind.bits] <;> omega) ?_
      rw [Vm]
      exact rd (i+1,o.set i (m % 4294967296)) hf.1 hf.2 rfl
    · obtain ⟨m,hm⟩:∃ m,m=x / 2^s:=⟨_,rfl⟩
      have hml:m≤x:=hm ▸ Nat.div_le_self _ _
      have hf:=fin 0 m (.inr ⟨by omega,rfl⟩) (by rw [hm]; simp)
      refine go tt [.t (by simp [Qd]; omega),.x (Zf hx),.f (by simp [Qd]; omega),
        .i s,.r 63 (Kl (b:=(m:Int)) (by rw [hm]; push_cast; rfl)),.w 0,.r 64 (Ui (b:=((m % 4294967296:Nat):Int)) (by rw [w32]; omega)),.i i] rfl (by simp [Qa,Zw,Qd,IntKind.bits] <;> omega) ?_
      rw [Vm]
      exact rd (i+1,o.set i (m % 4294967296)) hf.1 hf.2 rfl
  · obtain rfl:i=p.length:=by omega
    have hvl:=Wg p np.1
    rw [List.take_of_length_le (by omega),Nat.mod_eq_of_lt (Nat.lt_of_le_of_lt (Nat.div_le_self _ _) hvl)] at j5
    rw [←j5]
    exact en tt [.f (by simp [Qd,j2]),.c [] (Sr j3)] rfl rfl trivial
end Orr

namespace Orr
open Go Go.Proofs
set_option maxRecDepth 10000
def dgs:Nat→Nat→List Nat
  | 0,_=>[]
  | k+1,v=>v % 4294967296::dgs k (v / 4294967296)
theorem Qpy:∀ {l:List Nat},Sm l→l=dgs l.length (val l)
  | [],_=>rfl
  |
   x::l,h=>by
   have hx:=h x (.head _)
   have ih:=Qpy (l:=l) fun y hy=>h y (.tail _ hy)
   simp only [List.length_cons,dgs,val]
   rw [show (x+4294967296*val l) % 4294967296=x by omega,show (x+4294967296*val l) / 4294967296=val l by omega,←ih]
theorem Qg2 {l:List Nat} {k v:Nat} (h:Sm l) (hk:l.length=k) (hv:val l=v):dgs k v=l:=by
  rw [←hk,←hv]; exact (Qpy h).symm
theorem Qbc:∀ {k v:Nat},(dgs k v).length=k∧Sm (dgs k v)∧(v<4294967296^k→val (dgs k v)=v)
  | 0,v=>⟨rfl,fun x hx=>by (cases hx),fun h=>by simp at h; subst h; rfl⟩
  |
   k+1,v=>by
   obtain ⟨h1,h2,h3⟩:=Qbc (k:=k) (v:=v / 4294967296)
   refine ⟨by simp [dgs,h1],fun x hx=>?_,fun h=>?_⟩
   · rcases List.mem_cons.1 hx with rfl | hx
     · exact Nat.mod_lt _ (by decide)
     · exact h2 x hx
   · simp only [dgs,val]
     rw [h3 (by rw [Nat.pow_succ] at h; exact Nat.div_lt_of_lt_mul (by rw [Nat.mul_comm]; exact h))]
     omega
theorem Qpi {a:List Nat} {s n:Nat} (ha:Sm a) (h1:sz (val a)≤4294967400) (hs:s≤31) (hn:n<274877906944) (h0:0<n) (hv:val a*2^s<4294967296^n) :
    Xt Tryz.prog 145 [lr a,.one (.int .i64 (s:Int)),.one (.int .i64 (n:Int))] [] [.one (.orow 0 1 none)] [.row false 143 1 (lm (dgs n (val a*2^s)))]:=by
  refine Jb Tryz.func145 rfl ?_
  obtain ⟨v,hvv⟩:∃ v,v=val a*2^s:=⟨_,rfl⟩
  have cs:=Q1z ha h1 hs
  rw [←hvv] at cs hv ⊢
  have hl:(Qw v).length≤n:=by
    apply Classical.byContradiction
    intro hh
    have h2:=Mr (W7 v) (fun e=>by rw [e] at hh; simp at hh)
    rw [Zk] at h2
    have h3:4294967296^n≤4294967296^((Qw v).length-1):=Nat.pow_le_pow_right (by decide) (by omega)
    omega
  refine go tt [.i n,.i n,.c [] cs,.s (Qrf (Qw v)),.i (Qw v).length] rfl (by simp [Qa,Zw,Qd] <;> omega) ?_
  have e:List.take 0 (List.replicate n [LV.int .u32 0])++(List.take (Qw v).length (lm (Qw v))++List.drop (0+(Qw v).length) (List.replicate n [LV.int .u32 0]))=lm (dgs n v):=by
    rw [Qg2 (l:=Qw v++List.replicate (n-(Qw v).length) 0) (fun x hx=>?_) (by simp; omega) (by rw [Y7,Cj,Zk]; simp)]
    · rw [List.take_zero,List.nil_append,List.take_of_length_le (by rw [Qd]; exact Nat.le_refl _)]
      simp [lm]
    · rcases List.mem_append.1 hx with hx | hx
      · exact K7 v x hx
      · rw [List.eq_of_mem_replicate hx]; decide
  rw [e]
  exact ed tt [] [0] [] rfl trivial
theorem I1 {pre x post:List Nat} {i u:Nat} (h:x[i]? = some u):(lm (pre++x++post))[pre.length+i]? = some [.int .u32 (u:Int)]:=Zf (by
  have hi:=(List.getElem?_eq_some_iff.1 h).1
  rw [List.append_assoc,List.getElem?_append_right (by omega),Nat.add_sub_cancel_left,List.getElem?_append_left hi]; exact h)
theorem Qtr {pre x post:List Nat} {i v:Nat} (h:i<x.length):(lm (pre++x++post)).set (pre.length+i) [.int .u32 (v:Int)]=lm (pre++x.set i v++post):=by
  rw [Vm,List.append_assoc,List.set_append_right _ _ (by omega),Nat.add_sub_cancel_left,List.set_append_left _ _ h,←List.append_assoc]
theorem Qur {pre x post ly:List Nat} {top nx xn x1 x2:Nat} (D:Dig x ly ly.length top nx xn x1 x2) (hn:ly.length<274877906944) :
    Xt Tryz.prog 146 [.one (.orow 0 1 (some (pre.length,x.length))),lr ly] [.row true 143 1 (lm (pre++x++post))] [.one (.int .u32 ((val x / val ly:Nat):Int))] [.row true 143 1 (lm (pre++dgs x.length (val x % val ly)++post))]:=by
  refine Jb Tryz.func146 rfl ?_
  have hxl:=D.hx
  have hn2:=D.hn
  have hb:=D.bnd
  obtain ⟨head,hh⟩:∃ head,head=xn*2^32+x1:=⟨_,rfl⟩
  obtain ⟨g0,hg0⟩:∃ g,g=head / top:=⟨_,rfl⟩
  obtain ⟨r0,hr0⟩:∃ r,r=head % top:=⟨_,rfl⟩
  have hst:=D.start
  rw [←hh,←hg0] at hst
  have ht0:=D.top0
  have hg0l:g0≤head:=hg0 ▸ Nat.div_le_self _ _
  have hr0l:r0<top:=hr0 ▸ Nat.mod_lt _ ht0
  have htd:(head:Int).tdiv top=(g0:Int):=by rw [Int.tdiv_eq_ediv_of_nonneg (by omega),hg0]; rfl
  have htm:(head:Int).tmod top=(r0:Int):=by rw [Int.tmod_eq_emod_of_nonneg (by omega),hr0]; rfl
  refine go tt [.r 23 (eI (b:=(ly.length:Int)) (by rw [Qd])),.r 26 (eI (b:=((ly.length-1:Nat):Int)) (by omega)),.x (Zf D.ltop),.r 32 (eI (b:=((ly.length-2:Nat):Int)) (by omega)),.x (Zf D.lnx),
    .i ly.length,.x (I1 D.xn),.i 32,.r 41 (Kl (b:=((4294967296*xn:Nat):Int)) (by omega)),.r 44 (eI (b:=((ly.length-1:Nat):Int)) (by omega)),.i (ly.length-1),.x (I1 D.x1),.r 48 (Kl (b:=(head:Int)) (by rw [o64 hb.2.2.2.1 (by omega)]; omega)),
    .r 51 (Kl (b:=(g0:Int)) htd),.r 54 (Kl (b:=(r0:Int)) htm)] rfl ?_ ?_
  · simp only [Qa,Zw,htd,IntKind.bits]; omega
  refine ct 2 (S:=Nat) (fun g=>[(0,.v (.one (.orow 0 1 (some (pre.length,x.length))))),(1,.v (lr ly)),(5,.v (.one (.int .i64 (ly.length:Int)))),(9,.v (.one (.int .u64 (g:Int))))]) (fun _=>[.row true 143 1 (lm (pre++x++post))]) (fun g=>val x / val ly≤g∧(g-1)*val ly≤val x∧g≤4294967296) rfl ?_ ?_
  · refine lp (S:=Nat×Nat) 1 (fun L1 s=>(9,.v (.one (.int .u64 (s.1:Int))))::(10,.v (.one (.int .u64 (s.2:Int))))::L1) (fun _=>[.row true 143 1 (lm (pre++x++post))]) (fun s=>4294967296-s.2)
      (fun s=>s.1*top+s.2=xn*2^32+x1∧val x / val ly≤s.1∧s.2<4294967296∧s.1<18446744073709551616) (g0,r0)
      ⟨by rw [←hh,hg0,hr0,Nat.mul_comm]; exact Nat.div_add_mod _ _,hst,by dsimp only; omega,by dsimp only; omega⟩ rfl (fun _ _=>rfl) rfl fun ⟨g,r⟩ ⟨j1,j2,j3,j4⟩=>?_
    dsimp only at j1 j2 j3 j4 ⊢
    by_cases hge:4294967296≤g
    · have hrd:=D.round j1 j2 (.inl hge)
      by_cases h2:4294967296≤r+top
      · exact go tt [.t (by simp; omega),.t rfl,.r 73 (Kl (b:=((g-1:Nat):Int)) (by omega)),.t (by simp; omega)] rfl (by simp [Qa,Zw] <;> omega) (rc (g-1) ⟨hrd.2.1,(hrd.2.2.2 h2).1,(hrd.2.2.2 h2).2⟩ rfl)
      · exact go tt [.t (by simp; omega),.t rfl,.r 73 (Kl (b:=((g-1:Nat):Int)) (by omega)),.f (by simp; omega)] rfl (by simp [Qa,Zw] <;> omega) (rd (g-1,r+top) (by dsimp only; omega) ⟨hrd.2.2.1,hrd.2.1,by dsimp only; omega,by dsimp only; omega⟩ rfl)
    · have hgn:=Rr (x:=g) (y:=nx) (by omega) hb.2.1
      by_cases hc:r*2^32+x2<g*nx
      · have hrd:=D.round j1 j2 (.inr hc)
        have e1:(g:Int)*(nx:Int)=((g*nx:Nat):Int):=by push_cast; rfl
        obtain ⟨m,hm⟩:∃ m,m=g*nx:=⟨_,rfl⟩
        rw [←hm] at e1 hgn hc
        by_cases h2:4294967296≤r+top
        · exact go tt [.f (by simp; omega),.r 60 (Kl (b:=(m:Int)) e1),.i 32,.r 62 (Kl (b:=((4294967296*r:Nat):Int)) (by omega)),.r 65 (eI (b:=((ly.length-2:Nat):Int)) (by omega)),.i (ly.length-2),.x (I1 D.x2),.r 69 (Kl (b:=((4294967296*r+x2:Nat):Int)) (o64 hb.2.2.2.2 (by omega))),.t (by simp; omega),.r 73 (Kl (b:=((g-1:Nat):Int)) (by omega)),.t (by simp; omega)] rfl (by simp only [Qa,Zw,e1,IntKind.bits]; omega) (rc (g-1) ⟨hrd.2.1,(hrd.2.2.2 h2).1,(hrd.2.2.2 h2).2⟩ rfl)
        · exact go tt [.f (by simp; omega),.r 60 (Kl (b:=(m:Int)) e1),.i 32,.r 62 (Kl (b:=((4294967296*r:Nat):Int)) (by omega)),.r 65 (eI (b:=((ly.length-2:Nat):Int)) (by omega)),.i (ly.length-2),.x (I1 D.x2),.r 69 (Kl (b:=((4294967296*r+x2:Nat):Int)) (o64 hb.2.2.2.2 (by omega))),.t (by simp; omega),.r 73 (Kl (b:=((g-1:Nat):Int)) (by omega)),.f (by simp; omega)] rfl (by simp only [Qa,Zw,e1,IntKind.bits]; omega) (rd (g-1,r+top) (by dsimp only; omega) ⟨hrd.2.2.1,hrd.2.1,by dsimp only; omega,by dsimp only; omega⟩ rfl)
      · have hf:=D.fin j1 (by omega) (by omega)
        have e1:(g:Int)*(nx:Int)=((g*nx:Nat):Int):=by push_cast; rfl
        obtain ⟨m,hm⟩:∃ m,m=g*nx:=⟨_,rfl⟩
        rw [←hm] at e1 hgn hc
        exact go tt [.f (by simp; omega),.r 60 (Kl (b:=(m:Int)) e1),.i 32,.r 62 (Kl (b:=((4294967296*r:Nat):Int)) (by omega)),.r 65 (eI (b:=((ly.length-2:Nat):Int)) (by omega)),.i (ly.length-2),.x (I1 D.x2),.r 69 (Kl (b:=((4294967296*r+x2:Nat):Int)) (o64 hb.2.2.2.2 (by omega))),.f (by simp; omega)] rfl (by simp only [Qa,Zw,e1,IntKind.bits]; omega) (rc g ⟨j2,hf,by omega⟩ rfl)
  · intro g ⟨q1,q2,q3⟩
    refine go tt [.r 80 (eI (b:=(ly.length:Int)) (by rw [Qd]))] rfl trivial ?_
    refine lp (S:=Nat×List Nat×Nat×Nat) 1 (fun L1 s=>(81,.v (.one (.int .i64 (s.1:Int))))::(11,.v (.one (.int .u64 (s.2.2.1:Int))))::(12,.v (.one (.int .u64 (s.2.2.2:Int))))::L1) (fun s=>[.row true 143 1 (lm (pre++s.2.1++post))]) (fun s=>ly.length-s.1)
      (fun s=>s.1≤ly.length∧s.2.1.length=ly.length+1∧Sm s.2.1∧s.2.2.2≤1∧s.2.2.1<4294967296∧val (s.2.1.take s.1)+g*val (ly.take s.1)=val (x.take s.1)+(s.2.2.1+s.2.2.2)*4294967296^s.1∧s.2.1.drop s.1=x.drop s.1) (0,x,0,0)
      ⟨Nat.zero_le _,hxl,D.xb,Nat.zero_le _,by simp,by simp [val],rfl⟩ rfl (fun _ _=>rfl) rfl fun ⟨i,o,cy,bw⟩ ⟨j1,j2,j3,j4,j5,j6,j7⟩=>?_
    dsimp only at j1 j2 j3 j4 j5 j6 j7 ⊢
    by_cases hi:i<ly.length
    · obtain ⟨w1,hw1⟩:∃ y,ly[i]? = some y:=⟨_,List.getElem?_eq_getElem hi⟩
      obtain ⟨u,hu⟩:∃ y,x[i]? = some y:=⟨_,List.getElem?_eq_getElem (by omega)⟩
      have wb:=D.lb w1 (List.mem_of_getElem? hw1)
      have ub:=D.xb u (List.mem_of_getElem? hu)
      have hou:=(P9 j7).trans hu
      have hgw:g*w1≤18446744069414584320:=by
        have:=Nat.mul_le_mul q3 (show w1≤4294967295 by omega)
        omega
      obtain ⟨s,hs⟩:∃ s,s=((u+18446744073709551616-(g*w1+cy) % 4294967296) % 18446744073709551616+18446744073709551616-bw) % 18446744073709551616:=⟨_,rfl⟩
      have hstep:=Qbx (o:=o) (by omega) hu hw1 ub j4 j6 rfl hs
      have e1:(g:Int)*(w1:Int)=((g*w1:Nat):Int):=by push_cast; rfl
      obtain ⟨m,hm⟩:∃ m,m=g*w1:=⟨_,rfl⟩
      rw [←hm] at e1 hgw hs hstep
      obtain ⟨p,hp⟩:∃ p,p=m+cy:=⟨_,rfl⟩
      rw [←hp] at hs hstep
      refine go tt [.t (by simp; omega),.x (Zf hw1),.r 89 (Kl (b:=(m:Int)) e1),.r 91 (Kl (b:=(p:Int)) (by omega)),.i 32,.r 93 (Kl (b:=((p / 2^32:Nat):Int)) (by simp)),.i i,.x (I1 hou),.w 1,.r 100 (Ui (b:=((p % 4294967296:Nat):Int)) (by rw [w32]; omega)),.w 1,.r 102 (Kl (b:=(((u+18446744073709551616-p % 4294967296) % 18446744073709551616:Nat):Int)) (by rw [w64]; omega)),.w 0,.r 104 (Kl (b:=(s:Int)) (by rw [w64]; omega)),
        .w 0,.r 108 (Ui (b:=((s % 4294967296:Nat):Int)) (by rw [w32]; omega)),.i 63,.r 110 (Kl (b:=((s / 2^63:Nat):Int)) (by simp)),.i i] rfl (by simp only [Qa,Zw,e1,IntKind.bits,Qd,List.length_append]; omega) ?_
      rw [Qtr (by omega)]
      exact rd (i+1,o.set i (s % 4294967296),p / 2^32,s / 2^63) (by dsimp only; omega) ⟨hi,by simp [j2],Y6 j3 _ _ (by omega),hstep.2,by dsimp only; omega,hstep.1,I9 j7⟩ rfl
    · obtain rfl:i=ly.length:=by omega
      have hon:=(P9 j7).trans D.xn
      rw [List.take_of_length_le (l:=ly) (Nat.le_refl _)] at j6
      obtain ⟨s,hs⟩:∃ s,s=((xn+18446744073709551616-cy) % 18446744073709551616+18446744073709551616-bw) % 18446744073709551616:=⟨_,rfl⟩
      obtain ⟨oa,hoa⟩:∃ oa,oa=o.set ly.length (s % 4294967296):=⟨_,rfl⟩
      have oal:oa.length=ly.length+1:=by rw [hoa,List.length_set]; exact j2
      have oab:Sm oa:=hoa ▸ Y6 j3 _ _ (by omega)
      by_cases Io:s / 2^63=0
      · have hf:=D.fin0 j2 j5 j4 q1 j6 hs Io
        refine go tt [.f (by simp),.i ly.length,.x (I1 hon),.w 1,.r 119 (Kl (b:=(((xn+18446744073709551616-cy) % 18446744073709551616:Nat):Int)) (by rw [w64]; omega)),.w 0,.r 121 (Kl (b:=(s:Int)) (by rw [w64]; omega)),.w 0,.r 125 (Ui (b:=((s % 4294967296:Nat):Int)) (by rw [w32]; omega)),.i ly.length,.i 63,.r 128 (Kl (b:=((s / 2^63:Nat):Int)) (by simp)),.t (by simp; omega),.w 0,.r 131 (Ui (b:=((val x / val ly:Nat):Int)) (by rw [w32]; omega))] rfl (by simp only [Qa,Zw,IntKind.bits,Qd,List.length_append]; omega) ?_
        rw [Qtr (by omega),←Qg2 (l:=o.set ly.length (s % 4294967296)) (k:=x.length) (hoa ▸ oab) (by rw [←hoa,oal,hxl]) hf.2]
        exact ed tt [] [0] [] rfl trivial
      · have hf:=D.fin1 j2 j3 j5 j4 q2 j6 hs Io
        rw [←hoa] at hf
        obtain ⟨v1,hv1⟩:∃ y,oa[ly.length]? = some y:=⟨_,List.getElem?_eq_getElem (by omega)⟩
        refine go tt [.f (by simp),.i ly.length,.x (I1 hon),.w 1,.r 119 (Kl (b:=(((xn+18446744073709551616-cy) % 18446744073709551616:Nat):Int)) (by rw [w64]; omega)),.w 0,.r 121 (Kl (b:=(s:Int)) (by rw [w64]; omega)),.w 0,.r 125 (Ui (b:=((s % 4294967296:Nat):Int)) (by rw [w32]; omega)),.i ly.length,.i 63,.r 128 (Kl (b:=((s / 2^63:Nat):Int)) (by simp)),.f (by simp; omega),.r 133 (eI (b:=(ly.length:Int)) (by rw [Qd]))] rfl (by simp only [Qa,Zw,IntKind.bits,Qd,List.length_append]; omega) ?_
        rw [Qtr (by omega),←hoa]
        refine lp (S:=Nat×List Nat×Nat) 1 (fun L1 s=>(134,.v (.one (.int .i64 (s.1:Int))))::(18,.v (.one (.int .u64 (s.2.2:Int))))::L1) (fun s=>[.row true 143 1 (lm (pre++s.2.1++post))]) (fun s=>ly.length-s.1)
          (fun s=>s.1≤ly.length∧s.2.1.length=ly.length+1∧Sm s.2.1∧s.2.2≤1∧val (s.2.1.take s.1)+s.2.2*4294967296^s.1=val (oa.take s.1)+val (ly.take s.1)∧s.2.1.drop s.1=oa.drop s.1) (0,oa,0)
          ⟨Nat.zero_le _,oal,oab,Nat.zero_le _,by simp [val],rfl⟩ rfl (fun _ _=>rfl) rfl fun ⟨j,o2,bk⟩ ⟨r1,r2,r3,r4,r5,r6⟩=>?_
        dsimp only at r1 r2 r3 r4 r5 r6 ⊢
        by_cases hj:j<ly.length
        · obtain ⟨w1,hw1⟩:∃ y,ly[j]? = some y:=⟨_,List.getElem?_eq_getElem hj⟩
          obtain ⟨u,hu⟩:∃ y,oa[j]? = some y:=⟨_,List.getElem?_eq_getElem (by omega)⟩
          have wb:=D.lb w1 (List.mem_of_getElem? hw1)
          have ub:=oab u (List.mem_of_getElem? hu)
          have hou:=(P9 r6).trans hu
          obtain ⟨m,hm⟩:∃ m,m=u+bk+w1:=⟨_,rfl⟩
          have hstep:=Qc7 (o:=o2) (by omega) hu (.inl hw1) r5 hm
          refine go tt [.t (by simp; omega),.x (Zf hw1),.i j,.x (I1 hou),.r 148 (Kl (b:=(m:Int)) (by omega)),.w 0,.r 152 (Ui (b:=((m % 4294967296:Nat):Int)) (by rw [w32]; omega)),.i 32,.r 154 (Kl (b:=((m / 4294967296:Nat):Int)) (by simp)),.i j] rfl (by simp only [Qa,Zw,IntKind.bits,Qd,List.length_append]; omega) ?_
          rw [Qtr (by omega)]
          exact rd (j+1,o2.set j (m % 4294967296),m / 4294967296) (by dsimp only; omega) ⟨hj,by simp [r2],Y6 r3 _ _ (by omega),by dsimp only; omega,hstep,I9 r6⟩ rfl
        · obtain rfl:j=ly.length:=by omega
          have hon2:=(P9 r6).trans hv1
          have vb:=oab v1 (List.mem_of_getElem? hv1)
          rw [List.take_of_length_le (l:=ly) (Nat.le_refl _)] at r5
          have hf2:=D.fin2 oal oab r2 r3 hv1 r4 hf.2 r5
          refine go tt [.f (by simp),.i ly.length,.x (I1 hon2),.w 1,.r 165 (Ui (b:=(((v1+bk) % 4294967296:Nat):Int)) (by rw [w32]; omega)),.i ly.length,.w 0,.r 168 (Ui (b:=((g % 4294967296:Nat):Int)) (by rw [w32]; omega)),.w 0,.r 169 (Ui (b:=((val x / val ly:Nat):Int)) (Q21 hf.1 D.qlt))] rfl (by simp only [Qa,Zw,IntKind.bits,Qd,List.length_append]; omega) ?_
          rw [Qtr (by omega),←Qg2 (l:=o2.set ly.length ((v1+bk) % 4294967296)) (k:=x.length) (Y6 r3 _ _ (by omega)) (by rw [List.length_set,r2,hxl]) hf2]
          exact ed tt [] [0] [] rfl trivial
end Orr

namespace Orr
open Go Go.Proofs
set_option maxRecDepth 10000
theorem Qo3 {o ly:List Nat} {lo top nx xn x1 x2:Nat} (hlo:lo+(ly.length+1)≤o.length) (D:Dig (P0 o lo ly.length) ly ly.length top nx xn x1 x2) (hn:ly.length<274877906944) :
    Xt Tryz.prog 146 [.one (.orow 0 1 (some (lo,ly.length+1))),lr ly] [.row true 143 1 (lm o)] [.one (.int .u32 ((val (P0 o lo ly.length) / val ly:Nat):Int))] [.row true 143 1 (lm (o.take lo++dgs (ly.length+1) (val (P0 o lo ly.length) % val ly)++o.drop (lo+ly.length+1)))]:=by
  have:=Qur (pre:=o.take lo) (post:=o.drop (lo+ly.length+1)) D hn
  have e1:(o.take lo).length=lo:=by rw [List.length_take]; omega
  have e2:=Nk (o:=o) (i:=lo) (n:=ly.length) (by omega)
  rw [e1,e2,Si] at this
  exact this
theorem Qdd {a b:List Nat} (ha:Sm a) (hb:Sm b) (h1:sz (val a)≤4294967296) (h2:sz (val b)≤4294967296) (hy:0<val b):Qf Tryz.prog 102 [lr a,lr b] [lr (Qw (val a / val b)),lr (Qw (val a % val b)),.one (.int .i64 0)]:=by
  refine Jb Tryz.func102 rfl ?_
  obtain ⟨p,ca,np,vp,_,ep⟩:=Bb ha
  obtain ⟨q,cb,nq,vq,_,eq⟩:=Bb hb
  have hp:=X1 h1
  have hq:=X1 h2
  rw [←ep] at hp
  rw [←eq] at hq
  rw [←vp,←vq]
  rw [←vp] at h1
  rw [←vq] at h2 hy
  have q0:q≠[]:=fun e=>by rw [e] at hy; simp [val] at hy
  have qp:0<q.length:=List.length_pos_iff.2 q0
  have c1:¬((lm q).length:Int)=0:=by rw [Qd]; omega
  by_cases hlt:p.length<q.length
  · have hv:=Kq np nq hlt
    rw [Nat.div_eq_of_lt hv,Nat.mod_eq_of_lt hv,Ze]
    exact en tt [.c [] ca,.c [] cb,.f (by simpa using c1),.t (by simp [Qd]; omega),.c [] (S5 np.1 h1)] rfl rfl (by simp [Qa,Zw])
  by_cases hone:q.length=1
  · obtain ⟨y,rfl⟩:∃ y,q=[y]:=by
      match q,hone with
      | [y],_=>exact ⟨y,rfl⟩
    have yb:=nq.1 y (.head _)
    have vy:val [y]=y:=by simp [val]
    rw [vy] at hy ⊢
    have co:=Q16 np.1 (by omega) hy yb
    have sm:Sm [val p % y]:=fun z hz=>by
      simp at hz; subst hz; exact Nat.lt_trans (Nat.mod_lt _ hy) yb
    have cc:=Sr sm
    rw [show val [val p % y]=val p % y from by simp [val]] at cc
    exact en tt [.c [] ca,.c [] cb,.f (by simp [lm]),.f (by simp [Qd]; omega),.t (by simp [lm]),.x (Zf (l:=[y]) (i:=0) rfl),.c [] co,.c [] cc] rfl rfl (by simp [Qa,Zw])
  · have hle:q.length≤p.length:=Nat.le_of_not_lt hlt
    obtain ⟨y1,hy1,hy10⟩:=nq.2 q0
    have y1b:=nq.1 y1 (List.mem_of_getElem? hy1)
    have hszy:=Qiq nq hy1
    have hsz1:sz y1≤32:=Kc.2 (by omega)
    have hsz0:0<sz y1:=Q03 (by omega)
    obtain ⟨s,hs⟩:∃ s,s=32-sz y1:=⟨_,rfl⟩
    have hs31:s≤31:=by omega
    have Ui:(2:Nat)^32=4294967296:=by decide
    obtain ⟨x,hx⟩:∃ x,x=val p:=⟨_,rfl⟩
    obtain ⟨y,hyv⟩:∃ y,y=val q:=⟨_,rfl⟩
    have cl:=Qy7 y1b
    rw [←hs] at cl
    have hvx:val p*2^s<4294967296^(p.length+1):=by
      have h1:=Wg p np.1
      rw [Nat.pow_succ]
      exact Nat.lt_of_lt_of_le (Nat.mul_lt_mul_of_pos_right h1 (show 0<2^s from Nat.pow_pos (by decide))) (Nat.mul_le_mul_left _ (by rw [←Ui]; exact Nat.pow_le_pow_right (by decide) (by omega)))
    have hvy:val q*2^s<4294967296^q.length:=by
      have h1:=Ar (val q)
      rw [←Ui,←Nat.pow_mul]
      have h2:val q*2^s<2^sz (val q)*2^s:=Nat.mul_lt_mul_of_pos_right h1 (Nat.pow_pos (by decide))
      rw [←Nat.pow_add] at h2
      rw [show 32*q.length=sz (val q)+s from by omega]
      exact h2
    have cx:=Qpi np.1 (show sz (val p)≤4294967400 by omega) hs31 (show p.length+1<274877906944 by omega) (by omega) hvx
    have cy:=Qpi nq.1 (show sz (val q)≤4294967400 by omega) hs31 (show q.length<274877906944 by omega) qp hvy
    obtain ⟨hXl,hXb,hXv⟩:=Qbc (k:=p.length+1) (v:=val p*2^s)
    obtain ⟨hYl,hYb,hYv⟩:=Qbc (k:=q.length) (v:=val q*2^s)
    have hXv:=hXv hvx
    have hYv:=hYv hvy
    obtain ⟨X,hX⟩:∃ X,X=dgs (p.length+1) (val p*2^s):=⟨_,rfl⟩
    obtain ⟨Y,hY⟩:∃ Y,Y=dgs q.length (val q*2^s):=⟨_,rfl⟩
    rw [←hX] at hXl hXb hXv cx
    rw [←hY] at hYl hYb hYv cy
    have hyB:4294967296^(q.length-1)≤val q:=Mr nq q0
    have hR:=Qh7 hXv hYv hXl hXb hYl hYb (show 2≤q.length by omega) (Wg p np.1) hyB hle
    refine go tt [.c [] ca,.c [] cb,.f (by simpa using c1),.f (by simp [Qd]; omega),.f (by simp [Qd]; omega),.r 49 (eI (b:=((q.length-1:Nat):Int)) (by rw [Qd]; omega)),.x (Zf hy1),.c [] cl,.r 57 (eI (b:=((p.length+1:Nat):Int)) (by rw [Qd]; omega)),.c [0] cx,.r 62 (eI (b:=(q.length:Int)) (by rw [Qd])),.c [1] cy,.r 65 (eI (b:=(q.length:Int)) (by rw [Qd,hYl])),.r 70 (eI (b:=((p.length-q.length+1:Nat):Int)) (by rw [Qd]; omega)),.i (p.length-q.length+1),.i (p.length-q.length+1),.r 73 (eI (b:=((p.length-q.length+1:Nat):Int)) (by simp))] rfl ?_ ?_
    · simp only [Qa,Zw,IntKind.bits,Qd]
      omega
    · rw [Pu]
      refine pb 1 rfl rfl ?_
      refine lp (S:=Int×List Nat×List Nat) 3 (fun L1 s=>(13,.v (.one (.int .i64 s.1)))::L1) (fun s=>[.row false 143 1 (lm s.2.2),.gone,.row false 143 1 (lm s.2.1)]) (fun s=>(s.1+1).toNat)
        (fun s=>-1≤s.1∧s.1<p.length-q.length+1∧s.2.1.length=p.length-q.length+1∧Sm s.2.1∧Rest s.2.2 Y p.length q.length (s.1+1).toNat∧val (s.2.1.drop (s.1+1).toNat)*4294967296^(s.1+1).toNat*val Y+val s.2.2=val X) (((p.length-q.length+1:Nat):Int)-1,List.replicate (p.length-q.length+1) 0,X)
        ⟨by dsimp only; omega,by dsimp only; omega,by simp,fun x hx=>by rw [List.eq_of_mem_replicate hx]; decide,by simpa using hR,by simp [val]⟩ rfl (fun _ _=>rfl) rfl fun ⟨i,oq,ox⟩ ⟨j1,j2,j3,j4,j5,j6⟩=>?_
      dsimp only at j1 j2 j3 j4 j5 j6 ⊢
      rcases Int.lt_or_le i 0 with hi | hi
      · obtain rfl:i=-1:=by omega
        simp only [show ((-1:Int)+1).toNat=0 from rfl,List.drop_zero,Nat.pow_zero,Nat.mul_one] at j5 j6
        have hlt':val ox<val q*2^s:=by have:=j5.lt; rw [hYv] at this; simpa using this
        have hfin:=Qsp (x:=val p) (y:=val q) (s:=s) (r:=val ox) (q:=oq) hy (by rw [←hXv,←hYv]; exact j6) hlt'
        have hoxl:=j5.ol
        have hox:=Qis (o:=ox) (n:=q.length) (by omega) (Nat.lt_trans hlt' hvy)
        have hszm:sz (val (ox.take q.length))≤4294967400:=by
          rw [hox,hfin.2]
          have h1:=Qtg (val p % val q) (2^s)
          have h2':=Ym (Nat.le_of_lt (Nat.mod_lt (val p) hy))
          have h3:sz (2^s)≤s+1:=Kc.2 (Nat.pow_lt_pow_right (by decide) (by omega))
          omega
        have cs:=Q10 (a:=ox.take q.length) (fun u hu=>j5.ob u (List.mem_of_mem_take hu)) hszm hs31
        rw [hox,hfin.2,Nat.mul_div_cancel _ (Nat.pow_pos (by decide))] at cs
        have cq:=Sr j4
        rw [hfin.1] at cq
        exact en tt [.f (by decide),.p 2,.p 0,.c [] cq,.i q.length,.r 95 (v:=lr (ox.take q.length)) (by simp [lm]),.c [] cs] rfl rfl (by simp [Qa,Zw,Qd]; omega)
      · obtain ⟨k,rfl⟩:=Int.eq_ofNat_of_zero_le hi
        have e:((k:Int)+1).toNat=k+1:=by omega
        rw [e] at j5 j6
        obtain ⟨top,nx,xn,x1,x2,D⟩:=j5.dig
        have hoxl:=j5.ol
        have hm:=j5.hm
        have cd:=Qo3 (o:=ox) (lo:=k) (by omega) (hYl.symm ▸ D) (by omega)
        rw [hYl] at cd
        have hwl:=Nk (o:=ox) (i:=k) (n:=q.length) (by omega)
        have hwlt:val (P0 ox k q.length) % val Y<4294967296^(q.length+1):=by
          have h3:=Wg (P0 ox k q.length) D.xb
          rw [hwl] at h3
          exact Nat.lt_of_le_of_lt (Nat.mod_le _ _) h3
        obtain ⟨d1,d2,d3⟩:=Qbc (k:=q.length+1) (v:=val (P0 ox k q.length) % val Y)
        have hnx:=j5.next (w':=dgs (q.length+1) (val (P0 ox k q.length) % val Y)) (d1.trans hwl.symm) d2 (d3 hwlt) (q:=oq) (by omega) j6
        have hdg:=D.qlt
        refine go tt [.t (by simp),.i k,.i (k+q.length+1),.r 87 (v:=.one (.orow 0 1 (some (k,q.length+1)))) (by rw [show k+q.length+1-k=q.length+1 by omega]),.c [0] cd,.i k] rfl ?_ ?_
        · simp only [Qa,Qd]; omega
        · rw [Vm]
          refine rd ((k:Int)-1,oq.set k (val (P0 ox k q.length) / val Y),ox.take k++dgs (q.length+1) (val (P0 ox k q.length) % val Y)++ox.drop (k+q.length+1)) (by dsimp only; omega) ⟨by dsimp only; omega,by dsimp only; omega,by simp [j3],Y6 j4 _ _ hdg,?_,?_⟩ rfl
          · dsimp only; rw [show ((k:Int)-1+1).toNat=k from by omega]; exact hnx.1
          · dsimp only; rw [show ((k:Int)-1+1).toNat=k from by omega]; exact hnx.2
end Orr

namespace Orr
open Go Go.Proofs
set_option maxRecDepth 10000
def sg (z:Int):LV:=.bool (decide (z<0))
def mg (z:Int):LV:=.row (lm (Qw z.natAbs))
abbrev Z1 (z:Int):List LV:=[sg z,mg z]
def Xg (x y:LV) (z:Int):Prop:=∃ b l,x=.bool b∧y=.row (lm l)∧Sm l∧z=Qr b (val l)
theorem Qe (z:Int):Xg (sg z) (mg z) z:=by
  refine ⟨_,_,rfl,rfl,K7 _,?_⟩
  rw [Zk]
  unfold Qr
  by_cases h:z<0 <;> simp [h] <;> omega
theorem Q0h (b:Bool) (m:Nat):[LV.bool (b && decide (0<m)),LV.row (lm (Qw m))]=Z1 (Qr b m):=by
  simp only [Z1,sg,mg,Ay,Xd]
theorem Kn {m:Nat}:0<(Qw m).length↔0<m:=by
  rcases Nat.eq_zero_or_pos m with h | h
  · subst h; rw [Ze]; simp
  · rw [W5 (by omega)]; simp [h]
theorem Ju (b:Bool) (m:Nat):Qf Tryz.prog 67 [lr (Qw m),.one (.bool b)] [.agg (Z1 (Qr b m))]:=by
  rw [←Q0h]
  have e:=Kn (m:=m)
  cases b with
  | false=>exact w tt Tryz.func67 rfl [.f rfl] rfl rfl trivial
  | true=>exact w tt Tryz.func67 rfl [.t rfl] rfl (by simp [Qd,e]) trivial
theorem Js {b:Bool} {m:Nat} {k:Nat} (h:Qt (Qr b m)≤k):sz m≤k:=by
  unfold Qt at h; rwa [Xd] at h
theorem Wq {x y:LV} {z:Int} (hi:Xg x y z) (hs:Qt z≤4294967295):Qf Tryz.prog 61 [.agg [x,y]] [.agg (Z1 z)]:=by
  obtain ⟨b,l,rfl,rfl,hl,rfl⟩:=hi
  exact w tt Tryz.func61 rfl [.c [] (S5 hl (Nat.le_trans (Js hs) (by decide))),.c [] (Ju _ _)] rfl rfl trivial
theorem Mc (b:Bool) (m:Nat):Qr (!b) m=-(Qr b m):=by unfold Qr; cases b <;> simp
theorem Ec {x y:LV} {z:Int} (hi:Xg x y z) (hs:Qt z≤4294967295):Qf Tryz.prog 64 [.agg [x,y]] [.agg (Z1 (-z))]:=by
  obtain ⟨b,l,rfl,rfl,hl,rfl⟩:=hi
  rw [←Mc]
  exact w tt Tryz.func64 rfl [.c [] (S5 hl (Nat.le_trans (Js hs) (by decide))),.c [] (Ju _ _)] rfl rfl trivial
theorem U8 {x y x' y':LV} {z z':Int} (hi:Xg x y z) (hi':Xg x' y' z') (hs:Qt z≤4294967295) (hs':Qt z'≤4294967295):Qf Tryz.prog 165 [.agg [x,y],.agg [x',y']] [.agg (Z1 (z*z'))]:=by
  obtain ⟨b,l,rfl,rfl,hl,rfl⟩:=hi
  obtain ⟨b',l',rfl,rfl,hl',rfl⟩:=hi'
  have e:Qr b (val l)*Qr b' (val l')=Qr (b != b') (val l*val l'):=by
    unfold Qr; cases b <;> cases b' <;> simp [Int.neg_mul,Int.mul_neg]
  rw [e]
  exact w tt Tryz.func165 rfl [.c [] (Q1t hl hl' (Nat.le_trans (Js hs) (by decide)) (Nat.le_trans (Js hs') (by decide))),.c [] (Ju _ _)] rfl rfl trivial
theorem Ef {a b:List Nat} (ha:Sm a) (hb:Sm b) (h1:sz (val a)≤4294967296) (h:val b≤val a):Qf Tryz.prog 149 [lr a,lr b] [lr (Qw (val a-val b)),.one (.bool true)]:=by
  have:=Qxr ha hb h1; rwa [if_pos h] at this
theorem Qoy {a b:List Nat} (ha:Sm a) (hb:Sm b) (h1:sz (val a)≤4294967296) (h:val a<val b):Qf Tryz.prog 149 [lr a,lr b] [lr [],.one (.bool false)]:=by
  have:=Qxr ha hb h1; rwa [if_neg (by omega)] at this
theorem S6 {x y x' y':LV} {z z':Int} (hi:Xg x y z) (hi':Xg x' y' z') (hs:Qt z≤4294967295) (hs':Qt z'≤4294967295):Qf Tryz.prog 209 [.agg [x,y],.agg [x',y']] [.agg (Z1 (z+z'))]:=by
  obtain ⟨b,l,rfl,rfl,hl,rfl⟩:=hi
  obtain ⟨b',l',rfl,rfl,hl',rfl⟩:=hi'
  have s1:=Nat.le_trans (Js hs) (show 4294967295≤4294967296 by decide)
  have s2:=Nat.le_trans (Js hs') (show 4294967295≤4294967296 by decide)
  by_cases hb:b=b'
  · subst hb
    have e:Qr b (val l)+Qr b (val l')=Qr b (val l+val l'):=by unfold Qr; cases b <;> simp <;> omega
    rw [e]
    exact w tt Tryz.func209 rfl [.t (by simp),.c [] (Qxo hl hl' s1 s2),.c [] (Ju _ _)] rfl rfl trivial
  · by_cases hle:val l'≤val l
    · have e:Qr b (val l)+Qr b' (val l')=Qr b (val l-val l'):=by unfold Qr; cases b <;> cases b' <;> simp at hb ⊢ <;> omega
      rw [e]
      exact w tt Tryz.func209 rfl [.f (by simpa using hb),.c [] (Ef hl hl' s1 hle),.t rfl,.c [] (Ju _ _)] rfl rfl trivial
    · have e:Qr b (val l)+Qr b' (val l')=Qr b' (val l'-val l):=by unfold Qr; cases b <;> cases b' <;> simp at hb ⊢ <;> omega
      rw [e]
      exact w tt Tryz.func209 rfl [.f (by simpa using hb),.c [] (Qoy hl hl' s1 (by omega)),.f rfl,.c [] (Ef hl' hl s2 (by omega)),.c [] (Ju _ _)] rfl rfl trivial
theorem Qo1 {x y x' y':LV} {z z':Int} (hi:Xg x y z) (hi':Xg x' y' z') (hs:Qt z≤4294967295) (hs':Qt z'≤4294967295):Qf Tryz.prog 200 [.agg [x,y],.agg [x',y']] [.agg (Z1 (z-z'))]:=by
  obtain ⟨b',l',rfl,rfl,hl',rfl⟩:=hi'
  have hn:Xg (.bool (!b')) (.row (lm l')) (-(Qr b' (val l'))):=⟨_,_,rfl,rfl,hl',(Mc _ _).symm⟩
  rw [Int.sub_eq_add_neg]
  have hi2:=hi
  obtain ⟨b,l,rfl,rfl,hl,_⟩:=hi
  exact w tt Tryz.func200 rfl [.c [] (S6 hi2 hn hs (by rw [U3]; exact hs'))] rfl rfl trivial
theorem Qpf {x y:LV} {z:Int} (hi:Xg x y z) (hs:Qt z≤4294967295):Qf Tryz.prog 174 [.agg [x,y]] [.one (.int .i64 (Int.sign z))]:=by
  obtain ⟨b,l,rfl,rfl,hl,rfl⟩:=hi
  have s1:=Nat.le_trans (Js hs) (show 4294967295≤4294967296 by decide)
  have cb:=Qgr hl s1
  by_cases h0:val l=0
  · have e:Qr b (val l)=0:=by unfold Qr; rw [h0]; cases b <;> simp
    rw [e]
    exact w tt Tryz.func174 rfl [.c [] cb,.t (by simp [Ij,h0])] rfl rfl trivial
  · have Io:sz (val l)≠0:=fun h=>h0 (Ij.1 h)
    cases b
    · have e:(Qr false (val l)).sign=1:=Int.sign_eq_one_of_pos (by unfold Qr; simp; omega)
      rw [e]
      exact w tt Tryz.func174 rfl [.c [] cb,.f (by simp; omega),.f rfl] rfl rfl trivial
    · have e:(Qr true (val l)).sign=-1:=Int.sign_eq_neg_one_of_neg (by unfold Qr; simp; omega)
      rw [e]
      exact w tt Tryz.func174 rfl [.c [] cb,.f (by simp; omega),.t rfl] rfl rfl trivial
theorem Ny {x y x' y':LV} {z z':Int} (hi:Xg x y z) (hi':Xg x' y' z') (hs:Qt z≤4294967295) (hs':Qt z'≤4294967295):Qf Tryz.prog 130 [.agg [x,y],.agg [x',y']] [.one (.int .i64 (Kv z z'))]:=by
  have c1:=Qpf hi hs
  have c2:=Qpf hi' hs'
  obtain ⟨b,l,rfl,rfl,hl,hz⟩:=hi
  obtain ⟨b',l',rfl,rfl,hl',hz'⟩:=hi'
  have k1:=Ur z
  have k2:=Ur z'
  have zl:z.natAbs=val l:=by rw [hz,Xd]
  have zl':z'.natAbs=val l':=by rw [hz',Xd]
  by_cases h1:z.sign<z'.sign
  · have e:Kv z z'=-1:=by unfold Kv; rw [if_pos (by omega)]
    rw [e]
    exact w tt Tryz.func130 rfl [.c [] c1,.c [] c2,.t (by simpa using h1)] rfl rfl trivial
  · by_cases h2:z'.sign<z.sign
    · have e:Kv z z'=1:=by unfold Kv; rw [if_neg (by omega),if_pos (by omega)]
      rw [e]
      exact w tt Tryz.func130 rfl [.c [] c1,.c [] c2,.f (by simpa using h1),.t (by simpa using h2)] rfl rfl trivial
    · by_cases h3:z.sign<0
      · have e:Nz (val l') (val l)=Kv z z':=by unfold Kv Nz; rw [←zl,←zl']; split <;> split <;> (try split) <;> (try split) <;> omega
        have cc:=Qoc hl' hl
        rw [e] at cc
        exact w tt Tryz.func130 rfl [.c [] c1,.c [] c2,.f (by simpa using h1),.f (by simpa using h2),.t (by simpa using h3),.c [] cc] rfl rfl trivial
      · have e:Nz (val l) (val l')=Kv z z':=by unfold Kv Nz; rw [←zl,←zl']; split <;> split <;> (try split) <;> (try split) <;> omega
        have cc:=Qoc hl hl'
        rw [e] at cc
        exact w tt Tryz.func130 rfl [.c [] c1,.c [] c2,.f (by simpa using h1),.f (by simpa using h2),.f (by simpa using h3),.c [] cc] rfl rfl trivial
theorem U9 {z:Int}:Qf Tryz.prog 62 [.agg (Z1 z)] [.one (.bool (decide (z=0)))] :=
  w tt Tryz.func62 rfl [] rfl (by simp only [Qd]; congr 3; have:=Kn (m:=z.natAbs); rw [decide_eq_decide]; omega) trivial
theorem Qgt {z:Int} (h1:-9223372036854775808≤z∧z≤9223372036854775807):Qf Tryz.prog 35 [.one (.int .i64 z)] [.agg (Z1 z)]:=by
  obtain ⟨m,hm⟩:∃ m,m=z.natAbs:=⟨_,rfl⟩
  have sm:Sm [m % 4294967296,m / 4294967296]:=fun x hx=>by
    simp at hx; rcases hx with rfl | rfl <;> omega
  have hv:val [m % 4294967296,m / 4294967296]=m:=by simp only [val]; omega
  have cn:=S5 sm (by rw [hv]; exact Nat.le_trans (Kc.2 (show m<2^64 by omega)) (show 64≤4294967296 by decide))
  rw [hv] at cn
  by_cases hz:z<0
  · have e:Qr true m=z:=by unfold Qr; simp; omega
    have cm:=Ju true m
    rw [e] at cm
    exact w tt Tryz.func35 rfl [.w 0,.r 5 (Kl (b:=((18446744073709551616-m:Nat):Int)) (by rw [w64]; omega)),.t (by simpa using hz),.w 0,.r 9 (Kl (b:=(m:Int)) (by rw [w64]; omega)),.w 0,.r 11 (Ui (b:=((m % 4294967296:Nat):Int)) (by rw [w32]; omega)),.i 32,.r 13 (Kl (b:=((m / 4294967296:Nat):Int)) (by simp)),.c [] cn,.r 18 (v:=.one (.bool true)) (by simp [hz]),.c [] cm] rfl rfl (by simp [Qa,IntKind.bits] <;> omega)
  · have e:Qr false m=z:=by unfold Qr; simp; omega
    have cm:=Ju false m
    rw [e] at cm
    exact w tt Tryz.func35 rfl [.w 0,.r 5 (Kl (b:=(m:Int)) (by rw [w64]; omega)),.f (by simpa using hz),.w 0,.r 11 (Ui (b:=((m % 4294967296:Nat):Int)) (by rw [w32]; omega)),.i 32,.r 13 (Kl (b:=((m / 4294967296:Nat):Int)) (by simp)),.c [] cn,.r 18 (v:=.one (.bool false)) (by simp; omega),.c [] cm] rfl rfl (by simp [Qa,IntKind.bits] <;> omega)
theorem Qgs {m n:Nat} (h1:sz m≤4294967296) (h2:sz n≤4294967296) (hn:0<n):Qf Tryz.prog 102 [lr (Qw m),lr (Qw n)] [lr (Qw (m / n)),lr (Qw (m % n)),.one (.int .i64 0)]:=by
  have:=Qdd (K7 m) (K7 n) (by rw [Zk]; exact h1) (by rw [Zk]; exact h2) (by rw [Zk]; exact hn)
  rwa [Zk,Zk] at this
theorem Qmm {x y x' y':LV} {z z':Int} (hi:Xg x y z) (hi':Xg x' y' z') (hs:Qt z≤4294967295) (hs':Qt z'≤4294967295) (hz:z'≠0):Qf Tryz.prog 103 [.agg [x,y],.agg [x',y']] [.agg (Z1 (z / z')),.agg (Z1 (z % z')),.one (.int .i64 0)]:=by
  obtain ⟨b,l,rfl,rfl,hl,hz1⟩:=hi
  obtain ⟨b',l',rfl,rfl,hl',hz2⟩:=hi'
  have zl:z.natAbs=val l:=by rw [hz1,Xd]
  have zl':z'.natAbs=val l':=by rw [hz2,Xd]
  have s1:sz (val l)≤4294967296:=Nat.le_trans (Js (hz1 ▸ hs)) (by decide)
  have s2:sz (val l')≤4294967296:=Nat.le_trans (Js (hz2 ▸ hs')) (by decide)
  have hp:0<z'.natAbs:=by omega
  have e1:z=if b=true then -(z.natAbs:Int) else (z.natAbs:Int):=by rw [zl]; exact hz1
  have e2:z'=if b'=true then -(z'.natAbs:Int) else (z'.natAbs:Int):=by rw [zl']; exact hz2
  have cd:=Qdd hl hl' s1 s2 (by omega)
  rw [←zl,←zl'] at cd
  have s0:sz (z.natAbs % z'.natAbs)≤4294967296:=Nat.le_trans (Ym (Nat.le_of_lt (Nat.mod_lt _ hp))) (by rw [zl']; exact s2)
  cases b with
  |
   false =>
   obtain ⟨d1,d2⟩:=Ev e2 hp e1
   rw [d1,d2]
   exact w tt Tryz.func103 rfl [.c [] cd,.f rfl,.c [] (Ju _ _),.c [] (Ju _ _),.f rfl,.f rfl] rfl rfl trivial
  |
   true =>
   by_cases h0:z.natAbs % z'.natAbs=0
   · obtain ⟨d1,d2⟩:=Dm e2 hp e1 h0
     rw [d1,d2]
     exact w tt Tryz.func103 rfl [.c [] cd,.f rfl,.c [] (Ju _ _),.c [] (Ju _ _),.t rfl,.f (by rw [h0,Ze]; rfl)] rfl rfl trivial
   · obtain ⟨d1,d2⟩:=Eu e2 hp e1 (by omega)
     rw [d1,d2]
     have ca:=Qxo (a:=Qw (z.natAbs / z'.natAbs)) (b:=[1]) (K7 _) (fun x hx=>by simp at hx; subst hx; decide) (by rw [Zk]; exact Nat.le_trans (Ym (Nat.div_le_self _ _)) (by rw [zl]; exact s1)) (by decide)
     have cs:=Ef (a:=l') (b:=Qw (z.natAbs % z'.natAbs)) hl' (K7 _) s2 (by rw [Zk,←zl']; exact Nat.le_of_lt (Nat.mod_lt _ hp))
     rw [Zk] at ca cs
     rw [←zl'] at cs
     have hl0:=Kn (m:=z.natAbs % z'.natAbs)
     exact w tt Tryz.func103 rfl [.c [] cd,.f rfl,.c [] (Ju _ _),.c [] (Ju _ _),.t rfl,.t (by simp [Qd]; omega),.c [] ca,.c [] cs,.c [] (Ju _ _),.c [] (Ju _ _)] rfl rfl trivial
theorem Uw {x y x' y':LV} {z z':Int} (hi:Xg x y z) (hi':Xg x' y' z') (hs:Qt z≤4294967295) (hs':Qt z'≤4294967295) (hz:z'≠0) (hd:z % z'=0):Qf Tryz.prog 65 [.agg [x,y],.agg [x',y']] [.agg (Z1 (z / z')),.one (.int .i64 0)]:=by
  have cd:=Qmm hi hi' hs hs' hz
  obtain ⟨b,l,rfl,rfl,_⟩:=hi
  obtain ⟨b',l',rfl,rfl,_⟩:=hi'
  exact w tt Tryz.func65 rfl [.c [] cd,.f rfl,.f (by rw [hd]; simp [Qd,Ze])] rfl rfl trivial
end Orr

namespace Orr
open Go
abbrev Q3n (l:List Nat):LV:=.row (lm l)
def Xf (l:List Int):Nat:=l.foldl (fun g z=>Nat.gcd g z.natAbs) 0
theorem Qm1 {l:List Int} {i:Nat} {z:Int} (h:l[i]? = some z):Xf (l.take (i+1))=Nat.gcd (Xf (l.take i)) z.natAbs:=by
  unfold Xf
  rw [List.take_add_one,h]
  simp [List.foldl_append]
theorem Qvj (g x:Nat):Nat.gcd x (g % x)=Nat.gcd g x:=by
  rw [Nat.gcd_comm g x,Nat.gcd_rec x g,Nat.gcd_comm]
theorem Iv (l:List Int):l.foldl (fun g z=>Nat.gcd g z.natAbs) 1=1:=by
  induction l with
  | nil=>rfl
  | cons z l ih=>simp [ih]
theorem Qqn {l:List Int} {i:Nat} (h:Xf (l.take i)=1):Xf l=1:=by
  have e:l=l.take i++l.drop i:=(List.take_append_drop i l).symm
  unfold Xf at h ⊢
  rw [e,List.foldl_append,h,Iv]
def Qp:List Int→List Int
  | []=>[]
  |
   x::l=>match Qp l with
   | []=>if x=0 then [] else [x]
   | y::k=>x::y::k
theorem Pv:∀ {l:List Int},(∀ x∈l,x=0)→Qp l=[]
  | [],_=>rfl
  |
   x::l,h=>by
   have ih:=Pv (l:=l) (fun y hy=>h y (List.mem_cons_of_mem _ hy))
   simp [Qp,ih,h x (List.mem_cons_self ..)]
theorem Qam:∀ {l:List Int} {m:Nat} {y:Int},(∀ j x,m<j→l[j]? = some x→x=0)→l[m]? = some y→y≠0→Qp l=l.take (m+1)
  | [],m,y,_,h,_=>by simp at h
  |
   x::l,0,y,h1,h2,h3=>by
   have h0:Qp l=[]:=Pv fun z hz=>by
     obtain ⟨j,hj⟩:=List.mem_iff_getElem?.1 hz
     exact h1 (j+1) z (by omega) (by simpa using hj)
   simp at h2
   subst h2
   simp [Qp,h0,h3]
  |
   x::l,m+1,y,h1,h2,h3=>by
   have ih:=Qam (l:=l) (m:=m) (y:=y) (fun j z hj hz=>h1 (j+1) z (by omega) (by simpa using hz)) (by simpa using h2) h3
   cases hl:l with
   | nil=>subst hl; simp at h2
   |
    cons u k =>
    subst hl
    rw [List.take_succ_cons] at ih
    simp only [Qp] at ih ⊢
    rw [ih]
    simp
def Qm (l:List Int):Prop:=Qp l=l
theorem Z2:∀ (l:List Int),Qm (Qp l)
  | []=>rfl
  |
   x::l=>by
   have ih:=Z2 l
   unfold Qm at ih ⊢
   cases h:Qp l with
   | nil=>by_cases hx:x=0 <;> simp [Qp,h,hx]
   |
    cons y k =>
    rw [h] at ih
    simp only [Qp,h] at ih ⊢
    rw [ih]
theorem Qfz {l:List Int} {m:Nat} (hm:m≤l.length) (h1:∀ j x,m≤j→l[j]? = some x→x=0) (h2:0<m→∃ y,l[m-1]? = some y∧y≠0):Qp l=l.take m:=by
  rcases Nat.eq_zero_or_pos m with h0 | h0
  · subst h0
    rw [Pv fun z hz=>?_]; rfl
    obtain ⟨j,hj⟩:=List.mem_iff_getElem?.1 hz
    exact h1 j z (by omega) hj
  · obtain ⟨y,hy,hy0⟩:=h2 h0
    have:=Qam (l:=l) (m:=m-1) (y:=y) (fun j x hj hx=>h1 j x (by omega) hx) hy hy0
    rwa [show m-1+1=m from by omega] at this
def IsInts:List (List LV)→List Int→Prop
  | [],[]=>True
  | x::l,z::p=>(∃ a b,x=[a,b]∧Xg a b z)∧IsInts l p
  | _,_=>False
theorem IsInts.len:∀ {l:List (List LV)} {p:List Int},IsInts l p→l.length=p.length
  | [],[],_=>rfl
  | x::l,z::p,h=>by simp [h.2.len]
  | [],_::_,h=>h.elim
  | _::_,[],h=>h.elim
theorem IsInts.get:∀ {l:List (List LV)} {p:List Int},IsInts l p→∀ {i:Nat} {z:Int},p[i]? = some z→∃ a b,l[i]? = some [a,b]∧Xg a b z
  | [],[],_,i,z,h=>by simp at h
  |
   x::l,y::p,h,0,z,hz=>by
   simp at hz; subst hz
   obtain ⟨a,b,rfl,hi⟩:=h.1
   exact ⟨a,b,rfl,hi⟩
  | x::l,y::p,h,i+1,z,hz=>by simpa using h.2.get (i:=i) (by simpa using hz)
  | [],_::_,h,_,_,_=>h.elim
  | _::_,[],h,_,_,_=>h.elim
theorem Zu:∀ (p:List Int),IsInts (p.map Z1) p
  | []=>trivial
  | z::p=>⟨⟨_,_,rfl,Qe z⟩,Zu p⟩
theorem IsInts.append:∀ {l l':List (List LV)} {p p':List Int},IsInts l p→IsInts l' p'→IsInts (l++l') (p++p')
  | [],_,[],_,_,h=>h
  | x::l,_,z::p,_,h,h'=>⟨h.1,h.2.append h'⟩
  | [],_,_::_,_,h,_=>h.elim
  | _::_,_,[],_,h,_=>h.elim
def pl (p:List Int):LV:=.row (p.map Z1)
def ids (l:List Int):LV:=.row (l.map fun (x:Int)=>[.int .i64 x])
theorem J7:Xg (.bool false) (.row []) 0:=⟨false,[],rfl,rfl,(fun x hx=>by cases hx),rfl⟩
theorem Qww:sg 0=.bool false:=rfl
theorem Qm7 {z:Int}:(Qw z.natAbs).length=0↔z=0:=by
  constructor
  · intro h
    have h0:=List.eq_nil_of_length_eq_zero h
    have:=(Ms (W7 z.natAbs)).2 h0
    rw [Zk] at this; omega
  · rintro rfl; rw [show (0:Int).natAbs=0 from rfl,Ze]; rfl
theorem J0 {α β:Type} {f:α→β} {l:List α} {i:Nat} {x:α} (h:l[i]? = some x):(l.map f)[i]? = some (f x):=by rw [List.getElem?_map,h]; rfl
theorem Qye {α:Type} {f:α→List LV} {sz:Nat} (l:List α) (h:∀ x,(f x).length=sz):∀ c∈l.map f,c.length=sz:=fun c hc=>by
  obtain ⟨x,_,rfl⟩:=List.mem_map.1 hc
  exact h x
theorem Qvz:mg 0=.row []:=by simp [mg,Ze,lm]
theorem Gb:Z1 0=[LV.bool false,LV.row []]:=by simp [Z1,Qww,Qvz]
end Orr

namespace Orr
open Go Go.Proofs
set_option maxRecDepth 10000
theorem D8 {p:List Int} (hs:∀ z∈p,Qt z≤4294967295):sz (Xf p)≤4294967295:=by
  have key:∀ (p:List Int) (g:Nat),sz g≤4294967295→(∀ z∈p,Qt z≤4294967295)→sz (p.foldl (fun g z=>Nat.gcd g z.natAbs) g)≤4294967295:=by
    intro p
    induction p with
    | nil=>exact fun g h _=>h
    |
     cons z p ih =>
     intro g h hs
     refine ih _ ?_ fun y hy=>hs y (.tail _ hy)
     rcases Nat.eq_zero_or_pos g with h0 | h0
     · subst h0; show sz (Nat.gcd 0 z.natAbs)≤_; rw [Nat.gcd_zero_left]; exact hs z (.head _)
     · exact Nat.le_trans (Ym (Nat.gcd_le_left _ h0)) h
  exact key p 0 (by decide) hs
theorem Qog {l:List (List LV)} {p:List Int} (hi:IsInts l p) (hs:∀ z∈p,Qt z≤4294967295):Qf Tryz.prog 63 [.one (.row l)] [.agg (Z1 ((Xf p:Nat):Int))]:=by
  refine Jb Tryz.func63 rfl (ln 0 rfl rfl fun hl=>?_)
  have hlp:=hi.len
  refine go tt [.z 3,.r 3 (v:=lr (Qw (Xf (p.take 0)))) (by simp [Xf,Ze,lm])] rfl trivial ?_
  refine ct 2 (S:=Unit) (fun _=>[(2,.v (.one (.ow 0 0))),(3,.v (lr (Qw (Xf p))))]) (fun _=>[.blk 27 [.bool false,.nils],.gone]) (fun _=>True) rfl ?_ ?_
  · refine lp (S:=Nat) 1 (fun L1 i=>(12,.v (.one (.int .i64 (i:Int))))::(3,.v (lr (Qw (Xf (p.take i)))))::L1) (fun _=>[.blk 27 [.bool false,.nils]]) (fun i=>p.length-i) (fun i=>i≤p.length) 0 (Nat.zero_le _) rfl (fun _ _=>rfl) rfl fun i hip=>?_
    by_cases h:i<p.length
    · have hlt:i<l.length:=by omega
      obtain ⟨c,hc⟩:∃ c,l[i]? = some c:=⟨_,List.getElem?_eq_getElem hlt⟩
      obtain ⟨z,hz⟩:∃ z,p[i]? = some z:=⟨_,List.getElem?_eq_getElem h⟩
      obtain ⟨x,y,hc',b,r,rfl,rfl,hr,hzz⟩:=hi.get hz
      rw [hc] at hc'; injection hc' with hc'; subst hc'
      have hsz:=hs z (List.mem_of_getElem? hz)
      have hg0:sz (Xf (p.take i))≤4294967295:=D8 fun y hy=>hs y (List.mem_of_mem_take hy)
      have ezr:z.natAbs=val r:=by rw [hzz,Xd]
      have cn:=S5 hr (by rw [←ezr]; exact Nat.le_trans hsz (by decide))
      rw [←ezr] at cn
      refine go tt [.t (by simp; omega),.x hc,.c [] cn] rfl trivial ?_
      refine lp (S:=Nat×Nat) 2 (fun L1 s=>(3,.v (lr (Qw s.1)))::(6,.v (lr (Qw s.2)))::L1) (fun _=>[.blk 27 [.bool false,.nils],.blk 27 [.bool b,.row (lm r)]]) (fun s=>s.2) (fun s=>Nat.gcd s.1 s.2=Nat.gcd (Xf (p.take i)) z.natAbs∧sz s.1≤4294967295∧sz s.2≤4294967295) (Xf (p.take i),z.natAbs) ⟨rfl,hg0,hsz⟩ rfl (fun _ _=>rfl) rfl fun ⟨g,u⟩ ⟨j1,j2,j3⟩=>?_
      dsimp only at j1 j2 j3 ⊢
      have hul:=Kn (m:=u)
      by_cases hu:0<u
      · have cd:=Qgs (m:=g) (n:=u) (by omega) (by omega) hu
        refine go tt [.t (by simp [Qd]; omega),.c [] cd] rfl trivial ?_
        exact rd (u,g % u) (Nat.mod_lt _ hu) ⟨(Qvj g u).trans j1,j3,Nat.le_trans (Ym (Nat.le_of_lt (Nat.mod_lt _ hu))) j3⟩ rfl
      · obtain rfl:u=0:=by omega
        rw [Nat.gcd_zero_right,←Qm1 hz] at j1
        subst j1
        by_cases h1:Xf (p.take (i+1))=1
        · have e1:Qw (Xf (p.take (i+1)))=[1]:=by rw [h1,W5 (by decide)]; simp [Ze]
          refine go tt [.f (by simp [Ze,lm]),.t (by rw [e1]; rfl),.x (Zf (i:=0) (x:=1) (by rw [e1]; rfl)),.t rfl] rfl trivial ?_
          exact rc () trivial (by rw [h1,Qqn h1]; rfl)
        · obtain ⟨g,hg⟩:∃ g,g=Xf (p.take (i+1)):=⟨_,rfl⟩
          rw [←hg] at h1 j2 ⊢
          by_cases h2:(Qw g).length=1
          · obtain ⟨v,hv⟩:∃ v,Qw g=[v]:=by
              match hm:Qw g,h2 with
              | [v],_=>exact ⟨v,rfl⟩
            have hv1:v≠1:=fun e=>h1 (by rw [←Zk g,hv,e]; rfl)
            refine go tt [.f (by simp [Ze,lm]),.t (by simp [Qd,h2]),.x (Zf (i:=0) (x:=v) (by rw [hv]; rfl)),.f (by simp; omega)] rfl (by simp [Qa] <;> omega) ?_
            exact rd (i+1) (by omega) h (by rw [←hg]; rfl)
          · refine go tt [.f (by simp [Ze,lm]),.f (by simp [Qd]; omega),.f rfl] rfl (by simp [Qa] <;> omega) ?_
            exact rd (i+1) (by omega) h (by rw [←hg]; rfl)
    · obtain rfl:i=p.length:=by omega
      refine go tt [.f (by simp; omega)] rfl trivial ?_
      rw [List.take_length]
      exact rc () trivial rfl
  · intro _ _
    have cn:=S5 (K7 (Xf p)) (by rw [Zk]; exact Nat.le_trans (D8 hs) (by decide))
    rw [Zk] at cn
    exact en tt [.c [] cn,.c [] (Ju false _)] rfl (by simp [Qr]) trivial
end Orr

namespace Orr
def Bd (s:Nat) (p:List Int):Prop:=∀ z∈p,Qt z≤s
theorem Ul:Qt 0=0:=rfl
theorem Qoa {s:Nat} {p:List Int} (h:Bd s p) {i:Nat} {z:Int} (hz:p[i]? = some z):Qt z≤s:=h z (List.mem_of_getElem? hz)
theorem Q7 {s:Nat} {p:List Int} (h:Bd s p) (k:Nat):Qt (p.getD k 0)≤s:=by
  rw [List.getD_eq_getElem?_getD]
  cases hk:p[k]? with
  | none=>rw [Option.getD_none,Ul]; exact Nat.zero_le _
  | some z=>exact Qoa h hk
theorem Qc {s t:Nat} {p:List Int} (h:Bd s p) (ht:s≤t):Bd t p:=fun z hz=>Nat.le_trans (h z hz) ht
theorem Nv {s:Nat}:Bd s []:=fun z hz=>by cases hz
theorem Qyx {s:Nat} {n:Nat} {g:Nat→Int} (h:∀ k,k<n→Qt (g k)≤s):Bd s ((List.range n).map g):=fun z hz=>by
  obtain ⟨k,hk,rfl⟩:=List.mem_map.1 hz
  exact h k (List.mem_range.1 hk)
theorem Qf1:∀ (l:List Int),∀ z∈Qp l,z∈l
  | [],z,h=>by cases h
  |
   x::l,z,h=>by
   have ih:=Qf1 l
   cases hl:Qp l with
   |
    nil =>
    simp only [Qp,hl] at h
    split at h
    · cases h
    · rw [List.mem_singleton] at h; rw [h]; exact List.mem_cons_self ..
   |
    cons y k =>
    simp only [Qp,hl] at h
    rcases List.mem_cons.1 h with rfl | h
    · exact List.mem_cons_self ..
    · exact List.mem_cons_of_mem _ (ih z (by rw [hl]; exact h))
theorem Z8 (l:List Int):(Qp l).length≤l.length:=by
  induction l with
  | nil=>exact Nat.le_refl _
  |
   cons x l ih =>
   cases hl:Qp l with
   | nil=>simp only [Qp,hl]; split <;> simp
   | cons y k=>simp only [Qp,hl]; rw [hl] at ih; simp at ih ⊢; exact ih
theorem X3 {s:Nat} {p:List Int} (h:Bd s p):Bd s (Qp p):=fun z hz=>h z (Qf1 p z hz)
theorem Se:∀ (l:List Int) (k:Nat),(Qp l).getD k 0=l.getD k 0
  | [],k=>rfl
  |
   x::l,k=>by
   have ih:=Se l
   cases hl:Qp l with
   |
    nil =>
    rw [hl] at ih
    simp only [Qp,hl]
    split
    · rename_i hx
      cases k with
      | zero=>simp [hx]
      | succ k=>have:=ih k; simp at this ⊢; exact this
    · cases k with
      | zero=>simp
      | succ k=>have:=ih k; simp at this ⊢; exact this
   |
    cons y m =>
    rw [hl] at ih
    simp only [Qp,hl]
    cases k with
    | zero=>simp
    | succ k=>have:=ih k; simp at this ⊢; exact this
def Dn (n:Nat) (g:Nat→Int):List Int:=Qp ((List.range n).map g)
theorem Zc (n:Nat) (g:Nat→Int):Qm (Dn n g):=Z2 _
theorem H9 (n:Nat) (g:Nat→Int):(Dn n g).length≤n:=Nat.le_trans (Z8 _) (by simp)
theorem Kg (n:Nat) (g:Nat→Int) (k:Nat):(Dn n g).getD k 0=if k<n then g k else 0:=by
  unfold Dn
  rw [Se,List.getD_eq_getElem?_getD,List.getElem?_map]
  split
  · rename_i h; rw [List.getElem?_range h]; rfl
  · rename_i h; rw [List.getElem?_eq_none (by simpa using h)]; rfl
theorem P4 {s n:Nat} {g:Nat→Int} (h:∀ k,k<n→Qt (g k)≤s):Bd s (Dn n g):=X3 (Qyx h)
def Mx (p q:List Int):List Int:=Dn (max p.length q.length) fun k=>p.getD k 0+q.getD k 0
def We (p q:List Int):List Int:=Dn (max p.length q.length) fun k=>p.getD k 0-q.getD k 0
def Uv (p:List Int):List Int:=Dn p.length fun k=>-(p.getD k 0)
def Zo (p:List Int) (c:Int):List Int:=Dn p.length fun k=>p.getD k 0*c
def Zv (p:List Int):List Int:=Dn (p.length-1) fun k=>p.getD (k+1) 0*((k+1:Nat):Int)
theorem Qi8 {s t:Nat} {p q:List Int} (h:Bd s p) (h':Bd t q):Bd (max s t+1) (Mx p q):=P4 fun k _=>Nat.le_trans (Mj _ _) (by have:=Q7 h k; have:=Q7 h' k; omega)
theorem P5 {s t:Nat} {p q:List Int} (h:Bd s p) (h':Bd t q):Bd (max s t+1) (We p q):=P4 fun k _=>Nat.le_trans (Qbs _ _) (by have:=Q7 h k; have:=Q7 h' k; omega)
theorem Qav {s:Nat} {p:List Int} (h:Bd s p):Bd s (Uv p):=P4 fun k _=>by rw [U3]; exact Q7 h k
theorem Xy {s t:Nat} {p:List Int} {c:Int} (h:Bd s p) (hc:Qt c≤t):Bd (s+t) (Zo p c):=P4 fun k _=>Nat.le_trans (Xc _ _) (by have:=Q7 h k; omega)
theorem Qeh (p q:List Int):(Mx p q).length≤max p.length q.length:=H9 _ _
theorem Rk (p q:List Int):(We p q).length≤max p.length q.length:=H9 _ _
theorem Aq (p:List Int):(Uv p).length≤p.length:=H9 _ _
theorem Xk (p:List Int) (c:Int):(Zo p c).length≤p.length:=H9 _ _
theorem Ky (p:List Int):(Zv p).length≤p.length-1:=H9 _ _
theorem Qkn {k t:Nat} (h:k<2^t):Qt (k:Int)≤t:=by rw [Y3]; simpa using h
theorem Qm5 {k:Nat} (h:k<274877906944):Qt (k:Int)≤4294967295:=Nat.le_trans (Qkn (t:=38) (Nat.lt_of_lt_of_eq h (by decide))) (by omega)
theorem Qi9 {s t:Nat} {p:List Int} (h:Bd s p) (hl:p.length≤2^t):Bd (s+t) (Zv p):=P4 fun k hk=>Nat.le_trans (Xc _ _) (by
  have:=Q7 h (k+1)
  have:=Qkn (k:=k+1) (t:=t) (by omega)
  omega)
def Pi (x:Int) (b:List Int) (i:Nat) (o:List Int):Nat→List Int
  | 0=>o
  | k+1=>(Pi x b i o k).set (i+k) ((Pi x b i o k).getD (i+k) 0+x*b.getD k 0)
def Ph (a b o:List Int):Nat→List Int
  | 0=>o
  | i+1=>Pi (a.getD i 0) b i (Ph a b o i) b.length
def Zn (a b:List Int):List Int:=if a.length=0∨b.length=0 then [] else Qp (Ph a b (List.replicate (a.length+b.length-1) 0) a.length)
theorem Rs (x:Int) (b:List Int) (i:Nat) (o:List Int) (k:Nat):(Pi x b i o k).length=o.length:=by
  induction k with
  | zero=>rfl
  | succ k ih=>simp [Pi,ih]
theorem Ga (a b o:List Int) (i:Nat):(Ph a b o i).length=o.length:=by
  induction i with
  | zero=>rfl
  | succ i ih=>simp [Ph,Rs,ih]
theorem Qqw (l:List Int) (i m:Nat) (v:Int) (h:i<l.length):(l.set i v).getD m 0=if m=i then v else l.getD m 0:=by
  rw [List.getD_eq_getElem?_getD,List.getElem?_set,List.getD_eq_getElem?_getD]
  by_cases e:i=m
  · subst e; simp [h]
  · rw [if_neg e,if_neg (fun h=>e h.symm)]
theorem Qm9 (x:Int) (b:List Int) (i:Nat) (o:List Int) (k m:Nat) (h:i+k≤o.length):(Pi x b i o k).getD m 0=if i≤m∧m<i+k then o.getD m 0+x*b.getD (m-i) 0 else o.getD m 0:=by
  induction k with
  | zero=>simp only [Pi]; rw [if_neg (by omega)]
  |
   succ k ih =>
   have ih:=ih (by omega)
   simp only [Pi]
   rw [Qqw _ _ _ _ (by rw [Rs]; omega)]
   by_cases e:m=i+k
   · subst e
     rw [if_pos rfl,if_pos (by omega),show i+k-i=k from by omega]
     rw [ih,if_neg (by omega)]
   · rw [if_neg e,ih]
     by_cases h1:i≤m∧m<i+k
     · rw [if_pos h1,if_pos (by omega)]
     · rw [if_neg h1,if_neg (by omega)]
theorem Ff {x y:Int} {s t:Nat} (hx:Qt x≤s) (hy:Qt y≤t):(x*y).natAbs≤2^(s+t):=by
  have h:=Nat.le_trans (Xc x y) (show _≤s+t by omega)
  rw [Y3] at h; omega
theorem Qk5 {x:Int} {b:List Int} {i:Nat} {o:List Int} {k M:Nat} (h:i+k≤o.length) (ho:∀ m,(o.getD m 0).natAbs≤i*M) (hx:∀ j,(x*b.getD j 0).natAbs≤M) (m:Nat):((Pi x b i o k).getD m 0).natAbs≤(i+1)*M:=by
  rw [Qm9 x b i o k m h,Nat.succ_mul]
  have h1:=ho m
  split
  · have h2:=hx (m-i)
    generalize i*M=q at *
    omega
  · omega
theorem Qk4 {a b o:List Int} {i M:Nat} (h:∀ j,j<i→j+b.length≤o.length) (ho:∀ m,o.getD m 0=0) (hx:∀ i j,(a.getD i 0*b.getD j 0).natAbs≤M) (m:Nat):((Ph a b o i).getD m 0).natAbs≤i*M:=by
  induction i generalizing m with
  | zero=>simp only [Ph]; rw [ho]; simp
  |
   succ i ih =>
   simp only [Ph]
   exact Qk5 (by rw [Ga]; exact h i (by omega)) (ih fun j hj=>h j (by omega)) (hx i) m
theorem Ss {z:Int} {i s t:Nat} (h:z.natAbs≤i*2^s) (hi:i<2^t):Qt z≤s+t:=by
  rw [Y3]
  have h1:i*2^s<2^t*2^s:=Nat.mul_lt_mul_of_pos_right hi (Nat.pow_pos (by decide))
  rw [←Nat.pow_add,Nat.add_comm t s] at h1
  omega
theorem Uk (n m:Nat):(List.replicate n (0:Int)).getD m 0=0:=by
  rw [List.getD_eq_getElem?_getD,List.getElem?_replicate]; split <;> rfl
theorem L6 {s:Nat} {p:List Int} (h:∀ m,Qt (p.getD m 0)≤s):Bd s p:=fun z hz=>by
  obtain ⟨i,hi⟩:=List.mem_iff_getElem?.1 hz
  have:=h i
  rw [List.getD_eq_getElem?_getD,hi] at this
  exact this
theorem Ap (a b:List Int):(Zn a b).length≤a.length+b.length-1:=by
  unfold Zn
  split
  · simp
  · refine Nat.le_trans (Z8 _) ?_
    rw [Ga]; simp
theorem Qau {s t u:Nat} {a b:List Int} (ha:Bd s a) (hb:Bd t b) (hl:a.length<2^u):Bd (s+t+u) (Zn a b):=by
  unfold Zn
  split
  · exact Nv
  · refine X3 (L6 fun m=>?_)
    exact Ss (Qk4 (M:=2^(s+t)) (fun j hj=>by simp; omega) (Uk _) (fun i j=>Ff (Q7 ha i) (Q7 hb j)) m) hl
theorem Z0 (a b:List Int):Qm (Zn a b):=by
  unfold Zn
  split
  · rfl
  · exact Z2 _
def Wh (a:List Int) (n d:Int):Nat→Int×Int
  | 0=>(0,1)
  | k+1=>((Wh a n d k).1*n+a.getD (a.length-1-k) 0*(Wh a n d k).2,(Wh a n d k).2*d)
def Q0l (a:List Int) (n d:Int):Int:=(Wh a n d a.length).1
theorem Ql9 {a:List Int} {n d:Int} {s t k:Nat} (ha:Bd s a) (hn:Qt n≤t) (hd:Qt d≤t):Qt (Wh a n d k).1≤s+2+k*(t+1)∧Qt (Wh a n d k).2≤1+k*t:=by
  induction k with
  | zero=>exact ⟨by simp [Wh,Ul],by simp [Wh]; decide⟩
  |
   succ k ih =>
   obtain ⟨h1,h2⟩:=ih
   have h3:=Q7 ha (a.length-1-k)
   have e1:k*(t+1)=k*t+k:=by rw [Nat.mul_add,Nat.mul_one]
   rw [Nat.succ_mul,Nat.succ_mul]
   refine ⟨?_,?_⟩
   · simp only [Wh]
     refine Nat.le_trans (Mj _ _) ?_
     have h4:=Xc (Wh a n d k).1 n
     have h5:=Xc (a.getD (a.length-1-k) 0) (Wh a n d k).2
     generalize k*t=q at *
     rw [e1] at h1 ⊢
     omega
   · simp only [Wh]
     have h4:=Xc (Wh a n d k).2 d
     generalize k*t=q at *
     omega
end Orr
namespace Orr
theorem getD_some {l:List Int} {i:Nat} (h:i<l.length):l[i]? = some (l.getD i 0):=by
  rw [List.getD_eq_getElem?_getD,List.getElem?_eq_getElem h]; rfl
theorem Qa9 {x y:Int}:Kv x y=0↔x=y:=by
  unfold Kv
  constructor
  · intro h
    split at h
    · omega
    · split at h <;> omega
  · rintro rfl; simp
theorem Xi {p:List Int} (h:Qm p) (h0:0<p.length):p.getD (p.length-1) 0≠0:=by
  induction p with
  | nil=>simp at h0
  |
   cons x l ih =>
   unfold Qm at h
   cases hl:Qp l with
   |
    nil =>
    simp only [Qp,hl] at h
    split at h
    · cases h
    · rename_i hx
      injection h with h1 h2
      subst h2
      simpa using hx
   |
    cons y k =>
    simp only [Qp,hl] at h
    injection h with h1 h2
    rw [←hl] at h2
    have ih:=ih h2 (by rw [←h2,hl]; simp)
    have h3:0<l.length:=by rw [←h2,hl]; simp
    simp only [List.length_cons,Nat.add_sub_cancel]
    obtain ⟨m,hm⟩:∃ m,l.length=m+1:=⟨l.length-1,by omega⟩
    rw [hm] at ih ⊢
    simpa using ih
end Orr
namespace Orr
theorem Qen (p:List Int):(List.range p.length).map (fun k=>p.getD k 0)=p:=by
  apply List.ext_getElem?
  intro i
  rw [List.getElem?_map]
  rcases Nat.lt_or_ge i p.length with h | h
  · rw [List.getElem?_range h]
    simp [List.getElem?_eq_getElem h]
  · rw [List.getElem?_eq_none (by simpa using h),List.getElem?_eq_none h]; rfl
theorem Qg6 {p q:List Int} (hl:p.length=q.length) (h:∀ j,j<p.length→p.getD j 0=q.getD j 0):p=q:=by
  rw [←Qen p,←Qen q,←hl]
  exact List.map_congr_left fun j hj=>h j (List.mem_range.1 hj)
end Orr

namespace Orr
abbrev rl (q:Rat):List LV:=[sg q.num,mg q.num,sg (q.den:Int),mg (q.den:Int)]
theorem Fx (n d:Int):Xf [n,d]=Int.gcd d n:=by
  unfold Xf
  simp only [List.foldl_cons,List.foldl_nil,Nat.gcd_zero_left]
  exact Nat.gcd_comm _ _
theorem Qqo {n d:Int} (hd:d≠0):(0:Int)<((Xf [n,d]:Nat):Int):=by
  rw [Fx]
  have:=Int.gcd_pos_of_ne_zero_left n hd
  omega
theorem Qg8 (n d:Int):n % ((Xf [n,d]:Nat):Int)=0:=by
  rw [Fx]; exact Int.emod_eq_zero_of_dvd (Int.gcd_dvd_right ..)
theorem Qg9 (n d:Int):d % ((Xf [n,d]:Nat):Int)=0:=by
  rw [Fx]; exact Int.emod_eq_zero_of_dvd (Int.gcd_dvd_left ..)
theorem Qk7 {n g:Int} (h:n % g=0):-n % g=0:=by
  exact Int.emod_eq_zero_of_dvd (Int.dvd_neg.2 (Int.dvd_of_emod_eq_zero h))
theorem Qvr {n d:Int} {s:Nat} (hd:d≠0) (h:Qt d≤s):Qt ((Xf [n,d]:Nat):Int)≤s:=by
  rw [Fx]
  refine Nat.le_trans (Ym ?_) h
  have:=Nat.le_of_dvd (by omega:0<d.natAbs) (show Int.gcd d n∣d.natAbs from Nat.gcd_dvd_left _ _)
  simpa using this
theorem Qvy {n d:Int} (hd:0<d):n / ((Xf [n,d]:Nat):Int)=(Rat.divInt n d).num∧d / ((Xf [n,d]:Nat):Int)=((Rat.divInt n d).den:Int):=by
  rw [Fx,Rat.num_divInt,Rat.den_divInt,if_neg (by omega),Int.sign_eq_one_of_pos hd,Int.one_mul]
  refine ⟨rfl,?_⟩
  rw [Int.natCast_ediv,Int.natAbs_of_nonneg (by omega)]
theorem Qvx {n d:Int} (hd:d<0):-n / ((Xf [n,d]:Nat):Int)=(Rat.divInt n d).num∧-d / ((Xf [n,d]:Nat):Int)=((Rat.divInt n d).den:Int):=by
  rw [Fx,Rat.num_divInt,Rat.den_divInt,if_neg (by omega),Int.sign_eq_neg_one_of_neg hd,Int.neg_mul,Int.one_mul]
  refine ⟨rfl,?_⟩
  rw [Int.natCast_ediv,Int.ofNat_natAbs_of_nonpos (by omega)]
theorem Ah (u g:Int):Qt (u / g)≤Qt u:=by
  unfold Qt
  exact Ym (Int.natAbs_ediv_le_natAbs u g)
theorem Aj {n d:Int} {s:Nat} (h:Qt n≤s):Qt (Rat.divInt n d).num≤s:=by
  rw [Rat.num_divInt]
  refine Nat.le_trans (Ah _ _) ?_
  unfold Qt
  rw [Int.natAbs_mul]
  refine Nat.le_trans (Ym ?_) h
  have:d.sign.natAbs≤1:=by rcases Ur d with ⟨_,e⟩ | ⟨_,e⟩ | ⟨_,e⟩ <;> rw [e] <;> decide
  calc d.sign.natAbs*n.natAbs≤1*n.natAbs:=Nat.mul_le_mul_right _ this
    _=n.natAbs:=Nat.one_mul _
theorem Ai {n d:Int} {s:Nat} (h:Qt d≤s) (h1:1≤s):Qt ((Rat.divInt n d).den:Int)≤s:=by
  rw [Rat.den_divInt]
  split
  · exact h1
  · refine Nat.le_trans (Ym ?_) h
    exact Nat.div_le_self _ _
def Qs (s:Nat) (q:Rat):Prop:=Qt q.num≤s∧Qt (q.den:Int)≤s
theorem Qs.mono {s t:Nat} {q:Rat} (h:Qs s q) (ht:s≤t):Qs t q:=⟨Nat.le_trans h.1 ht,Nat.le_trans h.2 ht⟩
theorem Qs.divInt {s:Nat} {n d:Int} (h:Qt n≤s) (h':Qt d≤s) (h1:1≤s):Qs s (Rat.divInt n d):=⟨Aj h,Ai h' h1⟩
theorem Qzm (q:Rat):(q.den:Int)≠0:=by have:=q.den_nz; omega
theorem den_pos (q:Rat):(0:Int)<(q.den:Int):=by have:=q.den_nz; omega
def Vw (n d:Int):Rat:=Rat.divInt n (if d=0 then 1 else d)
theorem M8 (q:Rat):Vw q.num q.den=q:=by
  unfold Vw
  rw [if_neg (Qzm q)]; exact Rat.num_divInt_den q
def Zm (a b:Rat):Int:=Kv (a.num*(b.den:Int)) (b.num*(a.den:Int))
theorem Kk {a b:Rat}:Zm a b<0↔a<b:=by
  rw [Rat.lt_iff]; unfold Zm Kv
  constructor
  · intro h; split at h
    · assumption
    · split at h <;> omega
  · intro h; rw [if_pos h]; decide
theorem Ws {a b:Rat}:0<Zm a b↔b<a:=by
  rw [Rat.lt_iff]; unfold Zm Kv
  constructor
  · intro h; split at h
    · omega
    · split at h
      · assumption
      · omega
  · intro h; rw [if_neg (by omega),if_pos h]; decide
theorem W0 (a:Rat):Zm a a=0:=by unfold Zm Kv; simp
end Orr

namespace Orr
structure Crv where
  x:List Int
  y:List Int
  d:Int
abbrev cl (k:Crv):List LV:=[pl k.x,pl k.y,sg k.d,mg k.d]
def Crv.d' (k:Crv):Int:=if k.d=0 then 1 else k.d
def Crv.g (k:Crv):Int:=if k.d'<0 then -((Xf (k.d'::(Qp k.x++Qp k.y)):Nat):Int) else (Xf (k.d'::(Qp k.x++Qp k.y)):Nat)
def Crv.norm (k:Crv):Crv:=⟨Qp ((Qp k.x).map (· / k.g)),Qp ((Qp k.y).map (· / k.g)),k.d' / k.g⟩
theorem Fw {l:List Int}:∀ z∈l,((Xf l:Nat):Int)∣z:=by
  have key:∀ (l:List Int) (g:Nat),(l.foldl (fun g z=>Nat.gcd g z.natAbs) g∣g)∧∀ z∈l,l.foldl (fun g z=>Nat.gcd g z.natAbs) g∣z.natAbs:=by
    intro l
    induction l with
    | nil=>intro g; exact ⟨Nat.dvd_refl _,by simp⟩
    |
     cons u l ih =>
     intro g
     obtain ⟨h1,h2⟩:=ih (Nat.gcd g u.natAbs)
     refine ⟨Nat.dvd_trans h1 (Nat.gcd_dvd_left _ _),fun z hz=>?_⟩
     rcases List.mem_cons.1 hz with rfl | hz
     · exact Nat.dvd_trans h1 (Nat.gcd_dvd_right _ _)
     · exact h2 z hz
  intro z hz
  have:=(key l 0).2 z hz
  exact Int.ofNat_dvd_left.2 this
theorem Crv.d'_ne (k:Crv):k.d'≠0:=by unfold Crv.d'; split <;> omega
theorem Crv.gcd_ne (k:Crv):Xf (k.d'::(Qp k.x++Qp k.y))≠0:=by
  intro e
  have h:=Fw (l:=k.d'::(Qp k.x++Qp k.y)) k.d' (List.mem_cons_self ..)
  rw [e] at h
  exact k.d'_ne (by simpa using h)
theorem Crv.g_ne (k:Crv):k.g≠0:=by
  have h0:=k.gcd_ne
  unfold Crv.g
  split <;> omega
theorem Crv.g_dvd (k:Crv):∀ z∈k.d'::(Qp k.x++Qp k.y),z % k.g=0:=by
  intro z hz
  have h:=Fw z hz
  refine Int.emod_eq_zero_of_dvd ?_
  unfold Crv.g
  split
  · exact Int.neg_dvd.2 h
  · exact h
theorem Crv.isz_g (k:Crv) {s:Nat} (h:Qt k.d'≤s):Qt k.g≤s:=by
  have hd:=Fw (l:=k.d'::(Qp k.x++Qp k.y)) k.d' (List.mem_cons_self ..)
  have hle:Xf (k.d'::(Qp k.x++Qp k.y))≤k.d'.natAbs:=Nat.le_of_dvd (by have:=k.d'_ne; omega) (Int.ofNat_dvd_left.1 hd)
  refine Nat.le_trans (Ym ?_) h
  unfold Crv.g
  split <;> simp <;> exact hle
structure Cs (s n:Nat) (k:Crv):Prop where
  x:Bd s k.x
  y:Bd s k.y
  d:Qt k.d≤s
  lx:k.x.length≤n
  ly:k.y.length≤n
theorem Qq8 {k:Crv} {s:Nat} (h:Qt k.d≤s) (h1:1≤s):Qt k.d'≤s:=by unfold Crv.d'; split <;> first | exact h1 | exact h
theorem Nu {s:Nat} {p:List Int} (h:Bd s p) (g:Int):Bd s (p.map (· / g)):=fun z hz=>by
  obtain ⟨u,hu,rfl⟩:=List.mem_map.1 hz
  exact Nat.le_trans (Ah u g) (h u hu)
theorem Cs.norm {s n:Nat} {k:Crv} (h:Cs s n k) (h1:1≤s):Cs s n k.norm:=by
  refine ⟨X3 (Nu (X3 h.x) _),X3 (Nu (X3 h.y) _),Nat.le_trans (Ah _ _) (Qq8 h.d h1),?_,?_⟩
  · refine Nat.le_trans (Z8 _) ?_; rw [List.length_map]; exact Nat.le_trans (Z8 _) h.lx
  · refine Nat.le_trans (Z8 _) ?_; rw [List.length_map]; exact Nat.le_trans (Z8 _) h.ly
theorem Cs.mono {s n t m:Nat} {k:Crv} (h:Cs s n k) (hs:s≤t) (hn:n≤m):Cs t m k:=⟨Qc h.x hs,Qc h.y hs,Nat.le_trans h.d hs,Nat.le_trans h.lx hn,Nat.le_trans h.ly hn⟩
def Nml (k:Crv):Prop:=Qm k.x∧Qm k.y∧0<k.d∧Xf (k.d::(k.x++k.y))=1
theorem Crv.norm_of {k:Crv} (h:Nml k):k.norm=k:=by
  obtain ⟨h1,h2,h3,h4⟩:=h
  have hd:k.d'=k.d:=by unfold Crv.d'; rw [if_neg (by omega)]
  have hx:Qp k.x=k.x:=h1
  have hy:Qp k.y=k.y:=h2
  have hg:k.g=1:=by unfold Crv.g; rw [hd,hx,hy,h4,if_neg (by omega)]; rfl
  unfold Crv.norm
  rw [hg,hd,hx,hy]
  simp [hx,hy]
theorem Qbl {l:List Int} {g:Int} (hg:g≠0) (hga:g.natAbs=Xf l):Xf (l.map (· / g))=1:=by
  have key:∀ (l:List Int) (a:Nat),(∀ z∈l,g∣z)→l.foldl (fun a z=>Nat.gcd a z.natAbs) (a*g.natAbs)=((l.map (· / g)).foldl (fun a z=>Nat.gcd a z.natAbs) a)*g.natAbs:=by
    intro l
    induction l with
    | nil=>intro a _; rfl
    |
     cons z l ih =>
     intro a h
     simp only [List.map_cons,List.foldl_cons]
     have hz:z.natAbs=(z / g).natAbs*g.natAbs:=by
       obtain ⟨q,rfl⟩:=h z (List.mem_cons_self ..)
       rw [Int.mul_ediv_cancel_left _ hg,Int.natAbs_mul,Nat.mul_comm]
     rw [hz,Nat.gcd_mul_right]
     exact ih _ fun u hu=>h u (List.mem_cons_of_mem _ hu)
  have h:=key l 0 fun z hz=>Int.natAbs_dvd_natAbs.1 (by rw [hga]; exact Int.natAbs_dvd_natAbs.2 (Fw z hz))
  rw [Nat.zero_mul] at h
  have h':Xf l=Xf (l.map (· / g))*g.natAbs:=h
  rw [←hga] at h'
  have hp:0<g.natAbs:=by omega
  exact Nat.eq_of_mul_eq_mul_right hp (by rw [Nat.one_mul]; exact h'.symm)
theorem Te {l:List Int} {g:Int} (ht:Qm l) (hg:g≠0) (hd:∀ z∈l,g∣z):Qm (l.map (· / g)):=by
  induction l with
  | nil=>rfl
  |
   cons x l ih =>
   have hne:∀ z∈x::l,z≠0→z / g≠0:=fun z hz h0 h1=>by
     obtain ⟨q,rfl⟩:=hd z hz
     rw [Int.mul_ediv_cancel_left _ hg] at h1
     rw [h1] at h0; simp at h0
   unfold Qm at ht ih ⊢
   cases hl:Qp l with
   |
    nil =>
    simp only [Qp,hl] at ht
    split at ht
    · cases ht
    · rename_i hx
      injection ht with _ h2
      subst h2
      simp [Qp,hne x (List.mem_cons_self ..) hx]
   |
    cons y k =>
    simp only [Qp,hl] at ht
    injection ht with _ h2
    have hll:Qp l=l:=by rw [hl]; exact h2
    have ih:=ih hll fun z hz=>hd z (List.mem_cons_of_mem _ hz)
    rw [List.map_cons]
    have hne2:l.map (· / g)≠[]:=by rw [←hll,hl]; simp
    cases hm:l.map (· / g) with
    | nil=>exact absurd hm hne2
    |
     cons u w =>
     rw [hm] at ih
     have e:Qp (x / g::u::w)=match Qp (u::w) with | []=>if x / g=0 then [] else [x / g] | y::k=>x / g::y::k:=rfl
     rw [e,ih]
theorem Crv.nml (k:Crv):Nml k.norm:=by
  have hg:=k.g_ne
  have hdv:∀ z∈k.d'::(Qp k.x++Qp k.y),k.g∣z:=fun z hz=>Int.dvd_of_emod_eq_zero (k.g_dvd z hz)
  have hx:=Te (g:=k.g) (Z2 k.x) hg fun z hz=>hdv z (by simp [hz])
  have hy:=Te (g:=k.g) (Z2 k.y) hg fun z hz=>hdv z (by simp [hz])
  refine ⟨Z2 _,Z2 _,?_,?_⟩
  · show 0<k.d' / k.g
    obtain ⟨q,hq⟩:=hdv k.d' (List.mem_cons_self ..)
    have h0:=k.d'_ne
    have hgc:=k.gcd_ne
    have e:k.d' / k.g=q:=by rw [hq,Int.mul_ediv_cancel_left _ hg]
    rw [e]
    unfold Crv.g at hq hg
    have hq0:q≠0:=fun e=>by rw [e,Int.mul_zero] at hq; exact h0 hq
    split at hq
    · rename_i hneg
      rcases Int.lt_or_gt_of_ne hq0 with h | h
      · have:=Int.mul_pos_of_neg_of_neg (a:=-((Xf (k.d'::(Qp k.x++Qp k.y)):Nat):Int)) (b:=q) (by omega) h
        omega
      · exact h
    · rename_i hneg
      rcases Int.lt_or_gt_of_ne hq0 with h | h
      · have:=Int.mul_neg_of_pos_of_neg (a:=((Xf (k.d'::(Qp k.x++Qp k.y)):Nat):Int)) (b:=q) (by omega) h
        omega
      · exact h
  · show Xf (k.d' / k.g::(Qp ((Qp k.x).map (· / k.g))++Qp ((Qp k.y).map (· / k.g))))=1
    rw [show Qp ((Qp k.x).map (· / k.g))=(Qp k.x).map (· / k.g) from hx,show Qp ((Qp k.y).map (· / k.g))=(Qp k.y).map (· / k.g) from hy,←List.map_append,←List.map_cons (f:=(· / k.g))]
    refine Qbl hg ?_
    unfold Crv.g
    split <;> omega
structure Pt where
  c:Crv
  id:Int
def Zq (p:Pt):List LV:=[pl p.c.x,pl p.c.y,sg p.c.d,mg p.c.d,.int .i64 p.id]
def pts (l:List Pt):LV:=.row (l.map Zq)
end Orr

namespace Orr
def Lj:List Pt→Int→Nat
  | [],_=>0
  | p::l,id=>if p.id<id then Lj l id+1 else 0
def has (l:List Pt) (id:Int):Bool:=match l[Lj l id]? with
  | some p=>decide (p.id=id)
  | none=>false
theorem Qsa (l:List Pt) (id:Int):Lj l id≤l.length:=by
  induction l with
  | nil=>exact Nat.le_refl _
  | cons p l ih=>simp only [Lj]; split <;> simp <;> omega
theorem Qhw:∀ {l:List Pt} {id:Int} {k:Nat},(∀ j p,j<k→l[j]? = some p→p.id<id)→(k=l.length∨∃ p,l[k]? = some p∧¬p.id<id)→Lj l id=k
  |
   [],id,k,_,h=>by
   rcases h with h | ⟨p,h,_⟩
   · subst h; rfl
   · simp at h
  |
   q::l,id,0,_,h=>by
   rcases h with h | ⟨p,h,h2⟩
   · simp at h
   · simp at h; subst h; simp [Lj,h2]
  |
   q::l,id,k+1,h1,h=>by
   have hq:=h1 0 q (by omega) rfl
   simp only [Lj,hq,if_true]
   rw [Qhw (k:=k) (fun j p hj hp=>h1 (j+1) p (by omega) (by simpa using hp))]
   rcases h with h | ⟨p,h,h2⟩
   · left; simpa using h
   · right; exact ⟨p,by simpa using h,h2⟩
def put (l:List Pt) (q:Pt):List Pt:=l.take (Lj l q.id)++q::l.drop (Lj l q.id)
def Hq (l:List Pt) (q:Pt):Int:=if has l q.id=true then 6 else if 6≤l.length then 9 else 0
def Qge (s n:Nat) (p:Pt):Prop:=Nml p.c∧Cs s n p.c
theorem Qwn (l:List Pt) (q:Pt):(put l q).length=l.length+1:=by
  have:=Qsa l q.id
  simp [put]; omega
def Vo:List Pt→List Pt→List Pt×Int
  | acc,[]=>(acc,0)
  | acc,q::qs=>if Hq acc q=0 then Vo (put acc q) qs else ([],Hq acc q)
def Wj (a b:Crv):Bool:=decide (a.x=b.x∧a.y=b.y∧a.d=b.d)
def Jk (out:List Pt) (p:Pt):List Pt:=if out.any (fun q=>Wj p.c q.c)=true then out else out++[p]
def Xv (l:List Pt):List Pt:=l.foldl Jk []
theorem Qns {out:List Pt} {p q:Pt} (h:q∈Jk out p):q∈out∨q=p:=by
  unfold Jk at h
  split at h
  · exact .inl h
  · rcases List.mem_append.1 h with h | h
    · exact .inl h
    · exact .inr (by simpa using h)
theorem Qnr (out:List Pt) (p:Pt):(Jk out p).length≤out.length+1:=by
  unfold Jk; split <;> simp
theorem Xz {α β:Type} (f:β→α→β) (b:β) (l:List α) {i:Nat} {x:α} (h:l[i]? = some x):(l.take (i+1)).foldl f b=f ((l.take i).foldl f b) x:=by
  rw [List.take_add_one,h]; simp [List.foldl_append]
theorem S4 (l:List Pt) (i:Nat):∀ q∈(l.take i).foldl Jk [],q∈l:=by
  induction i with
  | zero=>simp
  |
   succ i ih =>
   intro q hq
   cases hi:l[i]? with
   |
    none =>
    rw [List.take_of_length_le (by have:=List.getElem?_eq_none_iff.1 hi; omega)] at hq
    rw [List.take_of_length_le (List.getElem?_eq_none_iff.1 hi)] at ih
    exact ih q hq
   |
    some x =>
    rw [Xz _ _ _ hi] at hq
    rcases Qns hq with h | h
    · exact ih q h
    · subst h; exact List.mem_of_getElem? hi
theorem S0 (l:List Pt) (i:Nat):((l.take i).foldl Jk []).length≤i:=by
  induction i with
  | zero=>simp
  |
   succ i ih =>
   cases hi:l[i]? with
   |
    none =>
    rw [List.take_of_length_le (by have:=List.getElem?_eq_none_iff.1 hi; omega)]
    rw [List.take_of_length_le (List.getElem?_eq_none_iff.1 hi)] at ih
    omega
   |
    some x =>
    rw [Xz _ _ _ hi]
    have:=Qnr ((l.take i).foldl Jk []) x
    omega
theorem Yf {l:List Pt} {q:Pt} (h:q∈Xv l):q∈l:=by
  have:=S4 l l.length q
  rw [List.take_length] at this
  exact this h
theorem Il (l:List Pt):(Xv l).length≤l.length:=by
  have:=S0 l l.length
  rwa [List.take_length] at this
def IsPt (s n:Nat) (z:List LV) (q:Pt):Prop:=∃ lx ly b l px py d,z=[.row lx,.row ly,.bool b,Q3n l,.int .i64 q.id]∧IsInts lx px∧IsInts ly py∧Xg (.bool b) (Q3n l) d∧Cs s n ⟨px,py,d⟩∧q.c=Crv.norm ⟨px,py,d⟩
theorem Qz2 {s n:Nat} {p:Pt} (h:Qge s n p):IsPt s n (Zq p) p:=by
  obtain ⟨b,l,h1,h2,h3,h4⟩:=Qe p.c.d
  refine ⟨_,_,decide (p.c.d<0),Qw p.c.d.natAbs,_,_,p.c.d,rfl,Zu _,Zu _,Qe _,h.2,(Crv.norm_of h.1).symm⟩
def IsPts (s n:Nat):List (List LV)→List Pt→Prop
  | [],[]=>True
  | z::zs,q::qs=>IsPt s n z q∧IsPts s n zs qs
  | _,_=>False
theorem IsPts.len {s n:Nat}:∀ {zs:List (List LV)} {qs:List Pt},IsPts s n zs qs→zs.length=qs.length
  | [],[],_=>rfl
  | _::_,_::_,h=>by simp [h.2.len]
  | [],_::_,h=>h.elim
  | _::_,[],h=>h.elim
theorem IsPts.get {s n:Nat}:∀ {zs:List (List LV)} {qs:List Pt},IsPts s n zs qs→∀ {i:Nat} {q:Pt},qs[i]? = some q→∃ z,zs[i]? = some z∧IsPt s n z q
  | [],[],_,i,q,h=>by simp at h
  | z::zs,q::qs,h,0,r,hr=>by simp at hr; subst hr; exact ⟨z,rfl,h.1⟩
  | z::zs,q::qs,h,i+1,r,hr=>by simpa using h.2.get (i:=i) (by simpa using hr)
  | [],_::_,h,_,_,_=>h.elim
  | _::_,[],h,_,_,_=>h.elim
theorem Qbq {s n:Nat}:∀ {l:List Pt},(∀ p∈l,Qge s n p)→IsPts s n (l.map Zq) l
  | [],_=>trivial
  | p::l,h=>⟨Qz2 (h p (List.mem_cons_self ..)),Qbq fun q hq=>h q (List.mem_cons_of_mem _ hq)⟩
theorem IsPt.ok {s n:Nat} {z:List LV} {q:Pt} (h:IsPt s n z q) (h1:1≤s):Qge s n q:=by
  obtain ⟨lx,ly,b,l,px,py,d,_,_,_,_,hc,e⟩:=h
  unfold Qge
  rw [e]
  exact ⟨Crv.nml _,hc.norm h1⟩
theorem Qna (acc qs:List Pt) {i:Nat} {q:Pt} (hi:qs[i]? = some q) (h:Vo acc (qs.take i)=((Vo acc (qs.take i)).1,0)):Vo acc (qs.take (i+1))=if Hq (Vo acc (qs.take i)).1 q=0 then (put (Vo acc (qs.take i)).1 q,0) else ([],Hq (Vo acc (qs.take i)).1 q):=by
  induction qs generalizing acc i with
  | nil=>simp at hi
  |
   cons x qs ih =>
   cases i with
   | zero=>simp at hi; subst hi; simp [Vo]
   |
    succ i =>
    simp only [List.take_succ_cons,Vo] at h ⊢
    by_cases h0:Hq acc x=0
    · simp only [h0,if_true] at h ⊢
      exact ih (put acc x) (by simpa using hi) h
    · simp only [h0,if_false] at h
      injection h with _ h
      exact absurd h h0
theorem Qrp (acc qs:List Pt) {i:Nat} {e:Int} (he:e≠0) (h:Vo acc (qs.take i)=([],e)):Vo acc qs=([],e):=by
  induction qs generalizing acc i with
  | nil=>simp [Vo] at h; exact absurd h.2.symm he
  |
   cons x qs ih =>
   cases i with
   | zero=>simp [Vo] at h; exact absurd h.2.symm he
   |
    succ i =>
    simp only [List.take_succ_cons,Vo] at h ⊢
    by_cases h0:Hq acc x=0
    · simp only [h0,if_true] at h ⊢; exact ih _ h
    · simp only [h0,if_false] at h ⊢; exact h
end Orr

namespace Orr
def Xb (p:List Int) (q:Rat):Int:=Kv (Q0l p q.num q.den) 0
abbrev qa (q:Rat):List LV:=pl [-q.num,(q.den:Int)]::(rl q++rl q)
def Jw (sgn:List Int→Int):Nat→List Int→Int
  | 0,_=>0
  | k+1,p=>if p.length=0 then 0 else if sgn p=0 then Jw sgn k (Zv p) else sgn p
theorem Rf (sgn:List Int→Int):∀ (k:Nat) (p:List Int),p.length≤k→Jw sgn k p=Jw sgn p.length p
  |
   0,p,h=>by
   have:p.length=0:=by omega
   rw [this]
  |
   k+1,p,h=>by
   cases hp:p.length with
   | zero=>simp [Jw,hp]
   |
    succ m =>
    simp only [Jw]
    have h1:=Ky p
    rw [Rf sgn k (Zv p) (by omega),Rf sgn m (Zv p) (by omega)]
theorem Qd6 (sgn:List Int→Int) {p:List Int} (h:p.length=0):Jw sgn p.length p=0:=by rw [h]; rfl
theorem Qd4 (sgn:List Int→Int) {p:List Int} (h:0<p.length) (hs:sgn p≠0):Jw sgn p.length p=sgn p:=by
  obtain ⟨m,hm⟩:∃ m,p.length=m+1:=⟨p.length-1,by omega⟩
  rw [hm]; simp only [Jw]; rw [if_neg (by omega),if_neg hs]
theorem Qd5 (sgn:List Int→Int) {p:List Int} (h:0<p.length) (hs:sgn p=0):Jw sgn p.length p=Jw sgn (Zv p).length (Zv p):=by
  obtain ⟨m,hm⟩:∃ m,p.length=m+1:=⟨p.length-1,by omega⟩
  rw [hm]; simp only [Jw]; rw [if_neg (by omega),if_pos hs]
  exact Rf sgn m _ (by have:=Ky p; omega)
structure Tm where
  p:List Int
  lo:Rat
  hi:Rat
abbrev ta (t:Tm):List LV:=pl t.p::(rl t.lo++rl t.hi)
abbrev tq (q:Rat):Tm:=⟨[-q.num,(q.den:Int)],q,q⟩
def X4 (sg:List Int→Int) (p:List Int):Int:=Jw sg p.length p
structure Pb (p:List Int):Prop where
  t:Qm p
  l:p.length≤64
  b:Bd 16777216 p
abbrev Qb (q:Rat):Prop:=Qs 16777216 q
abbrev Cb (k:Crv):Prop:=Cs 1048576 16 k
def Jd (a b:Crv):List Int:=We (Zo b.x a.d) (Zo a.x b.d)
def Jg (a b:Crv):List Int:=We (Zo b.y a.d) (Zo a.y b.d)
def Hg (sg:List Int→Int) (a b:Pt):List (List Int)→Bool
  | []=>decide (a.id<b.id)
  | p::l=>if 0<p.length then decide (0<X4 sg p) else Hg sg a b l
def Xu (sg:List Int→Int) (a b:Pt):Bool:=Hg sg a b [Jd a.c b.c,Jg a.c b.c]
end Orr

namespace Orr
open Go
structure Ct where
  kind:Int
  i0:Int
  i1:Int
  i2:Int
  i3:Int
  p:List Int
  want:Int
abbrev Pl (c:Ct):List LV:=[.int .i64 c.kind,.int .i64 c.i0,.int .i64 c.i1,.int .i64 c.i2,.int .i64 c.i3,pl c.p,.int .i64 c.want]
def Ra (p q:List Int):List Int:=if 0<p.length then p else q
def Ka:List Int→List Int→Bool
  | x::l,y::m=>if x=y then Ka l m else decide (x<y)
  | _,_=>false
def Qei (a b:Ct):Bool:=Ka [a.kind,a.i0,a.i1,a.i2,a.i3] [b.kind,b.i0,b.i1,b.i2,b.i3]
def Rx (out:List Ct) (c:Ct):Nat→Nat
  | 0=>0
  |
   k+1=>match out[k]? with
   | some x=>if Qei c x=true then Rx out c k else k+1
   | none=>k+1
theorem Qlj (out:List Ct) (c:Ct):∀ k,Rx out c k≤k
  | 0=>Nat.le_refl _
  |
   k+1=>by
   simp only [Rx]
   split
   · split
     · exact Nat.le_succ_of_le (Qlj out c k)
     · exact Nat.le_refl _
   · exact Nat.le_refl _
theorem Qwf {out:List Ct} {c x:Ct} {k:Nat} (hx:out[k]? = some x) (h:Qei c x=true):Rx out c (k+1)=Rx out c k:=by
  simp only [Rx,hx,h,if_true]
theorem Qr9 {out:List Ct} {c x:Ct} {k:Nat} (hx:out[k]? = some x) (h:Qei c x=false):Rx out c (k+1)=k+1:=by
  simp [Rx,hx,h]
def Pf (out:List Ct) (c:Ct):List Ct:=out.take (Rx out c out.length)++c::out.drop (Rx out c out.length)
theorem Qq3 (out:List Ct) (c:Ct):(Pf out c).length=out.length+1:=by
  have:=Qlj out c out.length
  simp [Pf]; omega
theorem Qq4 {out:List Ct} {c x:Ct} (h:x∈Pf out c):x=c∨x∈out:=by
  simp only [Pf,List.mem_append,List.mem_cons] at h
  rcases h with h | h | h
  · exact .inr (List.mem_of_mem_take h)
  · exact .inl h
  · exact .inr (List.mem_of_mem_drop h)
def Z4 (l:List Ct):List Ct:=l.foldl Pf []
theorem Qii (l:List Ct) (c:Ct):Z4 (l++[c])=Pf (Z4 l) c:=by simp [Z4,List.foldl_append]
theorem Qij {l:List Ct} {i:Nat} {c:Ct} (h:l[i]? = some c):Z4 (l.take (i+1))=Pf (Z4 (l.take i)) c:=by
  rw [List.take_succ,h]; exact Qii _ _
theorem Oj:∀ (l acc:List Ct),(l.foldl Pf acc).length=acc.length+l.length
  | [],acc=>by simp
  | c::l,acc=>by simp only [List.foldl_cons]; rw [Oj l (Pf acc c),Qq3]; simp; omega
theorem Gl (l:List Ct):(Z4 l).length=l.length:=by unfold Z4; rw [Oj]; simp
theorem Ol:∀ (l acc:List Ct) {x:Ct},x∈l.foldl Pf acc→x∈l∨x∈acc
  | [],acc,x,h=>.inr h
  |
   c::l,acc,x,h=>by
   simp only [List.foldl_cons] at h
   rcases Ol l _ h with h | h
   · exact .inl (List.mem_cons_of_mem _ h)
   · rcases Qq4 h with rfl | h
     · exact .inl (List.mem_cons_self ..)
     · exact .inr h
theorem Cg {l:List Ct} {x:Ct} (h:x∈Z4 l):x∈l:=by
  rcases Ol l [] h with h | h
  · exact h
  · cases h
theorem Qeb {α:Type} (l:List α) (z x:α) {k m':Nat} (hk:k≤l.length) (hm:m'=l.length-k) :
    ((l++[z]).take (k+1)++((l++[z]).drop k).take m'++(l++[z]).drop (k+1+m')).set k x=l.take k++x::l.drop k:=by
  subst hm
  have e1:((l++[z]).drop k).take (l.length-k)=l.drop k:=by
    rw [List.drop_append_of_le_length hk,List.take_append_of_le_length (by simp),List.take_of_length_le (by simp)]
  have e2:(l++[z]).drop (k+1+(l.length-k))=[]:=List.drop_eq_nil_of_le (by simp; omega)
  rw [e1,e2,List.append_nil]
  have e3:(l++[z]).take (k+1)=(l++[z]).take k++[(l++[z])[k]'(by simp; omega)]:=by rw [List.take_succ_eq_append_getElem]
  rw [e3,List.take_append_of_le_length hk,List.append_assoc,List.set_append,if_neg (by simp; omega)]
  simp [Nat.min_eq_left hk]
def Fg (a b:Pt):List Int:=Ra (Jd a.c b.c) (Jg a.c b.c)
def Tt (sg:List Int→Int) (a b:Pt):Ct:={ kind:=1,i0:=a.id,i1:=b.id,i2:=0,i3:=0,p:=Fg a b,want:=X4 sg (Fg a b) }
end Orr

namespace Orr
open Go Go.Proofs
set_option maxRecDepth 10000
abbrev pr (p:List Int):TV:=.one (pl p)
theorem Jy {p:List Int} {i:Nat} {z:Int} (h:p[i]? = some z):(p.map Z1)[i]? = some (Z1 z):=J0 h
theorem Eg (p:List Int):Qf Tryz.prog 36 [pr p] [pr (Qp p)]:=by
  refine Jb Tryz.func36 rfl (ln 0 rfl rfl fun hl=>?_)
  rw [List.length_map] at hl
  refine go tt [] rfl trivial ?_
  refine lp (S:=Nat) 0 (fun L1 n=>(3,.v (.one (.int .i64 (n:Int))))::L1) (fun _=>[]) id (fun n=>n≤p.length∧∀ j x,n≤j→p[j]? = some x→x=0) (p.map Z1).length ⟨by simp,fun j x h1 h2=>by
    have:=(List.getElem?_eq_some_iff.1 h2).1; simp at h1; omega⟩ rfl (fun _ _=>rfl) rfl fun n ⟨h1,h2⟩=>?_
  cases n with
  | zero=>exact en tt [.f (by simp),.f rfl,.i 0] rfl (by rw [Qfz h1 h2 (fun h=>by omega)]; simp [pl]) (by simp [Qa])
  |
   succ n =>
   obtain ⟨x,hx⟩:∃ x,p[n]? = some x:=⟨_,List.getElem?_eq_getElem (by omega)⟩
   by_cases h0:x=0
   · refine go tt [.t (by simp),.r 11 (v:=.one (.int .i64 (n:Int))) (by simp),.x (Jy hx),.c [] U9,.t (by simp [h0]),.r 17 (v:=.one (.int .i64 (n:Int))) (by simp)] rfl (by simp [Qa]; omega) ?_
     exact rd n (by simp) ⟨by omega,fun j y h3 h4=>by
         rcases Nat.eq_or_lt_of_le h3 with rfl | h3
         · rw [hx] at h4; injection h4 with h4; rw [←h4,h0]
         · exact h2 j y h3 h4⟩ rfl
   · exact en tt [.t (by simp),.r 11 (v:=.one (.int .i64 (n:Int))) (by simp),.x (Jy hx),.c [] U9,.f (by simp [h0]),.i (n+1)] rfl (by rw [Qfz h1 h2 (fun _=>⟨x,hx,h0⟩)]; simp [pl,List.map_take]) (by simp [Qa] <;> omega)
theorem Qjo (p:List Int) (k:Nat):Qf Tryz.prog 204 [pr p,.one (.int .i64 (k:Int))] [.agg (Z1 (p.getD k 0))]:=by
  by_cases h:k<p.length
  · have hx:=List.getElem?_eq_getElem h
    have e:p.getD k 0=p[k]:=by simp [List.getD,hx]
    rw [e]
    exact w tt Tryz.func204 rfl [.t (by simp; omega),.x (Jy hx)] rfl rfl trivial
  · have e:p.getD k 0=0:=by simp [List.getD,List.getElem?_eq_none (Nat.le_of_not_lt h)]
    rw [e,Gb]
    exact w tt Tryz.func204 rfl [.f (by simp; omega)] rfl rfl trivial
def Im (f:Nat→List LV) (z:List LV) (n k:Nat):List (List LV):=(List.range n).map fun i=>if i<k then f i else z
theorem U0 (f:Nat→List LV) (z:List LV) (n k:Nat):(Im f z n k).length=n:=by simp [Im]
theorem Uj (f:Nat→List LV) (z:List LV) (n:Nat):List.replicate n z=Im f z n 0:=by
  refine List.ext_getElem? fun i=>?_
  simp only [Im,List.getElem?_replicate,List.getElem?_map]
  by_cases h:i<n
  · simp [h]
  · simp [h]
theorem G6 (f:Nat→List LV) (z:List LV) (n:Nat):Im f z n n=(List.range n).map f:=by
  refine List.map_congr_left fun i hi=>?_
  rw [if_pos (List.mem_range.1 hi)]
theorem G7 (f:Nat→List LV) (z:List LV) {n k:Nat} (h:k<n):(Im f z n k).set k (f k)=Im f z n (k+1):=by
  refine List.ext_getElem? fun i=>?_
  rw [List.getElem?_set]
  simp only [Im,List.getElem?_map,List.length_map,List.length_range,h,if_true]
  by_cases e:k=i
  · subst e; simp [h]
  · simp only [e,if_false]
    by_cases hi:i<n
    · simp only [List.getElem?_range hi,Option.map_some]
      congr 1
      by_cases h2:i<k
      · rw [if_pos h2,if_pos (by omega)]
      · rw [if_neg h2,if_neg (by omega)]
    · simp [List.getElem?_eq_none,hi]
theorem Qa5 {n fid:Nat} {l1 l2:List LV} {g:Nat→Int} (hn:n<274877906944) (h:∀ k,k<n→Qf Tryz.prog fid [.one (.int .i64 (k:Int)),.one (.sh l1),.one (.sh l2)] [.agg (Z1 (g k))]):Qf Tryz.prog 202 [.one (.int .i64 (n:Int)),.one (.fn fid [] [.sh l1,.sh l2])] [pr (Dn n g)]:=by
  refine Jb Tryz.func202 rfl ?_
  refine go tt [.i n,.i n,.r 10 (eI (b:=(n:Int)) (by simp))] rfl (by simp [Qa]; omega) ?_
  rw [Uj fun k=>Z1 (g k)]
  refine lp (S:=Nat) 1 (fun L1 k=>(11,.v (.one (.int .i64 (k:Int))))::L1) (fun k=>[.row false 27 2 (Im (fun k=>Z1 (g k)) [.bool false,.nils] n k)]) (fun k=>n-k) (fun k=>k≤n) 0 (Nat.zero_le _) rfl (fun _ _=>rfl) rfl fun k hk=>?_
  by_cases hlt:k<n
  · refine go tt [.t (by simp; omega),.c [] (h k hlt),.i k] rfl (by simp [Qa,U0]; omega) ?_
    have e:=G7 (fun k=>Z1 (g k)) [.bool false,.nils] hlt
    rw [e]
    exact rd (k+1) (by omega) hlt rfl
  · obtain rfl:k=n:=by omega
    have e:Im (fun k=>Z1 (g k)) [.bool false,.nils] k k=((List.range k).map g).map Z1:=by rw [G6]; simp
    rw [e]
    exact en tt [.f (by simp),.c [] (Eg _)] rfl rfl trivial
theorem Qjm {n fid:Nat} {l1:List LV} {g:Nat→Int} (hn:n<274877906944) (h:∀ k,k<n→Qf Tryz.prog fid [.one (.int .i64 (k:Int)),.one (.sh l1)] [.agg (Z1 (g k))]):Qf Tryz.prog 202 [.one (.int .i64 (n:Int)),.one (.fn fid [] [.sh l1])] [pr (Dn n g)]:=by
  refine Jb Tryz.func202 rfl ?_
  refine go tt [.i n,.i n,.r 10 (eI (b:=(n:Int)) (by simp))] rfl (by simp [Qa]; omega) ?_
  rw [Uj fun k=>Z1 (g k)]
  refine lp (S:=Nat) 1 (fun L1 k=>(11,.v (.one (.int .i64 (k:Int))))::L1) (fun k=>[.row false 27 2 (Im (fun k=>Z1 (g k)) [.bool false,.nils] n k)]) (fun k=>n-k) (fun k=>k≤n) 0 (Nat.zero_le _) rfl (fun _ _=>rfl) rfl fun k hk=>?_
  by_cases hlt:k<n
  · refine go tt [.t (by simp; omega),.c [] (h k hlt),.i k] rfl (by simp [Qa,U0]; omega) ?_
    have e:=G7 (fun k=>Z1 (g k)) [.bool false,.nils] hlt
    rw [e]
    exact rd (k+1) (by omega) hlt rfl
  · obtain rfl:k=n:=by omega
    have e:Im (fun k=>Z1 (g k)) [.bool false,.nils] k k=((List.range k).map g).map Z1:=by rw [G6]; simp
    rw [e]
    exact en tt [.f (by simp),.c [] (Eg _)] rfl rfl trivial
theorem Qy3 {p q:List Int} (k:Nat) (hp:Bd 4294967295 p) (hq:Bd 4294967295 q):Qf Tryz.prog 208 [.one (.int .i64 (k:Int)),.one (.sh [pl p]),.one (.sh [pl q])] [.agg (Z1 (p.getD k 0+q.getD k 0))] :=
  w tt Tryz.func208 rfl [.c [] (Qjo p k),.c [] (Qjo q k),.c [] (S6 (Qe _) (Qe _) (Q7 hp k) (Q7 hq k))] rfl rfl trivial
theorem Qzb {p q:List Int} (k:Nat) (hp:Bd 4294967295 p) (hq:Bd 4294967295 q):Qf Tryz.prog 203 [.one (.int .i64 (k:Int)),.one (.sh [pl p]),.one (.sh [pl q])] [.agg (Z1 (p.getD k 0-q.getD k 0))] :=
  w tt Tryz.func203 rfl [.c [] (Qjo p k),.c [] (Qjo q k),.c [] (Qo1 (Qe _) (Qe _) (Q7 hp k) (Q7 hq k))] rfl rfl trivial
theorem Xo {p:List Int} {k:Nat} (h:k<p.length):p[k]? = some (p.getD k 0):=by simp [List.getD,List.getElem?_eq_getElem h]
theorem Qow {p:List Int} {c:Int} {k:Nat} (hk:k<p.length) (hp:Bd 4294967295 p) (hc:Qt c≤4294967295):Qf Tryz.prog 205 [.one (.int .i64 (k:Int)),.one (.sh [pl p]),.one (.sh (Z1 c))] [.agg (Z1 (p.getD k 0*c))] :=
  w tt Tryz.func205 rfl [.x (Jy (Xo hk)),.c [] (U8 (Qe _) (Qe _) (Q7 hp k) hc)] rfl rfl trivial
theorem Qy8 {p:List Int} {k:Nat} (hk:k<p.length) (hp:Bd 4294967295 p):Qf Tryz.prog 256 [.one (.int .i64 (k:Int)),.one (.sh [pl p])] [.agg (Z1 (-(p.getD k 0)))] :=
  w tt Tryz.func256 rfl [.x (Jy (Xo hk)),.c [] (Ec (Qe _) (Q7 hp k))] rfl rfl trivial
theorem Qmh {p:List Int} {k:Nat} (hk:k+1<p.length) (hl:p.length<274877906944) (hp:Bd 4294967295 p):Qf Tryz.prog 213 [.one (.int .i64 (k:Int)),.one (.sh [pl p])] [.agg (Z1 (p.getD (k+1) 0*((k+1:Nat):Int)))] :=
  w tt Tryz.func213 rfl [.x (Jy (Xo hk)),.r 10 (eI (b:=((k+1:Nat):Int)) (by omega)),.c [] (Qgt (by omega)),.c [] (U8 (Qe _) (Qe _) (Q7 hp _) (Qm5 (show k+1<274877906944 by omega)))] rfl rfl (by simp [Qa] <;> omega)
theorem Qol {p q:List Int} (hlp:p.length<274877906944) (hlq:q.length<274877906944) (hp:Bd 4294967295 p) (hq:Bd 4294967295 q):Qf Tryz.prog 163 [pr p,pr q] [pr (Mx p q)] :=
  w tt Tryz.func163 rfl [.r 9 (eI (b:=((max p.length q.length:Nat):Int)) (by simp; omega)),.c [] (Qa5 (by omega) fun k _=>Qy3 k hp hq)] rfl rfl trivial
theorem Ed {p q:List Int} (hlp:p.length<274877906944) (hlq:q.length<274877906944) (hp:Bd 4294967295 p) (hq:Bd 4294967295 q):Qf Tryz.prog 157 [pr p,pr q] [pr (We p q)] :=
  w tt Tryz.func157 rfl [.r 9 (eI (b:=((max p.length q.length:Nat):Int)) (by simp; omega)),.c [] (Qa5 (by omega) fun k _=>Qzb k hp hq)] rfl rfl trivial
theorem Qop {p:List Int} (hlp:p.length<274877906944) (hp:Bd 4294967295 p):Qf Tryz.prog 235 [pr p] [pr (Uv p)] :=
  w tt Tryz.func235 rfl [.r 4 (eI (b:=(p.length:Int)) (by simp)),.c [] (Qjm hlp fun k hk=>Qy8 hk hp)] rfl rfl trivial
theorem Fp {p:List Int} {c:Int} (hlp:p.length<274877906944) (hp:Bd 4294967295 p) (hc:Qt c≤4294967295):Qf Tryz.prog 158 [pr p,.agg (Z1 c)] [pr (Zo p c)] :=
  w tt Tryz.func158 rfl [.r 6 (eI (b:=(p.length:Int)) (by simp)),.c [] (Qa5 hlp fun k hk=>Qow hk hp hc)] rfl rfl trivial
theorem Fo {p:List Int} (hlp:p.length<274877906944) (hp:Bd 4294967295 p):Qf Tryz.prog 172 [pr p] [pr (Zv p)] :=
  w tt Tryz.func172 rfl [.r 6 (eI (b:=((p.length-1:Nat):Int)) (by simp; omega)),.c [] (Qjm (by omega) fun k hk=>Qmh (by omega) hlp hp)] rfl rfl (by simp [Qa]; omega)
theorem Wp {ls:List (List LV)} {p:List Int} (hi:IsInts ls p) (hl:p.length<274877906944) (hs:Bd 4294967295 p):Qf Tryz.prog 60 [.one (.row ls)] [pr (Qp p)]:=by
  refine Jb Tryz.func60 rfl ?_
  have hlen:=hi.len
  refine go tt [.i ls.length,.i ls.length] rfl (by simp [Qa]; omega) ?_
  rw [Uj fun k=>Z1 (p.getD k 0)]
  refine lp (S:=Nat) 1 (fun L1 k=>(11,.v (.one (.int .i64 (k:Int))))::L1) (fun k=>[.row false 27 2 (Im (fun k=>Z1 (p.getD k 0)) [.bool false,.nils] ls.length k)]) (fun k=>ls.length-k) (fun k=>k≤ls.length) 0 (Nat.zero_le _) rfl (fun _ _=>rfl) rfl fun k hk=>?_
  by_cases hlt:k<ls.length
  · obtain ⟨x,y,hx,hxy⟩:=hi.get (Xo (p:=p) (k:=k) (by omega))
    have cn:=Wq hxy (Q7 hs k)
    obtain ⟨b,l,rfl,rfl,_⟩:=hxy
    refine go tt [.t (by simp; omega),.x hx,.c [] cn,.i k] rfl (by simp [Qa,U0]; omega) ?_
    have e:=G7 (fun k=>Z1 (p.getD k 0)) [.bool false,.nils] hlt
    rw [e]
    exact rd (k+1) (by omega) hlt rfl
  · obtain rfl:k=ls.length:=by omega
    have e:Im (fun k=>Z1 (p.getD k 0)) [.bool false,.nils] ls.length ls.length=p.map Z1:=by
      rw [G6,hlen]
      refine List.ext_getElem? fun i=>?_
      by_cases hi:i<p.length
      · simp [List.getElem?_range hi,List.getD,List.getElem?_eq_getElem hi]
      · simp [List.getElem?_eq_none,hi]
    rw [e]
    exact en tt [.f (by simp),.c [] (Eg _)] rfl rfl trivial
theorem Zy {p:List Int} (ht:Qm p) (hl:p.length<274877906944) (hs:Bd 4294967295 p):Qf Tryz.prog 60 [pr p] [pr p]:=by
  have:=Wp (Zu p) hl hs
  rw [ht] at this; exact this
theorem Qvo {p:List Int} {i:Nat} {z:Int} (h:p[i]? = some z):(p.map fun (x:Int)=>[LV.int .i64 x])[i]? = some [.int .i64 z]:=J0 h
theorem Qdf {p:List Int} (hl:p.length<274877906944) (hr:∀ z∈p,-9223372036854775808≤z∧z≤9223372036854775807):Qf Tryz.prog 8 [.one (ids p)] [pr (Qp p)]:=by
  refine Jb Tryz.func8 rfl ?_
  refine go tt [.r 7 (eI (b:=(p.length:Int)) (by simp)),.i p.length,.i p.length,.r 10 (eI (b:=(p.length:Int)) (by simp))] rfl (by simp [Qa]; omega) ?_
  rw [Uj fun k=>Z1 (p.getD k 0)]
  refine lp (S:=Nat) 1 (fun L1 k=>(11,.v (.one (.int .i64 (k:Int))))::L1) (fun k=>[.row false 27 2 (Im (fun k=>Z1 (p.getD k 0)) [.bool false,.nils] p.length k)]) (fun k=>p.length-k) (fun k=>k≤p.length) 0 (Nat.zero_le _) rfl (fun _ _=>rfl) rfl fun k hk=>?_
  by_cases hlt:k<p.length
  · have hg:=Xo hlt
    refine go tt [.t (by simp; omega),.x (Qvo hg),.c [] (Qgt (hr _ (List.mem_of_getElem? hg))),.i k] rfl (by simp [Qa,U0]; omega) ?_
    have e:=G7 (fun k=>Z1 (p.getD k 0)) [.bool false,.nils] hlt
    rw [e]
    exact rd (k+1) (by omega) hlt rfl
  · obtain rfl:k=p.length:=by omega
    have e:Im (fun k=>Z1 (p.getD k 0)) [.bool false,.nils] p.length p.length=p.map Z1:=by
      rw [G6]
      refine List.ext_getElem? fun i=>?_
      by_cases hi:i<p.length
      · simp [List.getElem?_range hi,List.getD,List.getElem?_eq_getElem hi]
      · simp [List.getElem?_eq_none,hi]
    rw [e]
    exact en tt [.f (by simp),.c [] (Eg _)] rfl rfl trivial
end Orr

namespace Orr
open Go Go.Proofs
set_option maxRecDepth 10000
theorem Qhu (l:List Int) (i:Nat) (z:Int):(l.map Z1).set i (Z1 z)=(l.set i z).map Z1:=by rw [List.map_set]
theorem Ln (m:Nat):((List.replicate m [LV.bool false,LV.nils]).map fun c=>c.map Aw)=(List.replicate m (0:Int)).map Z1:=by
  simp [Gb,Aw]
theorem Qay {p0 q:List Int} {s t:Nat} (tq:Qm q) (hlp:p0.length<137438953472) (hlq:q.length<137438953472) (hp:Bd s p0) (hq:Bd t q) (hst:s+t≤4294967000):Qf Tryz.prog 164 [pr p0,pr q] [pr (Zn (Qp p0) q)]:=by
  have cp:=Wp (Zu p0) (by omega) (Qc hp (show s≤4294967295 by omega))
  have hp:=X3 hp
  have hlp:=Nat.lt_of_le_of_lt (Z8 p0) hlp
  obtain ⟨p,ep⟩:∃ p,p=Qp p0:=⟨_,rfl⟩
  rw [←ep] at cp hp hlp ⊢
  have cq:=Zy tq (by omega) (Qc hq (show t≤4294967295 by omega))
  by_cases h0:p.length=0
  · have e:Zn p q=[]:=by unfold Zn; rw [if_pos (.inl h0)]
    rw [e]
    exact w tt Tryz.func164 rfl [.c [] cp,.c [] cq,.t (by simp; exact List.eq_nil_of_length_eq_zero h0),.t rfl] rfl rfl trivial
  by_cases h1:q.length=0
  · have e:Zn p q=[]:=by unfold Zn; rw [if_pos (.inr h1)]
    rw [e]
    exact w tt Tryz.func164 rfl [.c [] cp,.c [] cq,.f (by simp; intro h; subst h; simp at h0),.t (by simp; exact List.eq_nil_of_length_eq_zero h1)] rfl rfl trivial
  refine Jb Tryz.func164 rfl ?_
  have e:Zn p q=Qp (Ph p q (List.replicate (p.length+q.length-1) 0) p.length):=by unfold Zn; rw [if_neg (by omega)]
  rw [e]
  obtain ⟨N,hN⟩:∃ N,N=p.length+q.length-1:=⟨_,rfl⟩
  rw [←hN]
  obtain ⟨o,ho⟩:∃ o,o=List.replicate N (0:Int):=⟨_,rfl⟩
  rw [←ho]
  have hol:o.length=N:=by rw [ho]; simp
  have ho0:∀ m,o.getD m 0=0:=fun m=>by rw [ho]; exact Uk N m
  refine go tt [.c [] cp,.c [] cq,.f (by simp; intro h; subst h; simp at h0),.f (by simp; intro h; subst h; simp at h1),.r 27 (eI (b:=(N:Int)) (by simp; omega)),.i N,.i N] rfl (by simp [Qa]; omega) ?_
  refine nl 0 rfl rfl rfl ?_
  rw [Ln,←ho]
  refine lp (S:=Nat) 1 (fun L1 i=>(31,.v (.one (.int .i64 (i:Int))))::L1) (fun i=>[.row false 27 2 ((Ph p q o i).map Z1)]) (fun i=>p.length-i) (fun i=>i≤p.length) 0 (Nat.zero_le _) rfl (fun _ _=>rfl) rfl fun i hi=>?_
  by_cases hlt:i<p.length
  · refine go tt [.t (by simp; omega),.x (Jy (Xo hlt))] rfl trivial ?_
    refine lp (S:=Nat) 2 (fun L1 k=>(38,.v (.one (.int .i64 (k:Int))))::L1) (fun k=>[.row false 27 2 ((Pi (p.getD i 0) q i (Ph p q o i) k).map Z1),.blk 27 (Z1 (p.getD i 0))]) (fun k=>q.length-k) (fun k=>k≤q.length) 0 (Nat.zero_le _) rfl (fun _ _=>rfl) rfl fun k hk=>?_
    by_cases hk2:k<q.length
    · have hm1:Qt ((Pi (p.getD i 0) q i (Ph p q o i) k).getD (i+k) 0)≤4294967295:=Nat.le_trans (Ss (t:=39) (Qk5 (by rw [Ga]; omega) (Qk4 (fun j hj=>by omega) ho0 (fun i j=>Ff (Q7 hp i) (Q7 hq j))) (fun j=>Ff (Q7 hp i) (Q7 hq j)) (i+k)) (Nat.lt_of_lt_of_eq (show i+1<549755813888 by omega) (by decide))) (by omega)
      have hm2:Qt (p.getD i 0*q.getD k 0)≤4294967295:=Nat.le_trans (Xc _ _) (by have:=Q7 hp i; have:=Q7 hq k; omega)
      have hg:(Pi (p.getD i 0) q i (Ph p q o i) k)[i+k]? = some ((Pi (p.getD i 0) q i (Ph p q o i) k).getD (i+k) 0):=Xo (by rw [Rs,Ga]; omega)
      refine go tt [.t (by simp; omega),.x (Jy (Xo hk2)),.i (i+k),.x (Jy hg),.c [] (U8 (Qe _) (Qe _) (Nat.le_trans (Q7 hp i) (by omega)) (Nat.le_trans (Q7 hq k) (by omega))),.c [] (S6 (Qe _) (Qe _) hm1 hm2),.i (i+k)] rfl (by simp [Qa,Rs,Ga] <;> omega) ?_
      rw [Qhu]
      exact rd (k+1) (by omega) hk2 rfl
    · obtain rfl:k=q.length:=by omega
      exact go tt [.f (by simp)] rfl (by simp [Qa]; omega) (rd (i+1) (by omega) hlt rfl)
  · obtain rfl:i=p.length:=by omega
    exact en tt [.f (by simp),.c [] (Eg _)] rfl rfl trivial
theorem Qoo {p q:List Int} {s t:Nat} (tp:Qm p) (tq:Qm q) (hlp:p.length<137438953472) (hlq:q.length<137438953472) (hp:Bd s p) (hq:Bd t q) (hst:s+t≤4294967000):Qf Tryz.prog 164 [pr p,pr q] [pr (Zn p q)]:=by
  have h:=Qay tq hlp hlq hp hq hst
  rw [show Qp p=p from tp] at h
  exact h
theorem Qaz {p q:List Int} (hlp:p.length<274877906944) (hlq:q.length<274877906944) (hp:Bd 4294967295 p) (hq:Bd 4294967295 q):Qf Tryz.prog 150 [pr p,pr q] [.one (.bool (decide (Qp p=Qp q)))]:=by
  refine Jb Tryz.func150 rfl ?_
  have cp:=Wp (Zu p) hlp hp
  have cq:=Wp (Zu q) hlq hq
  have bp:=X3 hp
  have bq:=X3 hq
  have l1:=Z8 p
  have l2:=Z8 q
  obtain ⟨a,ha⟩:∃ a,a=Qp p:=⟨_,rfl⟩
  obtain ⟨b,hb⟩:∃ b,b=Qp q:=⟨_,rfl⟩
  rw [←ha] at cp bp l1 ⊢
  rw [←hb] at cq bq l2 ⊢
  by_cases hl:a.length=b.length
  · refine go tt [.c [] cp,.c [] cq,.f (by simp; omega)] rfl trivial ?_
    refine lp (S:=Nat) 0 (fun L1 i=>(18,.v (.one (.int .i64 (i:Int))))::L1) (fun _=>[]) (fun i=>a.length-i) (fun i=>i≤a.length∧a.take i=b.take i) 0 ⟨Nat.zero_le _,rfl⟩ rfl (fun _ _=>rfl) rfl fun i ⟨hi,he⟩=>?_
    by_cases hlt:i<a.length
    · have ga:=Xo hlt
      have gb:=Xo (p:=b) (k:=i) (by omega)
      have cc:=Ny (Qe (a.getD i 0)) (Qe (b.getD i 0)) (Q7 bp i) (Q7 bq i)
      by_cases hz:a.getD i 0=b.getD i 0
      · refine go tt [.t (by simp; omega),.x (Jy ga),.x (Jy gb),.c [] cc,.f (by simpa using Qa9.2 hz)] rfl (by simp [Qa]; omega) ?_
        exact rd (i+1) (by omega) ⟨hlt,by rw [List.take_add_one,List.take_add_one,he,ga,gb,hz]⟩ rfl
      · exact en tt [.t (by simp; omega),.x (Jy ga),.x (Jy gb),.c [] cc,.t (by have:=mt Qa9.1 hz; simpa using this)] rfl (by rw [decide_eq_false]; intro h; exact hz (by rw [h])) trivial
    · obtain rfl:i=a.length:=by omega
      rw [List.take_length,hl,List.take_length] at he
      exact en tt [.f (by simp)] rfl (by rw [decide_eq_true he]) trivial
  · exact en tt [.c [] cp,.c [] cq,.t (by simp; omega)] rfl (by rw [decide_eq_false]; intro h; exact hl (by rw [h])) trivial
theorem Qor {p:List Int} {n d:Int} {s t:Nat} (hl:p.length<274877906944) (hp:Bd s p) (hn:Qt n≤t) (hd:Qt d≤t) (hst:s+p.length*(t+1)+2*t+10≤4294967295):Qf Tryz.prog 171 [pr p,.agg (Z1 n),.agg (Z1 d)] [.agg (Z1 (Q0l p n d))]:=by
  refine Jb Tryz.func171 rfl ?_
  refine go tt [.c [] (Qgt (z:=1) (by decide)),.r 13 (eI (b:=(p.length:Int)-1-((0:Nat):Int)) (by simp))] rfl (by simp [Qa]; omega) ?_
  refine nlb 3 rfl rfl rfl ?_
  have e0:[LV.bool false,LV.nils].map Aw=Z1 (Wh p n d 0).1:=by simp [Aw,Wh,Gb]
  rw [e0]
  refine lp (S:=Nat) 5 (fun L1 j=>(9,.v (.one (.int .i64 ((p.length:Int)-1-(j:Int)))))::L1) (fun j=>[.blk 27 (Z1 n),.blk 27 (Z1 d),.blk 27 [.bool false,.nils],.blk 27 (Z1 (Wh p n d j).1),.blk 27 (Z1 (Wh p n d j).2)]) (fun j=>p.length-j) (fun j=>j≤p.length) 0 (Nat.zero_le _) rfl (fun _ _=>rfl) rfl fun j hj=>?_
  have hv:=Ql9 (k:=j) hp hn hd
  have hjl:j*(t+1)≤p.length*(t+1):=Nat.mul_le_mul_right _ (by omega)
  have hjl2:j*t≤j*(t+1):=Nat.mul_le_mul_left _ (by omega)
  by_cases hlt:j<p.length
  · have hc:=Q7 hp (p.length-1-j)
    have hm1:Qt ((Wh p n d j).1*n)≤4294967295:=Nat.le_trans (Xc _ _) (by omega)
    have hm2:Qt (p.getD (p.length-1-j) 0*(Wh p n d j).2)≤4294967295:=Nat.le_trans (Xc _ _) (by omega)
    refine go tt [.t (by simp; omega),.c [] (U8 (Qe _) (Qe _) (by omega) (by omega)),.r 22 (eI (b:=((p.length-1-j:Nat):Int)) (by omega)),.x (Jy (Xo (p:=p) (k:=p.length-1-j) (by omega))),.c [] (U8 (Qe _) (Qe _) (by omega) (by omega)),.c [] (S6 (Qe _) (Qe _) hm1 hm2),.c [] (U8 (Qe _) (Qe _) (by omega) (by omega)),.r 17 (eI (b:=(p.length:Int)-1-((j+1:Nat):Int)) (by omega))] rfl (by simp [Qa] <;> omega) ?_
    exact rd (j+1) (by omega) hlt rfl
  · obtain rfl:j=p.length:=by omega
    exact en tt [.f (by simp; omega)] rfl rfl trivial
theorem Kj {p:List Int} (tp:Qm p) (hl:p.length<274877906944) (hp:Bd 4294967295 p):Qf Tryz.prog 234 [pr p] [.agg (Z1 (p.getD (p.length-1) 0))]:=by
  have cn:=Zy tp hl hp
  by_cases h0:p=[]
  · subst h0
    exact w tt Tryz.func234 rfl [.c [] cn,.t (by simp)] rfl (by simp [Gb]) trivial
  · have Mg:0<p.length:=List.length_pos_iff.2 h0
    exact w tt Tryz.func234 rfl [.c [] cn,.f (by simpa using h0),.r 12 (eI (b:=((p.length-1:Nat):Int)) (by simp; omega)),.x (Jy (Xo (by omega)))] rfl rfl (by simp [Qa]; omega)
end Orr

namespace Orr
open Go Go.Proofs
set_option maxRecDepth 10000
theorem Qyi {a b:Int} {q:Rat} (h1:a=q.num) (h2:b=(q.den:Int)):[sg a,mg a,sg b,mg b]=rl q:=by rw [h1,h2]
theorem Hz {n d:Int} (h0:d≠0) (hn:Qt n≤4294967295) (hd:Qt d≤4294967295):Qf Tryz.prog 128 [.agg (Z1 n),.agg (Z1 d)] [.agg (rl (Rat.divInt n d))]:=by
  have cg:=Qog (Zu [n,d]) (fun z hz=>by simp at hz; rcases hz with rfl | rfl <;> assumption)
  have gp:=Qqo (n:=n) h0
  have gs:=Qvr (n:=n) h0 hd
  have m1:=Qg8 n d
  have m2:=Qg9 n d
  obtain ⟨g,hg⟩:∃ g,g=((Xf [n,d]:Nat):Int):=⟨_,rfl⟩
  rw [←hg] at cg gp gs m1 m2
  by_cases hneg:d<0
  · obtain ⟨e1,e2⟩:=Qvx (n:=n) hneg
    rw [←hg] at e1 e2
    rw [←Qyi e1 e2]
    exact w tt Tryz.func128 rfl [.c [] cg,.t (by simpa using hneg),.c [] (Ec (Qe n) hn),.c [] (Ec (Qe d) hd),.c [] (Uw (Qe _) (Qe _) (by rw [U3]; exact hn) gs (by omega) (Qk7 m1)),.c [] (Uw (Qe _) (Qe _) (by rw [U3]; exact hd) gs (by omega) (Qk7 m2))] rfl rfl trivial
  · obtain ⟨e1,e2⟩:=Qvy (n:=n) (d:=d) (by omega)
    rw [←hg] at e1 e2
    rw [←Qyi e1 e2]
    exact w tt Tryz.func128 rfl [.c [] cg,.f (by simpa using hneg),.c [] (Uw (Qe _) (Qe _) hn gs (by omega) m1),.c [] (Uw (Qe _) (Qe _) hd gs (by omega) m2)] rfl rfl trivial
theorem Dx {x y x' y':LV} {n d:Int} (h1:Xg x y n) (h2:Xg x' y' d) (hn:Qt n≤4294967295) (hd:Qt d≤4294967295):Qf Tryz.prog 81 [.agg [x,y,x',y']] [.agg (rl (Vw n d))]:=by
  have c1:=Wq h1 hn
  have c2:=Wq h2 hd
  obtain ⟨b,l,rfl,rfl,_⟩:=h1
  obtain ⟨b',l',rfl,rfl,_⟩:=h2
  by_cases h0:d=0
  · have e:Vw n d=Rat.divInt n 1:=by unfold Vw; rw [if_pos h0]
    rw [e]
    exact w tt Tryz.func81 rfl [.c [] c2,.c [] U9,.t (by simpa using h0),.c [] (Qgt (z:=1) (by decide)),.c [] c1,.c [] (Hz (by decide) hn (by decide))] rfl rfl trivial
  · have e:Vw n d=Rat.divInt n d:=by unfold Vw; rw [if_neg h0]
    rw [e]
    exact w tt Tryz.func81 rfl [.c [] c2,.c [] U9,.f (by simpa using h0),.c [] c1,.c [] (Hz h0 hn hd)] rfl rfl trivial
theorem Eh {q:Rat} (hq:Qs 4294967295 q):Qf Tryz.prog 81 [.agg (rl q)] [.agg (rl q)]:=by
  have:=Dx (Qe q.num) (Qe (q.den:Int)) hq.1 hq.2
  rwa [M8] at this
theorem Qa4 {a b:Rat} (ha:Qs 2147483647 a) (hb:Qs 2147483647 b):Qf Tryz.prog 129 [.agg (rl a),.agg (rl b)] [.agg (Z1 (a.num*(b.den:Int))),.agg (Z1 (b.num*(a.den:Int))),.agg (Z1 ((a.den:Int)*(b.den:Int)))] :=
  w tt Tryz.func129 rfl [.c [] (Eh (ha.mono (by decide))),.c [] (Eh (hb.mono (by decide))),.c [] (U8 (Qe _) (Qe _) (Nat.le_trans ha.1 (by decide)) (Nat.le_trans hb.2 (by decide))),.c [] (U8 (Qe _) (Qe _) (Nat.le_trans hb.1 (by decide)) (Nat.le_trans ha.2 (by decide))),.c [] (U8 (Qe _) (Qe _) (Nat.le_trans ha.2 (by decide)) (Nat.le_trans hb.2 (by decide)))] rfl rfl trivial
theorem Ud {a b:Rat} (ha:Qs 2147483647 a) (hb:Qs 2147483647 b):Qf Tryz.prog 82 [.agg (rl a),.agg (rl b)] [.one (.int .i64 (Zm a b))] :=
  w tt Tryz.func82 rfl [.c [] (Qa4 ha hb),.c [] (Ny (Qe _) (Qe _) (Nat.le_trans (Xc _ _) (by have:=ha.1; have:=hb.2; omega)) (Nat.le_trans (Xc _ _) (by have:=hb.1; have:=ha.2; omega)))] rfl rfl trivial
theorem Qpe {x y x' y':LV} {n d:Int} (h1:Xg x y n) (h2:Xg x' y' d) (hn:Qt n≤4294967295) (hd:Qt d≤4294967295):Qf Tryz.prog 42 [.agg [x,y,x',y'],.one (.row [])] [.agg (rl (Vw n d))]:=by
  have c1:=Dx h1 h2 hn hd
  obtain ⟨b,l,rfl,rfl,_⟩:=h1
  obtain ⟨b',l',rfl,rfl,_⟩:=h2
  refine Jb Tryz.func42 rfl ?_
  refine go tt [.c [] c1] rfl trivial ?_
  refine lp (S:=Unit) 3 (fun L1 _=>(12,.v (.one (.int .i64 0)))::L1) (fun _=>[.blk 40 [.bool b,.row (lm l),.bool b',.row (lm l')],.blk 40 [.bool false,.nils,.bool false,.nils],.blk 40 (rl (Vw n d))]) (fun _=>0) (fun _=>True) () trivial rfl (fun _ _=>rfl) rfl fun _ _=>?_
  exact en tt [.f (by simp)] rfl rfl trivial
theorem Gw {q:Rat} (hq:Qs 4294967295 q):Qf Tryz.prog 42 [.agg (rl q),.one (.row [])] [.agg (rl q)]:=by
  have:=Qpe (Qe q.num) (Qe (q.den:Int)) hq.1 hq.2
  rwa [M8] at this
theorem Quy {q:Rat} (hq:Qs 4294967295 q):Qf Tryz.prog 170 [.agg (rl q)] [.agg (rl q)]:=w tt Tryz.func170 rfl [.c [] (Gw hq)] rfl rfl trivial
theorem Qjg {p:List Int} {q:Rat} {s t:Nat} (tp:Qm p) (hl:p.length<274877906944) (hp:Bd s p) (hq:Qs t q) (hst:s+p.length*(t+1)+2*t+10≤4294967295):Qf Tryz.prog 123 [pr p,.agg (rl q)] [.one (.int .i64 (Xb p q))]:=by
  have cc:=Ny (Qe (Q0l p q.num q.den)) J7 (Nat.le_trans (Ql9 hp hq.1 hq.2).1 (by omega)) (by decide)
  exact w tt Tryz.func123 rfl [.c [] (Quy (hq.mono (by omega))),.c [] (Zy tp hl (Qc hp (by omega))),.c [] (Qor hl hp hq.1 hq.2 hst),.c [] cc] rfl rfl trivial
end Orr
