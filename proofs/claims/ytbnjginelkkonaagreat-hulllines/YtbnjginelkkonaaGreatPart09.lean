/- S3 NewsN W1 DigL R1 R2 W2 WL20 ReadN LastN LastM LastL -/
import Derived.Test.YtbnjginelkkonaaGreatPart08
import Derived.Test.YtbnjginelkkonaaGreatPart07
import Derived.Test.YtbnjginelkkonaaGreatPart04
import Derived.Deep.Slices
import Derived.ProofKit
import Derived.OpenShut
import Derived.WideKeyArgs
import Derived.SizedLaws
set_option linter.all false
namespace Orr
open Go Go.Proofs Orq
set_option maxRecDepth 10000
abbrev Iy (l:List Int):List (List LV):=l.map fun (z:Int)=>[.int .i64 z]
theorem Hb {l:List Int} {i:Nat} {z:Int} (h:l[i]? = some z):(Iy l)[i]? = some [.int .i64 z]:=J0 h
theorem Qo5 {a b:List Int} (ha:a.length≤1000000) (hb:b.length≤1000000):Qg Tryz.prog 71 [.one (ids a),.one (ids b)] [.one (.bool (decide (a=b)))]:=by
  show Qg Tryz.prog 71 [.one (.row (Iy a)),.one (.row (Iy b))] _
  have la:(Iy a).length=a.length:=by simp
  have lb:(Iy b).length=b.length:=by simp
  refine X4 Tryz.func71 rfl ?_
  by_cases hl:a.length=b.length
  · refine go tt [.f (by simp; omega)] rfl trivial ?_
    refine lp (S:=Nat) 0 (fun L1 i=>(5,.v (.one (.int .i64 (i:Int))))::L1) (fun _=>[]) (fun i=>a.length-i) (fun i=>i≤a.length∧a.take i=b.take i) 0 ⟨Nat.zero_le _,rfl⟩ rfl (fun _ _=>rfl) rfl fun i ⟨hi,he⟩=>?_
    by_cases hlt:i<a.length
    · obtain ⟨x,hx⟩:∃ p,a[i]? = some p:=⟨_,List.getElem?_eq_getElem hlt⟩
      obtain ⟨y,hy⟩:∃ p,b[i]? = some p:=⟨_,List.getElem?_eq_getElem (by omega)⟩
      by_cases e:x=y
      · refine go tt [.t (by simp; omega),.x (Hb hx),.x (Hb hy),.f (by simpa using e)] rfl (by simp [Qa]; omega) ?_
        exact rd (i+1) (by omega) ⟨hlt,by rw [List.take_succ,List.take_succ,hx,hy,he,e]⟩ rfl
      · have hne:a≠b:=fun h=>by rw [h,hy] at hx; injection hx with hx; exact e hx.symm
        exact en tt [.t (by simp; omega),.x (Hb hx),.x (Hb hy),.t (by simpa using e)] rfl (by simp [hne]) trivial
    · obtain rfl:i=a.length:=by omega
      have hab:a=b:=by rw [List.take_length] at he; rw [he,hl,List.take_length]
      exact en tt [.f (by simp)] rfl (by simp [hab]) trivial
  · have hne:a≠b:=fun h=>hl (by rw [h])
    exact en tt [.t (by simp; omega)] rfl (by simp [hne]) trivial
def Qt1 (v n:Int):Int:=if n<1 then 0 else v.emod n
theorem Qn0 {v n:Int} (h:0<n):(if v.tmod n<0 then v.tmod n+n else v.tmod n)=v % n:=by
  have h3:=Int.emod_nonneg v (show n≠0 by omega)
  have h4:=Int.emod_lt_of_pos v h
  have h1:=Int.tmod_eq_emod (a:=v) (b:=n)
  have hn:((n.natAbs:Nat):Int)=n:=by omega
  split at h1
  · rw [h1]; simp; omega
  · rename_i hc
    rw [h1,hn]
    have:v % n≠0:=fun e=>hc (.inr (Int.dvd_of_emod_eq_zero e))
    rw [if_pos (by omega)]; omega
theorem Ec {v n:Int} (hv:-9223372036854775808≤v∧v≤9223372036854775807) (hn:n≤1000000000):Qg Tryz.prog 15 [.one (.int .i64 v),.one (.int .i64 n)] [.one (.int .i64 (Qt1 v n))]:=by
  unfold Qt1
  by_cases h:n<1
  · rw [if_pos h]
    exact w tt Tryz.func15 rfl [.t (by simpa using h)] rfl rfl trivial
  · rw [if_neg h]
    have e:=Qn0 (v:=v) (n:=n) (by omega)
    have h3:=Int.emod_nonneg v (show n≠0 by omega)
    have h4:=Int.emod_lt_of_pos v (show 0<n by omega)
    show Qg Tryz.prog 15 [.one (.int .i64 v),.one (.int .i64 n)] [.one (.int .i64 (v % n))]
    by_cases h0:v.tmod n<0
    · rw [if_pos h0] at e
      have b:-n≤v.tmod n:=by omega
      exact w tt Tryz.func15 rfl [.f (by simpa using h),.t (by simpa using h0)] rfl (by rw [e]) (by simp [Qa]; omega)
    · rw [if_neg h0] at e
      exact w tt Tryz.func15 rfl [.f (by simpa using h),.f (by simpa using h0)] rfl (by rw [e]) (by simp [Qa]; omega)
end Orr

namespace Orr
open Go Go.Proofs Orq
theorem Ig {x y:Int} (hx:-9223372036854775808≤x∧x≤9223372036854775807) (hy:-9223372036854775808≤y∧y≤9223372036854775807):Sc (Fa x y):=⟨Crv.nml _,((Qdv hx hy).norm (by decide)).mono (by decide) (by decide)⟩
theorem Sc.pt {p:Pt} (h:Sc p.c):Qgp 4294967294 1073741824 p:=⟨h.n,h.c.mono (by decide) (by decide)⟩
end Orr

namespace Orr
open Go Go.Proofs
set_option maxRecDepth 10000
theorem Cs.up {s n s' n':Nat} {k:Crv} (h:Cs s n k) (hs:s≤s') (hn:n≤n'):Cs s' n' k:=⟨Qc h.x hs,Qc h.y hs,Nat.le_trans h.d hs,Nat.le_trans h.lx hn,Nat.le_trans h.ly hn⟩
end Orr

namespace Orr
open Go
def Tt:List Nat→Nat
  | []=>0
  | x::l=>x+10000*Tt l
def Dg (l:List Nat):Prop:=∀ x∈l,x<10000
def Tr (x:Nat):List Nat:=if h:x=0 then [] else (x % 10000)::Tr (x / 10000)
termination_by x
decreasing_by omega
theorem Yn:Tr 0=[]:=by unfold Tr; simp
theorem Ts {x:Nat} (h:x≠0):Tr x=(x % 10000)::Tr (x / 10000):=by rw [Tr]; simp [h]
theorem Qkg (x:Nat):Tt (Tr x)=x:=by
  induction x using Nat.strongRecOn with
  |
   _ x ih =>
   rcases Nat.eq_zero_or_pos x with h | h
   · subst h; rw [Yn]; rfl
   · rw [Ts (by omega)]
     simp only [Tt]
     rw [ih _ (by omega)]; omega
theorem Qzt (x:Nat):Dg (Tr x):=by
  induction x using Nat.strongRecOn with
  |
   _ x ih =>
   rcases Nat.eq_zero_or_pos x with h | h
   · subst h; rw [Yn]; intro y hy; cases hy
   · rw [Ts (by omega)]
     intro y hy
     rcases List.mem_cons.1 hy with rfl | hy
     · omega
     · exact ih _ (by omega) y hy
theorem Qbg {x:Nat}:(Tr x).length=0↔x=0:=by
  constructor
  · intro h
    have h0:=List.eq_nil_of_length_eq_zero h
    have:=Qkg x
    rw [h0] at this
    exact this.symm
  · rintro rfl; rw [Yn]; rfl
theorem Qvn {x:Nat} (h:x≠0):(Tr (x / 10000)).length+1=(Tr x).length:=by rw [Ts h]; rfl
theorem Qj8 (x:Nat):(Tr x).length≤sz x:=by
  induction x using Nat.strongRecOn with
  |
   _ x ih =>
   by_cases h0:x=0
   · subst h0; rw [Yn]; exact Nat.zero_le _
   · have h1:=Qvn h0
     have h2:=ih (x / 10000) (by omega)
     have h3:sz (x / 10000)+1≤sz x:=by
       have h4:x<2^sz x:=Aq x
       rcases hs:sz x with _ | k
       · rw [hs] at h4; simp at h4; omega
       · rw [hs] at h4
         have:sz (x / 10000)≤k:=Kc.2 (by rw [Nat.pow_succ] at h4; omega)
         omega
     omega
theorem Qhe (a b:List Nat):Tt (a++b)=Tt a+10000^a.length*Tt b:=by
  induction a with
  | nil=>simp [Tt]
  |
   cons x a ih =>
   simp only [List.cons_append,Tt,ih,List.length_cons,Nat.pow_succ]
   rw [Nat.mul_add,←Nat.mul_assoc,Nat.mul_comm 10000 (10000^a.length)]; omega
theorem Qd4:∀ {l:List Nat},(∀ x∈l,x=0)→Tt l=0
  | [],_=>rfl
  |
   x::l,h=>by
   have h1:=h x (List.mem_cons_self ..)
   have h2:=Qd4 (l:=l) fun y hy=>h y (List.mem_cons_of_mem _ hy)
   simp [Tt,h1,h2]
theorem Dg.take {l:List Nat} (h:Dg l) (k:Nat):Dg (l.take k):=fun x hx=>h x (List.mem_of_mem_take hx)
theorem Dg.snoc {l:List Nat} (h:Dg l) {x:Nat} (hx:x<10000):Dg (l++[x]):=by
  intro y hy
  rcases List.mem_append.1 hy with hy | hy
  · exact h y hy
  · rw [List.mem_singleton.1 hy]; exact hx
theorem Dg.nil:Dg []:=fun x h=>by cases h
theorem Qp5:∀ {l:List Nat},Dg l→(∀ x,l[l.length-1]? = some x→x≠0)→l=Tr (Tt l)
  | [],_,_=>by rw [Tt,Yn]
  |
   x::l,h,hl=>by
   have h1:=h x (List.mem_cons_self ..)
   have h2:l=Tr (Tt l):=Qp5 (fun y hy=>h y (List.mem_cons_of_mem _ hy)) fun y hy=>hl y (by
     rcases l with _ | ⟨z,t⟩
     · simp at hy
     · simpa using hy)
   have h3:x+10000*Tt l≠0:=by
     intro e
     have hx:x=0:=by omega
     have hd:Tt l=0:=by omega
     rw [hd,Yn] at h2
     subst h2
     exact hl x rfl hx
   simp only [Tt]
   rw [Ts h3,show (x+10000*Tt l) % 10000=x by omega,show (x+10000*Tt l) / 10000=Tt l by omega,←h2]
theorem Qdz {l:List Nat} {m:Nat} (hd:Dg l) (hm:m≤l.length) (h1:∀ j x,m≤j→l[j]? = some x→x=0) (h2:0<m→∃ y,l[m-1]? = some y∧y≠0):l.take m=Tr (Tt l):=by
  have e:Tt l=Tt (l.take m):=by
    conv=>lhs; rw [←List.take_append_drop m l,Qhe]
    rw [Qd4 (l:=l.drop m) fun x hx=>?_]
    · omega
    · obtain ⟨j,hj⟩:=List.mem_iff_getElem?.1 hx
      rw [List.getElem?_drop] at hj
      exact h1 (m+j) x (by omega) hj
  rw [e]
  refine Qp5 (hd.take m) fun x hx=>?_
  have hl:(l.take m).length=m:=by rw [List.length_take]; omega
  rw [hl] at hx
  rcases Nat.eq_zero_or_pos m with h0 | h0
  · subst h0; simp at hx
  · obtain ⟨y,hy,hy0⟩:=h2 h0
    rw [List.getElem?_take_of_lt (by omega),hy] at hx
    injection hx with hx; rw [←hx]; exact hy0
theorem Qqg {l:List Nat} {j d:Nat} (h:l[j]? = some d):Tt (l.drop j)=d+10000*Tt (l.drop (j+1)):=by
  obtain ⟨hj,he⟩:=List.getElem?_eq_some_iff.1 h
  rw [List.drop_eq_getElem_cons hj,he]; rfl
theorem Qm2 {l:List Nat} {j y:Nat} (h:j<l.length):(l.set j y).drop j=y::l.drop (j+1):=by
  rw [List.drop_eq_getElem_cons (by simpa using h)]
  simp only [List.getElem_set_self]
  rw [List.drop_set_of_lt (by omega)]
theorem Dg.set {l:List Nat} (h:Dg l) {j y:Nat} (hy:y<10000):Dg (l.set j y):=by
  intro x hx
  rcases List.mem_or_eq_of_mem_set hx with hx | rfl
  · exact h x hx
  · exact hy
theorem Dg.zeros (n:Nat):Dg (List.replicate n 0):=by
  intro x hx; rw [List.eq_of_mem_replicate hx]; decide
theorem Qqb {V kd d:Nat} (hk:0<kd):(d+10000*V) / kd=(V % kd*10000+d) / kd+10000*(V / kd)∧(d+10000*V) % kd=(V % kd*10000+d) % kd∧(d<10000→(V % kd*10000+d) / kd<10000):=by
  have e:=Nat.div_add_mod V kd
  have e2:d+10000*V=(V % kd*10000+d)+kd*(10000*(V / kd)):=by
    conv=>lhs; rw [←e]
    grind
  refine ⟨?_,?_,fun hd=>?_⟩
  · rw [e2,Nat.add_mul_div_left _ _ hk]
  · rw [e2,Nat.add_mul_mod_self_left]
  · have:=Nat.mod_lt V hk
    exact (Nat.div_lt_iff_lt_mul hk).2 (by grind)
def dl (l:List Nat):LV:=.row (l.map fun (x:Nat)=>[.int .i64 (x:Int)])
theorem D2 (l:List Nat):(l.map fun (x:Nat)=>[LV.int .i64 (x:Int)]).length=l.length:=by simp
theorem Qbi {l:List Nat} {i x:Nat} (h:l[i]? = some x):(l.map fun (x:Nat)=>[LV.int .i64 (x:Int)])[i]? = some [.int .i64 (x:Int)]:=by rw [List.getElem?_map,h]; rfl
abbrev nd (x:Nat):LV:=dl (Tr x)
end Orr

namespace Orr
open Go Go.Proofs
set_option maxRecDepth 10000
abbrev dlm (l:List Nat):List (List LV):=l.map fun (x:Nat)=>[.int .i64 (x:Int)]
theorem Qzl {l:List Nat} (hd:Dg l):Qg Tryz.prog 162 [.one (.row (dlm l))] [.one (nd (Tt l))]:=by
  refine X4 Tryz.func162 rfl (ln 0 rfl rfl fun hl=>?_)
  rw [List.length_map] at hl
  refine go tt [] rfl trivial ?_
  refine lp (S:=Nat) 0 (fun L1 n=>(3,.v (.one (.int .i64 (n:Int))))::L1) (fun _=>[]) id (fun n=>n≤l.length∧∀ j x,n≤j→l[j]? = some x→x=0) (dlm l).length ⟨by simp,fun j x h1 h2=>by
    have:=(List.getElem?_eq_some_iff.1 h2).1; simp at h1; omega⟩ rfl (fun _ _=>rfl) rfl fun n ⟨h1,h2⟩=>?_
  cases n with
  | zero=>exact en tt [.g 8 false (by simp),.f rfl,.i 0] rfl (by have:=Qdz hd h1 h2 (fun h=>by omega); unfold nd; rw [←this]; simp [dl]) (by simp [Qa])
  |
   succ n =>
   obtain ⟨x,hx⟩:∃ x,l[n]? = some x:=⟨_,List.getElem?_eq_getElem (by omega)⟩
   by_cases h0:x=0
   · refine go tt [.g 8 true (by simp),.r 11 (v:=.one (.int .i64 (n:Int))) (by simp),.x (Qbi hx),.t (by simp [h0]),.r 17 (v:=.one (.int .i64 (n:Int))) (by simp)] rfl (by simp [Qa]; omega) ?_
     exact rd n (by simp) ⟨by omega,fun j y h3 h4=>by
         rcases Nat.eq_or_lt_of_le h3 with rfl | h3
         · rw [hx] at h4; injection h4 with h4; rw [←h4,h0]
         · exact h2 j y h3 h4⟩ rfl
   · exact en tt [.g 8 true (by simp),.r 11 (v:=.one (.int .i64 (n:Int))) (by simp),.x (Qbi hx),.f (by simp [h0]),.i (n+1)] rfl (by have:=Qdz hd h1 h2 (fun _=>⟨x,hx,h0⟩); unfold nd; rw [←this]; simp [dl,List.map_take]) (by simp [Qa] <;> omega)
theorem Qjx {x kd:Nat} (hxs:sz x≤100000000) (hk:0<kd∧kd≤65536):Qg Tryz.prog 161 [.one (nd x),.one (.int .i64 (kd:Int))] [.one (nd (x / kd)),.one (.int .i64 ((x % kd:Nat):Int))]:=by
  have hln:=Nat.le_trans (Qj8 x) hxs
  obtain ⟨l,hl⟩:∃ l,l=Tr x:=⟨_,rfl⟩
  have hx:Tt l=x:=by rw [hl,Qkg]
  have hd:Dg l:=by rw [hl]; exact Qzt x
  show Qg Tryz.prog 161 [.one (.row (dlm (Tr x))),.one (.int .i64 (kd:Int))] _
  rw [←hl] at hln ⊢
  rw [←hx]
  have hll:=D2 l
  refine X4 Tryz.func161 rfl ?_
  refine go tt [.i (dlm l).length,.i (dlm l).length] rfl (by simp [Qa]; omega) ?_
  rw [hll,show List.replicate l.length [LV.int .i64 0]=dlm (List.replicate l.length 0) from by simp [dlm]]
  refine lp (S:=Nat×List Nat×Nat) 1 (fun L1 s=>(8,.v (.one (.int .i64 ((s.1:Int)-1))))::(7,.v (.one (.int .i64 (s.2.2:Int))))::L1) (fun s=>[.row false 3 1 (dlm s.2.1)]) (fun s=>s.1) (fun s=>s.1≤l.length∧s.2.1.length=l.length∧Dg s.2.1∧Tt (s.2.1.drop s.1)=Tt (l.drop s.1) / kd∧s.2.2=Tt (l.drop s.1) % kd) (l.length,List.replicate l.length 0,0) ⟨Nat.le_refl _,by simp,Dg.zeros _,by simp [Tt],by simp [Tt]⟩ rfl (fun _ _=>rfl) rfl fun ⟨k,o,R⟩ ⟨j1,j2,j3,j4,hR⟩=>?_
  dsimp only at j1 j2 j3 j4 hR ⊢
  cases k with
  |
   zero =>
   have cc:=Qzl j3
   rw [List.drop_zero,List.drop_zero] at j4
   rw [j4] at cc
   exact en tt [.f (by simp),.c [] cc] rfl (by rw [hR,List.drop_zero]) trivial
  |
   succ k =>
   obtain ⟨d,hdk⟩:∃ d,l[k]? = some d:=⟨_,List.getElem?_eq_getElem (by omega)⟩
   have hd0:=hd d (List.mem_of_getElem? hdk)
   have hdd:=Qqg hdk
   obtain ⟨s1,s2,s3⟩:=Qqb (V:=Tt (l.drop (k+1))) (kd:=kd) (d:=d) hk.1
   rw [←hdd] at s1 s2
   have hr:=Nat.mod_lt (Tt (l.drop (k+1))) hk.1
   rw [←hR] at s1 s2 s3 hr
   have e:((k+1:Nat):Int)-1=(k:Int):=by omega
   have htd:((R:Int)*10000+(d:Int)).tdiv (kd:Int)=(((R*10000+d) / kd:Nat):Int):=rfl
   have hle:=Nat.div_le_self (R*10000+d) kd
   have htb:0≤((R:Int)*10000+(d:Int)).tdiv (kd:Int)∧((R:Int)*10000+(d:Int)).tdiv (kd:Int)≤655369999:=by
     rw [htd]; revert hle; generalize (R*10000+d) / kd=Q; intro hle; omega
   rw [e]
   refine go tt [.t (by simp),.x (Qbi hdk),.r 26 (eI (b:=((R*10000+d:Nat):Int)) (by omega)),.r 31 (eI (b:=(((R*10000+d) / kd:Nat):Int)) (by rfl)),.i k,.r 35 (eI (b:=(((R*10000+d) % kd:Nat):Int)) (by rfl))] rfl (by simp [Qa]; omega) ?_
   exact rd (k,o.set k ((R*10000+d) / kd),(R*10000+d) % kd) (by dsimp only; omega) ⟨by dsimp only; omega,by simp [j2],j3.set (s3 hd0),by dsimp only; rw [Qm2 (by omega)]; simp only [Tt]; rw [j4,s1],by dsimp only; exact s2.symm⟩ (by simp [dlm,List.map_set]; rfl)
theorem Q1e (x k:Nat):sz (x / k)≤sz x:=Yl (Nat.div_le_self _ _)
theorem Qht {x y:Nat} {o:List Nat} (h:Qw x=o++Qw y) (h0:y≠0):Qw x=(o++[y % 4294967296])++Qw (y / 4294967296):=by
  rw [h,W5 h0]; simp
theorem Qv5 (o:List Nat) (z:Nat):lm (o++[z])=lm o++[[.int .u32 (z:Int)]]:=by simp [lm]
theorem Q2e {x:Nat} (hx:sz x≤100000000):Qg Tryz.prog 96 [.one (nd x)] [lr (Qw x)]:=by
  have hlx:=X2 hx
  refine X4 Tryz.func96 rfl ?_
  refine go tt [.o 3 169 1] rfl trivial ?_
  refine lp (S:=Nat×List Nat) 1 (fun L1 s=>(0,.v (.one (nd s.1)))::(3,.v (.one (.orow 0 1 none)))::L1) (fun s=>[.row false 169 1 (lm s.2)]) (fun s=>s.1) (fun s=>Qw x=s.2++Qw s.1∧s.1≤x) (x,[]) ⟨rfl,Nat.le_refl _⟩ rfl (fun _ _=>rfl) rfl fun ⟨y,o⟩ ⟨j1,j2⟩=>?_
  dsimp only at j1 j2 ⊢
  by_cases h0:y=0
  · subst h0
    rw [Zd,List.append_nil] at j1
    rw [j1]
    exact en tt [.f (by simp [Yn])] rfl rfl trivial
  · have hs:=Qht j1 h0
    have hsy:sz y≤100000000:=Nat.le_trans (Yl j2) hx
    have c1:=Qjx (x:=y) (kd:=65536) hsy (by decide)
    have c2:=Qjx (x:=y / 65536) (kd:=65536) (Nat.le_trans (Q1e _ _) hsy) (by decide)
    have hl:(Tr y).length≠0:=fun h=>h0 (Qbg.1 h)
    have ol:o.length≤(Qw x).length:=by rw [j1]; simp
    have e:y / 65536 % 65536*65536+y % 65536=y % 4294967296:=by omega
    have e2:y / 65536 / 65536=y / 4294967296:=by omega
    refine go tt [.t (by simp; omega),.c [] c1,.c [] c2,.r 26 (Ui (b:=((y % 4294967296:Nat):Int)) (by omega)),.s (sz:=1) (l:=[[.int .u32 ((y % 4294967296:Nat):Int)]]) (fun c hc=>by rw [List.mem_singleton.1 hc]; rfl)] rfl (by simp [Qa,Qd]; omega) ?_
    rw [←e2] at hs
    exact rd (y / 65536 / 65536,o++[y % 4294967296]) (by dsimp only; omega) ⟨hs,by dsimp only; omega⟩ (by rw [Qv5]; rfl)
abbrev ri (z:Int):List LV:=[nd z.natAbs,sg z]
theorem Q25 (b:Bool) (m:Nat):[nd m,LV.bool (b && decide (0<m))]=ri (Qr b m):=by
  simp only [ri,sg,Xb,Ay]
theorem Q0m (x:Nat):(0<(Tr x).length)↔0<x:=by
  have:=Qbg (x:=x); omega
theorem Qu5 (b:Bool) (m:Nat):Qg Tryz.prog 97 [.one (nd m),.one (.bool b)] [.agg (ri (Qr b m))]:=by
  rw [←Q25]
  have e:=Q0m m
  cases b with
  | false=>exact w tt Tryz.func97 rfl [.g 7 false rfl] rfl rfl trivial
  | true=>exact w tt Tryz.func97 rfl [.g 7 true rfl] rfl (by simp [e]) trivial
theorem Qu3 {z:Int}:Qg Tryz.prog 139 [.agg (ri z)] [.one (.bool (decide (z=0)))] :=
  w tt Tryz.func139 rfl [] rfl (by have h:=Qbg (x:=z.natAbs); simp only [D2]; congr 3; rw [decide_eq_decide]; omega) trivial
theorem Q2d {z:Int} (hz:Qt z≤100000000):Qg Tryz.prog 46 [.agg (ri z)] [.agg (Z0 z)] :=
  w tt Tryz.func46 rfl [.c [] (Q2e hz)] rfl rfl trivial
theorem eBo {a b:Bool} (h:a=b):TV.one (LV.bool a)=.one (.bool b):=h ▸ rfl
theorem Qkd (l:List Nat) (x:Nat):dlm (l++[x])=dlm l++[[.int .i64 (x:Int)]]:=by simp [dlm]
theorem Qdy {x y:Nat} {o:List Nat} (h:Tr x=o++Tr y) (h0:y≠0):Tr x=(o++[y % 10000])++Tr (y / 10000):=by
  rw [h,Ts h0]; simp
theorem Qzk {b:Bool} {x:Nat} (hx:x≤4000000000000000000) (hb:b=true→0<x):Qg Tryz.prog 49 [.one (.int .i64 (Qr b x))] [.agg (ri (Qr b x))]:=by
  have hl:(Tr x).length≤100:=by
    have:=Qj8 x
    have h2:sz x≤64:=Kc.2 (by omega)
    omega
  have hm:=Qu5 b x
  refine X4 Tryz.func49 rfl ?_
  cases b with
  |
   false =>
   show AK Tryz.prog _ _ _ (Ss 0 [.one (.int .i64 (x:Int))]) []
   refine go tt [.f (by simp <;> omega),.r 3 (eBo (b:=false) (by simp)),.f rfl,.o 4 3 1] rfl trivial ?_
   refine lp (S:=Nat×List Nat) 2 (fun L1 s=>(0,.v (.one (.int .i64 (s.1:Int))))::(4,.v (.one (.orow 1 1 none)))::L1) (fun s=>[.blk 47 [.nils,.bool false],.row false 3 1 (dlm s.2)]) (fun s=>s.1) (fun s=>Tr x=s.2++Tr s.1∧s.1≤x) (x,[]) ⟨rfl,Nat.le_refl _⟩ rfl (fun _ _=>rfl) rfl fun ⟨y,o⟩ ⟨j1,j2⟩=>?_
   dsimp only at j1 j2 ⊢
   by_cases h0:y=0
   · subst h0
     rw [Yn,List.append_nil] at j1
     rw [←j1]
     exact en tt [.f (by simp),.c [] hm] rfl rfl trivial
   · have hs:=Qdy j1 h0
     have ol:o.length≤(Tr x).length:=by rw [j1]; simp
     refine go tt [.t (by simp; omega),.r 18 (eI (b:=((y % 10000:Nat):Int)) (by rfl)),.s (sz:=1) (l:=[[.int .i64 ((y % 10000:Nat):Int)]]) (fun c hc=>by rw [List.mem_singleton.1 hc]; rfl),.r 22 (eI (b:=((y / 10000:Nat):Int)) (by rfl))] rfl (by simp [Qa,D2]; omega) ?_
     exact rd (y / 10000,o++[y % 10000]) (by dsimp only; omega) ⟨hs,by dsimp only; omega⟩ (by rw [Qkd]; rfl)
  |
   true =>
   show AK Tryz.prog _ _ _ (Ss 0 [.one (.int .i64 (-(x:Int)))]) []
   refine go tt [.f (by simp <;> omega),.r 3 (eBo (b:=true) (by simpa using hb rfl)),.t rfl,.r 0 (eI (b:=(x:Int)) (by omega)),.o 4 3 1] rfl (by simp [Qa]; omega) ?_
   refine lp (S:=Nat×List Nat) 2 (fun L1 s=>(0,.v (.one (.int .i64 (s.1:Int))))::(4,.v (.one (.orow 1 1 none)))::L1) (fun s=>[.blk 47 [.nils,.bool false],.row false 3 1 (dlm s.2)]) (fun s=>s.1) (fun s=>Tr x=s.2++Tr s.1∧s.1≤x) (x,[]) ⟨rfl,Nat.le_refl _⟩ rfl (fun _ _=>rfl) rfl fun ⟨y,o⟩ ⟨j1,j2⟩=>?_
   dsimp only at j1 j2 ⊢
   by_cases h0:y=0
   · subst h0
     rw [Yn,List.append_nil] at j1
     rw [←j1]
     exact en tt [.f (by simp),.c [] hm] rfl rfl trivial
   · have hs:=Qdy j1 h0
     have ol:o.length≤(Tr x).length:=by rw [j1]; simp
     refine go tt [.t (by simp; omega),.r 18 (eI (b:=((y % 10000:Nat):Int)) (by rfl)),.s (sz:=1) (l:=[[.int .i64 ((y % 10000:Nat):Int)]]) (fun c hc=>by rw [List.mem_singleton.1 hc]; rfl),.r 22 (eI (b:=((y / 10000:Nat):Int)) (by rfl))] rfl (by simp [Qa,D2]; omega) ?_
     exact rd (y / 10000,o++[y % 10000]) (by dsimp only; omega) ⟨hs,by dsimp only; omega⟩ (by rw [Qkd]; rfl)
theorem Qx7 {n:Int} (hn:-4000000000000000000≤n∧n≤4000000000000000000):Qg Tryz.prog 49 [.one (.int .i64 n)] [.agg (ri n)]:=by
  have e:Qr (decide (n<0)) n.natAbs=n:=by unfold Qr; by_cases h:n<0 <;> simp [h] <;> omega
  have h:=Qzk (b:=decide (n<0)) (x:=n.natAbs) (by omega) (fun h=>by have:=of_decide_eq_true h; omega)
  rwa [e] at h
end Orr

namespace Orr
open Go Go.Proofs
set_option maxRecDepth 10000
abbrev fr (q:Rat):List LV:=ri q.num++ri (q.den:Int)
theorem Qj9:Tr 1=[1]:=by rw [Ts (by decide)]; rw [Yn]
theorem Qpf {n:Int}:Qg Tryz.prog 83 [.agg (ri n),.agg (ri 1)] [.agg (fr (n:Rat))]:=by
  have h0:(dlm (Tr (1:Int).natAbs))[0]? = some [LV.int .i64 1]:=by rw [show (1:Int).natAbs=1 from rfl,Qj9]; rfl
  have h1:decide (((dlm (Tr (1:Int).natAbs)).length:Int)=1)=true:=by rw [show (1:Int).natAbs=1 from rfl,Qj9]; rfl
  exact w tt Tryz.func83 rfl [.c [] (Qu3 (z:=1)),.f rfl,.f rfl,.g 19 true h1,.x h0,.t rfl] rfl rfl trivial
theorem L8 {n:Int} (hn:-4000000000000000000≤n∧n≤4000000000000000000):Qg Tryz.prog 22 [.one (.int .i64 n),.one (.int .i64 1)] [.agg (fr (n:Rat))] :=
  w tt Tryz.func22 rfl [.c [] (Qx7 hn),.c [] (Qx7 (n:=1) (by decide)),.c [] Qpf] rfl rfl trivial
theorem Qdn {q:Rat} (hq:Qs 100000000 q):Qg Tryz.prog 21 [.agg (fr q)] [.agg (rl q)] :=
  w tt Tryz.func21 rfl [.c [] (Q2d hq.1),.c [] (Q2d hq.2)] rfl rfl trivial
end Orr

namespace Orr
open Go Go.Proofs Orq
set_option maxRecDepth 10000
end Orr

namespace Orr
open Go Go.Proofs Orq
set_option maxRecDepth 10000
abbrev wkH:List Pt:=[⟨Fa 1 0,1⟩,⟨Fa 0 1,2⟩,⟨Fa 0 0,3⟩]
theorem Qxn:(Z1 wkH (tq 0)).map (·.id)=[3,1,2]:=by decide +kernel
theorem Q1p:(Z1 wkH (tq 0)).any (fun p=>decide (p.id=2))=true:=by decide +kernel
theorem Q1q:(Z1 wkH (tq 0)).any (fun p=>decide (p.id=9))=false:=by decide +kernel
theorem Qty:∀ p∈wkH,Sc p.c:=fun p hp=>by
  rcases List.mem_cons.1 hp with rfl | hp
  · exact Ig (by decide) (by decide)
  rcases List.mem_cons.1 hp with rfl | hp
  · exact Ig (by decide) (by decide)
  · rw [List.mem_singleton.1 hp]; exact Ig (by decide) (by decide)
theorem Fw:Qg Tryz.prog 70 [] [.one (.bool true)]:=by
  have hq:Qs 400000 (Vv 0 0):=⟨by decide,by decide⟩
  have ez:Vv 0 0=0:=by decide
  have zp:IsPts 4294967294 1073741824 (Qi [⟨Fa 0 0,3⟩,⟨Fa 0 1,2⟩,⟨Fa 1 0,1⟩]) [⟨Fa 0 0,3⟩,⟨Fa 0 1,2⟩,⟨Fa 1 0,1⟩]:=Qbx fun p hp=>(Qty p (by simp at hp ⊢; rcases hp with h | h | h <;> simp [h])).pt
  have hnl:Vn [] [⟨Fa 0 0,3⟩,⟨Fa 0 1,2⟩,⟨Fa 1 0,1⟩]=(wkH,0):=rfl
  have cn:=Qjk zp (by decide) hnl Qty (by decide) J6 J6 (by decide) (by decide) hq
  rw [ez] at cn
  have hl:(Z1 wkH (tq 0)).length≤1000000:=Nat.le_trans (Tq _ _) (by decide)
  have ci:=Qa2 (c:=Qmp wkH (tq 0)) (l:=wkH) hl
  have o2:=Qx1 (c:=Qmp wkH (tq 0)) (l:=wkH) (id:=2) hl
  have o9:=Qx1 (c:=Qmp wkH (tq 0)) (l:=wkH) (id:=9) hl
  rw [Qxn] at ci
  rw [Q1p] at o2
  rw [Q1q] at o9
  have cs:=Qo5 (a:=[3,1,2]) (b:=[3,1,2]) (by decide) (by decide)
  refine X4 Tryz.func70 rfl ?_
  exact en tt [.c [] (Qa6 (x:=0) (y:=0) (by decide) (by decide)),.c [] (Qa6 (x:=0) (y:=1) (by decide) (by decide)),.c [] (Qa6 (x:=1) (y:=0) (by decide) (by decide)),.c [0] cn,.g 17 true rfl,.g 21 true rfl,.c [0] ci,.c [] cs,.g 27 true rfl,.c [0] o2,.g 31 true rfl,.c [0] o9] rfl rfl trivial
def Qt0 (zs:List Int):List Int:=zs.map fun z=>Qt1 z 15
theorem Qgk {zs:List Int} {i:Nat} (h:i<zs.length):(Qt0 zs).getD i 0=Qt1 zs[i] 15:=by
  unfold Qt0; rw [List.getD_eq_getElem?_getD,List.getElem?_map,List.getElem?_eq_getElem h]; rfl
theorem Qmk (zs:List Int):∀ z∈Qt0 zs,0≤z∧z<15:=fun z hz=>by
  obtain ⟨x,_,rfl⟩:=List.mem_map.1 hz
  show 0≤x % 15∧x % 15<15
  omega
theorem Qpm {zs s:List Int} {T:Int} {i:Nat} (hz:∀ z∈zs,-9223372036854775808≤z∧z≤9223372036854775807) (hs:s=Qt0 zs) (hT:0≤T∧T<20) (hi:i<zs.length) (hi5:i<5) :
    Xf Tryz.prog 65 [.one (.int .i64 (i:Int)),.one (.ow 0 0),.one (.ow 1 0)] [.blk 22 [.row (Iy zs)],.blk 3 [.int .i64 T]] [.one (.int .i64 (Ye s T i))] [.blk 22 [.row (Iy zs)],.blk 3 [.int .i64 T]]:=by
  have c15:=Ec (v:=zs[i]) (n:=15) (hz _ (List.getElem_mem hi)) (by decide)
  have hx:zs[i]? = some zs[i]:=List.getElem?_eq_getElem hi
  have h0:=Qbt (b:=15) (by decide) (s:=s) (by rw [hs]; exact Qmk zs) i
  rw [←Qgk hi,←hs] at c15
  have hm:(i:Int)*T≤4*20:=Int.le_trans (Int.mul_le_mul_of_nonneg_right (by omega) hT.1) (Int.mul_le_mul_of_nonneg_left (by omega) (by decide))
  have hm0:0≤(i:Int)*T:=Int.mul_nonneg (by omega) hT.1
  unfold Ye
  refine X4 Tryz.func65 rfl ?_
  exact ed tt [] [0,1] [.x (Hb hx),.c [] c15] rfl (by simp [Qa,IntKind.bits,-List.getD_eq_getElem?_getD]; omega)
theorem Qvw (s:List Int) (b:Bool) (i:Nat):Crv.norm (Crv.mk (Dk s b i) (Hj (Dk s b i) (Dk s b i)) 0)=(hpt s b i).c:=Crv.norm_of (k:=(hpt s b i).c) (Qlh (Qef s b i) (Q8 _ _))
theorem Oz (s:List Int) (b:Bool) (i:Nat):Qi (Jl s b (i+1))=Qi (Jl s b i)++[Zt (hpt s b i)]:=by
  unfold Jl Qi; rw [List.range_succ,List.map_append,List.map_append]; rfl
theorem Qof (l:List Pt):(Iq l).length=l.length*(l.length*l.length):=by
  have h:∀ {α:Type} (f:Pt→List α) (k:Nat) (m:List Pt),(∀ x,(f x).length=k)→(m.flatMap f).length=m.length*k:=fun f k m hf=>by
    induction m with
    | nil=>simp
    | cons y m ih=>rw [List.flatMap_cons,List.length_append,ih,hf,List.length_cons,Nat.add_mul,Nat.one_mul,Nat.add_comm]
  unfold Iq
  exact h _ _ _ fun a=>h _ _ _ fun b=>List.length_map _
theorem Qoe {l:List Pt} (h:l.length≤10):(Nn l++Iq l).length≤1000000:=by
  rw [List.length_append,Qog,Qof]
  have h1:l.length*(l.length*2)≤10*(10*2):=Nat.mul_le_mul h (Nat.mul_le_mul h (Nat.le_refl 2))
  have h2:l.length*(l.length*l.length)≤10*(10*10):=Nat.mul_le_mul h (Nat.mul_le_mul h h)
  omega
set_option maxHeartbeats 4000000 in
theorem Is {zs:List Int} {t:Int} {same:Bool} (hz:∀ z∈zs,-9223372036854775808≤z∧z≤9223372036854775807) (ht:-9223372036854775808≤t∧t≤9223372036854775807):Qg Tryz.prog 13 [.one (.row (Iy zs)),.one (.int .i64 t),.one (.bool same)] [.one (.bool true)]:=by
  obtain ⟨T,hT⟩:∃ T,T=Qt1 t 20:=⟨_,rfl⟩
  have hT0:0≤T∧T<20:=by rw [hT]; show 0≤t % 20∧t % 20<20; omega
  obtain ⟨N,hN⟩:∃ N,N=min zs.length 5:=⟨_,rfl⟩
  have hN5:N≤5:=by omega
  have hNl:N≤zs.length:=by omega
  obtain ⟨s,hs⟩:∃ s,s=Qt0 zs:=⟨_,rfl⟩
  have hsb:∀ z∈s,0≤z∧z<15:=by rw [hs]; exact Qmk zs
  have hsg:=Qbt (b:=15) (by decide) hsb
  have hil:(Iy zs).length=zs.length:=by simp
  have cw:=Ec (v:=t) (n:=20) ht (by decide)
  rw [←hT] at cw
  have cel:∀ i,i<N→∃ z,zs[i]? = some z∧Qg Tryz.prog 15 [.one (.int .i64 z),.one (.int .i64 15)] [.one (.int .i64 (s.getD i 0))]:=fun i h=>by
    have h':i<zs.length:=by omega
    have:=Ec (v:=zs[i]) (n:=15) (hz _ (List.getElem_mem h')) (by decide)
    rw [←Qgk h',←hs] at this
    exact ⟨zs[i],List.getElem?_eq_getElem h',this⟩
  have hsc:=Qks (b:=same) hsb (n:=N) hN5
  have hd:=Qkr s same N
  have hln:(Jl s same N).length≤10:=by rw [Mi]; omega
  have hpl':∀ i,(Qi (Jl s same i)).length=i:=fun i=>by rw [Xy,Mi]
  refine X4 Tryz.func13 rfl (ln 0 rfl rfl fun hzl=>?_)
  rw [hil] at hzl
  refine go tt [.r 22 (eI (b:=(N:Int)) (by rw [hil,hN]; omega)),.c [] cw,.o 8 35 5] rfl trivial ?_
  refine lp (S:=Nat) 3 (fun L1 i=>(10,.v (.one (.int .i64 (i:Int))))::(8,.v (.one (.orow 2 5 none)))::L1) (fun i=>[.blk 22 [.row (Iy zs)],.blk 3 [.int .i64 T],.row false 35 5 (Qi (Jl s same i))]) (fun i=>N-i) (fun i=>i≤N) 0 (Nat.zero_le _) rfl (fun _ _=>rfl) rfl fun i hi=>?_
  by_cases hlt:i<N
  · obtain ⟨z,hx,c15⟩:=cel i hlt
    have h0:=hsg i
    have p1:=I6 (p:=[s.getD i 0,(i:Int)]) (by simp) (fun z hz=>by simp only [List.mem_cons,List.not_mem_nil,or_false] at hz; omega)
    have p2:=I6 (p:=[3,2]) (by simp) (fun z hz=>by simp only [List.mem_cons,List.not_mem_nil,or_false] at hz; omega)
    obtain ⟨b1,b2⟩:=Qra (i:=i) hsb same (by omega)
    have pa:=Qg4 (p:=Dk s same i) (q:=Dk s same i) (by omega) (by omega) (Qc b1 (by decide)) (Qc b1 (by decide))
    have hc:=(Qrb (b:=same) (s:=s) (i:=i) hsb (by omega)).c
    have hcs:Cs 90 3 (Crv.mk (Dk s same i) (Hj (Dk s same i) (Dk s same i)) 0):=⟨hc.x,hc.y,by show Qt 0≤90; decide,hc.lx,hc.ly⟩
    have co:=Qx6 (Zs (Dk s same i)) (Zs (Hj (Dk s same i) (Dk s same i))) (hcs.mono (by decide) (by decide))
    rw [Qvw] at co
    have hm:∀ y∈[Zt (hpt s same i)],y.length=5:=fun y hy=>by rw [List.mem_singleton.1 hy]; rfl
    cases same with
    |
     true =>
     refine go tt [.t (by simpa using hlt),.x (Hb hx),.c [] c15,.c [] p1,.t rfl,.c [] p2,.c [] pa,.c [] co,.s (sz:=5) hm] rfl (by simp [Qa,hpl']; omega) ?_
     exact rd (i+1) (by omega) hlt (by rw [Oz]; rfl)
    |
     false =>
     refine go tt [.t (by simpa using hlt),.x (Hb hx),.c [] c15,.c [] p1,.f rfl,.c [] pa,.c [] co,.s (sz:=5) hm] rfl (by simp [Qa,hpl']; omega) ?_
     exact rd (i+1) (by omega) hlt (by rw [Oz]; rfl)
  have hiN:i=N:=by omega
  rw [hiN]
  clear hlt hi hiN
  have zp:=Qbx (s:=4294967294) (n:=1073741824) fun p hp=>(hsc p hp).pt
  have hq0:Qs 400000 (Vv 0 0):=⟨by decide,by decide⟩
  have hnl:Vn [] (Jl s same N)=(Jl s same N,0):=by
    have:=Qe0 (Jl s same N) [] (by rw [List.nil_append]; exact Qeg s same N) (by rw [List.nil_append,Mi]; omega)
    rw [List.nil_append] at this; exact this
  have cn:=Qjk zp (by rw [Mi]; omega) hnl hsc hln J6 J6 (by decide) (by decide) hq0
  have r0:Vv 0 0=0:=by decide
  rw [r0] at cn hq0
  have hv:Va (tq 0):=Qxj hq0
  have htq:Qs 400000 (T:Rat):=⟨Nat.le_trans (Y0.2 (show T.natAbs<2^60 by omega)) (by decide),by show Qt 1≤400000; decide⟩
  have S:=Q3b hsc hln hd
  have hst:KSt (bcH (Jl s same N)) (brH (Jl s same N)) (Qmp (Jl s same N) (tq 0)) (brH (Jl s same N) (tq 0)):=Qza S hv
  have hcmp:Qu (Qmp (Jl s same N) (tq 0)).now (T:Rat)≤0:=by
    show Qu (tq 0) (T:Rat)≤0
    rw [Qmd]
    refine Dz.2 ?_
    have:((0:Int):Rat)≤(T:Rat):=Rat.intCast_le_intCast.2 hT0.1
    exact this
  obtain ⟨K,c',E,hK,hg,hnow,hS',hev,hEl,hE⟩:=Qy3 S (Ds hsc) (fun a _=>Qaw) (Qoe hln) htq hst hcmp
  have cadv:=Qze (l:=Jl s same N) (K:=K) htq hsc hln hst.inv.ok ⟨Int.le_refl 0,by show (0:Int)+K≤1000000000000000000; omega⟩ hcmp hg
  obtain ⟨r,hr⟩:∃ r,r=Z1 (Jl s same N) (tq (T:Rat)):=⟨_,rfl⟩
  have hbr:brH (Jl s same N) (tq (T:Rat))=Qi r:=by show Qi _=_; rw [hr]
  rw [hbr] at cadv
  by_cases hfew:same=true∨N<2
  · have hrv:=Qna (s:=s) (a:=tq (T:Rat)) hfew
    rw [←hr] at hrv
    by_cases hN0:N=0
    · rw [if_pos hN0] at hrv
      rw [hrv] at cadv
      have cids:Xf Tryz.prog 69 [.one (.ow 0 0)] [.blk 182 (Ff c' (Qi (Jl s same N)) (Qi []))] [.one (ids [])] [.blk 182 (Ff c' (Qi (Jl s same N)) (Qi []))]:=Qa2 (s:=[]) (by decide)
      cases same with
      | true=>exact en tt [.f (by simp),.c [3] cn,.g 60 false rfl,.f rfl,.c [] (L8 (n:=T) (by omega)),.c [] (Qdn (htq.mono (by decide))),.c [3] cadv,.f rfl,.c [3] cids,.g 77 true rfl,.t rfl,.g 86 true (decide_eq_true (by simp; omega)),.g 89 true (decide_eq_true (by omega)),.g 96 true rfl,.c [] Fw] rfl rfl trivial
      | false=>exact en tt [.f (by simp),.c [3] cn,.g 60 false rfl,.f rfl,.c [] (L8 (n:=T) (by omega)),.c [] (Qdn (htq.mono (by decide))),.c [3] cadv,.f rfl,.c [3] cids,.g 77 false rfl,.t (decide_eq_true (by omega)),.g 86 true (decide_eq_true (by simp; omega)),.g 89 true (decide_eq_true (by omega)),.g 96 true rfl,.c [] Fw] rfl rfl trivial
    · rw [if_neg hN0] at hrv
      rw [hrv] at cadv
      have cids:Xf Tryz.prog 69 [.one (.ow 0 0)] [.blk 182 (Ff c' (Qi (Jl s same N)) (Qi [hpt s same 0]))] [.one (ids [0])] [.blk 182 (Ff c' (Qi (Jl s same N)) (Qi [hpt s same 0]))]:=Qa2 (s:=[hpt s same 0]) (by show 1≤1000000; decide)
      have hx:(Iy [0])[0]? = some [.int .i64 0]:=rfl
      cases same with
      | true=>exact en tt [.f (by simp),.c [3] cn,.g 60 false rfl,.f rfl,.c [] (L8 (n:=T) (by omega)),.c [] (Qdn (htq.mono (by decide))),.c [3] cadv,.f rfl,.c [3] cids,.g 77 true rfl,.t rfl,.g 86 true (decide_eq_true (by simp; omega)),.g 89 false (decide_eq_false (by omega)),.x (i:=0) hx,.g 96 true rfl,.c [] Fw] rfl rfl trivial
      | false=>exact en tt [.f (by simp),.c [3] cn,.g 60 false rfl,.f rfl,.c [] (L8 (n:=T) (by omega)),.c [] (Qdn (htq.mono (by decide))),.c [3] cadv,.f rfl,.c [3] cids,.g 77 false rfl,.t (decide_eq_true (by simp at hfew; omega)),.g 86 true (decide_eq_true (by simp; omega)),.g 89 false (decide_eq_false (by omega)),.x (i:=0) hx,.g 96 true rfl,.c [] Fw] rfl rfl trivial
  · have hsame:same=false:=by simpa using fun h=>hfew (.inl h)
    have h2:2≤N:=by omega
    subst hsame
    have hrv:=Qhn hsb hN5 h2 htq
    rw [←hr] at hrv
    rw [hrv] at cadv
    obtain ⟨f,hf⟩:∃ f,f=Ws (Ye s T) N:=⟨_,rfl⟩
    obtain ⟨z,hz'⟩:∃ z,z=Uo (Ye s T) N:=⟨_,rfl⟩
    rw [←hf,←hz'] at cadv
    have cids:Xf Tryz.prog 69 [.one (.ow 0 0)] [.blk 182 (Ff c' (Qi (Jl s false N)) (Qi [hpt s false f,hpt s false z]))] [.one (ids [(f:Int),(z:Int)])] [.blk 182 (Ff c' (Qi (Jl s false N)) (Qi [hpt s false f,hpt s false z]))]:=Qa2 (s:=[hpt s false f,hpt s false z]) (by show 2≤1000000; decide)
    have cpl:=fun (i:Nat) (hi:i<N)=>Qpm (i:=i) hz hs hT0 (by omega) (by omega)
    have cs:=Qo5 (a:=[(f:Int),(z:Int)]) (b:=[(f:Int),(z:Int)]) (by show 2≤1000000; decide) (by show 2≤1000000; decide)
    refine go tt [.f (by simp),.c [3] cn,.g 60 false rfl,.f rfl,.c [] (L8 (n:=T) (by omega)),.c [] (Qdn (htq.mono (by decide))),.c [3] cadv,.f rfl,.c [3] cids,.g 77 false rfl,.f (decide_eq_false (by omega))] rfl trivial ?_
    refine lp (S:=Nat×Nat×Nat) 4 (fun L1 x=>(19,.v (.one (.int .i64 ((x.1+1:Nat):Int))))::(17,.v (.one (.int .i64 (x.2.1:Int))))::(18,.v (.one (.int .i64 (x.2.2:Int))))::L1) (fun _=>[.blk 22 [.row (Iy zs)],.blk 3 [.int .i64 T],.gone,.blk 182 (Ff c' (Qi (Jl s false N)) (Qi [hpt s false f,hpt s false z]))]) (fun x=>N-x.1) (fun x=>x.1+1≤N∧x.2.1=Ws (Ye s T) (x.1+1)∧x.2.2=Uo (Ye s T) (x.1+1)) (0,0,0) ⟨by dsimp only; omega,by simp [Ws],by simp [Uo]⟩ rfl (fun _ _=>rfl) rfl fun ⟨i,a,b⟩ ⟨hi,ha,hb⟩=>?_
    have hi:i+1≤N:=hi
    have ha:a=Ws (Ye s T) (i+1):=ha
    have hb:b=Uo (Ye s T) (i+1):=hb
    by_cases hlt:i+1<N
    · have f1:=Qbr (Ye s T) i
      have l1:=Qb2 (Ye s T) i
      have cn1:=cpl (i+1) hlt
      have ca:=cpl a (by rw [ha]; omega)
      have cb:=cpl b (by rw [hb]; omega)
      have e1:Ws (Ye s T) (i+1+1)=if Ye s T (i+1)<Ye s T a then i+1 else a:=by rw [ha]; rfl
      have e2:Uo (Ye s T) (i+1+1)=if Ye s T b≤Ye s T (i+1) then i+1 else b:=by rw [hb]; rfl
      by_cases k1:Ye s T (i+1)<Ye s T a
      · by_cases k2:Ye s T b≤Ye s T (i+1)
        · refine go tt [.t (decide_eq_true (by omega)),.c [0,1] cn1,.c [0,1] ca,.t (decide_eq_true k1),.c [0,1] cn1,.c [0,1] cb,.t (decide_eq_true k2),.r 103 (eI (b:=((i+1+1:Nat):Int)) (by simp))] rfl (by simp [Qa]; omega) ?_
          exact rd (i+1,i+1,i+1) (by dsimp only; omega) ⟨hlt,by dsimp only; rw [e1,if_pos k1],by dsimp only; rw [e2,if_pos k2]⟩ rfl
        · refine go tt [.t (decide_eq_true (by omega)),.c [0,1] cn1,.c [0,1] ca,.t (decide_eq_true k1),.c [0,1] cn1,.c [0,1] cb,.f (decide_eq_false k2),.r 103 (eI (b:=((i+1+1:Nat):Int)) (by simp))] rfl (by simp [Qa]; omega) ?_
          exact rd (i+1,i+1,b) (by dsimp only; omega) ⟨hlt,by dsimp only; rw [e1,if_pos k1],by dsimp only; rw [e2,if_neg k2]⟩ rfl
      · by_cases k2:Ye s T b≤Ye s T (i+1)
        · refine go tt [.t (decide_eq_true (by omega)),.c [0,1] cn1,.c [0,1] ca,.f (decide_eq_false k1),.c [0,1] cn1,.c [0,1] cb,.t (decide_eq_true k2),.r 103 (eI (b:=((i+1+1:Nat):Int)) (by simp))] rfl (by simp [Qa]; omega) ?_
          exact rd (i+1,a,i+1) (by dsimp only; omega) ⟨hlt,by dsimp only; rw [e1,if_neg k1],by dsimp only; rw [e2,if_pos k2]⟩ rfl
        · refine go tt [.t (decide_eq_true (by omega)),.c [0,1] cn1,.c [0,1] ca,.f (decide_eq_false k1),.c [0,1] cn1,.c [0,1] cb,.f (decide_eq_false k2),.r 103 (eI (b:=((i+1+1:Nat):Int)) (by simp))] rfl (by simp [Qa]; omega) ?_
          exact rd (i+1,a,b) (by dsimp only; omega) ⟨hlt,by dsimp only; rw [e1,if_neg k1],by dsimp only; rw [e2,if_neg k2]⟩ rfl
    · have hiN:i+1=N:=by omega
      rw [hiN] at ha hb
      have hae:a=f:=by rw [ha,hf]
      have hbe:b=z:=by rw [hb,hz']
      subst hae
      subst hbe
      exact en tt [.f (decide_eq_false (by omega)),.c [] cs,.g 125 true (decide_eq_true rfl),.c [] Fw] rfl rfl trivial
end Orr

namespace Orr
open Go Go.Proofs
variable {H:Type} {enc:TypeId×Value→H} {w:World} {base:Nat} {spare:Nat→Bool} {held:Bool}
end Orr

namespace Orr
open Go Go.Proofs Go.ChangeShapes Go.WideShapes Go.ChangeAt Go.RowKit Go.WideElems
theorem Qj1 {w:World} {a:Addr} {v:Value} (h:w.cell? a=some v):a.spot=none∧a.block<w.heap.size:=by
  simp only [World.cell?] at h
  split at h
  · rename_i c t fr hc
    split at h
    · cases h
    · rename_i hs
      refine ⟨by cases e:a.spot with | none=>rfl | some _=>simp [e] at hs,?_⟩
      exact (Array.getElem?_eq_some_iff.1 hc).1
  · cases h
theorem Qui {a:Addr} (h:a.spot=none) (n m:Nat):(a.add n).add m=⟨a.block,a.off+n+m,none⟩:=by
  obtain ⟨b,o,s⟩:=a
  simp only at h
  subst h
  simp only [Addr.add]
  split
  · rename_i h; subst h
    split
    · rename_i h; subst h; simp
    · simp
  · split
    · rename_i h; subst h; simp
    · simp
def fr0 (w:World):Fr:=⟨fun b=>b<w.heap.size,fun _=>False,w,fun _=>False,fun _=>none⟩
theorem Ip (w:World):HS (fr0 w) (ob []) (nw []) (fun _=>none) (fun _=>False) w where
  size:=Nat.le_refl _
  kept:=fun b hb=>⟨hb,rfl,Iff.rfl⟩
  ids:=fun i h=>h.elim
  nj:=fun i h=>by rw [Qb8] at h; cases h
  io:=⟨rfl,rfl⟩
  blk:=fun i=>by rw [Qb8]; trivial
  nk:=fun i g c m h _=>by rw [Qb8] at h; cases h
  inj:=fun i j g c m c' m' h _ _ _=>by rw [Qb8] at h; cases h
  mlt:=fun b h=>h.elim
  m0:=fun b _ h=>h.elim
  un:=fun i _=>⟨rfl,rfl⟩
  uj:=fun i _ h=>h.elim
theorem Qw4 {w w':World} {bl:Nat→OB} {U:Nat→Prop} {E:Vg} {M:Nat→Prop} (h:HS (fr0 w) bl U E M w') {p:MemPlace} (hp:p.block<w.heap.size):w.sameAt w' p:=by
  cases p with
  | cell b off=>simp only [World.sameAt,World.cell?]; rw [(h.kept b hp).2.1]; rfl
  | map b=>exact (h.kept b hp).2.1
theorem Qv2 {w w':World} {bl:Nat→OB} {U:Nat→Prop} {E:Vg} {M:Nat→Prop} (h:HS (fr0 w) bl U E M w') (may:MemPlace→Prop):w.keptBut w' may:=by
  refine ⟨h.io.1,h.io.2,fun i hi=>?_⟩
  have e:w'.heap[i]? = w.heap[i]? := (h.kept i hi).2.1
  rw [e]
  cases w.heap[i]? with
  | none=>rfl
  | some o=>cases o <;> simp
end Orr

namespace Orr
open Go Go.Proofs Go.ChangeShapes Go.WideShapes Go.ChangeAt Go.RowKit Go.WideElems
set_option maxRecDepth 20000 in
theorem Qne {H:Type} {enc:TypeId×Value→H} {w:World} {v:Value} {d:DataW H} {ps:List MemPlace} {ts:List TypeId} {ds:List (DataW H)} {base:Nat}
    (hval:Value.okWide Tryz.prog w .any base 22 v) (h:DataW.Trod enc Tryz.prog w 0 (fun _=>true) true 22 v d ps)
    (hz:(DataW.weightsEach Tryz.prog ts ds).all (· ≤ reachBytes)=true) (ht:ts[0]? = some 22) (hd:ds[0]? = some d) :
    ∃ zs:List Int,(∀ z∈zs,-9223372036854775808≤z∧z≤9223372036854775807)∧LRep w (fun _=>False) v (.row (Iy zs)):=by
  obtain ⟨a,len,cap,rfl⟩:=okWide_slice Tryz.underlying22 hval
  obtain ⟨fu,h⟩:=h
  rcases Go.Deep.open_slice Tryz.underlying22 h with ⟨e,_⟩ | ⟨a',len',cap',m,n,D,Pl,e,_,hlc,hcap,hm,hx,hr⟩
  · simp only [Value.cells] at e
    have e:Value.slice a len cap=.slice none 0 0:=by simpa using e
    injection e with e1 e2 e3
    subst e1 e2 e3
    refine ⟨[],fun z hz=>by simp at hz,?_⟩
    exact LRep.row none 0 0 0 0 [] (fun _ _=>.bool true) (Nat.le_refl _) (by decide) (by simp) (by simp) (by simp) (by simp)
  · simp only [Value.cells] at e
    have e:Value.slice a len cap=.slice (some a') len' cap':=by simpa using e
    injection e with e1 e2 e3
    subst e1 e2 e3
    simp only [if_true] at hm
    subst hm
    have hd':d=_:=congrArg Prod.fst hx
    subst hd'
    have hw:=sized_slice hz ht hd Tryz.underlying22
    have hc5:Tryz.prog.cellsOf 3=1:=by kernel_rfl
    have hb:1≤Tryz.prog.bytesOf 3:=of_decide_eq_true (by kernel_rfl)
    have hlen:len<2^47:=by
      have h1:len≤(len+(m-len))*Tryz.prog.bytesOf 3:=by
        have:=Nat.mul_le_mul (Nat.le_add_right len (m-len)) hb
        omega
      have h2:(len+(m-len))*Tryz.prog.bytesOf 3≤reachBytes:=by simpa using hw
      exact Nat.lt_of_le_of_lt (Nat.le_trans h1 h2) reachBytes_lt
    have hread:∀ i,i<len→∃ id:Int,w.cells? 0 (a'.add (i*1)) 1=some [.int .i64 id]∧(Lit.int .i64 id).wf=true:=by
      intro i hi
      obtain ⟨cs,hcs,htr⟩:=hr i (by omega)
      rw [hc5] at hcs
      obtain ⟨id,e1,_,hw⟩:=DataW.trod_int Tryz.underlying3 htr
      subst e1
      exact ⟨id,hcs,hw⟩
    have hone:∀ i,∃ (id:Int),i<len→a'.spot=none∧a'.block<w.heap.size ∧
        w.cell? ⟨a'.block,a'.off+i*1+0,none⟩=some (.int .i64 id)∧(Lit.int .i64 id).wf=true:=by
      intro i
      by_cases hi:i<len
      · obtain ⟨id,hcs,hwf⟩:=hread i hi
        obtain ⟨_,hl,hcell⟩:=World.cells?_some hcs
        have c0:=hcell 0 (by decide)
        have hsp:a'.spot=none:=by
          obtain ⟨id0,hcs0,_⟩:=hread 0 (by omega)
          obtain ⟨_,_,hcell0⟩:=World.cells?_some hcs0
          have c0:=hcell0 0 (by decide)
          have:(a'.add (0*1)).add 0=a':=by simp [Addr.add]
          rw [this] at c0
          exact (Qj1 c0).1
        rw [Qui hsp] at c0
        exact ⟨id,fun _=>⟨hsp,(Qj1 c0).2,by simpa using c0,hwf⟩⟩
      · exact ⟨0,fun h=>absurd h hi⟩
    let I:Nat→Int:=fun i=>Classical.choose (hone i)
    have hI:∀ i,i<len→a'.spot=none∧a'.block<w.heap.size ∧
        w.cell? ⟨a'.block,a'.off+i*1+0,none⟩=some (.int .i64 (I i))∧(Lit.int .i64 (I i)).wf=true:=fun i=>Classical.choose_spec (hone i)
    let zs:List Int:=(List.range len).map I
    have hzl:(Iy zs).length=len:=by simp [zs]
    have hzg:∀ i cs,(Iy zs)[i]? = some cs→i<len∧cs=[.int .i64 (I i)]:=by
      intro i cs h
      simp only [zs,Iy,List.getElem?_map] at h
      by_cases hi:i<len
      · rw [List.getElem?_range hi] at h
        simp at h
        exact ⟨hi,h.symm⟩
      · rw [List.getElem?_eq_none (by simp; omega)] at h
        cases h
    refine ⟨zs,?_,?_⟩
    · intro z hz
      obtain ⟨i,hi,rfl⟩:=List.mem_map.1 hz
      have hwf:=(hI i (List.mem_range.1 hi)).2.2.2
      simpa [Lit.wf,IntKind.min,IntKind.max,IntKind.signed,IntKind.bits] using hwf
    · have key:LRep w (fun _=>False) (.slice (some a') (Iy zs).length m) (.row (Iy zs)):=by
        refine LRep.row (some a') m 1 a'.block a'.off (Iy zs) (fun i _=>.int .i64 (I i)) (by omega) ?_ ?_ ?_ ?_ ?_
        · have:maxLen=2^63-1:=by rfl
          omega
        · intro cs hcs
          obtain ⟨i,hi⟩:=List.mem_iff_getElem?.1 hcs
          obtain ⟨_,rfl⟩:=hzg i cs hi
          rfl
        · intro h0
          obtain ⟨hs,hb,_⟩:=hI 0 (by omega)
          refine ⟨?_,hb,by simp⟩
          obtain ⟨b,o,s⟩:=a'
          simp only at hs
          rw [hs]
        · intro i cs hi j hj
          obtain ⟨hl,rfl⟩:=hzg i cs hi
          obtain rfl:j=0:=by simpa using hj
          exact (hI i hl).2.2.1
        · intro i cs hi j x hx
          obtain ⟨hl,rfl⟩:=hzg i cs hi
          match j,hx with
          | 0,hx=>simp at hx; subst hx; exact .int _ _
          | j+1,hx=>simp at hx
      rwa [hzl] at key
end Orr

namespace Orr
open Go Go.Proofs Go.ChangeShapes Go.WideShapes Go.ChangeAt Go.RowKit Go.WideElems
set_option maxRecDepth 20000 in
theorem Qnh {f:FuncId} {fn:Func} {s:ChangeSpec} (hp:fn.params = #[22,3,4]) (hr:fn.resultTypes = #[4]) (hv:s.vars=[])
    (hs:∀ (H:Type) (d1 d2 d3:DataW H),s.fn H [d1,d2,d3]={ results:=[.lit (.bool true)],args:=[d1,d2,d3] })
    (hlaid:laidOutB Tryz.prog=true) (hr22:Tryz.prog.readableRec 22=true) (hr3:Tryz.prog.readableRec 3=true) (hs22:22<Tryz.prog.types.size) (hs3:3<Tryz.prog.types.size)
    (law:∀ (zs:List Int) (n:Int) (b:Bool),(∀ z∈zs,-9223372036854775808≤z∧z≤9223372036854775807)→(-2^63≤n∧n≤2^63-1)→Qg Tryz.prog f [.one (.row (Iy zs)),.one (.int .i64 n),.one (.bool b)] [.one (.bool true)])
    {H:Type} {enc:TypeId×Value→H} {W:World} {base:Nat} {args:Array Value} {ds gs:List (DataW H)} {Xu:List MemPlace} {fresh handsOn:Bool}
    (hval:∀ (j:Nat) t v,fn.params[j]? = some t→args[j]? = some v→Value.okWide Tryz.prog W .any base t v)
    (hW:DataW.Whole enc Tryz.prog fn.params.toList s.vars false W args.toList ds gs Xu)
    (hz:(DataW.weightsEach Tryz.prog (fn.params.toList++s.plain.varTypes Tryz.prog) (ds++gs)).all (· ≤ reachBytes)=true) :
    Calls Tryz.prog f args W fun e W'=>∃ v,e=.returned v∧s.post enc Tryz.prog fn false fresh handsOn false W args v W':=by
  have hW':=hW
  obtain ⟨p,q,hA0,hV,rfl,hfz,hnd⟩:=hW
  have hA:DataW.TrodAll enc Tryz.prog W 0 (fun _=>true) true fn.params.toList args.toList ds p:=hA0
  rw [hv] at hV
  obtain ⟨rfl,rfl⟩:=trodVars_none hV
  have hlt:=hW'.lt
  rw [hp] at hA hval hz
  obtain ⟨v0,vs0,d0,ds0,p0,q0,hargs0,rfl,rfl,h0,r0⟩:=trodAll_cons hA
  obtain ⟨v1,vs1,d1,ds1,p1,q1,rfl,rfl,rfl,h1,r1⟩:=trodAll_cons r0
  obtain ⟨v2,vs2,d2,ds2,p2,q2,rfl,rfl,rfl,h2,r2⟩:=trodAll_cons r1
  obtain ⟨rfl,rfl,rfl⟩:=trodAll_nil r2
  obtain rfl:args = #[v0,v1,v2]:=by cases args; simp_all
  obtain ⟨b,rfl,rfl,rfl⟩:=open_bool Tryz.underlying4 (hval 2 4 v2 rfl rfl) h2
  obtain ⟨n,rfl,rfl,rfl,w1⟩:=open_int Tryz.underlying3 (hval 1 3 v1 rfl rfl) h1
  obtain ⟨zs,hn,hrep⟩:=Qne (hval 0 22 v0 rfl rfl) h0 hz rfl rfl
  have hn1:-2^63≤n∧n≤2^63-1:=by simpa [Lit.wf,IntKind.min,IntKind.max,IntKind.signed,IntKind.bits] using w1
  have hcall:=(law zs n b hn hn1).2 (fr0 W) (fun _=>none) (fun _=>False) W [v0,.int .i64 n,.bool b] (Ip W) (.cons (show XRep W (fun _=>False) (fun _=>none) v0 (.row (Iy zs)) from hrep.x) (.cons (show XRep W (fun _=>False) (fun _=>none) (.int .i64 n) (.int .i64 n) from (LRep.int .i64 n).x) (.cons (show XRep W (fun _=>False) (fun _=>none) (.bool b) (.bool b) from (LRep.bool b).x) .nil)))
  refine hcall.mono fun e W' ⟨v,u,Bo,E',M',he,⟨hu,hBo⟩,_,hm,har⟩=>?_
  subst hu
  obtain rfl:v=.bool true:=by
    have h:LRep _ _ v (.bool true):=har
    cases h
    rfl
  refine ⟨_,he,?_⟩
  refine ⟨[d0,.lit (.int .i64 n),.lit (.bool b)],[],_,[],p0++([]++([]++[])),[],hW',?_,?_,?_,Qv2 hm _,fun h=>by cases h⟩
  · rw [hr,List.append_nil,hs]
    exact trodAll_cons_mk (shut_bool Tryz.underlying4 true) trodAll_mk0
  · rw [hp,List.append_nil,hs]
    have hb:∀ p∈p0,p.block<W.heap.size:=fun p hp=>hlt p (by simp [hp])
    exact trodAll_cons_mk (Trod_stays hlaid hr22 hs22 h0 (fun p hp=>Qw4 hm (hb p hp)) (fun p hp=>by simpa using hb p hp)) (trodAll_cons_mk (shut_int Tryz.underlying3 w1) (trodAll_cons_mk (shut_bool Tryz.underlying4 b) trodAll_mk0))
  · rw [hv,List.append_nil,hs]
    rfl
end Orr
